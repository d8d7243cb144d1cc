/- The plain law of FnExactSameRows: over numbers and lists, what the printed functions answer, and that the law answers true. -/
import Derived.Test.YtbpekdhafniodaaQFnExactSameRowsx2
import Derived.Test.YtbpekdhafniodaaPlain
namespace Go.Proofs.Ytbpekdhafniodaa.Pure
open Go.RowKit Go.Proofs.Ytbpekdhafniodaa.QFnExactSameRows Go.Proofs.YtbpekdhafniodaaW.PrintWords Go.Proofs.YtbpekdhafniodaaW.PrintLast Go.Proofs.Ytbpekdhafniodaa.Plain

theorem szIntS_eq (l : List Int) (a : Int) (h : l.length ≤ maxLen) (h0 : 0 ≤ a) (h1 : a ≤ 1048576) : laws_szIntS.f l a = some (szN l.length a) := by
  rw [maxLen_eq] at h
  unfold laws_szIntS.f szN
  rw [wrap_id (by omega) (by omega)]
  split <;> rfl
def szSS (l : List (List Int)) (a : Int) : Int := if szN l.length a < 0 then -1 else szL (fun x a => szN x.length a) l (szN l.length a)
theorem szSS_tells (l : List (List Int)) (a : Int) (h0 : 0 ≤ a) (h1 : a ≤ 1048576) : szSS l a = -1 ∨ (0 ≤ szSS l a ∧ szSS l a ≤ a ∧ (l.length : Int) ≤ a ∧ ∀ x ∈ l, (x.length : Int) ≤ 1048576) := by
  unfold szSS
  rcases szN_tells l.length a h0 with h | ⟨h2, h3, h4⟩
  · rw [h]; exact .inl rfl
  · rw [if_neg (by omega)]
    rcases szL_tells (f := fun (x : List Int) a => szN x.length a) (P := fun x => (x.length : Int) ≤ 1048576) (fun x a h0 h1 => by rcases szN_tells x.length a h0 with h | ⟨h5, h6, h7⟩; exact .inl h; exact .inr ⟨h5, h6, by omega⟩) l _ h2 (by omega) with h | ⟨h5, h6, h7⟩
    · exact .inl h
    · exact .inr ⟨h5, by omega, h4, h7⟩
theorem szIntSS_ev (l : List (List Int)) (a : Int) (h : l.length ≤ maxLen) (hx : ∀ x ∈ l, x.length ≤ maxLen) (h0 : 0 ≤ a) (h1 : a ≤ 1048576) : Ev (fun k => laws_szIntSS.f k l a) (szSS l a) := by
  have h' := h
  rw [maxLen_eq] at h'
  simp only [laws_szIntSS.f]
  rw [wrap_id (by omega) (by omega)]
  have hn : szN l.length a = if a - (l.length : Int) < 0 then -1 else a - (l.length : Int) := rfl
  unfold szSS
  rw [hn]
  by_cases c : a - (l.length : Int) < 0
  · simp only [if_pos c]; exact Ev.val rfl
  · simp only [if_neg c]
    refine ev_loop l (F := fun k s i => laws_szIntSS.l0 k l s i) (fun _ _ s => 0 ≤ s ∧ s ≤ 1048576) (fun _ r s => szL (fun x a => szN x.length a) r s) ?_ ?_ (a - (l.length : Int)) ⟨by omega, by omega⟩
    · intro s _
      simp only [laws_szIntSS.l0, end_lt, if_false, szL]
      exact Ev.now _
    · rintro pre x rest s e ⟨hs0, hs1⟩ ih
      have hxx := hx x (by rw [e]; simp)
      subst e
      simp only [laws_szIntSS.l0, mid_lt, mid_nn, mid_wrap h, if_true, rd_L1, Int.toNat_natCast, mid_get, szIntS_eq x s hxx hs0 hs1, Option.bind_some, szL]
      rcases szN_tells x.length s hs0 with hn | ⟨h2, h3, h4⟩
      · rw [hn]; exact Ev.now _
      · have c2 : ¬ szN x.length s < 0 := by omega
        simp only [if_neg c2]
        exact ih _ ⟨h2, by omega⟩
theorem toIntS_ev (l : List Int) (h : (l.length : Int) ≤ 1048576) : Ev (fun k => laws_toIntS.f k l) l := by
  have hm : l.length ≤ maxLen := by rw [maxLen_eq]; omega
  simp only [laws_toIntS.f]
  refine Ev.ite (fun _ => Ev.ite (fun _ => ?_) (fun c => absurd (by omega) c)) (fun c => absurd (by omega) c)
  have := ev_fill l id (F := fun k s i => laws_toIntS.l0 k l s i) (fun s => by
    simp only [laws_toIntS.l0, end_lt, if_false]
    exact Ev.now _) (fun pre x rest s r e hs h => by
    subst e
    simp only [laws_toIntS.l0, hs, mid_lt, mid_nn, mid_wrap hm, if_true, rd, Int.toNat_natCast, mid_get]
    exact h) (List.replicate ((l.length : Int) : Int).toNat 0) (by simp)
  simpa using this
theorem toIntSS_ev (l : List (List Int)) (h : (l.length : Int) ≤ 1048576) (hx : ∀ x ∈ l, (x.length : Int) ≤ 1048576) : Ev (fun k => laws_toIntSS.f k l) l := by
  have hm : l.length ≤ maxLen := by rw [maxLen_eq]; omega
  simp only [laws_toIntSS.f]
  refine Ev.ite (fun _ => Ev.ite (fun _ => ?_) (fun c => absurd (by omega) c)) (fun c => absurd (by omega) c)
  have := ev_fill l id (F := fun k s i => laws_toIntSS.l0 k l s i) (fun s => by
    simp only [laws_toIntSS.l0, end_lt, if_false]
    exact Ev.now _) (fun pre x rest s r e hs h => by
    have hxx := hx x (by rw [e]; simp)
    subst e
    simp only [laws_toIntSS.l0, hs, mid_lt, mid_nn, mid_wrap hm, if_true, rd_L1, Int.toNat_natCast, mid_get]
    exact Ev.bind (toIntS_ev x hxx) h) (List.replicate ((l.length : Int) : Int).toNat []) (by simp)
  simpa using this
theorem eqIntS_ev (l : List Int) (hm : l.length ≤ maxLen) : Ev (fun k => laws_eqIntS.f k l l) true := by
  simp only [laws_eqIntS.f, if_true]
  refine ev_loop0 l (F := fun k i => laws_eqIntS.l0 k l l i) (fun _ _ => true) ?_ (fun pre x rest e h => ?_)
  · simp only [laws_eqIntS.l0, end_lt, if_false]; exact Ev.now _
  · subst e
    simp only [laws_eqIntS.l0, mid_lt, mid_nn, mid_wrap hm, if_true]
    exact h
theorem eqIntSS_ev (l : List (List Int)) (hm : l.length ≤ maxLen) (hx : ∀ x ∈ l, x.length ≤ maxLen) : Ev (fun k => laws_eqIntSS.f k l l) true := by
  simp only [laws_eqIntSS.f, if_true]
  refine ev_loop0 l (F := fun k i => laws_eqIntSS.l0 k l l i) (fun _ _ => true) ?_ (fun pre x rest e h => ?_)
  · simp only [laws_eqIntSS.l0, end_lt, if_false]; exact Ev.now _
  · have hxx := hx x (by rw [e]; simp)
    subst e
    simp only [laws_eqIntSS.l0, mid_lt, mid_nn, mid_wrap hm, if_true, rd_L1, Int.toNat_natCast, mid_get]
    exact Ev.bind (eqIntS_ev x hxx) h
end Go.Proofs.Ytbpekdhafniodaa.Pure
namespace Go.Proofs.Ytbpekdhafniodaa.Pure
open Go.RowKit Go.Proofs.Ytbpekdhafniodaa.QFnExactSameRows Go.Proofs.YtbpekdhafniodaaW.PrintWords Go.Proofs.YtbpekdhafniodaaW.PrintLast Go.Proofs.Ytbpekdhafniodaa.Plain

def coord (a : Int) : Bool := inB a (-200) 200
def boxOk (a b c d : Int) : Bool := coord a && (coord b && (coord c && (coord d && (decide (a ≤ c) && decide (b ≤ d)))))
def rowOk (l : List Int) : Bool := decide ((l.length : Int) = 32) && l.all fun v => inB v 0 255
def rowsOk (l : List (List Int)) : Bool := decide ((l.length : Int) ≤ 32) && l.all rowOk
theorem eqInts_ev (a b : List Int) (hm : a.length ≤ maxLen) : Ev (fun k => slices_Equal_int_int.f k a b) (decide (a = b)) := by
  simp only [slices_Equal_int_int.f]
  by_cases hl : (a.length : Int) = (b.length : Int)
  · simp only [if_pos hl]
    refine ev_loop2 a b (by omega) (F := fun k i => slices_Equal_int_int.l0 k a b a.length i) (fun x y => decide (x = y)) ?_ (fun pre x rest pre' y rest' e e' hp hr h => ?_)
    · simp only [slices_Equal_int_int.l0, end_lt, if_false]; exact Ev.now _
    · clear hl
      subst e e'
      simp only [slices_Equal_int_int.l0, mid_lt, mid_lt' hp, mid_nn, mid_wrap hm, if_true, rd, Int.toNat_natCast, mid_get, mid_get' hp]
      by_cases c : x = y
      · simp only [if_pos c]; simpa [c] using h
      · simp only [if_neg c]; exact Ev.val (by simp [c])
  · simp only [if_neg hl]; exact Ev.val (by simp; rintro rfl; exact hl rfl)
theorem iSameRows_ev (a b : List (List Int)) (hm : a.length ≤ maxLen) (hx : ∀ x ∈ a, x.length ≤ maxLen) : Ev (fun k => impl_SameRows.f k a b) (decide (a = b)) := by
  simp only [impl_SameRows.f, slices_EqualFunc_int_int_int_int.f]
  refine Ev.bind (a := decide (a = b)) ?_ (Ev.now _)
  by_cases hl : (a.length : Int) = (b.length : Int)
  · simp only [if_pos hl]
    refine ev_loop2 a b (by omega) (F := fun k i => slices_EqualFunc_int_int_int_int.l0 k b a a.length i) (fun x y => decide (x = y)) ?_ (fun pre x rest pre' y rest' e e' hp hr h => ?_)
    · simp only [slices_EqualFunc_int_int_int_int.l0, end_lt, if_false]; exact Ev.now _
    · have hxx := hx x (by rw [e]; simp)
      clear hl
      subst e e'
      simp only [slices_EqualFunc_int_int_int_int.l0, mid_lt, mid_lt' hp, mid_nn, mid_wrap hm, if_true, rd_L1, Int.toNat_natCast, mid_get, mid_get' hp, impl_SameRows_1.f]
      refine Ev.bind (Ev.bind (eqInts_ev x y hxx) (Ev.now _)) ?_
      by_cases c : x = y
      · simp only [c, decide_true, if_true]; simpa [c] using h
      · simp only [c, decide_false, Bool.false_eq_true, if_false]; exact Ev.val (by simp [c])
  · simp only [if_neg hl]; exact Ev.val (by simp; rintro rfl; exact hl rfl)
theorem sSameRows_in (pre : List (List Int)) (a : List Int) (rest : List (List Int)) (pre' : List (List Int)) (b : List Int) (rest' : List (List Int)) (hp : pre'.length = pre.length) (hl : b.length = a.length) (r : Bool) (hm : a.length ≤ maxLen)
    (H : Ev (fun k => spec_SameRows.l0 k (pre ++ a :: rest) (pre' ++ b :: rest') (wrap64 ((pre.length : Int) + 1))) r) :
    Ev (fun k => spec_SameRows.l1 k (pre ++ a :: rest) (pre' ++ b :: rest') pre.length 0) (decide (a = b) && r) := by
  refine ev_loop2 a b hl (F := fun k i => spec_SameRows.l1 k (pre ++ a :: rest) (pre' ++ b :: rest') pre.length i) (fun x y => decide (x = y) && r) ?_ (fun p x q p' y q' e e' hp2 hr h => ?_)
  · simp only [spec_SameRows.l1, mid_lt, mid_nn, if_true, rd_L1, Int.toNat_natCast, mid_get, end_lt, if_false]
    simpa using H
  · subst e e'
    simp only [spec_SameRows.l1, mid_lt, mid_lt' hp, mid_lt' hp2, mid_nn, mid_wrap hm, if_true, rd_L1, Int.toNat_natCast, mid_get, mid_get' hp, rd, mid_get' hp2]
    by_cases c : x = y
    · simp only [if_pos c]; simpa [c] using h
    · simp only [if_neg c]; exact Ev.val (by simp [c])
theorem sSameRows_ev (a b : List (List Int)) (hm : a.length ≤ maxLen) (hx : ∀ x ∈ a, x.length ≤ maxLen) : Ev (fun k => spec_SameRows.f k a b) (decide (a = b)) := by
  simp only [spec_SameRows.f]
  by_cases hl : (a.length : Int) = (b.length : Int)
  · simp only [if_pos hl]
    refine ev_loop2 a b (by omega) (F := fun k i => spec_SameRows.l0 k a b i) (fun x y => decide (x = y)) ?_ (fun pre x rest pre' y rest' e e' hp hr h => ?_)
    · simp only [spec_SameRows.l0, end_lt, if_false]; exact Ev.now _
    · have hxx := hx x (by rw [e]; simp)
      clear hl
      subst e e'
      simp only [spec_SameRows.l0, mid_lt, mid_lt' hp, mid_nn, if_true, rd_L1, Int.toNat_natCast, mid_get, mid_get' hp]
      by_cases c : (x.length : Int) = (y.length : Int)
      · simp only [if_pos c]
        have := sSameRows_in pre x rest pre' y rest' hp (by omega) (decide (rest = rest')) hxx (by simp only [mid_wrap hm]; exact h)
        have e : decide (x :: rest = y :: rest') = (decide (x = y) && decide (rest = rest')) := by simp
        rw [e]
        exact this
      · simp only [if_neg c]; exact Ev.val (by simp; rintro rfl; exact absurd rfl c)
  · simp only [if_neg hl]; exact Ev.val (by simp; rintro rfl; exact hl rfl)
end Go.Proofs.Ytbpekdhafniodaa.Pure
namespace Go.Proofs.Ytbpekdhafniodaa.Pure
open Go.RowKit Go.Proofs.Ytbpekdhafniodaa.QFnExactSameRows Go.Proofs.YtbpekdhafniodaaW.PrintWords Go.Proofs.YtbpekdhafniodaaW.PrintLast Go.Proofs.Ytbpekdhafniodaa.Plain

theorem FnExactSameRows (l l2 : List (List Int)) (h : l.length ≤ maxLen ∧ ∀ y ∈ l, (y.length ≤ maxLen ∧ ∀ yy ∈ y, ((Lit.int .i64 yy).wf = true))) (h2 : l2.length ≤ maxLen ∧ ∀ y ∈ l2, (y.length ≤ maxLen ∧ ∀ yy ∈ y, ((Lit.int .i64 yy).wf = true))) : ∃ k, laws_FnExactSameRows.f k l l2 = some true := by
  refine Ev.rounds (g := fun k => laws_FnExactSameRows.f k l l2) ?_
  simp only [laws_FnExactSameRows.f]
  refine Ev.bind (szIntSS_ev l 1048576 h.1 (fun x hx => (h.2 x hx).1) (by omega) (by omega)) (Ev.ite (fun _ => Ev.now _) (fun c => ?_))
  rcases szSS_tells l 1048576 (by omega) (by omega) with hn | ⟨s0, s1, hl, hx⟩
  · omega
  refine Ev.bind (szIntSS_ev l2 _ h2.1 (fun x hx => (h2.2 x hx).1) s0 (by omega)) (Ev.ite (fun _ => Ev.now _) (fun c => ?_))
  rcases szSS_tells l2 _ s0 (by omega) with hn | ⟨_, _, hl2, hx2⟩
  · omega
  have hm := h.1
  have hxm := fun x hx => (h.2 x hx).1
  have hxm2 := fun x hx => (h2.2 x hx).1
  refine Ev.bind (toIntSS_ev l hl hx) (Ev.bind (toIntSS_ev l2 (by omega) hx2) (Ev.bind (sSameRows_ev l l2 hm hxm) (Ev.bind (toIntSS_ev l hl hx) (Ev.bind (toIntSS_ev l2 (by omega) hx2) (Ev.bind (iSameRows_ev l l2 hm hxm) (Ev.iteB (fun c => absurd c (by simp)) (fun _ => ?_)))))))
  refine Ev.bind (toIntSS_ev l hl hx) (Ev.bind (eqIntSS_ev _ hm hxm) (Ev.ite (fun _ => ?_) (fun c => absurd rfl c)))
  exact Ev.bind (toIntSS_ev l2 (by omega) hx2) (Ev.bind (eqIntSS_ev _ h2.1 hxm2) (Ev.now _))
end Go.Proofs.Ytbpekdhafniodaa.Pure
