/- The plain law of FnExactRowsOk: over numbers and lists, what the printed functions answer, and that the law answers true. -/
import Derived.Test.YtbpekdhafniodaaQFnExactRowsOkx2
import Derived.Test.YtbpekdhafniodaaPlain
namespace Go.Proofs.Ytbpekdhafniodaa.Pure
open Go.RowKit Go.Proofs.Ytbpekdhafniodaa.QFnExactRowsOk Go.Proofs.YtbpekdhafniodaaW.PrintWords Go.Proofs.YtbpekdhafniodaaW.PrintLast Go.Proofs.Ytbpekdhafniodaa.Plain

theorem szIntS_eq (l : List Int) (a : Int) (h : l.length ≤ maxLen) (h0 : 0 ≤ a) (h1 : a ≤ 1048576) : laws_szIntS.f l a = some (szN l.length a) := by
  rw [maxLen_eq] at h
  unfold laws_szIntS.f szN
  rw [wrap_id (by omega) (by omega)]
  split <;> rfl
def szSS (l : List (List Int)) (a : Int) : Int := if szN l.length a < 0 then -1 else szL (fun x a => szN x.length a) l (szN l.length a)
theorem szSS_tells (l : List (List Int)) (a : Int) (h0 : 0 ≤ a) (h1 : a ≤ 1048576) : szSS l a = -1 ∨ (0 ≤ szSS l a ∧ szSS l a ≤ a ∧ (l.length : Int) ≤ a ∧ ∀ x ∈ l, (x.length : Int) ≤ 1048576) := by
  unfold szSS
  rcases szN_tells l.length a h0 with h | ⟨h2, h3, h4⟩
  · rw [h]; exact .inl rfl
  · rw [if_neg (by omega)]
    rcases szL_tells (f := fun (x : List Int) a => szN x.length a) (P := fun x => (x.length : Int) ≤ 1048576) (fun x a h0 h1 => by rcases szN_tells x.length a h0 with h | ⟨h5, h6, h7⟩; exact .inl h; exact .inr ⟨h5, h6, by omega⟩) l _ h2 (by omega) with h | ⟨h5, h6, h7⟩
    · exact .inl h
    · exact .inr ⟨h5, by omega, h4, h7⟩
theorem szIntSS_ev (l : List (List Int)) (a : Int) (h : l.length ≤ maxLen) (hx : ∀ x ∈ l, x.length ≤ maxLen) (h0 : 0 ≤ a) (h1 : a ≤ 1048576) : Ev (fun k => laws_szIntSS.f k l a) (szSS l a) := by
  have h' := h
  rw [maxLen_eq] at h'
  simp only [laws_szIntSS.f]
  rw [wrap_id (by omega) (by omega)]
  have hn : szN l.length a = if a - (l.length : Int) < 0 then -1 else a - (l.length : Int) := rfl
  unfold szSS
  rw [hn]
  by_cases c : a - (l.length : Int) < 0
  · simp only [if_pos c]; exact Ev.val rfl
  · simp only [if_neg c]
    refine ev_loop l (F := fun k s i => laws_szIntSS.l0 k l s i) (fun _ _ s => 0 ≤ s ∧ s ≤ 1048576) (fun _ r s => szL (fun x a => szN x.length a) r s) ?_ ?_ (a - (l.length : Int)) ⟨by omega, by omega⟩
    · intro s _
      simp only [laws_szIntSS.l0, end_lt, if_false, szL]
      exact Ev.now _
    · rintro pre x rest s e ⟨hs0, hs1⟩ ih
      have hxx := hx x (by rw [e]; simp)
      subst e
      simp only [laws_szIntSS.l0, mid_lt, mid_nn, mid_wrap h, if_true, rd_L1, Int.toNat_natCast, mid_get, szIntS_eq x s hxx hs0 hs1, Option.bind_some, szL]
      rcases szN_tells x.length s hs0 with hn | ⟨h2, h3, h4⟩
      · rw [hn]; exact Ev.now _
      · have c2 : ¬ szN x.length s < 0 := by omega
        simp only [if_neg c2]
        exact ih _ ⟨h2, by omega⟩
theorem toIntS_ev (l : List Int) (h : (l.length : Int) ≤ 1048576) : Ev (fun k => laws_toIntS.f k l) l := by
  have hm : l.length ≤ maxLen := by rw [maxLen_eq]; omega
  simp only [laws_toIntS.f]
  refine Ev.ite (fun _ => Ev.ite (fun _ => ?_) (fun c => absurd (by omega) c)) (fun c => absurd (by omega) c)
  have := ev_fill l id (F := fun k s i => laws_toIntS.l0 k l s i) (fun s => by
    simp only [laws_toIntS.l0, end_lt, if_false]
    exact Ev.now _) (fun pre x rest s r e hs h => by
    subst e
    simp only [laws_toIntS.l0, hs, mid_lt, mid_nn, mid_wrap hm, if_true, rd, Int.toNat_natCast, mid_get]
    exact h) (List.replicate ((l.length : Int) : Int).toNat 0) (by simp)
  simpa using this
theorem toIntSS_ev (l : List (List Int)) (h : (l.length : Int) ≤ 1048576) (hx : ∀ x ∈ l, (x.length : Int) ≤ 1048576) : Ev (fun k => laws_toIntSS.f k l) l := by
  have hm : l.length ≤ maxLen := by rw [maxLen_eq]; omega
  simp only [laws_toIntSS.f]
  refine Ev.ite (fun _ => Ev.ite (fun _ => ?_) (fun c => absurd (by omega) c)) (fun c => absurd (by omega) c)
  have := ev_fill l id (F := fun k s i => laws_toIntSS.l0 k l s i) (fun s => by
    simp only [laws_toIntSS.l0, end_lt, if_false]
    exact Ev.now _) (fun pre x rest s r e hs h => by
    have hxx := hx x (by rw [e]; simp)
    subst e
    simp only [laws_toIntSS.l0, hs, mid_lt, mid_nn, mid_wrap hm, if_true, rd_L1, Int.toNat_natCast, mid_get]
    exact Ev.bind (toIntS_ev x hxx) h) (List.replicate ((l.length : Int) : Int).toNat []) (by simp)
  simpa using this
theorem eqIntS_ev (l : List Int) (hm : l.length ≤ maxLen) : Ev (fun k => laws_eqIntS.f k l l) true := by
  simp only [laws_eqIntS.f, if_true]
  refine ev_loop0 l (F := fun k i => laws_eqIntS.l0 k l l i) (fun _ _ => true) ?_ (fun pre x rest e h => ?_)
  · simp only [laws_eqIntS.l0, end_lt, if_false]; exact Ev.now _
  · subst e
    simp only [laws_eqIntS.l0, mid_lt, mid_nn, mid_wrap hm, if_true]
    exact h
theorem eqIntSS_ev (l : List (List Int)) (hm : l.length ≤ maxLen) (hx : ∀ x ∈ l, x.length ≤ maxLen) : Ev (fun k => laws_eqIntSS.f k l l) true := by
  simp only [laws_eqIntSS.f, if_true]
  refine ev_loop0 l (F := fun k i => laws_eqIntSS.l0 k l l i) (fun _ _ => true) ?_ (fun pre x rest e h => ?_)
  · simp only [laws_eqIntSS.l0, end_lt, if_false]; exact Ev.now _
  · have hxx := hx x (by rw [e]; simp)
    subst e
    simp only [laws_eqIntSS.l0, mid_lt, mid_nn, mid_wrap hm, if_true, rd_L1, Int.toNat_natCast, mid_get]
    exact Ev.bind (eqIntS_ev x hxx) h
end Go.Proofs.Ytbpekdhafniodaa.Pure
namespace Go.Proofs.Ytbpekdhafniodaa.Pure
open Go.RowKit Go.Proofs.Ytbpekdhafniodaa.QFnExactRowsOk Go.Proofs.YtbpekdhafniodaaW.PrintWords Go.Proofs.YtbpekdhafniodaaW.PrintLast Go.Proofs.Ytbpekdhafniodaa.Plain

theorem within_eq (a b c : Int) : impl_within.f a b c = some (inB a b c) := by unfold impl_within.f inB; by_cases h : b ≤ a <;> simp [h]
theorem l01In_eq (a b c : Int) : spec_l01In.f a b c = some (inB a b c) := by unfold spec_l01In.f inB; by_cases h : b ≤ a <;> simp [h]
def coord (a : Int) : Bool := inB a (-200) 200
def boxOk (a b c d : Int) : Bool := coord a && (coord b && (coord c && (coord d && (decide (a ≤ c) && decide (b ≤ d)))))
def rowOk (l : List Int) : Bool := decide ((l.length : Int) = 32) && l.all fun v => inB v 0 255
def rowsOk (l : List (List Int)) : Bool := decide ((l.length : Int) ≤ 32) && l.all rowOk
theorem rowOk_ev (l : List Int) : Ev (fun k => impl_rowOk.f k l) (rowOk l) := by
  simp only [impl_rowOk.f]
  refine Ev.andP (fun c => ?_)
  have hm : l.length ≤ maxLen := by rw [maxLen_eq]; omega
  clear c
  refine ev_loop0 l (F := fun k i => impl_rowOk.l0 k l l.length i) (fun _ r => r.all fun v => inB v 0 255) ?_ (fun pre x rest e h => ?_)
  · simp only [impl_rowOk.l0, end_lt, if_false]; exact Ev.now _
  · subst e
    simp only [impl_rowOk.l0, mid_lt, mid_nn, mid_wrap hm, if_true, rd, Int.toNat_natCast, mid_get, within_eq, Option.bind_some]
    exact Ev.andB (fun _ => h)
theorem iRowsOk_ev (l : List (List Int)) : Ev (fun k => impl_RowsOk.f k l) (rowsOk l) := by
  simp only [impl_RowsOk.f, rowsOk]
  refine Ev.ite (fun c => Ev.val (by simp; omega)) (fun c => ?_)
  have hm : l.length ≤ maxLen := by rw [maxLen_eq]; omega
  have hd : decide ((l.length : Int) ≤ 32) = true := by simp; omega
  rw [hd, Bool.true_and]
  clear c hd
  refine ev_loop0 l (F := fun k i => impl_RowsOk.l0 k l l.length i) (fun _ r => r.all rowOk) ?_ (fun pre x rest e h => ?_)
  · simp only [impl_RowsOk.l0, end_lt, if_false]; exact Ev.now _
  · subst e
    simp only [impl_RowsOk.l0, mid_lt, mid_nn, mid_wrap hm, if_true, rd_L1, Int.toNat_natCast, mid_get]
    exact Ev.bind (rowOk_ev x) (Ev.andB (fun _ => h))
theorem l11Row_ev (l : List Int) (hm : l.length ≤ maxLen) : Ev (fun k => spec_l11Row.f k l) (rowOk l) := by
  simp only [spec_l11Row.f]
  unfold rowOk
  rw [Bool.and_comm]
  refine ev_loop0 l (F := fun k i => spec_l11Row.l0 k l i) (fun _ r => (r.all fun v => inB v 0 255) && decide ((l.length : Int) = 32)) ?_ (fun pre x rest e h => ?_)
  · simp only [spec_l11Row.l0, end_lt, if_false]; exact Ev.now _
  · rw [List.all_cons, Bool.and_assoc]
    subst e
    simp only [spec_l11Row.l0, mid_lt, mid_nn, mid_wrap hm, if_true, rd, Int.toNat_natCast, mid_get, l01In_eq, Option.bind_some]
    exact Ev.andB (fun _ => h)
theorem sRowsOk_ev (l : List (List Int)) (hm : l.length ≤ maxLen) (hx : ∀ x ∈ l, x.length ≤ maxLen) : Ev (fun k => spec_RowsOk.f k l) (rowsOk l) := by
  simp only [spec_RowsOk.f]
  unfold rowsOk
  rw [Bool.and_comm]
  refine ev_loop0 l (F := fun k i => spec_RowsOk.l0 k l i) (fun _ r => r.all rowOk && decide ((l.length : Int) ≤ 32)) ?_ (fun pre x rest e h => ?_)
  · simp only [spec_RowsOk.l0, end_lt, if_false]; exact Ev.now _
  · have hxx := hx x (by rw [e]; simp)
    rw [List.all_cons, Bool.and_assoc]
    subst e
    simp only [spec_RowsOk.l0, mid_lt, mid_nn, mid_wrap hm, if_true, rd_L1, Int.toNat_natCast, mid_get]
    exact Ev.bind (l11Row_ev x hxx) (Ev.andB (fun _ => h))

end Go.Proofs.Ytbpekdhafniodaa.Pure
namespace Go.Proofs.Ytbpekdhafniodaa.Pure
open Go.RowKit Go.Proofs.Ytbpekdhafniodaa.QFnExactRowsOk Go.Proofs.YtbpekdhafniodaaW.PrintWords Go.Proofs.YtbpekdhafniodaaW.PrintLast Go.Proofs.Ytbpekdhafniodaa.Plain

theorem FnExactRowsOk (l : List (List Int)) (h : l.length ≤ maxLen ∧ ∀ y ∈ l, (y.length ≤ maxLen ∧ ∀ yy ∈ y, ((Lit.int .i64 yy).wf = true))) : ∃ k, laws_FnExactRowsOk.f k l = some true := by
  refine Ev.rounds (g := fun k => laws_FnExactRowsOk.f k l) ?_
  simp only [laws_FnExactRowsOk.f]
  refine Ev.bind (szIntSS_ev l 1048576 h.1 (fun x hx => (h.2 x hx).1) (by omega) (by omega)) (Ev.ite (fun _ => Ev.now _) (fun c => ?_))
  rcases szSS_tells l 1048576 (by omega) (by omega) with hn | ⟨_, _, hl, hx⟩
  · omega
  have hm := h.1
  have hxm := fun x hx => (h.2 x hx).1
  refine Ev.bind (toIntSS_ev l hl hx) (Ev.bind (sRowsOk_ev l hm hxm) (Ev.bind (toIntSS_ev l hl hx) (Ev.bind (iRowsOk_ev l) (Ev.iteB (fun c => absurd c (by simp)) (fun _ => ?_)))))
  exact Ev.bind (toIntSS_ev l hl hx) (Ev.bind (eqIntSS_ev _ hm hxm) (Ev.now _))
end Go.Proofs.Ytbpekdhafniodaa.Pure
