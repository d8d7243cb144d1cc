/- The plain law of FnExactAddToBand: over numbers and lists, what the printed functions answer, and that the law answers true. -/
import Derived.Test.YtncfipboidmfbaaGreatQFnExactAddToBandx7
import Derived.Test.YtncfipboidmfbaaGreatPlain
set_option linter.unusedSimpArgs false
set_option linter.unusedVariables false
namespace Go.Proofs.YtncfipboidmfbaaGreat.Pure
open Go.RowKit Go.Proofs.YtncfipboidmfbaaGreat.QFnExactAddToBand Go.Proofs.YtncfipboidmfbaaGreatW.PrintWords Go.Proofs.YtncfipboidmfbaaGreatW.PrintLast Go.Proofs.YtncfipboidmfbaaGreat.Plain

theorem szIntS_eq (l : List Int) (a : Int) (h : l.length ≤ maxLen) (h0 : 0 ≤ a) (h1 : a ≤ 1048576) : laws_szIntS.f l a = some (szN l.length a) := by
  rw [maxLen_eq] at h
  unfold laws_szIntS.f szN
  rw [wrap_id (by omega) (by omega)]
  split <;> rfl
theorem szPointS_eq (l : List S153) (a : Int) (h : l.length ≤ maxLen) (h0 : 0 ≤ a) (h1 : a ≤ 1048576) : laws_szPointS.f l a = some (szN l.length a) := by
  rw [maxLen_eq] at h
  unfold laws_szPointS.f szN
  rw [wrap_id (by omega) (by omega)]
  split <;> rfl
def szSS (l : List (List Int)) (a : Int) : Int := if szN l.length a < 0 then -1 else szL (fun x a => szN x.length a) l (szN l.length a)
theorem szSS_tells (l : List (List Int)) (a : Int) (h0 : 0 ≤ a) (h1 : a ≤ 1048576) : szSS l a = -1 ∨ (0 ≤ szSS l a ∧ szSS l a ≤ a ∧ (l.length : Int) ≤ a ∧ ∀ x ∈ l, (x.length : Int) ≤ 1048576) := by
  unfold szSS
  rcases szN_tells l.length a h0 with h | ⟨h2, h3, h4⟩
  · rw [h]; exact .inl rfl
  · rw [if_neg (by omega)]
    rcases szL_tells (f := fun (x : List Int) a => szN x.length a) (P := fun x => (x.length : Int) ≤ 1048576) (fun x a h0 h1 => by rcases szN_tells x.length a h0 with h | ⟨h5, h6, h7⟩; exact .inl h; exact .inr ⟨h5, h6, by omega⟩) l _ h2 (by omega) with h | ⟨h5, h6, h7⟩
    · exact .inl h
    · exact .inr ⟨h5, by omega, h4, h7⟩
theorem szIntSS_ev (l : List (List Int)) (a : Int) (h : l.length ≤ maxLen) (hx : ∀ x ∈ l, x.length ≤ maxLen) (h0 : 0 ≤ a) (h1 : a ≤ 1048576) : Ev (fun k => laws_szIntSS.f k l a) (szSS l a) := by
  have h' := h
  rw [maxLen_eq] at h'
  simp only [laws_szIntSS.f]
  rw [wrap_id (by omega) (by omega)]
  have hn : szN l.length a = if a - (l.length : Int) < 0 then -1 else a - (l.length : Int) := rfl
  unfold szSS
  rw [hn]
  by_cases c : a - (l.length : Int) < 0
  · simp only [if_pos c]; exact Ev.val rfl
  · simp only [if_neg c]
    refine ev_loop l (F := fun k s i => laws_szIntSS.l0 k l s i) (fun _ _ s => 0 ≤ s ∧ s ≤ 1048576) (fun _ r s => szL (fun x a => szN x.length a) r s) ?_ ?_ (a - (l.length : Int)) ⟨by omega, by omega⟩
    · intro s _
      simp only [laws_szIntSS.l0, end_lt, if_false, szL]
      exact Ev.now _
    · rintro pre x rest s e ⟨hs0, hs1⟩ ih
      have hxx := hx x (by rw [e]; simp)
      subst e
      simp only [laws_szIntSS.l0, mid_lt, mid_nn, mid_wrap h, if_true, rd_L1, Int.toNat_natCast, mid_get, szIntS_eq x s hxx hs0 hs1, Option.bind_some, szL]
      rcases szN_tells x.length s hs0 with hn | ⟨h2, h3, h4⟩
      · rw [hn]; exact Ev.now _
      · have c2 : ¬ szN x.length s < 0 := by omega
        simp only [if_neg c2]
        exact ih _ ⟨h2, by omega⟩
theorem szObject_eq (l : List S153) (b c d e f : Int) (a : Int) (h : l.length ≤ maxLen) (h0 : 0 ≤ a) (h1 : a ≤ 1048576) : laws_szObject.f l b c d e f a = some (szN l.length a) := by
  unfold laws_szObject.f
  rw [szPointS_eq l a h h0 h1]
  rcases szN_tells l.length a h0 with hn | ⟨h2, h3, h4⟩
  · rw [hn]; rfl
  · have c2 : ¬ szN l.length a < 0 := by omega
    simp [c2]

theorem toIntS_ev (l : List Int) (h : (l.length : Int) ≤ 1048576) : Ev (fun k => laws_toIntS.f k l) l := by
  have hm : l.length ≤ maxLen := by rw [maxLen_eq]; omega
  simp only [laws_toIntS.f]
  refine Ev.ite (fun _ => Ev.ite (fun _ => ?_) (fun c => absurd (by omega) c)) (fun c => absurd (by omega) c)
  have := ev_fill l id (F := fun k s i => laws_toIntS.l0 k l s i) (fun s => by
    simp only [laws_toIntS.l0, end_lt, if_false]
    exact Ev.now _) (fun pre x rest s r e hs h => by
    subst e
    simp only [laws_toIntS.l0, hs, mid_lt, mid_nn, mid_wrap hm, if_true, rd, Int.toNat_natCast, mid_get]
    exact h) (List.replicate ((l.length : Int) : Int).toNat 0) (by simp)
  simpa using this
theorem toIntSS_ev (l : List (List Int)) (h : (l.length : Int) ≤ 1048576) (hx : ∀ x ∈ l, (x.length : Int) ≤ 1048576) : Ev (fun k => laws_toIntSS.f k l) l := by
  have hm : l.length ≤ maxLen := by rw [maxLen_eq]; omega
  simp only [laws_toIntSS.f]
  refine Ev.ite (fun _ => Ev.ite (fun _ => ?_) (fun c => absurd (by omega) c)) (fun c => absurd (by omega) c)
  have := ev_fill l id (F := fun k s i => laws_toIntSS.l0 k l s i) (fun s => by
    simp only [laws_toIntSS.l0, end_lt, if_false]
    exact Ev.now _) (fun pre x rest s r e hs h => by
    have hxx := hx x (by rw [e]; simp)
    subst e
    simp only [laws_toIntSS.l0, hs, mid_lt, mid_nn, mid_wrap hm, if_true, rd_L1, Int.toNat_natCast, mid_get]
    exact Ev.bind (toIntS_ev x hxx) h) (List.replicate ((l.length : Int) : Int).toNat []) (by simp)
  simpa using this
def tPoint (r : S153) : S151 := ⟨r.f0, r.f1⟩
theorem toPointS_ev (l : List S153) (h : (l.length : Int) ≤ 1048576) : Ev (fun k => laws_toPointS.f k l) (l.map tPoint) := by
  have hm : l.length ≤ maxLen := by rw [maxLen_eq]; omega
  simp only [laws_toPointS.f]
  refine Ev.ite (fun _ => Ev.ite (fun _ => ?_) (fun c => absurd (by omega) c)) (fun c => absurd (by omega) c)
  exact ev_fill l tPoint (F := fun k s i => laws_toPointS.l0 k l s i) (fun s => by
    simp only [laws_toPointS.l0, end_lt, if_false]
    exact Ev.now _) (fun pre x rest s r e hs h => by
    subst e
    simp only [laws_toPointS.l0, hs, mid_lt, mid_nn, mid_wrap hm, if_true, rd_T153, Int.toNat_natCast, mid_get, laws_toPoint.f, Option.bind_some]
    exact h) _ (by simp)
theorem eqIntS_ev (l : List Int) (hm : l.length ≤ maxLen) : Ev (fun k => laws_eqIntS.f k l l) true := by
  simp only [laws_eqIntS.f, if_true]
  refine ev_loop0 l (F := fun k i => laws_eqIntS.l0 k l l i) (fun _ _ => true) ?_ (fun pre x rest e h => ?_)
  · simp only [laws_eqIntS.l0, end_lt, if_false]; exact Ev.now _
  · subst e
    simp only [laws_eqIntS.l0, mid_lt, mid_nn, mid_wrap hm, if_true]
    exact h
theorem eqIntSS_ev (l : List (List Int)) (hm : l.length ≤ maxLen) (hx : ∀ x ∈ l, x.length ≤ maxLen) : Ev (fun k => laws_eqIntSS.f k l l) true := by
  simp only [laws_eqIntSS.f, if_true]
  refine ev_loop0 l (F := fun k i => laws_eqIntSS.l0 k l l i) (fun _ _ => true) ?_ (fun pre x rest e h => ?_)
  · simp only [laws_eqIntSS.l0, end_lt, if_false]; exact Ev.now _
  · have hxx := hx x (by rw [e]; simp)
    subst e
    simp only [laws_eqIntSS.l0, mid_lt, mid_nn, mid_wrap hm, if_true, rd_L1, Int.toNat_natCast, mid_get]
    exact Ev.bind (eqIntS_ev x hxx) h
theorem eqPointS_ev (l : List S151) (hm : l.length ≤ maxLen) : Ev (fun k => laws_eqPointS.f k l l) true := by
  simp only [laws_eqPointS.f, if_true]
  refine ev_loop0 l (F := fun k i => laws_eqPointS.l0 k l l i) (fun _ _ => true) ?_ (fun pre x rest e h => ?_)
  · simp only [laws_eqPointS.l0, end_lt, if_false]; exact Ev.now _
  · subst e
    simp only [laws_eqPointS.l0, mid_lt, mid_nn, mid_wrap hm, if_true, laws_eqPoint.f, Option.bind_some]
    exact h
theorem eqObject_ev (l : List S151) (b c d e f : Int) (hm : l.length ≤ maxLen) : Ev (fun k => laws_eqObject.f k l b c d e f l b c d e f) true := by
  simp only [laws_eqObject.f, laws_eqBox.f, if_true, Option.bind_some]
  exact Ev.bind (eqPointS_ev l hm) (Ev.now _)

theorem markIntS_ev (l : List Int) (a : Int) (hm : l.length ≤ maxLen) (h0 : 0 ≤ a) (h1 : a + l.length ≤ 9223372036854775806) : Ev (fun k => laws_markIntS.f k l a) (a + l.length, iota 1 id a l.length) := by
  simp only [laws_markIntS.f]
  refine ev_loop l (F := fun k (s : List Int × Int) i => laws_markIntS.l0 k s.1 s.2 i) (fun pre rest s => s.1 = iota 1 id a pre.length ++ rest ∧ s.2 = a + 1 * pre.length) (fun _ _ _ => (a + l.length, iota 1 id a l.length)) ?_ ?_ (l, a) ⟨rfl, by simp⟩
  · rintro ⟨s, b⟩ ⟨rfl, rfl⟩
    have hl : ((iota 1 id a l.length ++ ([] : List Int)).length : Int) = l.length := by simp [iota_length]
    simp only [laws_markIntS.l0, hl, end_lt, if_false]
    exact Ev.val (by simp)
  · rintro pre x rest ⟨s, b⟩ e ⟨rfl, rfl⟩ ih
    subst e
    have hl : ((iota 1 id a pre.length ++ x :: rest).length : Int) = ((pre ++ x :: rest).length : Int) := by simp [iota_length]
    have hlen := mid_len (pre := pre) (rest := rest) (x := x)
    have hs := iota_set 1 id a pre rest x
    have hw : wrap64 (a + 1 * (pre.length : Int) + 1) = a + 1 * ((pre ++ [x]).length : Int) := by rw [wrap_id (by omega) (by omega)]; simp; omega
    simp only [laws_markIntS.l0, hl, mid_lt, mid_nn, mid_wrap hm, if_true, Int.toNat_natCast, hw]
    exact ih (_, _) ⟨hs, rfl⟩
theorem heldIntS_ev (n : Nat) (a : Int) (h0 : 0 ≤ a) (h1 : a + n ≤ 9223372036854775806) : Ev (fun k => laws_heldIntS.f k (iota 1 id a n) a) (a + n) := by
  have hm : (iota 1 id a n).length ≤ maxLen := by rw [iota_length, maxLen_eq]; omega
  simp only [laws_heldIntS.f]
  refine ev_loop (iota 1 id a n) (F := fun k s i => laws_heldIntS.l0 k (iota 1 id a n) s i) (fun pre rest s => s = a + 1 * pre.length) (fun _ _ _ => a + n) ?_ ?_ a (by simp)
  · rintro s rfl
    simp only [laws_heldIntS.l0, end_lt, if_false]
    exact Ev.val (by rw [iota_length]; omega)
  · rintro pre x rest s e rfl ih
    have hx := iota_mid 1 id pre rest x a n e
    have hn := congrArg List.length e
    rw [iota_length] at hn
    have hlen := mid_len (pre := pre) (rest := rest) (x := x)
    rw [e] at hm ⊢
    rw [e] at ih
    have hw : wrap64 (a + 1 * (pre.length : Int) + 1) = a + 1 * ((pre ++ [x]).length : Int) := by rw [wrap_id (by omega) (by omega)]; simp; omega
    have hx' : x = a + 1 * (pre.length : Int) := hx
    simp only [laws_heldIntS.l0, mid_lt, mid_nn, mid_wrap hm, if_true, rd, Int.toNat_natCast, mid_get, if_pos hx', hw]
    exact ih _ rfl
end Go.Proofs.YtncfipboidmfbaaGreat.Pure
namespace Go.Proofs.YtncfipboidmfbaaGreat.Pure
open Go.RowKit Go.Proofs.YtncfipboidmfbaaGreat.QFnExactAddToBand Go.Proofs.YtncfipboidmfbaaGreatW.PrintWords Go.Proofs.YtncfipboidmfbaaGreatW.PrintLast Go.Proofs.YtncfipboidmfbaaGreat.Plain

def szOS (l : List S42) (a : Int) : Int := if szN l.length a < 0 then -1 else szL (fun x a => szN x.f0.length a) l (szN l.length a)
theorem szOS_tells (l : List S42) (a : Int) (h0 : 0 ≤ a) (h1 : a ≤ 1048576) : szOS l a = -1 ∨ (0 ≤ szOS l a ∧ szOS l a ≤ a ∧ (l.length : Int) ≤ a ∧ ∀ x ∈ l, (x.f0.length : Int) ≤ 1048576) := by
  unfold szOS
  rcases szN_tells l.length a h0 with h | ⟨h2, h3, h4⟩
  · rw [h]; exact .inl rfl
  · rw [if_neg (by omega)]
    rcases szL_tells (f := fun (x : S42) a => szN x.f0.length a) (P := fun x => (x.f0.length : Int) ≤ 1048576) (fun x a h0 h1 => by rcases szN_tells x.f0.length a h0 with h | ⟨h5, h6, h7⟩; exact .inl h; exact .inr ⟨h5, h6, by omega⟩) l _ h2 (by omega) with h | ⟨h5, h6, h7⟩
    · exact .inl h
    · exact .inr ⟨h5, by omega, h4, h7⟩
theorem szObjectS_ev (l : List S42) (a : Int) (h : l.length ≤ maxLen) (hx : ∀ x ∈ l, x.f0.length ≤ maxLen) (h0 : 0 ≤ a) (h1 : a ≤ 1048576) : Ev (fun k => laws_szObjectS.f k l a) (szOS l a) := by
  have h' := h
  rw [maxLen_eq] at h'
  simp only [laws_szObjectS.f]
  rw [wrap_id (by omega) (by omega)]
  have hn : szN l.length a = if a - (l.length : Int) < 0 then -1 else a - (l.length : Int) := rfl
  unfold szOS
  rw [hn]
  by_cases c : a - (l.length : Int) < 0
  · simp only [if_pos c]; exact Ev.val rfl
  · simp only [if_neg c]
    refine ev_loop l (F := fun k s i => laws_szObjectS.l0 k l s i) (fun _ _ s => 0 ≤ s ∧ s ≤ 1048576) (fun _ r s => szL (fun x a => szN x.f0.length a) r s) ?_ ?_ (a - (l.length : Int)) ⟨by omega, by omega⟩
    · intro s _
      simp only [laws_szObjectS.l0, end_lt, if_false, szL]
      exact Ev.now _
    · rintro pre x rest s e ⟨hs0, hs1⟩ ih
      have hxx := hx x (by rw [e]; simp)
      subst e
      simp only [laws_szObjectS.l0, mid_lt, mid_nn, mid_wrap h, if_true, rd_T42, Int.toNat_natCast, mid_get, szObject_eq x.f0 _ _ _ _ _ s hxx hs0 hs1, Option.bind_some, szL]
      rcases szN_tells x.f0.length s hs0 with hn | ⟨h2, h3, h4⟩
      · rw [hn]; exact Ev.now _
      · have c2 : ¬ szN x.f0.length s < 0 := by omega
        simp only [if_neg c2]
        exact ih _ ⟨h2, by omega⟩
def szBd (rows : List (List Int)) (l : List S42) (a : Int) : Int := if szSS rows a < 0 then -1 else szOS l (szSS rows a)
theorem szBd_tells (rows : List (List Int)) (l : List S42) (a : Int) (h0 : 0 ≤ a) (h1 : a ≤ 1048576) : szBd rows l a = -1 ∨ (0 ≤ szBd rows l a ∧ szBd rows l a ≤ a ∧ ((rows.length : Int) ≤ a ∧ ∀ x ∈ rows, (x.length : Int) ≤ 1048576) ∧ ((l.length : Int) ≤ a ∧ ∀ x ∈ l, (x.f0.length : Int) ≤ 1048576)) := by
  unfold szBd
  rcases szSS_tells rows a h0 h1 with h | ⟨h2, h3, h4, h5⟩
  · rw [h]; exact .inl rfl
  · rw [if_neg (by omega)]
    rcases szOS_tells l _ h2 (by omega) with h | ⟨g2, g3, g4, g5⟩
    · exact .inl h
    · exact .inr ⟨g2, by omega, ⟨h4, h5⟩, ⟨by omega, g5⟩⟩
theorem szBand_ev (p q : Int) (rows : List (List Int)) (l : List S42) (a : Int) (hr : rows.length ≤ maxLen) (hrx : ∀ x ∈ rows, x.length ≤ maxLen) (h : l.length ≤ maxLen) (hx : ∀ x ∈ l, x.f0.length ≤ maxLen) (h0 : 0 ≤ a) (h1 : a ≤ 1048576) : Ev (fun k => laws_szBand.f k p q rows l a) (szBd rows l a) := by
  simp only [laws_szBand.f]
  unfold szBd
  refine Ev.bind (szIntSS_ev rows a hr hrx h0 h1) ?_
  rcases szSS_tells rows a h0 h1 with hn | ⟨h2, h3, h4, h5⟩
  · rw [hn]; exact Ev.now _
  · have c2 : ¬ szSS rows a < 0 := by omega
    simp only [if_neg c2]
    refine Ev.bind (szObjectS_ev l _ h hx h2 (by omega)) ?_
    rcases szOS_tells l _ h2 (by omega) with hn | ⟨g2, g3, g4, g5⟩
    · rw [hn]; exact Ev.now _
    · exact Ev.ite (fun c => absurd c (by omega)) (fun _ => Ev.now _)
theorem toObject_ev (l : List S153) (g a b c d : Int) (hl : (l.length : Int) ≤ 1048576) : Ev (fun k => laws_toObject.f k l g a b c d) (l.map tPoint, g, a, b, c, d) := by
  simp only [laws_toObject.f, laws_toBox.f, Option.bind_some]
  exact Ev.bind (toPointS_ev l hl) (Ev.now _)
def tBox (b : S40) : S47 := ⟨b.f0, b.f1, b.f2, b.f3⟩
def tObj (o : S42) : S49 := ⟨o.f0.map tPoint, o.f1, tBox o.f2⟩
theorem toObjectS_ev (l : List S42) (h : (l.length : Int) ≤ 1048576) (hx : ∀ x ∈ l, (x.f0.length : Int) ≤ 1048576) : Ev (fun k => laws_toObjectS.f k l) (l.map tObj) := by
  have hm : l.length ≤ maxLen := by rw [maxLen_eq]; omega
  simp only [laws_toObjectS.f]
  refine Ev.ite (fun _ => Ev.ite (fun _ => ?_) (fun c => absurd (by omega) c)) (fun c => absurd (by omega) c)
  exact ev_fill l tObj (F := fun k s i => laws_toObjectS.l0 k l s i) (fun s => by
    simp only [laws_toObjectS.l0, end_lt, if_false]
    exact Ev.now _) (fun pre x rest s r e hs h => by
    have hxx := hx x (by rw [e]; simp)
    subst e
    simp only [laws_toObjectS.l0, hs, mid_lt, mid_nn, mid_wrap hm, if_true, rd_T42, Int.toNat_natCast, mid_get]
    exact Ev.bind (toObject_ev x.f0 _ _ _ _ _ hxx) h) _ (by simp)
theorem map_tObj_len {l : List S42} (hx : ∀ x ∈ l, (x.f0.length : Int) ≤ 1048576) : ∀ x ∈ l.map tObj, x.f0.length ≤ maxLen := by
  intro x hx'
  obtain ⟨y, hy, rfl⟩ := List.mem_map.1 hx'
  have := hx y hy
  simp only [tObj, List.length_map, maxLen_eq]
  omega
theorem toBand_ev (p q : Int) (rows : List (List Int)) (l : List S42) (hr : (rows.length : Int) ≤ 1048576) (hrx : ∀ x ∈ rows, (x.length : Int) ≤ 1048576) (h : (l.length : Int) ≤ 1048576) (hx : ∀ x ∈ l, (x.f0.length : Int) ≤ 1048576) : Ev (fun k => laws_toBand.f k p q rows l) (p, q, rows, l.map tObj) := by
  simp only [laws_toBand.f]
  exact Ev.bind (toIntSS_ev rows hr hrx) (Ev.bind (toObjectS_ev l h hx) (Ev.now _))
theorem eqObjectS_ev (l : List S49) (hm : l.length ≤ maxLen) (hx : ∀ x ∈ l, x.f0.length ≤ maxLen) : Ev (fun k => laws_eqObjectS.f k l l) true := by
  simp only [laws_eqObjectS.f, if_true]
  refine ev_loop0 l (F := fun k i => laws_eqObjectS.l0 k l l i) (fun _ _ => true) ?_ (fun pre x rest e h => ?_)
  · simp only [laws_eqObjectS.l0, end_lt, if_false]; exact Ev.now _
  · have hxx := hx x (by rw [e]; simp)
    subst e
    simp only [laws_eqObjectS.l0, mid_lt, mid_nn, mid_wrap hm, if_true, rd_T49, Int.toNat_natCast, mid_get]
    exact Ev.bind (eqObject_ev x.f0 _ _ _ _ _ hxx) h
theorem eqBand_ev (p q : Int) (rows : List (List Int)) (l : List S49) (hr : rows.length ≤ maxLen) (hrx : ∀ x ∈ rows, x.length ≤ maxLen) (hm : l.length ≤ maxLen) (hx : ∀ x ∈ l, x.f0.length ≤ maxLen) : Ev (fun k => laws_eqBand.f k p q rows l p q rows l) true := by
  simp only [laws_eqBand.f, if_true]
  exact Ev.bind (eqIntSS_ev rows hr hrx) (Ev.bind (eqObjectS_ev l hm hx) (Ev.now _))
end Go.Proofs.YtncfipboidmfbaaGreat.Pure
namespace Go.Proofs.YtncfipboidmfbaaGreat.Pure
open Go.RowKit Go.Proofs.YtncfipboidmfbaaGreat.QFnExactAddToBand Go.Proofs.YtncfipboidmfbaaGreatW.PrintWords Go.Proofs.YtncfipboidmfbaaGreatW.PrintLast Go.Proofs.YtncfipboidmfbaaGreat.Plain

def mkPoint (a : Int) : S151 := ⟨a, a + 1⟩
theorem markPointS_ev (l : List S151) (a : Int) (hm : l.length ≤ maxLen) (h0 : 0 ≤ a) (h1 : a + 2 * l.length ≤ 9223372036854775806) : Ev (fun k => laws_markPointS.f k l a) (a + 2 * l.length, iota 2 mkPoint a l.length) := by
  simp only [laws_markPointS.f]
  refine ev_loop l (F := fun k (s : List S151 × Int) i => laws_markPointS.l0 k s.1 s.2 i) (fun pre rest s => s.1 = iota 2 mkPoint a pre.length ++ rest ∧ s.2 = a + 2 * pre.length) (fun _ _ _ => (a + 2 * l.length, iota 2 mkPoint a l.length)) ?_ ?_ (l, a) ⟨rfl, by simp⟩
  · rintro ⟨s, b⟩ ⟨rfl, rfl⟩
    have hl : ((iota 2 mkPoint a l.length ++ ([] : List S151)).length : Int) = l.length := by simp [iota_length]
    simp only [laws_markPointS.l0, hl, end_lt, if_false]
    exact Ev.val (by simp)
  · rintro pre x rest ⟨s, b⟩ e ⟨rfl, rfl⟩ ih
    subst e
    have hl : ((iota 2 mkPoint a pre.length ++ x :: rest).length : Int) = ((pre ++ x :: rest).length : Int) := by simp [iota_length]
    have hlen := mid_len (pre := pre) (rest := rest) (x := x)
    have hs := iota_set 2 mkPoint a pre rest x
    have hw1 : wrap64 (a + 2 * (pre.length : Int) + 1) = a + 2 * (pre.length : Int) + 1 := wrap_id (by omega) (by omega)
    have hw : wrap64 (a + 2 * (pre.length : Int) + 1 + 1) = a + 2 * ((pre ++ [x]).length : Int) := by rw [wrap_id (by omega) (by omega)]; simp; omega
    have hg : ∀ y : S151, ((iota 2 mkPoint a pre.length ++ x :: rest).set pre.length y).getD pre.length z151 = y := by
      intro y
      rw [List.getD_eq_getElem?_getD, List.getElem?_set_self (by have := hl; omega)]
      rfl
    simp only [laws_markPointS.l0, hl, mid_lt, mid_nn, mid_wrap hm, if_true, Int.toNat_natCast, Option.bind_some, hw1, hw, rd_T151, hg, List.set_set]
    exact ih (_, _) ⟨hs, rfl⟩
theorem heldPointS_ev (n : Nat) (a : Int) (h0 : 0 ≤ a) (h1 : a + 2 * n ≤ 9223372036854775806) : Ev (fun k => laws_heldPointS.f k (iota 2 mkPoint a n) a) (a + 2 * n) := by
  have hm : (iota 2 mkPoint a n).length ≤ maxLen := by rw [iota_length, maxLen_eq]; omega
  simp only [laws_heldPointS.f]
  refine ev_loop (iota 2 mkPoint a n) (F := fun k s i => laws_heldPointS.l0 k (iota 2 mkPoint a n) s i) (fun pre rest s => s = a + 2 * pre.length) (fun _ _ _ => a + 2 * n) ?_ ?_ a (by simp)
  · rintro s rfl
    simp only [laws_heldPointS.l0, end_lt, if_false]
    exact Ev.val (by rw [iota_length])
  · rintro pre x rest s e rfl ih
    have hx := iota_mid 2 mkPoint pre rest x a n e
    have hn := congrArg List.length e
    rw [iota_length] at hn
    have hlen := mid_len (pre := pre) (rest := rest) (x := x)
    rw [e] at hm ⊢
    rw [e] at ih
    have hw1 : wrap64 (a + 2 * (pre.length : Int) + 1) = a + 2 * (pre.length : Int) + 1 := wrap_id (by omega) (by omega)
    have hw : wrap64 (a + 2 * (pre.length : Int) + 1 + 1) = a + 2 * ((pre ++ [x]).length : Int) := by rw [wrap_id (by omega) (by omega)]; simp; omega
    have e0 : x.f0 = a + 2 * (pre.length : Int) := by rw [hx]; rfl
    have e1 : x.f1 = a + 2 * (pre.length : Int) + 1 := by rw [hx]; rfl
    simp only [laws_heldPointS.l0, mid_lt, mid_nn, mid_wrap hm, if_true, rd_T151, Int.toNat_natCast, mid_get, e0, e1, hw1, hw]
    exact ih _ rfl
theorem markObject_ev (l : List S151) (p q r s t a : Int) (hm : l.length ≤ maxLen) (h0 : 0 ≤ a) (h1 : a + 2 * l.length ≤ 9223372036854775806) : Ev (fun k => laws_markObject.f k l p q r s t a) (a + 2 * l.length, iota 2 mkPoint a l.length) := by
  simp only [laws_markObject.f]
  exact Ev.bind (markPointS_ev l a hm h0 h1) (Ev.now _)
end Go.Proofs.YtncfipboidmfbaaGreat.Pure
namespace Go.Proofs.YtncfipboidmfbaaGreat.Pure
open Go.RowKit Go.Proofs.YtncfipboidmfbaaGreat.QFnExactAddToBand Go.Proofs.YtncfipboidmfbaaGreatW.PrintWords Go.Proofs.YtncfipboidmfbaaGreatW.PrintLast Go.Proofs.YtncfipboidmfbaaGreat.Plain

theorem within_eq (a b c : Int) : impl_within.f a b c = some (inB a b c) := by unfold impl_within.f inB; by_cases h : b ≤ a <;> simp [h]
theorem l01In_eq (a b c : Int) : spec_l01In.f a b c = some (inB a b c) := by unfold spec_l01In.f inB; by_cases h : b ≤ a <;> simp [h]
def isH (a : Int) : Bool := decide (a = 1 ∨ a = 2 ∨ a = 4 ∨ a = 8 ∨ a = 16 ∨ a = 32)
theorem iIsHeight_eq (a : Int) : impl_IsHeight.f a = some (isH a) := by
  unfold impl_IsHeight.f isH
  by_cases h1 : a = 1
  · simp [h1]
  by_cases h2 : a = 2
  · simp [h2]
  by_cases h4 : a = 4
  · simp [h4]
  by_cases h8 : a = 8
  · simp [h8]
  by_cases h16 : a = 16
  · simp [h16]
  by_cases h32 : a = 32
  · simp [h32]
  simp [h1, h2, h4, h8, h16, h32]
theorem sIsHeight_eq (a : Int) : spec_IsHeight.f a = some (isH a) := by
  unfold spec_IsHeight.f isH
  by_cases h1 : a = 1
  · simp [h1]
  by_cases h2 : a = 2
  · simp [h2]
  by_cases h4 : a = 4
  · simp [h4]
  by_cases h8 : a = 8
  · simp [h8]
  by_cases h16 : a = 16
  · simp [h16]
  by_cases h32 : a = 32
  · simp [h32]
  simp [h1, h2, h4, h8, h16, h32]
def cntB (a : Int) : Int := if isH a = true then 32 / a else 0
theorem isH_cases {a : Int} (h : isH a = true) : a = 1 ∨ a = 2 ∨ a = 4 ∨ a = 8 ∨ a = 16 ∨ a = 32 := by simpa [isH] using h
theorem cntB_wrap {a : Int} (h : isH a = true) : ¬ a = 0 ∧ wrap64 ((32 : Int) / a) = 32 / a := by rcases isH_cases h with rfl | rfl | rfl | rfl | rfl | rfl <;> exact ⟨by decide, by unfold wrap64; omega⟩
theorem iCountBands_eq (a : Int) : impl_CountBands.f a = some (cntB a) := by
  unfold impl_CountBands.f cntB
  rw [iIsHeight_eq]
  by_cases h : isH a = true
  · simp [h, cntB_wrap h]
  · simp [h]
theorem sCountBands_eq (a : Int) : spec_CountBands.f a = some (cntB a) := by
  unfold spec_CountBands.f cntB
  rw [sIsHeight_eq]
  by_cases h : isH a = true
  · simp [h, cntB_wrap h]
  · simp [h]

def coord (a : Int) : Bool := inB a (-200) 200
def boxOk (a b c d : Int) : Bool := coord a && (coord b && (coord c && (coord d && (decide (a ≤ c) && decide (b ≤ d)))))
theorem coordOk_eq (a : Int) : impl_coordOk.f a = some (coord a) := by unfold impl_coordOk.f; rw [within_eq]; rfl
theorem l02In_eq (a : Int) : spec_l02In.f a = some (coord a) := by unfold spec_l02In.f; rw [l01In_eq]; rfl
theorem iPointOk_eq (a b : Int) : impl_PointOk.f a b = some (coord a && coord b) := by unfold impl_PointOk.f; simp only [coordOk_eq, Option.bind_some, and_some]
theorem sPointOk_eq (a b : Int) : spec_PointOk.f a b = some (coord a && coord b) := by unfold spec_PointOk.f; simp only [l02In_eq, Option.bind_some, and_some]
theorem iBoxOk_eq (a b c d : Int) : impl_BoxOk.f a b c d = some (boxOk a b c d) := by unfold impl_BoxOk.f boxOk; simp only [coordOk_eq, Option.bind_some, and_some_p (a ≤ c), and_some]
theorem sBoxOk_eq (a b c d : Int) : spec_BoxOk.f a b c d = some (boxOk a b c d) := by unfold spec_BoxOk.f boxOk; simp only [l02In_eq, Option.bind_some, and_some_p (a ≤ c), and_some]
def ptsOk (l : List S151) : Bool := l.all fun p => coord p.f0 && coord p.f1
theorem pointsOk_ev (l : List S151) (hm : l.length ≤ maxLen) : Ev (fun k => impl_pointsOk.f k l) (ptsOk l) := by
  simp only [impl_pointsOk.f]
  refine ev_loop0 l (F := fun k i => impl_pointsOk.l0 k l l.length i) (fun _ r => ptsOk r) ?_ (fun pre x rest e h => ?_)
  · simp only [impl_pointsOk.l0, end_lt, if_false]; exact Ev.now _
  · subst e
    simp only [impl_pointsOk.l0, mid_lt, mid_nn, mid_wrap hm, if_true, rd_T151, Int.toNat_natCast, mid_get, iPointOk_eq, Option.bind_some]
    exact Ev.andB (fun _ => h)
theorem l07Points_ev (l : List S151) (hm : l.length ≤ maxLen) : Ev (fun k => spec_l07Points.f k l) (ptsOk l && decide ((l.length : Int) ≤ 8)) := by
  simp only [spec_l07Points.f]
  refine ev_loop0 l (F := fun k i => spec_l07Points.l0 k l i) (fun _ r => ptsOk r && decide ((l.length : Int) ≤ 8)) ?_ (fun pre x rest e h => ?_)
  · simp only [spec_l07Points.l0, end_lt, if_false]; exact Ev.now _
  · have : ptsOk (x :: rest) = ((coord x.f0 && coord x.f1) && ptsOk rest) := rfl
    rw [this, Bool.and_assoc]
    subst e
    simp only [spec_l07Points.l0, mid_lt, mid_nn, mid_wrap hm, if_true, rd_T151, Int.toNat_natCast, mid_get, sPointOk_eq, Option.bind_some]
    exact Ev.andB (fun _ => h)
def objOk (l : List S151) (g a b c d : Int) : Bool := decide (3 ≤ (l.length : Int)) && (decide ((l.length : Int) ≤ 8) && (ptsOk l && (inB g 0 255 && boxOk a b c d)))
theorem iObjectOk_ev (l : List S151) (g a b c d : Int) (hm : l.length ≤ maxLen) : Ev (fun k => impl_ObjectOk.f k l g a b c d) (objOk l g a b c d) := by
  simp only [impl_ObjectOk.f, within_eq, iBoxOk_eq, Option.bind_some, and_some]
  unfold objOk
  rw [← Bool.and_assoc]
  exact Ev.andB (fun _ => Ev.bind (pointsOk_ev l hm) (Ev.now _))
theorem l07Object_ev (l : List S151) (g a b c d : Int) (hm : l.length ≤ maxLen) : Ev (fun k => spec_l07Object.f k l g a b c d) (objOk l g a b c d) := by
  simp only [spec_l07Object.f, l01In_eq, sBoxOk_eq, Option.bind_some, and_some]
  unfold objOk
  refine Ev.andP (fun _ => ?_)
  have : (decide ((l.length : Int) ≤ 8) && (ptsOk l && (inB g 0 255 && boxOk a b c d))) = ((ptsOk l && decide ((l.length : Int) ≤ 8)) && (inB g 0 255 && boxOk a b c d)) := by
    cases decide ((l.length : Int) ≤ 8) <;> cases ptsOk l <;> rfl
  rw [this]
  exact Ev.bind (l07Points_ev l hm) (Ev.now _)
theorem sObjectOk_ev (l : List S151) (g a b c d : Int) (hm : l.length ≤ maxLen) : Ev (fun k => spec_ObjectOk.f k l g a b c d) (objOk l g a b c d) := by
  simp only [spec_ObjectOk.f]
  exact Ev.bind (l07Object_ev l g a b c d hm) (Ev.now _)

def rowOk (l : List Int) : Bool := decide ((l.length : Int) = 32) && l.all fun v => inB v 0 255
def rowsOk (l : List (List Int)) : Bool := decide ((l.length : Int) ≤ 32) && l.all rowOk
theorem rowOk_ev (l : List Int) : Ev (fun k => impl_rowOk.f k l) (rowOk l) := by
  simp only [impl_rowOk.f]
  refine Ev.andP (fun c => ?_)
  have hm : l.length ≤ maxLen := by rw [maxLen_eq]; omega
  clear c
  refine ev_loop0 l (F := fun k i => impl_rowOk.l0 k l l.length i) (fun _ r => r.all fun v => inB v 0 255) ?_ (fun pre x rest e h => ?_)
  · simp only [impl_rowOk.l0, end_lt, if_false]; exact Ev.now _
  · subst e
    simp only [impl_rowOk.l0, mid_lt, mid_nn, mid_wrap hm, if_true, rd, Int.toNat_natCast, mid_get, within_eq, Option.bind_some]
    exact Ev.andB (fun _ => h)
theorem iRowsOk_ev (l : List (List Int)) : Ev (fun k => impl_RowsOk.f k l) (rowsOk l) := by
  simp only [impl_RowsOk.f, rowsOk]
  refine Ev.ite (fun c => Ev.val (by simp; omega)) (fun c => ?_)
  have hm : l.length ≤ maxLen := by rw [maxLen_eq]; omega
  have hd : decide ((l.length : Int) ≤ 32) = true := by simp; omega
  rw [hd, Bool.true_and]
  clear c hd
  refine ev_loop0 l (F := fun k i => impl_RowsOk.l0 k l l.length i) (fun _ r => r.all rowOk) ?_ (fun pre x rest e h => ?_)
  · simp only [impl_RowsOk.l0, end_lt, if_false]; exact Ev.now _
  · subst e
    simp only [impl_RowsOk.l0, mid_lt, mid_nn, mid_wrap hm, if_true, rd_L1, Int.toNat_natCast, mid_get]
    exact Ev.bind (rowOk_ev x) (Ev.andB (fun _ => h))
theorem l11Row_ev (l : List Int) (hm : l.length ≤ maxLen) : Ev (fun k => spec_l11Row.f k l) (rowOk l) := by
  simp only [spec_l11Row.f]
  unfold rowOk
  rw [Bool.and_comm]
  refine ev_loop0 l (F := fun k i => spec_l11Row.l0 k l i) (fun _ r => (r.all fun v => inB v 0 255) && decide ((l.length : Int) = 32)) ?_ (fun pre x rest e h => ?_)
  · simp only [spec_l11Row.l0, end_lt, if_false]; exact Ev.now _
  · rw [List.all_cons, Bool.and_assoc]
    subst e
    simp only [spec_l11Row.l0, mid_lt, mid_nn, mid_wrap hm, if_true, rd, Int.toNat_natCast, mid_get, l01In_eq, Option.bind_some]
    exact Ev.andB (fun _ => h)
theorem sRowsOk_ev (l : List (List Int)) (hm : l.length ≤ maxLen) (hx : ∀ x ∈ l, x.length ≤ maxLen) : Ev (fun k => spec_RowsOk.f k l) (rowsOk l) := by
  simp only [spec_RowsOk.f]
  unfold rowsOk
  rw [Bool.and_comm]
  refine ev_loop0 l (F := fun k i => spec_RowsOk.l0 k l i) (fun _ r => r.all rowOk && decide ((l.length : Int) ≤ 32)) ?_ (fun pre x rest e h => ?_)
  · simp only [spec_RowsOk.l0, end_lt, if_false]; exact Ev.now _
  · have hxx := hx x (by rw [e]; simp)
    rw [List.all_cons, Bool.and_assoc]
    subst e
    simp only [spec_RowsOk.l0, mid_lt, mid_nn, mid_wrap hm, if_true, rd_L1, Int.toNat_natCast, mid_get]
    exact Ev.bind (l11Row_ev x hxx) (Ev.andB (fun _ => h))

end Go.Proofs.YtncfipboidmfbaaGreat.Pure
namespace Go.Proofs.YtncfipboidmfbaaGreat.Pure
open Go.RowKit Go.Proofs.YtncfipboidmfbaaGreat.QFnExactAddToBand Go.Proofs.YtncfipboidmfbaaGreatW.PrintWords Go.Proofs.YtncfipboidmfbaaGreatW.PrintLast Go.Proofs.YtncfipboidmfbaaGreat.Plain

def cellsGo : List S49 → Int → Int
  | [], a => a
  | x :: r, a => cellsGo r (wrap64 (a + wrap64 (2 + (x.f0.length : Int))))
theorem wrap_assoc (a b : Int) : wrap64 (wrap64 (a + 2) + b) = wrap64 (a + wrap64 (2 + b)) := by unfold wrap64; omega
theorem objectsCells_ev (l : List S49) (hm : l.length ≤ maxLen) : Ev (fun k => impl_objectsCells.f k l) (cellsGo l 0) := by
  simp only [impl_objectsCells.f]
  refine ev_loop l (F := fun k s i => impl_objectsCells.l0 k s l l.length i) (fun _ _ _ => True) (fun _ r s => cellsGo r s) ?_ ?_ _ trivial
  · intro s _; simp only [impl_objectsCells.l0, end_lt, if_false]; exact Ev.now _
  · rintro pre x rest s e _ ih
    subst e
    simp only [impl_objectsCells.l0, mid_lt, mid_nn, mid_wrap hm, if_true, rd_T49, Int.toNat_natCast, mid_get]
    exact ih _ trivial
theorem iBandCells_ev (a b : Int) (rows : List (List Int)) (l : List S49) (hm : l.length ≤ maxLen) : Ev (fun k => impl_BandCells.f k a b rows l) (cellsGo l 0) := by
  simp only [impl_BandCells.f]
  exact Ev.bind (objectsCells_ev l hm) (Ev.now _)
theorem sBandCells_ev (a b : Int) (rows : List (List Int)) (l : List S49) (hm : l.length ≤ maxLen) : Ev (fun k => spec_BandCells.f k a b rows l) (cellsGo l 0) := by
  simp only [spec_BandCells.f]
  refine ev_loop l (F := fun k s i => spec_BandCells.l0 k s i a b rows l) (fun _ _ _ => True) (fun _ r s => cellsGo r s) ?_ ?_ _ trivial
  · intro s _; simp only [spec_BandCells.l0, end_lt, if_false]; exact Ev.now _
  · rintro pre x rest s e _ ih
    subst e
    simp only [spec_BandCells.l0, mid_lt, mid_nn, mid_wrap hm, if_true, rd_T49, Int.toNat_natCast, mid_get, wrap_assoc]
    exact ih _ trivial
end Go.Proofs.YtncfipboidmfbaaGreat.Pure
namespace Go.Proofs.YtncfipboidmfbaaGreat.Pure
open Go.RowKit Go.Proofs.YtncfipboidmfbaaGreat.QFnExactAddToBand Go.Proofs.YtncfipboidmfbaaGreatW.PrintWords Go.Proofs.YtncfipboidmfbaaGreatW.PrintLast Go.Proofs.YtncfipboidmfbaaGreat.Plain

abbrev BoxT := Int × Int × Int × Int
theorem mx_self (a : Int) : mx a a = a := by unfold mx; split <;> rfl
theorem mn_self (a : Int) : mn a a = a := by unfold mn; split <;> rfl
theorem mx_comm (a b : Int) : mx a b = mx b a := by unfold mx; omega
theorem mn_comm (a b : Int) : mn a b = mn b a := by unfold mn; omega
def meet (p q : BoxT) : BoxT := if boxOk p.1 p.2.1 p.2.2.1 p.2.2.2 = true ∧ boxOk q.1 q.2.1 q.2.2.1 q.2.2.2 = true ∧ mx p.1 q.1 < mn p.2.2.1 q.2.2.1 ∧ mx p.2.1 q.2.1 < mn p.2.2.2 q.2.2.2 then (mx p.1 q.1, mx p.2.1 q.2.1, mn p.2.2.1 q.2.2.1, mn p.2.2.2 q.2.2.2) else (0, 0, 0, 0)
theorem sMeetBox_eq (a b c d e f g h : Int) : spec_MeetBox.f a b c d e f g h = some (meet (a, b, c, d) (e, f, g, h)) := by
  unfold spec_MeetBox.f meet
  simp only [sBoxOk_eq, Option.bind_some]
  by_cases c1 : boxOk a b c d = true
  · by_cases c2 : boxOk e f g h = true
    · by_cases c3 : mx a e ≥ mn c g
      · have n3 : ¬ mx a e < mn c g := by omega
        simp [c1, c2, c3, n3]
      · have n3 : mx a e < mn c g := by omega
        by_cases c4 : mx b f ≥ mn d h
        · have n4 : ¬ mx b f < mn d h := by omega
          simp [c1, c2, c4, n4]
        · have n4 : mx b f < mn d h := by omega
          simp [c1, c2, n3, n4, c3, c4]
    · simp [c1, c2]
  · simp [c1]
theorem iMeetBox_j0 (k : Nat) (z : Bool) (a b c d e f g h : Int) : impl_MeetBox.j0 (k + 1) z a b c d e f g h = some (if z = false ∧ mx a e < mn c g ∧ mx b f < mn d h then (mx a e, mx b f, mn c g, mn d h) else (0, 0, 0, 0)) := by
  simp only [impl_MeetBox.j0]
  cases z
  · by_cases c3 : mx a e < mn c g
    · have n3 : ¬ mx a e ≥ mn c g := by omega
      by_cases c4 : mx b f < mn d h
      · have n4 : ¬ mx b f ≥ mn d h := by omega
        simp only [Bool.false_eq_true, if_false, if_neg n3, if_neg n4]
        rw [if_pos ⟨trivial, c3, c4⟩]
      · have n4 : mx b f ≥ mn d h := by omega
        simp only [Bool.false_eq_true, if_false, if_neg n3, if_pos n4]
        rw [if_neg (fun q => c4 q.2.2)]
    · have n3 : mx a e ≥ mn c g := by omega
      simp only [Bool.false_eq_true, if_false, if_pos n3]
      rw [if_neg (fun q => c3 q.2.1)]
  · simp
theorem iMeetBox_ev (a b c d e f g h : Int) : Ev (fun k => impl_MeetBox.f k a b c d e f g h) (meet (a, b, c, d) (e, f, g, h)) := by
  simp only [impl_MeetBox.f, iBoxOk_eq, Option.bind_some]
  unfold meet
  by_cases c1 : boxOk a b c d = true
  · simp only [if_pos c1]
    refine Ev.up ?_
    simp only [iMeetBox_j0]
    refine Ev.val ?_
    by_cases c2 : boxOk e f g h = true
    · simp [c1, c2]
    · simp [c1, c2]
  · simp only [if_neg c1]
    refine Ev.up ?_
    simp only [iMeetBox_j0]
    exact Ev.val (by simp [c1])
def boxFrom : List S151 → BoxT → BoxT
  | [], b => b
  | x :: r, b => boxFrom r (mn b.1 x.f0, mn b.2.1 x.f1, mx b.2.2.1 x.f0, mx b.2.2.2 x.f1)
def boxOf (l : List S151) : BoxT :=
  match l with
  | [] => (0, 0, 0, 0)
  | x :: r => if ptsOk (x :: r) = true then boxFrom r (x.f0, x.f1, x.f0, x.f1) else (0, 0, 0, 0)
theorem iBoxOf_ev (l : List S151) (hm : l.length ≤ maxLen) : Ev (fun k => impl_BoxOf.f k l) (boxOf l) := by
  simp only [impl_BoxOf.f]
  match l, hm with
  | [], hm =>
    simp only [List.length_nil, Int.ofNat_zero, if_true]
    exact Ev.up (by simp only [impl_BoxOf.j0, if_true]; exact Ev.now _)
  | x :: r, hm =>
    have hne : ¬ ((x :: r).length : Int) = 0 := by rw [List.length_cons]; omega
    have hpos : (0 : Int) < ((x :: r).length : Int) := by rw [List.length_cons]; omega
    simp only [if_neg hne]
    refine Ev.bind (pointsOk_ev _ hm) (Ev.up ?_)
    unfold boxOf
    by_cases c : ptsOk (x :: r) = true
    · have hx : rd_T151 (x :: r) 0 = x := rfl
      simp only [c, Bool.not_true, impl_BoxOf.j0, Bool.false_eq_true, if_false, if_pos hpos, hx, if_true]
      have hb : boxFrom r (x.f0, x.f1, x.f0, x.f1) = boxFrom (x :: r) (x.f0, x.f1, x.f0, x.f1) := by simp only [boxFrom, mn_self, mx_self]
      rw [hb]
      generalize hq : x :: r = q at *
      refine ev_loop q (F := fun k (s : BoxT) i => impl_BoxOf.l0 k q q.length i s.1 s.2.1 s.2.2.1 s.2.2.2) (fun _ _ _ => True) (fun _ r s => boxFrom r s) ?_ ?_ (x.f0, x.f1, x.f0, x.f1) trivial
      · intro s _; simp only [impl_BoxOf.l0, end_lt, if_false]; exact Ev.now _
      · rintro pre y rest s e _ ih
        clear hq
        subst e
        simp only [impl_BoxOf.l0, mid_lt, mid_nn, mid_wrap hm, if_true, rd_T151, Int.toNat_natCast, mid_get]
        exact ih (mn s.1 y.f0, mn s.2.1 y.f1, mx s.2.2.1 y.f0, mx s.2.2.2 y.f1) trivial
    · have c' : ptsOk (x :: r) = false := by simpa using c
      simp only [c', Bool.not_false, impl_BoxOf.j0, if_true, Bool.false_eq_true, if_false]; exact Ev.now _
theorem sBoxOf_ev (l : List S151) (hm : l.length ≤ maxLen) : Ev (fun k => spec_BoxOf.f k l) (boxOf l) := by
  simp only [spec_BoxOf.f]
  have hg : boxOf l = if ptsOk l = true then (if ([] : List S151) = [] then boxOf l else boxFrom l (0, 0, 0, 0)) else (0, 0, 0, 0) := by
    match l with
    | [] => simp [boxOf]
    | x :: r => unfold boxOf; by_cases c : ptsOk (x :: r) = true <;> simp [c]
  rw [hg]
  refine ev_loop l (F := fun k (s : BoxT) i => spec_BoxOf.l0 k l i s.1 s.2.1 s.2.2.1 s.2.2.2) (fun p _ s => p = [] → s = (0, 0, 0, 0)) (fun p r s => if ptsOk r = true then (if p = [] then boxOf r else boxFrom r s) else (0, 0, 0, 0)) ?_ ?_ (0, 0, 0, 0) (fun _ => rfl)
  · intro s hs
    simp only [spec_BoxOf.l0, end_lt, if_false]
    refine Ev.val ?_
    by_cases c : l = []
    · rw [hs c]; simp [c, boxOf, ptsOk]
    · simp [c, boxFrom, ptsOk]
  · rintro pre x rest s e hs ih
    have hp : ptsOk (x :: rest) = ((coord x.f0 && coord x.f1) && ptsOk rest) := rfl
    clear hg
    subst e
    simp only [spec_BoxOf.l0, mid_lt, mid_nn, mid_wrap hm, if_true, rd_T151, Int.toNat_natCast, mid_get, sPointOk_eq, Option.bind_some]
    by_cases cx : (coord x.f0 && coord x.f1) = true
    · simp only [cx, if_true]
      have hpe : ptsOk (x :: rest) = ptsOk rest := by rw [hp, cx, Bool.true_and]
      have hne : ¬ pre ++ [x] = [] := by simp
      by_cases cp : pre = []
      · have c0 : (pre.length : Int) = 0 := by simp [cp]
        have h := ih (x.f0, x.f1, x.f0, x.f1) (fun e => absurd e hne)
        simp only [if_neg hne] at h
        simp only [c0, if_true, if_pos cp, hpe]
        by_cases cr : ptsOk rest = true
        · simp only [cr, if_true] at h ⊢
          have : boxOf (x :: rest) = boxFrom rest (x.f0, x.f1, x.f0, x.f1) := by
            show (if ptsOk (x :: rest) = true then boxFrom rest (x.f0, x.f1, x.f0, x.f1) else (0, 0, 0, 0)) = _
            rw [if_pos (hpe.trans cr)]
          rw [this]
          exact h
        · simp only [if_neg cr] at h ⊢
          exact h
      · have c0 : ¬ (pre.length : Int) = 0 := by
          intro h; exact cp (List.eq_nil_of_length_eq_zero (by omega))
        have h := ih (mn s.1 x.f0, mn s.2.1 x.f1, mx s.2.2.1 x.f0, mx s.2.2.2 x.f1) (fun e => absurd e hne)
        simp only [if_neg hne] at h
        simp only [if_neg c0, if_neg cp, hpe]
        exact h
    · have hpe : ptsOk (x :: rest) = false := by rw [hp]; simp [cx]
      simp only [if_neg cx, hpe, Bool.false_eq_true, if_false]
      exact Ev.now _
def objBox (l : List S151) (g a b c d : Int) : BoxT := if objOk l g a b c d = true then meet (meet (boxOf l) (a, b, c, d)) (0, 0, 32, 32) else (0, 0, 0, 0)
theorem iObjectBox_ev (l : List S151) (g a b c d : Int) (hm : l.length ≤ maxLen) : Ev (fun k => impl_ObjectBox.f k l g a b c d) (objBox l g a b c d) := by
  simp only [impl_ObjectBox.f]
  unfold objBox
  refine Ev.bind (iObjectOk_ev l g a b c d hm) (Ev.ite (fun c => ?_) (fun c => ?_))
  · rw [if_pos c]
    refine Ev.bind (iBoxOf_ev l hm) (Ev.bind (iMeetBox_ev _ _ _ _ _ _ _ _) ?_)
    simp only [impl_pageBox.f, Option.bind_some]
    exact Ev.bind (iMeetBox_ev _ _ _ _ _ _ _ _) (Ev.now _)
  · rw [if_neg c]; exact Ev.now _
theorem sObjectBox_ev (l : List S151) (g a b c d : Int) (hm : l.length ≤ maxLen) : Ev (fun k => spec_ObjectBox.f k l g a b c d) (objBox l g a b c d) := by
  simp only [spec_ObjectBox.f]
  unfold objBox
  refine Ev.bind (sObjectOk_ev l g a b c d hm) (Ev.ite (fun c => ?_) (fun c => ?_))
  · rw [if_pos c]
    refine Ev.bind (sBoxOf_ev l hm) ?_
    simp only [sMeetBox_eq, spec_l07Full.f, Option.bind_some]
    exact Ev.now _
  · rw [if_neg c]; exact Ev.now _
/-- A loop that counts from lo to hi. -/
theorem ev_range {σ β : Type} {F : Nat → σ → Int → Option β} (lo hi : Int) (hlh : lo ≤ hi) (Inv : Int → σ → Prop) (r : β)
    (hnil : ∀ s, Inv hi s → Ev (fun k => F (k + 1) s hi) r)
    (hcons : ∀ i s, lo ≤ i → i < hi → Inv i s → (∀ s', Inv (i + 1) s' → Ev (fun k => F k s' (i + 1)) r) → Ev (fun k => F (k + 1) s i) r) :
    ∀ s, Inv lo s → Ev (fun k => F k s lo) r := by
  have main : ∀ (n : Nat) (i : Int) (s : σ), lo ≤ i → i + n = hi → Inv i s → Ev (fun k => F k s i) r := by
    intro n
    induction n with
    | zero =>
      intro i s h0 h1 hI
      have e : i = hi := by omega
      subst e
      exact Ev.up (hnil s hI)
    | succ n ih =>
      intro i s h0 h1 hI
      exact Ev.up (hcons i s h0 (by omega) hI (fun s' hI' => ih (i + 1) s' (by omega) (by omega) hI'))
  intro s hI
  exact main (hi - lo).toNat lo s (by omega) (by omega) hI
def inPage (p : BoxT) : Prop := 0 ≤ p.1 ∧ p.1 ≤ p.2.2.1 ∧ p.2.2.1 ≤ 32 ∧ 0 ≤ p.2.1 ∧ p.2.1 ≤ p.2.2.2 ∧ p.2.2.2 ≤ 32
def rowsIn (lo y0 y1 y : Int) : Int := if mx lo y0 < mn y y1 then mn y y1 - mx lo y0 else 0
theorem mx_tells (a b : Int) : a ≤ mx a b ∧ b ≤ mx a b ∧ (mx a b = a ∨ mx a b = b) := by unfold mx; omega
theorem mn_tells (a b : Int) : mn a b ≤ a ∧ mn a b ≤ b ∧ (mn a b = a ∨ mn a b = b) := by unfold mn; omega
theorem rowsIn_bd {lo y0 y1 y : Int} (h0 : 0 ≤ lo) (h1 : y1 ≤ 32) : 0 ≤ rowsIn lo y0 y1 y ∧ rowsIn lo y0 y1 y ≤ 32 := by
  unfold rowsIn
  have a := mx_tells lo y0
  have b := mn_tells y y1
  split <;> omega
theorem rowsIn_pos {lo y0 y1 y : Int} (h1 : lo < y) (h2 : lo < y1) (h3 : y0 < y) (h4 : y0 < y1) : rowsIn lo y0 y1 y = mn y1 y - mx y0 lo := by
  unfold rowsIn
  rw [mx_comm y0, mn_comm y1]
  have a := mx_tells lo y0
  have b := mn_tells y y1
  rw [if_pos (by omega)]
theorem rowsIn_in {lo y0 y1 y : Int} (h1 : lo ≤ y) (h2 : y0 ≤ y) (h3 : y < y1) : rowsIn lo y0 y1 (y + 1) = rowsIn lo y0 y1 y + 1 := by
  unfold rowsIn
  have a := mx_tells lo y0
  have b := mn_tells y y1
  have c := mn_tells (y + 1) y1
  split <;> split <;> omega
theorem rowsIn_out {lo y0 y1 y : Int} (h1 : lo ≤ y) (h2 : y < y0 ∨ y1 ≤ y) : rowsIn lo y0 y1 (y + 1) = rowsIn lo y0 y1 y := by
  unfold rowsIn
  have a := mx_tells lo y0
  have b := mn_tells y y1
  have c := mn_tells (y + 1) y1
  split <;> split <;> omega
theorem rowsIn_lo {lo y0 y1 : Int} : rowsIn lo y0 y1 lo = 0 := by
  unfold rowsIn
  have a := mx_tells lo y0
  have b := mn_tells lo y1
  rw [if_neg (by omega)]
theorem meet_page (p : BoxT) : inPage (meet p (0, 0, 32, 32)) := by
  unfold meet
  by_cases c : boxOk p.1 p.2.1 p.2.2.1 p.2.2.2 = true ∧ boxOk 0 0 32 32 = true ∧ mx p.1 0 < mn p.2.2.1 32 ∧ mx p.2.1 0 < mn p.2.2.2 32
  · rw [if_pos c]
    obtain ⟨_, _, h3, h4⟩ := c
    unfold inPage
    simp only
    unfold mx mn at *
    omega
  · rw [if_neg c]; simp [inPage]
theorem objBox_page (l : List S151) (g a b c d : Int) : inPage (objBox l g a b c d) := by
  unfold objBox
  split
  · exact meet_page _
  · simp [inPage]
def cntD (p : BoxT) : Int := if boxOk p.1 p.2.1 p.2.2.1 p.2.2.2 = true then wrap64 (wrap64 (p.2.2.1 - p.1) * wrap64 (p.2.2.2 - p.2.1)) else 0
theorem iCountDots_eq (a b c d : Int) : impl_CountDots.f a b c d = some (cntD (a, b, c, d)) := by
  unfold impl_CountDots.f cntD
  simp only [iBoxOk_eq, Option.bind_some]
  by_cases h : boxOk a b c d = true <;> simp [h]
theorem sCountDots_eq (a b c d : Int) : spec_CountDots.f a b c d = some (cntD (a, b, c, d)) := by
  unfold spec_CountDots.f cntD
  simp only [sBoxOk_eq, Option.bind_some]
  by_cases h : boxOk a b c d = true <;> simp [h]
def bandOk (h i : Int) : Bool := inB i 0 (wrap64 (cntB h - 1))
theorem cntB_bd (h : Int) : 0 ≤ cntB h ∧ cntB h ≤ 32 := by
  unfold cntB
  split
  · rename_i c; rcases isH_cases c with rfl | rfl | rfl | rfl | rfl | rfl <;> decide
  · decide
theorem bandOk_isH {h i : Int} (c : bandOk h i = true) : isH h = true := by
  unfold bandOk cntB at c
  rw [inB_iff] at c
  by_cases e : isH h = true
  · exact e
  · rw [if_neg e, wrap_id (by omega) (by omega)] at c; omega
theorem bandOk_page {h i : Int} (c : bandOk h i = true) : 0 ≤ i * h ∧ 1 ≤ h ∧ i * h + h ≤ 32 ∧ wrap64 (i * h) = i * h ∧ wrap64 (i * h + h) = i * h + h ∧ 0 ≤ i ∧ i ≤ 31 := by
  have e := bandOk_isH c
  unfold bandOk cntB at c
  rw [inB_iff, if_pos e] at c
  rcases isH_cases e with rfl | rfl | rfl | rfl | rfl | rfl <;> (rw [wrap_id (by omega) (by omega)] at c; refine ⟨?_, ?_, ?_, ?_, ?_, ?_, ?_⟩ <;> first | omega | exact wrap_id (by omega) (by omega))
def touches (l : List S151) (g a b c d h i : Int) : Bool := bandOk h i && (decide (cntD (objBox l g a b c d) > 0) && (decide ((objBox l g a b c d).2.1 < wrap64 (wrap64 (i * h) + h)) && decide ((objBox l g a b c d).2.2.2 > wrap64 (i * h))))
theorem and_some_d (p : Prop) [Decidable p] (q : Bool) : (if p then some q else some false) = some (decide p && q) := and_some_p p q
theorem iTouchesBand_ev (l : List S151) (g a b c d h i : Int) (hm : l.length ≤ maxLen) : Ev (fun k => impl_TouchesBand.f k l g a b c d h i) (touches l g a b c d h i) := by
  simp only [impl_TouchesBand.f, iIsHeight_eq, iCountBands_eq, within_eq, Option.bind_some]
  have hb : inB i 0 (wrap64 (cntB h - 1)) = bandOk h i := rfl
  rw [hb]
  unfold touches
  by_cases e : isH h = true
  · simp only [if_pos e]
    refine Ev.up ?_
    by_cases cb : bandOk h i = true
    · simp only [impl_TouchesBand.j0, cb, Bool.not_true, Bool.false_eq_true, if_false, Bool.true_and]
      refine Ev.bind (iObjectBox_ev l g a b c d hm) ?_
      simp only [iCountDots_eq, Option.bind_some, and_some_p]
      exact Ev.now _
    · have c' : bandOk h i = false := by simpa using cb
      simp only [impl_TouchesBand.j0, c', Bool.not_false, if_true, Bool.false_and]; exact Ev.now _
  · simp only [if_neg e]
    have c' : bandOk h i = false := by
      cases hc : bandOk h i
      · rfl
      · exact absurd (bandOk_isH hc) e
    refine Ev.up ?_
    simp only [impl_TouchesBand.j0, c', if_true, Bool.false_and]; exact Ev.now _
theorem sTouchesBand_ev (l : List S151) (g a b c d h i : Int) (hm : l.length ≤ maxLen) : Ev (fun k => spec_TouchesBand.f k l g a b c d h i) (touches l g a b c d h i) := by
  simp only [spec_TouchesBand.f, spec_l12Ok.f, sCountBands_eq, l01In_eq, Option.bind_some]
  have hb : inB i 0 (wrap64 (cntB h - 1)) = bandOk h i := rfl
  rw [hb]
  unfold touches
  refine Ev.bind (sObjectBox_ev l g a b c d hm) ?_
  simp only [sCountDots_eq, Option.bind_some, and_some_p, and_some]
  exact Ev.val (by rw [Bool.decide_eq_true])
end Go.Proofs.YtncfipboidmfbaaGreat.Pure
namespace Go.Proofs.YtncfipboidmfbaaGreat.Pure
open Go.RowKit Go.Proofs.YtncfipboidmfbaaGreat.QFnExactAddToBand Go.Proofs.YtncfipboidmfbaaGreatW.PrintWords Go.Proofs.YtncfipboidmfbaaGreatW.PrintLast Go.Proofs.YtncfipboidmfbaaGreat.Plain

theorem mul_bd {a b A B : Int} (h1 : -A ≤ a) (h2 : a ≤ A) (h3 : -B ≤ b) (h4 : b ≤ B) : -(A * B) ≤ a * b ∧ a * b ≤ A * B := by
  have hA : a.natAbs ≤ A.natAbs := by omega
  have hB : b.natAbs ≤ B.natAbs := by omega
  have h := Nat.mul_le_mul hA hB
  rw [← Int.natAbs_mul, ← Int.natAbs_mul] at h
  have h5 : 0 ≤ A * B := Int.mul_nonneg (by omega) (by omega)
  omega
theorem wmul {a b : Int} (h1 : -4000 ≤ a) (h2 : a ≤ 4000) (h3 : -4000 ≤ b) (h4 : b ≤ 4000) : wrap64 (a * b) = a * b ∧ -16000000 ≤ a * b ∧ a * b ≤ 16000000 := by
  have := mul_bd h1 h2 h3 h4
  exact ⟨wrap_id (by omega) (by omega), by omega, by omega⟩
def crossUp (a b c d X Y : Int) : Bool := decide ((2 * X + 1) * (d - b) < (2 * (d - b) - (2 * Y + 1 - 2 * b)) * a + (2 * Y + 1 - 2 * b) * c)
def crossB (a b c d X Y : Int) : Bool := if (decide (b > Y) == decide (d > Y)) = true then false else if b > d then crossUp c d a b X Y else crossUp a b c d X Y
def inR (a : Int) : Prop := -200 ≤ a ∧ a ≤ 200
theorem inR_coord {a : Int} : coord a = true ↔ inR a := by unfold coord inR; rw [inB_iff]
theorem iCross_eq (a b c d x y : Int) (ha : inR a) (hb : inR b) (hc : inR c) (hd : inR d) (hx : inR x) (hy : inR y) : impl_crosses.f a b c d x y = some (crossB a b c d x y) := by
  unfold inR at *
  unfold impl_crosses.f crossB
  have w1 : wrap64 (2 * b) = 2 * b := wrap_id (by omega) (by omega)
  have w3 : wrap64 (2 * y) = 2 * y := wrap_id (by omega) (by omega)
  have w4 : wrap64 (2 * y + 1) = 2 * y + 1 := wrap_id (by omega) (by omega)
  have w5 : wrap64 (2 * x) = 2 * x := wrap_id (by omega) (by omega)
  have w6 : wrap64 (2 * x + 1) = 2 * x + 1 := wrap_id (by omega) (by omega)
  have w8 : wrap64 (2 * a) = 2 * a := wrap_id (by omega) (by omega)
  have v1 : wrap64 (d - b) = d - b := wrap_id (by omega) (by omega)
  have v2 : wrap64 (c - a) = c - a := wrap_id (by omega) (by omega)
  have v3 : wrap64 (2 * y + 1 - 2 * b) = 2 * y + 1 - 2 * b := wrap_id (by omega) (by omega)
  obtain ⟨m1, m2, m3⟩ := wmul (a := 2 * a) (b := d - b) (by omega) (by omega) (by omega) (by omega)
  obtain ⟨n1, n2, n3⟩ := wmul (a := 2 * y + 1 - 2 * b) (b := c - a) (by omega) (by omega) (by omega) (by omega)
  obtain ⟨o1, o2, o3⟩ := wmul (a := 2 * x + 1) (b := d - b) (by omega) (by omega) (by omega) (by omega)
  have v4 : wrap64 (2 * a * (d - b) + (2 * y + 1 - 2 * b) * (c - a)) = 2 * a * (d - b) + (2 * y + 1 - 2 * b) * (c - a) := wrap_id (by omega) (by omega)
  simp only [w1, w3, w4, w5, w6, w8, v1, v2, v3, m1, n1, o1, v4]
  by_cases h : (decide (b > y) == decide (d > y)) = true
  · simp only [if_pos h]
  · simp only [if_neg h]
    by_cases g : b > d
    · rw [if_pos (show d - b < 0 by omega), if_pos g]
      unfold crossUp
      refine congrArg some (decide_eq_decide.2 ?_)
      simp only [Int.sub_mul, Int.add_mul, Int.mul_sub, Int.mul_add, Int.mul_assoc, Int.mul_comm, Int.mul_left_comm]
      omega
    · rw [if_neg (show ¬ d - b < 0 by omega), if_neg g]
      unfold crossUp
      refine congrArg some (decide_eq_decide.2 ?_)
      simp only [Int.sub_mul, Int.add_mul, Int.mul_sub, Int.mul_add, Int.mul_assoc, Int.mul_comm, Int.mul_left_comm]
      omega
theorem sCross_eq (a b c d x y : Int) (ha : inR a) (hb : inR b) (hc : inR c) (hd : inR d) (hx : inR x) (hy : inR y) : spec_l08Crosses.f a b c d x y = some (crossB a b c d x y) := by
  unfold inR at *
  unfold spec_l08Crosses.f crossB
  have w1 : wrap64 (2 * b) = 2 * b := wrap_id (by omega) (by omega)
  have w2 : wrap64 (2 * d) = 2 * d := wrap_id (by omega) (by omega)
  have w3 : wrap64 (2 * y) = 2 * y := wrap_id (by omega) (by omega)
  have w4 : wrap64 (2 * y + 1) = 2 * y + 1 := wrap_id (by omega) (by omega)
  have w5 : wrap64 (2 * x) = 2 * x := wrap_id (by omega) (by omega)
  have w6 : wrap64 (2 * x + 1) = 2 * x + 1 := wrap_id (by omega) (by omega)
  have w7 : wrap64 (2 * c) = 2 * c := wrap_id (by omega) (by omega)
  have w8 : wrap64 (2 * a) = 2 * a := wrap_id (by omega) (by omega)
  have e1 : decide (2 * b > 2 * y + 1) = decide (b > y) := decide_eq_decide.2 (by omega)
  have e2 : decide (2 * d > 2 * y + 1) = decide (d > y) := decide_eq_decide.2 (by omega)
  simp only [w1, w2, w3, w4, w5, w6, w7, w8, e1, e2]
  by_cases h : (decide (b > y) == decide (d > y)) = true
  · simp only [if_pos h]
  · simp only [if_neg h]
    by_cases g : b > d
    · rw [if_pos g, if_pos g]
      rw [wrap_id (x := 2 * x + 1 - 2 * c) (by omega) (by omega), wrap_id (x := (2 * x + 1 - 2 * c) * 2) (by omega) (by omega), wrap_id (x := b - d) (by omega) (by omega), wrap_id (x := 2 * y + 1 - 2 * d) (by omega) (by omega), wrap_id (x := (2 * y + 1 - 2 * d) * 2) (by omega) (by omega), wrap_id (x := a - c) (by omega) (by omega), (wmul (a := (2 * x + 1 - 2 * c) * 2) (b := b - d) (by omega) (by omega) (by omega) (by omega)).1, (wmul (a := (2 * y + 1 - 2 * d) * 2) (b := a - c) (by omega) (by omega) (by omega) (by omega)).1]
      rw [show (2 * x + 1 - 2 * c) * 2 * (b - d) = 2 * ((2 * x + 1 - 2 * c) * (b - d)) by rw [Int.mul_comm _ 2, Int.mul_assoc], show (2 * y + 1 - 2 * d) * 2 * (a - c) = 2 * ((2 * y + 1 - 2 * d) * (a - c)) by rw [Int.mul_comm _ 2, Int.mul_assoc]]
      unfold crossUp
      refine congrArg some (decide_eq_decide.2 (Iff.trans (show _ ↔ (2 * x + 1 - 2 * c) * (b - d) < (2 * y + 1 - 2 * d) * (a - c) by omega) ?_))
      simp only [Int.sub_mul, Int.add_mul, Int.mul_sub, Int.mul_add, Int.mul_assoc, Int.mul_comm, Int.mul_left_comm]
      omega
    · rw [if_neg g, if_neg g]
      rw [wrap_id (x := 2 * x + 1 - 2 * a) (by omega) (by omega), wrap_id (x := (2 * x + 1 - 2 * a) * 2) (by omega) (by omega), wrap_id (x := d - b) (by omega) (by omega), wrap_id (x := 2 * y + 1 - 2 * b) (by omega) (by omega), wrap_id (x := (2 * y + 1 - 2 * b) * 2) (by omega) (by omega), wrap_id (x := c - a) (by omega) (by omega), (wmul (a := (2 * x + 1 - 2 * a) * 2) (b := d - b) (by omega) (by omega) (by omega) (by omega)).1, (wmul (a := (2 * y + 1 - 2 * b) * 2) (b := c - a) (by omega) (by omega) (by omega) (by omega)).1]
      rw [show (2 * x + 1 - 2 * a) * 2 * (d - b) = 2 * ((2 * x + 1 - 2 * a) * (d - b)) by rw [Int.mul_comm _ 2, Int.mul_assoc], show (2 * y + 1 - 2 * b) * 2 * (c - a) = 2 * ((2 * y + 1 - 2 * b) * (c - a)) by rw [Int.mul_comm _ 2, Int.mul_assoc]]
      unfold crossUp
      refine congrArg some (decide_eq_decide.2 (Iff.trans (show _ ↔ (2 * x + 1 - 2 * a) * (d - b) < (2 * y + 1 - 2 * b) * (c - a) by omega) ?_))
      simp only [Int.sub_mul, Int.add_mul, Int.mul_sub, Int.mul_add, Int.mul_assoc, Int.mul_comm, Int.mul_left_comm]
      omega
def nxt (f : S151) : List S151 → S151
  | [] => f
  | y :: _ => y
def insGo (f : S151) (X Y : Int) : List S151 → Bool → Bool
  | [], b => b
  | x :: r, b => insGo f X Y r (if crossB x.f0 x.f1 (nxt f r).f0 (nxt f r).f1 X Y = true then !b else b)
def inside (l : List S151) (X Y : Int) : Bool := insGo (l.headD z151) X Y l false
theorem nxt_facts (pre rest : List S151) (x : S151) : ¬ ((pre ++ x :: rest).length : Int) = 0 ∧ 0 ≤ Int.tmod ((pre ++ [x]).length : Int) ((pre ++ x :: rest).length : Int) ∧ Int.tmod ((pre ++ [x]).length : Int) ((pre ++ x :: rest).length : Int) < ((pre ++ x :: rest).length : Int) ∧
    rd_T151 (pre ++ x :: rest) (Int.tmod ((pre ++ [x]).length : Int) ((pre ++ x :: rest).length : Int)) = nxt ((pre ++ x :: rest).headD z151) rest ∧ nxt ((pre ++ x :: rest).headD z151) rest ∈ pre ++ x :: rest := by
  have hn : ((pre ++ x :: rest).length : Int) = pre.length + 1 + rest.length := mid_len
  have hp : ((pre ++ [x]).length : Int) = pre.length + 1 := by simp
  refine ⟨by omega, ?_⟩
  rw [Int.tmod_eq_emod_of_nonneg (by omega)]
  match rest with
  | [] =>
    have e : ((pre ++ [x]).length : Int) % ((pre ++ [x]).length : Int) = 0 := Int.emod_self
    have hpos : (0 : Int) < ((pre ++ [x]).length : Int) := by omega
    refine ⟨by rw [e]; omega, by rw [e]; exact hpos, ?_, ?_⟩
    · rw [e]; unfold rd_T151 nxt; cases pre <;> rfl
    · unfold nxt; cases pre <;> simp
  | y :: r =>
    rw [List.length_cons] at hn
    have e : ((pre ++ [x]).length : Int) % ((pre ++ x :: y :: r).length : Int) = ((pre ++ [x]).length : Int) := Int.emod_eq_of_lt (by omega) (by omega)
    rw [e]
    refine ⟨by omega, by omega, ?_, ?_⟩
    · unfold rd_T151 nxt
      rw [show pre ++ x :: y :: r = (pre ++ [x]) ++ y :: r by simp, Int.toNat_natCast, mid_get]
    · unfold nxt; simp
def allR (l : List S151) : Prop := ∀ p ∈ l, inR p.f0 ∧ inR p.f1
theorem allR_of {l : List S151} (h : ptsOk l = true) : allR l := by
  intro p hp
  unfold ptsOk at h
  have := List.all_eq_true.1 h p hp
  rw [Bool.and_eq_true] at this
  exact ⟨inR_coord.1 this.1, inR_coord.1 this.2⟩
def pathB (l : List S151) : Bool := ptsOk l && decide ((l.length : Int) ≤ 8)
theorem pathOk_ev (l : List S151) (hm : l.length ≤ maxLen) : Ev (fun k => impl_pathOk.f k l) (pathB l) := by
  simp only [impl_pathOk.f]
  unfold pathB
  rw [Bool.and_comm]
  exact Ev.andP (fun _ => Ev.bind (pointsOk_ev l hm) (Ev.now _))
theorem insidePath_ev (l : List S151) (X Y : Int) (hm : l.length ≤ maxLen) (hX : inR X) (hY : inR Y) (hp : pathB l = true) : Ev (fun k => impl_InsidePath.f k l X Y) (inside l X Y) := by
  simp only [impl_InsidePath.f, coordOk_eq, Option.bind_some, inR_coord.2 hX, inR_coord.2 hY, if_true, Bool.not_true]
  refine Ev.bind (pathOk_ev l hm) ?_
  simp only [hp, if_true]
  refine Ev.up ?_
  simp only [impl_InsidePath.j0, Bool.false_eq_true, if_false]
  have hR : allR l := allR_of (by unfold pathB at hp; rw [Bool.and_eq_true] at hp; exact hp.1)
  unfold inside
  generalize hf : l.headD z151 = f
  refine ev_loop l (F := fun k s i => impl_InsidePath.l0 k l X Y s l l.length i) (fun _ _ _ => True) (fun _ r s => insGo f X Y r s) ?_ ?_ false trivial
  · intro s _; simp only [impl_InsidePath.l0, end_lt, if_false]; exact Ev.now _
  · rintro pre x rest s e _ ih
    subst e
    obtain ⟨f0, f1, f2, f3, f4⟩ := nxt_facts pre rest x
    rw [hf] at f3 f4
    have h1 := hR x (by simp)
    have h2 := hR _ f4
    simp only [impl_InsidePath.l0, mid_lt, mid_nn, mid_wrap hm, if_true, if_neg f0, if_pos f1, if_pos f2, f3, insGo]
    simp only [rd_T151, Int.toNat_natCast, mid_get, iCross_eq _ _ _ _ _ _ h1.1 h1.2 h2.1 h2.2 hX hY, Option.bind_some]
    refine Ev.ite (fun c => ?_) (fun c => ?_)
    · rw [if_pos c]; exact ih _ trivial
    · rw [if_neg c]; exact ih _ trivial
theorem l08In_ev (l : List S151) (X Y : Int) (hm : l.length ≤ maxLen) (hX : inR X) (hY : inR Y) (hR : allR l) : Ev (fun k => spec_l08In.f k l X Y) (inside l X Y) := by
  simp only [spec_l08In.f]
  unfold inside
  generalize hf : l.headD z151 = f
  refine ev_loop l (F := fun k s i => spec_l08In.l0 k l X Y s i) (fun _ _ _ => True) (fun _ r s => insGo f X Y r s) ?_ ?_ false trivial
  · intro s _; simp only [spec_l08In.l0, end_lt, if_false]; exact Ev.now _
  · rintro pre x rest s e _ ih
    subst e
    obtain ⟨f0, f1, f2, f3, f4⟩ := nxt_facts pre rest x
    rw [hf] at f3 f4
    have h1 := hR x (by simp)
    have h2 := hR _ f4
    simp only [spec_l08In.l0, mid_lt, mid_nn, mid_wrap hm, if_true, if_neg f0, if_pos f1, if_pos f2, f3, insGo]
    simp only [rd_T151, Int.toNat_natCast, mid_get, sCross_eq _ _ _ _ _ _ h1.1 h1.2 h2.1 h2.2 hX hY, Option.bind_some]
    refine Ev.ite (fun c => ?_) (fun c => ?_)
    · rw [if_pos c]; exact ih _ trivial
    · rw [if_neg c]; exact ih _ trivial
/-- Right of all points no side counts. -/
theorem crossB_right {a b c d X Y : Int} (h1 : a ≤ X) (h2 : c ≤ X) : crossB a b c d X Y = false := by
  have main : ∀ a b c d : Int, a ≤ X → c ≤ X → b ≤ Y → Y < d → crossUp a b c d X Y = false := by
    intro a b c d h1 h2 h3 h4
    unfold crossUp
    refine decide_eq_false ?_
    generalize hu : 2 * (d - b) - (2 * Y + 1 - 2 * b) = u
    generalize ht : 2 * Y + 1 - 2 * b = t
    have e1 := Int.mul_le_mul_of_nonneg_left h1 (show 0 ≤ u by omega)
    have e2 := Int.mul_le_mul_of_nonneg_left h2 (show 0 ≤ t by omega)
    have e3 : u * X + t * X = 2 * (d - b) * X := by rw [← Int.add_mul]; congr 1; omega
    have e4 : (2 * X + 1) * (d - b) = 2 * (d - b) * X + (d - b) := by rw [Int.add_mul, Int.one_mul, Int.mul_assoc, Int.mul_assoc, Int.mul_comm X]
    omega
  unfold crossB
  by_cases h : (decide (b > Y) == decide (d > Y)) = true
  · rw [if_pos h]
  · rw [if_neg h]
    have h' : ¬ (b > Y ↔ d > Y) := by simpa using h
    split
    · exact main c d a b h2 h1 (by omega) (by omega)
    · exact main a b c d h1 h2 (by omega) (by omega)
/-- Left of all points every side counts that passes the height. -/
theorem crossB_left {a b c d X Y : Int} (h1 : X < a) (h2 : X < c) : crossB a b c d X Y = (decide (b > Y) ^^ decide (d > Y)) := by
  have main : ∀ a b c d : Int, X < a → X < c → b ≤ Y → Y < d → crossUp a b c d X Y = true := by
    intro a b c d h1 h2 h3 h4
    unfold crossUp
    refine decide_eq_true ?_
    generalize hu : 2 * (d - b) - (2 * Y + 1 - 2 * b) = u
    generalize ht : 2 * Y + 1 - 2 * b = t
    have e1 := Int.mul_le_mul_of_nonneg_left (show X + 1 ≤ a by omega) (show 0 ≤ u by omega)
    have e2 := Int.mul_le_mul_of_nonneg_left (show X + 1 ≤ c by omega) (show 0 ≤ t by omega)
    have e3 : u * (X + 1) + t * (X + 1) = 2 * (d - b) * (X + 1) := by rw [← Int.add_mul]; congr 1; omega
    have e4 : (2 * X + 1) * (d - b) = 2 * (d - b) * X + (d - b) := by rw [Int.add_mul, Int.one_mul, Int.mul_assoc, Int.mul_assoc, Int.mul_comm X]
    have e5 : 2 * (d - b) * (X + 1) = 2 * (d - b) * X + 2 * (d - b) := by rw [Int.mul_add, Int.mul_one]
    omega
  unfold crossB
  by_cases h : (decide (b > Y) == decide (d > Y)) = true
  · rw [if_pos h]
    have h' : decide (b > Y) = decide (d > Y) := by simpa using h
    rw [h', Bool.xor_self]
  · rw [if_neg h]
    have h' : ¬ (b > Y ↔ d > Y) := by simpa using h
    have hx : (decide (b > Y) ^^ decide (d > Y)) = true := by
      by_cases g1 : b > Y <;> by_cases g2 : d > Y <;> simp [g1, g2] at h' ⊢
    rw [hx]
    split
    · exact main c d a b h2 h1 (by omega) (by omega)
    · exact main a b c d h1 h2 (by omega) (by omega)
theorem ins_right (f : S151) (X Y : Int) (hf : f.f0 ≤ X) : ∀ (l : List S151) (b : Bool), (∀ p ∈ l, p.f0 ≤ X) → insGo f X Y l b = b
  | [], b, _ => rfl
  | x :: r, b, h => by
    have hn : (nxt f r).f0 ≤ X := by
      cases r with
      | nil => exact hf
      | cons y r => exact h y (by simp)
    rw [insGo, crossB_right (h x (by simp)) hn]
    exact ins_right f X Y hf r b (fun p hp => h p (by simp [hp]))
theorem ins_left (f : S151) (X Y : Int) (hf : X < f.f0) : ∀ (x : S151) (l : List S151) (b : Bool), (∀ p ∈ x :: l, X < p.f0) → insGo f X Y (x :: l) b = (b ^^ (decide (x.f1 > Y) ^^ decide (f.f1 > Y)))
  | x, [], b, h => by
    rw [insGo, insGo, nxt, crossB_left (h x (by simp)) hf]
    cases b <;> cases decide (x.f1 > Y) <;> cases decide (f.f1 > Y) <;> rfl
  | x, y :: r, b, h => by
    rw [insGo, nxt, crossB_left (h x (by simp)) (h y (by simp)), ins_left f X Y hf y r _ (fun p hp => h p (by simp [List.mem_cons.1 hp]))]
    cases b <;> cases decide (x.f1 > Y) <;> cases decide (f.f1 > Y) <;> cases decide (y.f1 > Y) <;> rfl
theorem inside_right (l : List S151) (X Y : Int) (h : ∀ p ∈ l, p.f0 ≤ X) : inside l X Y = false := by
  unfold inside
  cases l with
  | nil => rfl
  | cons x r => exact ins_right _ X Y (h x (by simp)) _ _ h
theorem inside_left (l : List S151) (X Y : Int) (h : ∀ p ∈ l, X < p.f0) : inside l X Y = false := by
  unfold inside
  cases l with
  | nil => rfl
  | cons x r =>
    have := ins_left x X Y (h x (by simp)) x r false h
    simpa using this
def stepS (f : Int → Bool) (s : List S146) (x : Int) : List S146 :=
  if f x = true then
    match s.getLast? with
    | some r => if r.f1 = x then s.dropLast ++ [⟨r.f0, x + 1⟩] else s ++ [⟨x, x + 1⟩]
    | none => [⟨x, x + 1⟩]
  else s
def scan (f : Int → Bool) : Nat → Int → List S146 → List S146
  | 0, _, s => s
  | n + 1, x, s => scan f n (x + 1) (stepS f s x)
theorem scan_add (f : Int → Bool) : ∀ (n m : Nat) (x : Int) (s : List S146), scan f (n + m) x s = scan f m (x + n) (scan f n x s)
  | 0, m, x, s => by simp [scan]
  | n + 1, m, x, s => by
    rw [show n + 1 + m = (n + m) + 1 by omega, scan, scan_add f n m, scan, show x + 1 + (n : Int) = x + ((n + 1 : Nat) : Int) by omega]
theorem scan_snoc (f : Int → Bool) (n : Nat) (x : Int) (s : List S146) : scan f (n + 1) x s = stepS f (scan f n x s) (x + n) := by rw [scan_add]; rfl
theorem scan_none (f : Int → Bool) : ∀ (n : Nat) (x : Int) (s : List S146), (∀ y, x ≤ y → y < x + n → f y = false) → scan f n x s = s
  | 0, _, _, _ => rfl
  | n + 1, x, s, h => by
    have h0 := h x (by omega) (by omega)
    rw [scan, show stepS f s x = s by unfold stepS; rw [h0]; rfl]
    exact scan_none f n (x + 1) s (fun y h1 h2 => h y (by omega) (by omega))
theorem stepS_inv (f : Int → Bool) (s : List S146) (x : Int) (n : Nat) (h : s.length ≤ n) : (stepS f s x).length ≤ n + 1 := by
  unfold stepS
  split
  · cases e : s.getLast? with
    | none => simp
    | some r =>
      simp only
      split
      · have hne : s ≠ [] := by rintro rfl; simp at e
        have := List.length_pos_iff.2 hne
        simp; omega
      · simp; omega
  · omega
theorem scan_len (f : Int → Bool) : ∀ (n m : Nat) (x : Int) (s : List S146), s.length ≤ m → (scan f n x s).length ≤ m + n
  | 0, m, x, s, h => h
  | n + 1, m, x, s, h => by
    have := scan_len f n (m + 1) (x + 1) _ (stepS_inv f s x m h)
    rw [scan]; omega
def spansAt (l : List S151) (Y : Int) : List S146 := if pathB l = true ∧ coord Y = true then scan (fun X => inside l X Y) 401 (-200) [] else []
theorem spansAt_len (l : List S151) (Y : Int) : (spansAt l Y).length ≤ 401 := by
  unfold spansAt
  split
  · have := scan_len (fun X => inside l X Y) 401 0 (-200) [] (by simp); omega
  · simp
theorem step_span {β : Type} (s : List S146) (hs : s.length ≤ 1000) (x : Int) (hx : inR x) (G : Nat → List S146 → Option β) (r : β) (f : Int → Bool) (hf : f x = true) (h : Ev (fun k => G k (stepS f s x)) r) :
    Ev (fun k => if (s.length : Int) > 0 then (if 0 ≤ (wrap64 ((s.length : Int) - 1)) then (if (wrap64 ((s.length : Int) - 1)) < (s.length : Int) then (if ((rd_T146 s (wrap64 ((s.length : Int) - 1))).f1) = x then (G k (s.set ((wrap64 ((s.length : Int) - 1)) : Int).toNat (⟨(rd_T146 s (wrap64 ((s.length : Int) - 1))).f0, wrap64 (((rd_T146 s (wrap64 ((s.length : Int) - 1))).f1) + 1)⟩ : S146))) else (if s.length < 8796093022208 then (G k (s ++ [(⟨x, wrap64 (x + 1)⟩ : S146)])) else (none))) else (none)) else (none)) else (if s.length < 8796093022208 then (G k (s ++ [(⟨x, wrap64 (x + 1)⟩ : S146)])) else (none))) r := by
  obtain ⟨x0, x1⟩ := hx
  have c4 : s.length < 8796093022208 := by omega
  have w : wrap64 (x + 1) = x + 1 := wrap_id (by omega) (by omega)
  unfold stepS at h
  rw [if_pos hf] at h
  rcases List.eq_nil_or_concat s with rfl | ⟨q, y, rfl⟩
  · have c0 : ¬ (([] : List S146).length : Int) > 0 := by simp
    simp only [if_neg c0, if_pos c4, w]
    exact h
  · rw [List.concat_eq_append] at *
    have c0 : ((q ++ [y]).length : Int) > 0 := by simp <;> omega
    have e1 : wrap64 (((q ++ [y]).length : Int) - 1) = (q.length : Int) := by rw [wrap_id (by simp <;> omega) (by omega)]; simp
    have c2 : (q.length : Int) < ((q ++ [y]).length : Int) := by simp <;> omega
    have e2 : rd_T146 (q ++ [y]) (q.length : Int) = y := by simp [rd_T146, List.getD_eq_getElem?_getD]
    simp only [if_pos c0, e1, mid_nn, if_true, if_pos c2, e2, Int.toNat_natCast, if_pos c4, w]
    simp only [List.getLast?_append, List.getLast?_singleton, Option.some_or, List.dropLast_concat] at h
    by_cases c : y.f1 = x
    · have e4 : (q ++ [y]).set q.length (⟨y.f0, x + 1⟩ : S146) = q ++ [⟨y.f0, x + 1⟩] := by rw [List.set_append_right _ _ (Nat.le_refl _)]; simp
      simp only [c, if_true, w, e4] at h ⊢; exact h
    · simp only [if_neg c] at h ⊢; exact h
theorem iSpansAt_ev (l : List S151) (Y : Int) (hm : l.length ≤ maxLen) : Ev (fun k => impl_SpansAt.f k l Y) (spansAt l Y) := by
  simp only [impl_SpansAt.f, coordOk_eq, Option.bind_some]
  unfold spansAt
  refine Ev.bind (pathOk_ev l hm) ?_
  by_cases hp : pathB l = true
  · simp only [if_pos hp]
    by_cases hY : coord Y = true
    · rw [if_pos ⟨hp, hY⟩]
      refine Ev.up ?_
      simp only [impl_SpansAt.j0, hY, Bool.not_true, Bool.false_eq_true, if_false]
      refine ev_range (F := fun k s x => impl_SpansAt.l0 k l Y s x) (-200) 201 (by omega) (fun x s => s.length ≤ (x + 200).toNat ∧ scan (fun X => inside l X Y) (201 - x).toNat x s = scan (fun X => inside l X Y) 401 (-200) []) _ ?_ ?_ [] ⟨by simp, rfl⟩
      · rintro s ⟨_, hs⟩
        simp only [impl_SpansAt.l0]
        rw [← hs]
        exact Ev.now _
      · rintro x s h0 h1 ⟨hl, hs⟩ ih
        have hx : inR x := ⟨h0, by omega⟩
        have w : wrap64 (x + 1) = x + 1 := wrap_id (by omega) (by omega)
        have c1 : x ≤ 200 := by omega
        have hn : (201 - x).toNat = (201 - (x + 1)).toNat + 1 := by omega
        rw [hn, scan] at hs
        have hi := ih _ ⟨by rw [show (x + 1 + 200).toNat = (x + 200).toNat + 1 by omega]; exact stepS_inv _ s x _ hl, hs⟩
        simp only [impl_SpansAt.l0, if_pos c1, w]
        refine Ev.bind (insidePath_ev l x Y hm hx (inR_coord.1 hY) hp) (Ev.iteB (fun c => ?_) (fun c => ?_))
        · have := step_span s (by omega) x hx (fun k s' => impl_SpansAt.l0 k l Y s' (x + 1)) _ (fun X => inside l X Y) c hi
          simpa only [w] using this
        · have e : stepS (fun X => inside l X Y) s x = s := by unfold stepS; simp only [c]; rfl
          rw [e] at hi; exact hi
    · rw [if_neg (fun h => hY h.2)]
      refine Ev.up ?_
      have hY' : coord Y = false := by simpa using hY
      simp only [impl_SpansAt.j0, hY', Bool.not_false, if_true]; exact Ev.now _
  · rw [if_neg (fun h => hp h.1)]
    simp only [if_neg hp]
    refine Ev.up ?_
    simp only [impl_SpansAt.j0, if_true]; exact Ev.now _
theorem boxFrom_facts : ∀ (l : List S151) (b : BoxT), (boxFrom l b).1 ≤ b.1 ∧ b.2.2.1 ≤ (boxFrom l b).2.2.1 ∧ (∀ p ∈ l, (boxFrom l b).1 ≤ p.f0 ∧ p.f0 ≤ (boxFrom l b).2.2.1) ∧ (inR b.1 → allR l → inR (boxFrom l b).1) ∧ (inR b.2.2.1 → allR l → inR (boxFrom l b).2.2.1)
  | [], b => by
    refine ⟨Int.le_refl _, Int.le_refl _, fun p hp => absurd hp (by simp), fun h _ => h, fun h _ => h⟩
  | x :: r, b => by
    have h := boxFrom_facts r (mn b.1 x.f0, mn b.2.1 x.f1, mx b.2.2.1 x.f0, mx b.2.2.2 x.f1)
    rw [boxFrom]
    generalize boxFrom r (mn b.1 x.f0, mn b.2.1 x.f1, mx b.2.2.1 x.f0, mx b.2.2.2 x.f1) = B at h ⊢
    obtain ⟨h1, h2, h3, h4, h5⟩ := h
    simp only at h1 h2 h4 h5
    have e1 : mn b.1 x.f0 ≤ b.1 ∧ mn b.1 x.f0 ≤ x.f0 := by unfold mn; omega
    have e2 : b.2.2.1 ≤ mx b.2.2.1 x.f0 ∧ x.f0 ≤ mx b.2.2.1 x.f0 := by unfold mx; omega
    refine ⟨by omega, by omega, fun p hp => ?_, fun hb hr => h4 ?_ (fun q hq => hr q (by simp [hq])), fun hb hr => h5 ?_ (fun q hq => hr q (by simp [hq]))⟩
    · rcases List.mem_cons.1 hp with rfl | hp
      · omega
      · exact h3 p hp
    · have := (hr x (by simp)).1; unfold inR mn at *; omega
    · have := (hr x (by simp)).1; unfold inR mx at *; omega
theorem boxOf_facts (l : List S151) (hp : ptsOk l = true) : inR (boxOf l).1 ∧ inR (boxOf l).2.2.1 ∧ (boxOf l).1 ≤ (boxOf l).2.2.1 ∧ ∀ p ∈ l, (boxOf l).1 ≤ p.f0 ∧ p.f0 ≤ (boxOf l).2.2.1 := by
  have hR := allR_of hp
  match l, hp, hR with
  | [], _, _ => simp [boxOf, inR]
  | x :: r, hp, hR =>
    have e : boxOf (x :: r) = boxFrom r (x.f0, x.f1, x.f0, x.f1) := if_pos hp
    rw [e]
    obtain ⟨h1, h2, h3, h4, h5⟩ := boxFrom_facts r (x.f0, x.f1, x.f0, x.f1)
    have hx := (hR x (by simp)).1
    have hr : allR r := fun q hq => hR q (by simp [hq])
    simp only at h1 h2 h4 h5
    refine ⟨h4 hx hr, h5 hx hr, by omega, fun p hp => ?_⟩
    rcases List.mem_cons.1 hp with rfl | hp
    · exact ⟨h1, h2⟩
    · exact h3 p hp
theorem sSpansAt_ev (l : List S151) (Y : Int) (hm : l.length ≤ maxLen) : Ev (fun k => spec_SpansAt.f k l Y) (spansAt l Y) := by
  simp only [spec_SpansAt.f, l02In_eq, Option.bind_some]
  unfold spansAt
  have hP : pathB l = (ptsOk l && decide ((l.length : Int) ≤ 8)) := rfl
  refine Ev.bind (l07Points_ev l hm) ?_
  rw [← hP]
  by_cases hp : pathB l = true
  · simp only [if_pos hp]
    by_cases hY : coord Y = true
    · rw [if_pos ⟨hp, hY⟩]
      refine Ev.up ?_
      simp only [spec_SpansAt.j0, hY, Bool.not_true, Bool.false_eq_true, if_false]
      refine Ev.bind (sBoxOf_ev l hm) ?_
      have hpt : ptsOk l = true := by rw [hP, Bool.and_eq_true] at hp; exact hp.1
      have hR := allR_of hpt
      have hYr := inR_coord.1 hY
      obtain ⟨b0, b1, b2, b3⟩ := boxOf_facts l hpt
      generalize boxOf l = B at b0 b1 b2 b3 ⊢
      unfold inR at b0 b1
      have fl : ∀ X, X < B.1 → inside l X Y = false := fun X h => inside_left l X Y (fun p hp => by have := b3 p hp; omega)
      have fr : ∀ X, B.2.2.1 ≤ X → inside l X Y = false := fun X h => inside_right l X Y (fun p hp => by have := b3 p hp; omega)
      generalize hf : (fun X => inside l X Y) = f
      have hfe : ∀ X, inside l X Y = f X := fun X => by rw [← hf]
      simp only [hfe] at fl fr
      -- the scan of the box is the scan of all
      have hall : scan f 401 (-200) [] = scan f (B.2.2.1 + 1 - B.1).toNat B.1 [] := by
        rw [show (401 : Nat) = (B.1 + 200).toNat + ((B.2.2.1 + 1 - B.1).toNat + (200 - B.2.2.1).toNat) by omega, scan_add, scan_add]
        rw [scan_none f _ (-200) [] (fun y h1 h2 => fl y (by omega))]
        rw [show (-200 : Int) + ((B.1 + 200).toNat : Int) = B.1 by omega]
        exact scan_none f _ _ _ (fun y h1 h2 => fr y (by omega))
      rw [hall]
      refine ev_range (F := fun k (s : List S146 × Int × Bool) x => spec_SpansAt.l0 k l Y s.1 s.2.1 s.2.2 x B.1 B.2.1 B.2.2.1 B.2.2.2) B.1 (B.2.2.1 + 1) (by omega)
        (fun x s => s.1.length ≤ (x - B.1).toNat ∧ (B.1 < x → s.2.2 = f (x - 1)) ∧ (x = B.1 → s.2.2 = false) ∧ (if s.2.2 = true then scan f (x - B.1).toNat B.1 [] = s.1 ++ [⟨s.2.1, x⟩] else (scan f (x - B.1).toNat B.1 [] = s.1 ∧ ∀ r ∈ s.1.getLast?, r.f1 < x))) _ ?_ ?_ ([], B.1, false) ⟨by simp, fun h => absurd h (by omega), fun _ => rfl, by simp [scan]⟩
      · rintro ⟨s, st, was⟩ ⟨_, hw, _, hs⟩
        have hw' : was = false := by
          have := hw (by omega)
          simp only at this
          rw [this]; exact fr _ (by omega)
        subst hw'
        simp only [Bool.false_eq_true, if_false] at hs
        have cn : ¬ B.2.2.1 + 1 ≤ B.2.2.1 := by omega
        simp only [spec_SpansAt.l0, if_neg cn]
        exact Ev.val hs.1.symm
      · rintro x ⟨s, st, was⟩ h0 h1 ⟨hl, hw, hw0, hs⟩ ih
        simp only at hl hw hw0 hs
        have hx : inR x := ⟨by omega, by omega⟩
        have w : wrap64 (x + 1) = x + 1 := wrap_id (by omega) (by omega)
        have c1 : x ≤ B.2.2.1 := by omega
        have hn : (x + 1 - B.1).toNat = (x - B.1).toNat + 1 := by omega
        have hsc : scan f (x + 1 - B.1).toNat B.1 [] = stepS f (scan f (x - B.1).toNat B.1 []) x := by
          rw [hn, scan_snoc, show B.1 + ((x - B.1).toNat : Int) = x by omega]
        have c4 : s.length < 8796093022208 := by omega
        simp only [spec_SpansAt.l0, if_pos c1]
        refine Ev.bind (l08In_ev l x Y hm hx hYr hR) ?_
        rw [hfe]
        have hx1 : x + 1 - 1 = x := by omega
        cases hfx : f x with
        | false =>
          simp only [Bool.false_eq_true, if_false]
          refine Ev.up ?_
          simp only [spec_SpansAt.j2, Bool.false_eq_true, if_false, w]
          have hst : stepS f (scan f (x - B.1).toNat B.1 []) x = scan f (x - B.1).toNat B.1 [] := by unfold stepS; rw [hfx]; rfl
          rw [hst] at hsc
          cases was with
          | true =>
            simp only [if_true, if_pos c4] at hs ⊢
            refine ih (s ++ [⟨st, x⟩], st, false) ⟨by simp; omega, fun _ => by rw [hx1, hfx], fun _ => rfl, ?_⟩
            simp only [Bool.false_eq_true, if_false]
            refine ⟨by rw [hsc, hs], fun r hr => ?_⟩
            have : r = ⟨st, x⟩ := by simpa using hr.symm
            subst this
            simp only; omega
          | false =>
            simp only [Bool.false_eq_true, if_false] at hs ⊢
            refine ih (s, st, false) ⟨by simp only; omega, fun _ => by rw [hx1, hfx], fun _ => rfl, ?_⟩
            simp only [Bool.false_eq_true, if_false]
            exact ⟨by rw [hsc, hs.1], fun r hr => by have := hs.2 r hr; omega⟩
        | true =>
          simp only [if_true]
          refine Ev.up ?_
          cases was with
          | true =>
            simp only [spec_SpansAt.j2, Bool.not_true, Bool.false_eq_true, if_false, if_true, w] at hs ⊢
            refine ih (s, st, true) ⟨by simp only; omega, fun _ => by rw [hx1, hfx], fun h => absurd h (by omega), ?_⟩
            simp only [if_true]
            rw [hsc, hs]
            unfold stepS
            rw [if_pos hfx]
            simp
          | false =>
            simp only [spec_SpansAt.j2, Bool.not_false, Bool.false_eq_true, if_false, if_true, w] at hs ⊢
            refine ih (s, x, true) ⟨by simp only; omega, fun _ => by rw [hx1, hfx], fun h => absurd h (by omega), ?_⟩
            simp only [if_true]
            rw [hsc, hs.1]
            unfold stepS
            rw [if_pos hfx]
            cases hg : s.getLast? with
            | none =>
              have : s = [] := List.getLast?_eq_none_iff.1 hg
              simp [this]
            | some r =>
              have hr := hs.2 r (by rw [hg]; rfl)
              have hne : ¬ r.f1 = x := by omega
              simp only [if_neg hne]
    · rw [if_neg (fun h => hY h.2)]
      refine Ev.up ?_
      have hY' : coord Y = false := by simpa using hY
      simp only [spec_SpansAt.j0, hY', Bool.not_false, if_true]; exact Ev.now _
  · rw [if_neg (fun h => hp h.1)]
    simp only [if_neg hp]
    refine Ev.up ?_
    simp only [spec_SpansAt.j0, if_true]; exact Ev.now _
end Go.Proofs.YtncfipboidmfbaaGreat.Pure
namespace Go.Proofs.YtncfipboidmfbaaGreat.Pure
open Go.RowKit Go.Proofs.YtncfipboidmfbaaGreat.QFnExactAddToBand Go.Proofs.YtncfipboidmfbaaGreatW.PrintWords Go.Proofs.YtncfipboidmfbaaGreatW.PrintLast Go.Proofs.YtncfipboidmfbaaGreat.Plain

theorem wrapR (a b : Int) : wrap64 (a + wrap64 b) = wrap64 (a + b) := by unfold wrap64; omega
theorem wrapL (a b : Int) : wrap64 (wrap64 a + b) = wrap64 (a + b) := by unfold wrap64; omega
theorem wrapS (a b c : Int) : wrap64 (wrap64 (a + b) - c) = wrap64 (a + (b - c)) := by unfold wrap64; omega
theorem last_gt {α : Type} (pre : List α) (y x : α) (rest : List α) (z : α) (hm : ((pre ++ [y]) ++ x :: rest).length ≤ maxLen) :
    wrap64 (((pre ++ [y]).length : Int) - 1) = (pre.length : Int) ∧ ((pre ++ [y]) ++ x :: rest).getD pre.length z = y := by
  rw [maxLen_eq] at hm
  simp at hm
  refine ⟨by rw [wrap_id (by simp <;> omega) (by simp <;> omega)]; simp, by simp [List.getD_eq_getElem?_getD]⟩
def okPrev : Option Int → Int → Bool
  | none, _ => true
  | some t, a => !decide (t ≥ a)
def spFrom : Option Int → List S146 → Bool
  | _, [] => true
  | p, x :: r => !decide (x.f0 ≥ x.f1) && (okPrev p x.f0 && spFrom (some x.f1) r)
def spansOk (l : List S146) : Bool := decide ((l.length : Int) ≤ 8) && spFrom none l
theorem spansOk_len {l : List S146} (h : spansOk l = true) : l.length ≤ 8 := by unfold spansOk at h; simp at h; omega
theorem iSpansOk_ev (l : List S146) (hm : l.length ≤ maxLen) : Ev (fun k => impl_SpansOk.f k l) (spansOk l) := by
  simp only [impl_SpansOk.f]
  unfold spansOk
  by_cases c8 : (l.length : Int) > 8
  · have e : decide ((l.length : Int) ≤ 8) = false := decide_eq_false (by omega)
    simp only [if_pos c8, e, Bool.false_and]; exact Ev.now _
  · have e : decide ((l.length : Int) ≤ 8) = true := decide_eq_true (by omega)
    simp only [if_neg c8, e, Bool.true_and]
    refine ev_loop0 l (F := fun k i => impl_SpansOk.l0 k l l l.length i) (fun p r => spFrom (p.getLast?.map (·.f1)) r) ?_ (fun pre x rest e h => ?_)
    · simp only [impl_SpansOk.l0, end_lt, if_false]; exact Ev.now _
    · clear c8
      subst e
      rw [List.getLast?_append, List.getLast?_singleton] at h
      simp only [impl_SpansOk.l0, mid_lt, mid_nn, mid_wrap hm, if_true, rd_T146, Int.toNat_natCast, mid_get, spFrom]
      refine Ev.ite (fun c => Ev.val (by rw [decide_eq_true c]; rfl)) (fun c => ?_)
      rw [decide_eq_false c, Bool.not_false, Bool.true_and]
      rcases List.eq_nil_or_concat pre with rfl | ⟨q, y, rfl⟩
      · simp only [List.length_nil, Int.ofNat_zero, gt_iff_lt, Int.lt_irrefl, if_false] at h ⊢
        exact h
      · obtain ⟨h1, h2⟩ := last_gt q y x rest z146 (by simpa using hm)
        rw [List.concat_eq_append] at *
        have c1 : ((q ++ [y]).length : Int) > 0 := by simp <;> omega
        have c2 : (q.length : Int) < (((q ++ [y]) ++ x :: rest).length : Int) := by simp; omega
        simp only [h1, c1, c2, mid_nn, if_true, Int.toNat_natCast, h2, List.getLast?_append, List.getLast?_singleton]
        refine Ev.ite (fun d => Ev.val ?_) (fun d => ?_)
        · show false = (!decide (y.f1 ≥ x.f0) && _)
          rw [decide_eq_true d]; rfl
        · show Ev _ (!decide (y.f1 ≥ x.f0) && _)
          rw [decide_eq_false d]
          exact h
theorem sSpansOk_ev (l : List S146) (hm : l.length ≤ maxLen) : Ev (fun k => spec_SpansOk.f k l) (spansOk l) := by
  simp only [spec_SpansOk.f]
  unfold spansOk
  rw [Bool.and_comm]
  refine ev_loop0 l (F := fun k i => spec_SpansOk.l0 k l i) (fun p r => spFrom (p.getLast?.map (·.f1)) r && decide ((l.length : Int) ≤ 8)) ?_ (fun pre x rest e h => ?_)
  · simp only [spec_SpansOk.l0, end_lt, if_false, spFrom, Bool.true_and]; exact Ev.now _
  · have e0 := e
    subst e
    rw [List.getLast?_append, List.getLast?_singleton] at h
    simp only [spec_SpansOk.l0, mid_lt, mid_nn, mid_wrap hm, if_true, rd_T146, Int.toNat_natCast, mid_get, spFrom]
    refine Ev.ite (fun c => Ev.val (by rw [decide_eq_true c]; rfl)) (fun c => ?_)
    rw [decide_eq_false c, Bool.not_false, Bool.true_and]
    rcases List.eq_nil_or_concat pre with rfl | ⟨q, y, rfl⟩
    · simp only [List.length_nil, Int.ofNat_zero, gt_iff_lt, Int.lt_irrefl, if_false] at h ⊢
      exact h
    · obtain ⟨h1, h2⟩ := last_gt q y x rest z146 (by simpa using hm)
      rw [List.concat_eq_append] at *
      have c1 : ((q ++ [y]).length : Int) > 0 := by simp <;> omega
      have c2 : (q.length : Int) < (((q ++ [y]) ++ x :: rest).length : Int) := by simp; omega
      simp only [h1, c1, c2, mid_nn, if_true, Int.toNat_natCast, h2, List.getLast?_append, List.getLast?_singleton]
      refine Ev.ite (fun d => Ev.val ?_) (fun d => ?_)
      · show false = ((!decide (y.f1 ≥ x.f0) && _) && _)
        rw [decide_eq_true d]; rfl
      · show Ev _ ((!decide (y.f1 ≥ x.f0) && _) && _)
        rw [decide_eq_false d]
        exact h
def meetGo (a b : Int) : List S146 → List S146 → List S146
  | [], s => s
  | x :: r, s => meetGo a b r (if mx x.f0 a < mn x.f1 b then s ++ [⟨mx x.f0 a, mn x.f1 b⟩] else s)
def meetSp (l : List S146) (a b : Int) : List S146 := if spansOk l = true then meetGo a b l [] else []
theorem meetGo_len (a b : Int) : ∀ l s : List S146, (meetGo a b l s).length ≤ s.length + l.length
  | [], s => Nat.le_refl _
  | x :: r, s => by
    unfold meetGo
    by_cases c : mx x.f0 a < mn x.f1 b
    · rw [if_pos c]
      have := meetGo_len a b r (s ++ [⟨mx x.f0 a, mn x.f1 b⟩])
      simp at this ⊢; omega
    · rw [if_neg c]
      have := meetGo_len a b r s
      simp at this ⊢; omega
theorem meetSp_len (l : List S146) (a b : Int) : (meetSp l a b).length ≤ 8 := by
  unfold meetSp
  split
  · rename_i h
    have := meetGo_len a b l []
    have := spansOk_len h
    simp at *; omega
  · simp
theorem iMeetSpans_ev (l : List S146) (a b : Int) (hm : l.length ≤ maxLen) : Ev (fun k => impl_MeetSpans.f k l a b) (meetSp l a b) := by
  simp only [impl_MeetSpans.f]
  unfold meetSp
  refine Ev.bind (iSpansOk_ev l hm) (Ev.ite (fun c => ?_) (fun c => ?_))
  · rw [if_pos c]
    have h8 := spansOk_len c
    refine ev_loop l (F := fun k s i => impl_MeetSpans.l0 k a b s l l.length i) (fun pre _ s => s.length ≤ pre.length) (fun _ r s => meetGo a b r s) ?_ ?_ [] (by simp)
    · intro s _; simp only [impl_MeetSpans.l0, end_lt, if_false]; exact Ev.now _
    · rintro pre x rest s e hs ih
      clear c
      subst e
      have hs8 : s.length < 8796093022208 := by simp at h8; omega
      simp only [impl_MeetSpans.l0, mid_lt, mid_nn, mid_wrap hm, if_true, rd_T146, Int.toNat_natCast, mid_get, meetGo, hs8]
      by_cases d : mx x.f0 a < mn x.f1 b
      · simp only [if_pos d]; exact ih _ (by simp; omega)
      · simp only [if_neg d]; exact ih _ (by simp; omega)
  · rw [if_neg c]; exact Ev.now _
theorem sMeetSpans_ev (l : List S146) (a b : Int) (hm : l.length ≤ maxLen) : Ev (fun k => spec_MeetSpans.f k l a b) (meetSp l a b) := by
  simp only [spec_MeetSpans.f, Option.bind_some]
  unfold meetSp
  refine Ev.bind (sSpansOk_ev l hm) (Ev.ite (fun c => ?_) (fun c => ?_))
  · rw [if_pos c]
    have h8 := spansOk_len c
    refine ev_loop l (F := fun k s i => spec_MeetSpans.l0 k l a b s i) (fun pre _ s => s.length ≤ pre.length) (fun _ r s => meetGo a b r s) ?_ ?_ [] (by simp)
    · intro s _; simp only [spec_MeetSpans.l0, end_lt, if_false]; exact Ev.now _
    · rintro pre x rest s e hs ih
      clear c
      subst e
      have hs8 : s.length < 8796093022208 := by simp at h8; omega
      simp only [spec_MeetSpans.l0, mid_lt, mid_nn, mid_wrap hm, if_true, rd_T146, Int.toNat_natCast, mid_get, meetGo, hs8]
      by_cases d : mx x.f0 a < mn x.f1 b
      · simp only [if_pos d]; exact ih _ (by simp; omega)
      · simp only [if_neg d]; exact ih _ (by simp; omega)
  · rw [if_neg c]; exact Ev.now _
theorem meet_alt (p q : BoxT) : meet p q = (0, 0, 0, 0) ∨ ((meet p q).1 < (meet p q).2.2.1 ∧ (meet p q).2.1 < (meet p q).2.2.2) := by
  unfold meet
  split
  · rename_i h; exact .inr ⟨h.2.2.1, h.2.2.2⟩
  · exact .inl rfl
theorem objBox_alt (l : List S151) (g a b c d : Int) : objBox l g a b c d = (0, 0, 0, 0) ∨ ((objBox l g a b c d).1 < (objBox l g a b c d).2.2.1 ∧ (objBox l g a b c d).2.1 < (objBox l g a b c d).2.2.2) := by
  unfold objBox
  split
  · exact meet_alt _ _
  · exact .inl rfl
theorem cntD_page {p : BoxT} (hp : inPage p) (h1 : p.1 < p.2.2.1) (h2 : p.2.1 < p.2.2.2) : cntD p = (p.2.2.1 - p.1) * (p.2.2.2 - p.2.1) ∧ 0 < cntD p ∧ cntD p ≤ 1024 := by
  obtain ⟨g0, g1, g2, g3, g4, g5⟩ := hp
  have hb : boxOk p.1 p.2.1 p.2.2.1 p.2.2.2 = true := by
    unfold boxOk coord inB
    simp <;> omega
  have hpos : 0 < (p.2.2.1 - p.1) * (p.2.2.2 - p.2.1) := Int.mul_pos (by omega) (by omega)
  have hle : (p.2.2.1 - p.1) * (p.2.2.2 - p.2.1) ≤ 32 * 32 := Int.mul_le_mul (by omega) (by omega) (by omega) (by omega)
  have e : cntD p = (p.2.2.1 - p.1) * (p.2.2.2 - p.2.1) := by
    unfold cntD
    rw [if_pos hb, wrap_id (x := p.2.2.1 - p.1) (by omega) (by omega), wrap_id (x := p.2.2.2 - p.2.1) (by omega) (by omega)]
    exact wrap_id (by omega) (by omega)
  rw [e]
  exact ⟨rfl, hpos, by omega⟩
theorem objBox_zero {l : List S151} {g a b c d : Int} (h : cntD (objBox l g a b c d) = 0) (y : Int) : y < (objBox l g a b c d).2.1 ∨ (objBox l g a b c d).2.2.2 ≤ y := by
  rcases objBox_alt l g a b c d with e | ⟨h1, h2⟩
  · rw [e]; simp only; omega
  · have := (cntD_page (objBox_page l g a b c d) h1 h2).2.1
    omega
def objRow (l : List S151) (g a b c d y : Int) : List S146 := if y < (objBox l g a b c d).2.1 ∨ (objBox l g a b c d).2.2.2 ≤ y then [] else meetSp (spansAt l y) (objBox l g a b c d).1 (objBox l g a b c d).2.2.1
theorem objRow_len (l : List S151) (g a b c d y : Int) : (objRow l g a b c d y).length ≤ 8 := by
  unfold objRow
  split
  · simp
  · exact meetSp_len _ _ _
theorem spansAt_max (l : List S151) (y : Int) : (spansAt l y).length ≤ maxLen := by have := spansAt_len l y; rw [maxLen_eq]; omega
theorem objRow_max (l : List S151) (g a b c d y : Int) : (objRow l g a b c d y).length ≤ maxLen := by have := objRow_len l g a b c d y; rw [maxLen_eq]; omega
theorem iObjectRow_ev (l : List S151) (g a b c d y : Int) (hm : l.length ≤ maxLen) : Ev (fun k => impl_ObjectRow.f k l g a b c d y) (objRow l g a b c d y) := by
  simp only [impl_ObjectRow.f]
  unfold objRow
  refine Ev.bind (iObjectOk_ev l g a b c d hm) (Ev.ite (fun o => ?_) (fun o => ?_))
  · refine Ev.bind (iObjectBox_ev l g a b c d hm) ?_
    generalize objBox l g a b c d = B
    refine Ev.ite (fun h1 => ?_) (fun h1 => ?_)
    · rw [if_pos (.inl h1)]; exact Ev.up (by simp only [impl_ObjectRow.j0, if_true]; exact Ev.now _)
    · refine Ev.up ?_
      simp only [impl_ObjectRow.j0]
      by_cases h2 : y ≥ B.2.2.2
      · rw [if_pos (.inr h2)]; simp only [decide_eq_true h2, if_true]; exact Ev.now _
      · rw [if_neg (by omega)]; simp only [decide_eq_false h2, Bool.false_eq_true, if_false]
        exact Ev.bind (iSpansAt_ev l y hm) (Ev.bind (iMeetSpans_ev _ _ _ (spansAt_max l y)) (Ev.now _))
  · have e : objBox l g a b c d = (0, 0, 0, 0) := by unfold objBox; rw [if_neg o]
    rw [e, if_pos (by simp only; omega)]; exact Ev.now _
theorem sObjectRow_ev (l : List S151) (g a b c d y : Int) (hm : l.length ≤ maxLen) : Ev (fun k => spec_ObjectRow.f k l g a b c d y) (objRow l g a b c d y) := by
  simp only [spec_ObjectRow.f]
  unfold objRow
  refine Ev.bind (sObjectBox_ev l g a b c d hm) ?_
  have h0 := fun h => objBox_zero (l := l) (g := g) (a := a) (b := b) (c := c) (d := d) h y
  generalize objBox l g a b c d = B at h0 ⊢
  simp only [sCountDots_eq, Option.bind_some]
  refine Ev.ite (fun z => ?_) (fun _ => Ev.ite (fun h1 => ?_) (fun h1 => ?_))
  · rw [if_pos (h0 z)]; exact Ev.up (by simp only [spec_ObjectRow.j0, if_true]; exact Ev.now _)
  · rw [if_pos (.inl h1)]; exact Ev.up (by simp only [spec_ObjectRow.j0, if_true]; exact Ev.now _)
  · refine Ev.up ?_
    simp only [spec_ObjectRow.j0]
    by_cases h2 : y ≥ B.2.2.2
    · rw [if_pos (.inr h2)]; simp only [decide_eq_true h2, if_true]; exact Ev.now _
    · rw [if_neg (by omega)]; simp only [decide_eq_false h2, Bool.false_eq_true, if_false]
      exact Ev.bind (sSpansAt_ev l y hm) (Ev.bind (sMeetSpans_ev _ _ _ (spansAt_max l y)) (Ev.now _))
end Go.Proofs.YtncfipboidmfbaaGreat.Pure
namespace Go.Proofs.YtncfipboidmfbaaGreat.Pure
open Go.RowKit Go.Proofs.YtncfipboidmfbaaGreat.QFnExactAddToBand Go.Proofs.YtncfipboidmfbaaGreatW.PrintWords Go.Proofs.YtncfipboidmfbaaGreatW.PrintLast Go.Proofs.YtncfipboidmfbaaGreat.Plain

section
variable {α : Type} (mk : Int → α → α) (ln : α → Int)
def mkAll : Int → List α → List α
  | _, [] => []
  | a, x :: r => mk a x :: mkAll (a + ln x) r
def lnAll : List α → Int
  | [] => 0
  | x :: r => ln x + lnAll r
theorem mkAll_length : ∀ (a : Int) (l : List α), (mkAll mk ln a l).length = l.length
  | _, [] => rfl
  | a, x :: r => by simp [mkAll, mkAll_length (a + ln x) r]
theorem lnAll_nn : ∀ l : List α, (∀ x ∈ l, 0 ≤ ln x) → 0 ≤ lnAll ln l
  | [], _ => Int.le_refl _
  | x :: r, h => by
    have h1 := h x (by simp)
    have h2 := lnAll_nn r (fun y hy => h y (by simp [hy]))
    unfold lnAll; omega
theorem lnAll_le : ∀ l : List α, (∀ x ∈ l, ln x ≤ 4194304) → lnAll ln l ≤ 4194304 * l.length
  | [], _ => by simp [lnAll]
  | x :: r, h => by
    have h1 := h x (by simp)
    have h2 := lnAll_le r (fun y hy => h y (by simp [hy]))
    unfold lnAll; rw [List.length_cons]; omega
theorem ev_mark (xs : List α) {F : Nat → List α → Int → Int → Option (Int × List α)} (a : Int) (hn : ∀ x ∈ xs, 0 ≤ ln x)
    (hnil : ∀ s b, s.length = xs.length → Ev (fun k => F (k + 1) s b (xs.length : Int)) (b, s))
    (hcons : ∀ (done : List α) x rest b, done.length + (rest.length + 1) = xs.length → x ∈ xs → a ≤ b → b + ln x ≤ a + lnAll ln xs → ∀ r, Ev (fun k => F k (done ++ mk b x :: rest) (b + ln x) ((done.length : Int) + 1)) r → Ev (fun k => F (k + 1) (done ++ x :: rest) b (done.length : Int)) r) :
    Ev (fun k => F k xs a 0) (a + lnAll ln xs, mkAll mk ln a xs) := by
  have main : ∀ (rest done : List α) (b : Int), done.length + rest.length = xs.length → (∀ x ∈ rest, x ∈ xs) → a ≤ b → b + lnAll ln rest = a + lnAll ln xs → Ev (fun k => F k (done ++ rest) b (done.length : Int)) (a + lnAll ln xs, done ++ mkAll mk ln b rest) := by
    intro rest
    induction rest with
    | nil =>
      intro done b hl _ _ hb
      have h := hnil (done ++ []) b (by simpa using hl)
      have e : (done.length : Int) = xs.length := by simp at hl; omega
      have e2 : b = a + lnAll ln xs := by simpa [lnAll] using hb
      rw [e, ← e2]
      simpa [mkAll] using Ev.up (g := fun k => F k (done ++ []) b (xs.length : Int)) h
    | cons x rest ih =>
      intro done b hl hm hab hb
      have hx := hm x (by simp)
      have h0 := hn x hx
      have h1 := lnAll_nn ln rest (fun y hy => hn y (hm y (by simp [hy])))
      have hb' : ln x + lnAll ln rest + b = a + lnAll ln xs := by simp only [lnAll] at hb; omega
      refine Ev.up (hcons done x rest b (by simpa using hl) hx hab (by omega) _ ?_)
      have h := ih (done ++ [mk b x]) (b + ln x) (by simp at hl ⊢; omega) (fun y hy => hm y (by simp [hy])) (by omega) (by omega)
      have e : ((done ++ [mk b x]).length : Int) = (done.length : Int) + 1 := by simp
      rw [e] at h
      simpa [mkAll] using h
  simpa using main xs [] a (by simp) (fun _ h => h) (Int.le_refl _) rfl
theorem ev_held (xs : List α) {F : Nat → Int → Int → Option Int} (a : Int) (hn : ∀ x ∈ xs, 0 ≤ ln x)
    (hnil : ∀ b, Ev (fun k => F (k + 1) b ((mkAll mk ln a xs).length : Int)) b)
    (hcons : ∀ pre x rest b, mkAll mk ln a xs = pre ++ mk b x :: rest → x ∈ xs → a ≤ b → b + ln x ≤ a + lnAll ln xs → ∀ r, Ev (fun k => F k (b + ln x) ((pre.length : Int) + 1)) r → Ev (fun k => F (k + 1) b (pre.length : Int)) r) :
    Ev (fun k => F k a 0) (a + lnAll ln xs) := by
  have main : ∀ (rest : List α) (pre : List α) (b : Int), mkAll mk ln a xs = pre ++ mkAll mk ln b rest → (∀ x ∈ rest, x ∈ xs) → a ≤ b → b + lnAll ln rest = a + lnAll ln xs → Ev (fun k => F k b (pre.length : Int)) (a + lnAll ln xs) := by
    intro rest
    induction rest with
    | nil =>
      intro pre b he _ _ hb
      have e : mkAll mk ln a xs = pre := by simpa [mkAll] using he
      have e2 : b = a + lnAll ln xs := by simpa [lnAll] using hb
      have h := hnil b
      rw [e] at h
      rw [← e2]
      exact Ev.up h
    | cons x rest ih =>
      intro pre b he hm hab hb
      have hx := hm x (by simp)
      have h0 := hn x hx
      have h1 := lnAll_nn ln rest (fun y hy => hn y (hm y (by simp [hy])))
      have hb' : ln x + lnAll ln rest + b = a + lnAll ln xs := by simp only [lnAll] at hb; omega
      refine Ev.up (hcons pre x (mkAll mk ln (b + ln x) rest) b he hx hab (by omega) _ ?_)
      have h := ih (pre ++ [mk b x]) (b + ln x) (by rw [he]; simp [mkAll]) (fun y hy => hm y (by simp [hy])) (by omega) (by omega)
      have e : ((pre ++ [mk b x]).length : Int) = (pre.length : Int) + 1 := by simp
      rw [e] at h
      exact h
  simpa using main xs [] a rfl (fun _ h => h) (Int.le_refl _) rfl
end
theorem set_mid {α : Type} (done rest : List α) (x y : α) : (done ++ x :: rest).set done.length y = done ++ y :: rest := by
  rw [List.set_append_right _ _ (Nat.le_refl _), Nat.sub_self]; rfl
theorem mid_lt2 {α : Type} (done rest : List α) (x : α) : ((done.length : Int) < ((done ++ x :: rest).length : Int)) = True := mid_lt
theorem mid_w2 {n : Nat} (h : n + 1 ≤ maxLen) : wrap64 ((n : Int) + 1) = (n : Int) + 1 := by rw [maxLen_eq] at h; exact wrap_id (by omega) (by omega)
def mkI (b : Int) (x : List Int) : List Int := iota 1 id b x.length
def lnI (x : List Int) : Int := x.length
theorem markIntSS_ev (l : List (List Int)) (a : Int) (hm : l.length ≤ maxLen) (hx : ∀ x ∈ l, x.length ≤ maxLen) (h0 : 0 ≤ a) (h1 : a + lnAll lnI l ≤ 9223372036854775806) : Ev (fun k => laws_markIntSS.f k l a) (a + lnAll lnI l, mkAll mkI lnI a l) := by
  simp only [laws_markIntSS.f]
  refine ev_mark mkI lnI l a (fun x _ => by unfold lnI; omega) (fun s b hs => ?_) (fun done x rest b hl hxm hab hbl r ih => ?_)
  · simp only [laws_markIntSS.l0, hs, end_lt, if_false]; exact Ev.now _
  · simp only [laws_markIntSS.l0, mid_lt2, mid_nn, if_true, Int.toNat_natCast, mid_get, mid_w2 (show done.length + 1 ≤ maxLen by omega)]
    refine Ev.bind (markIntS_ev x b (hx x hxm) (by omega) (by rw [show lnI x = (x.length : Int) from rfl] at hbl; omega)) ?_
    simp only [set_mid]
    exact ih
theorem heldIntSS_ev (l : List (List Int)) (a : Int) (hm : l.length ≤ maxLen) (h0 : 0 ≤ a) (h1 : a + lnAll lnI l ≤ 9223372036854775806) : Ev (fun k => laws_heldIntSS.f k (mkAll mkI lnI a l) a) (a + lnAll lnI l) := by
  simp only [laws_heldIntSS.f]
  refine ev_held mkI lnI l (F := fun k b i => laws_heldIntSS.l0 k (mkAll mkI lnI a l) b i) a (fun x _ => by unfold lnI; omega) (fun b => ?_) (fun pre x rest b he hxm hab hbl r ih => ?_)
  · simp only [laws_heldIntSS.l0, end_lt, if_false]; exact Ev.now _
  · have hn := congrArg List.length he
    rw [mkAll_length, List.length_append, List.length_cons] at hn
    rw [he] at ih ⊢
    simp only [laws_heldIntSS.l0, mid_lt2, mid_nn, if_true, rd_L1, Int.toNat_natCast, mid_get, mid_w2 (show pre.length + 1 ≤ maxLen by omega)]
    refine Ev.bind (heldIntS_ev x.length b (by omega) (by rw [show lnI x = (x.length : Int) from rfl] at hbl; omega)) ?_
    simp only [if_neg (show ¬ b + (x.length : Int) < 0 by omega)]
    exact ih
def mkOb (b : Int) (x : S49) : S49 := ⟨iota 2 mkPoint b x.f0.length, b + 2 * x.f0.length, ⟨b + 2 * x.f0.length + 1, b + 2 * x.f0.length + 2, b + 2 * x.f0.length + 3, b + 2 * x.f0.length + 4⟩⟩
def lnOb (x : S49) : Int := 2 * x.f0.length + 5
theorem markObjectS_ev (l : List S49) (a : Int) (hm : l.length ≤ maxLen) (hx : ∀ x ∈ l, x.f0.length ≤ maxLen) (h0 : 0 ≤ a) (h1 : a + lnAll lnOb l ≤ 9223372036854775806) : Ev (fun k => laws_markObjectS.f k l a) (a + lnAll lnOb l, mkAll mkOb lnOb a l) := by
  simp only [laws_markObjectS.f]
  refine ev_mark mkOb lnOb l a (fun x _ => by unfold lnOb; omega) (fun s b hs => ?_) (fun done x rest b hl hxm hab hbl r ih => ?_)
  · simp only [laws_markObjectS.l0, hs, end_lt, if_false]; exact Ev.now _
  · rw [show lnOb x = 2 * (x.f0.length : Int) + 5 from rfl] at hbl
    simp only [laws_markObjectS.l0, mid_lt2, mid_nn, if_true, Int.toNat_natCast, mid_get, mid_w2 (show done.length + 1 ≤ maxLen by omega)]
    refine Ev.bind (markPointS_ev x.f0 b (hx x hxm) (by omega) (by omega)) ?_
    have w1 : wrap64 (b + 2 * (x.f0.length : Int) + 1) = b + 2 * x.f0.length + 1 := wrap_id (by omega) (by omega)
    have w2 : wrap64 (b + 2 * (x.f0.length : Int) + 1 + 1) = b + 2 * x.f0.length + 2 := by rw [wrap_id (by omega) (by omega)]; omega
    have w3 : wrap64 (b + 2 * (x.f0.length : Int) + 2 + 1) = b + 2 * x.f0.length + 3 := by rw [wrap_id (by omega) (by omega)]; omega
    have w4 : wrap64 (b + 2 * (x.f0.length : Int) + 3 + 1) = b + 2 * x.f0.length + 4 := by rw [wrap_id (by omega) (by omega)]; omega
    have w5 : wrap64 (b + 2 * (x.f0.length : Int) + 4 + 1) = b + lnOb x := by rw [wrap_id (by omega) (by omega)]; unfold lnOb; omega
    simp only [set_mid, w1, w2, w3, w4, w5]
    exact ih
theorem heldObjectS_ev (l : List S49) (a : Int) (hm : l.length ≤ maxLen) (h0 : 0 ≤ a) (h1 : a + lnAll lnOb l ≤ 9223372036854775806) : Ev (fun k => laws_heldObjectS.f k (mkAll mkOb lnOb a l) a) (a + lnAll lnOb l) := by
  simp only [laws_heldObjectS.f]
  refine ev_held mkOb lnOb l (F := fun k b i => laws_heldObjectS.l0 k (mkAll mkOb lnOb a l) b i) a (fun x _ => by unfold lnOb; omega) (fun b => ?_) (fun pre x rest b he hxm hab hbl r ih => ?_)
  · simp only [laws_heldObjectS.l0, end_lt, if_false]; exact Ev.now _
  · have hn := congrArg List.length he
    rw [mkAll_length, List.length_append, List.length_cons] at hn
    rw [show lnOb x = 2 * (x.f0.length : Int) + 5 from rfl] at hbl
    rw [he] at ih ⊢
    simp only [laws_heldObjectS.l0, mid_lt2, mid_nn, if_true, rd_T49, Int.toNat_natCast, mid_get, mid_w2 (show pre.length + 1 ≤ maxLen by omega), mkOb]
    refine Ev.bind (heldPointS_ev x.f0.length b (by omega) (by omega)) ?_
    have w1 : wrap64 (b + 2 * (x.f0.length : Int) + 1) = b + 2 * x.f0.length + 1 := wrap_id (by omega) (by omega)
    have w2 : wrap64 (b + 2 * (x.f0.length : Int) + 1 + 1) = b + 2 * x.f0.length + 2 := by rw [wrap_id (by omega) (by omega)]; omega
    have w3 : wrap64 (b + 2 * (x.f0.length : Int) + 2 + 1) = b + 2 * x.f0.length + 3 := by rw [wrap_id (by omega) (by omega)]; omega
    have w4 : wrap64 (b + 2 * (x.f0.length : Int) + 3 + 1) = b + 2 * x.f0.length + 4 := by rw [wrap_id (by omega) (by omega)]; omega
    have w5 : wrap64 (b + 2 * (x.f0.length : Int) + 4 + 1) = b + lnOb x := by rw [wrap_id (by omega) (by omega)]; unfold lnOb; omega
    simp only [if_neg (show ¬ b + 2 * (x.f0.length : Int) < 0 by omega), if_true, w1, w2, w3, w4, w5]
    exact ih
end Go.Proofs.YtncfipboidmfbaaGreat.Pure
namespace Go.Proofs.YtncfipboidmfbaaGreat.Pure
open Go.RowKit Go.Proofs.YtncfipboidmfbaaGreat.QFnExactAddToBand Go.Proofs.YtncfipboidmfbaaGreatW.PrintWords Go.Proofs.YtncfipboidmfbaaGreatW.PrintLast Go.Proofs.YtncfipboidmfbaaGreat.Plain

def wRow : List Int := List.replicate 32 255
def whiteRows (n : Int) : List (List Int) := if inB n 0 32 = true then List.replicate n.toNat wRow else []
theorem whiteRows_len (n : Int) : (whiteRows n).length ≤ 32 := by
  unfold whiteRows
  split
  · rename_i h; rw [inB_iff] at h; rw [List.length_replicate]; omega
  · simp
theorem whiteRows_row {n : Int} {x : List Int} (h : x ∈ whiteRows n) : x = wRow := by
  unfold whiteRows at h
  split at h
  · exact (List.mem_replicate.1 h).2
  · simp at h
theorem iWhiteRows_ev (n : Int) : Ev (fun k => impl_WhiteRows.f k n) (whiteRows n) := by
  simp only [impl_WhiteRows.f, within_eq, Option.bind_some]
  unfold whiteRows
  refine Ev.ite (fun c => ?_) (fun c => ?_)
  · rw [if_pos c]
    rw [inB_iff] at c
    have main : ∀ (m : Nat) (s : List (List Int)), s.length + m ≤ 64 → Ev (fun k => impl_WhiteRows.l0 k (m : Int) s) (s ++ List.replicate m wRow) := by
      intro m
      induction m with
      | zero =>
        intro s _
        refine Ev.up ?_
        simp only [impl_WhiteRows.l0, Int.ofNat_zero, gt_iff_lt, Int.lt_irrefl, if_false]
        exact Ev.val (by simp)
      | succ m ih =>
        intro s hs
        refine Ev.up ?_
        have hp : ((m + 1 : Nat) : Int) > 0 := by omega
        have hw : wrap64 (((m + 1 : Nat) : Int) - 1) = (m : Int) := by rw [wrap_id (by omega) (by omega)]; omega
        have hr : slices_Repeat_int_int.f ([255] : List Int) 32 = some wRow := by unfold slices_Repeat_int_int.f; rw [if_pos ⟨rfl, rfl⟩]; rfl
        have hl : s.length < 5864062014805 := by omega
        simp only [impl_WhiteRows.l0, if_pos hp, hr, Option.bind_some, if_pos hl, hw]
        have h := ih (s ++ [wRow]) (by simp; omega)
        simpa [List.replicate_succ] using h
    have h := main n.toNat [] (by simp; omega)
    rw [show ((n.toNat : Nat) : Int) = n by omega] at h
    simpa using h
  · rw [if_neg c]; exact Ev.now _
end Go.Proofs.YtncfipboidmfbaaGreat.Pure
namespace Go.Proofs.YtncfipboidmfbaaGreat.Pure
open Go.RowKit Go.Proofs.YtncfipboidmfbaaGreat.QFnExactAddToBand Go.Proofs.YtncfipboidmfbaaGreatW.PrintWords Go.Proofs.YtncfipboidmfbaaGreatW.PrintLast Go.Proofs.YtncfipboidmfbaaGreat.Plain

def objsOk (l : List S49) : Bool := l.all fun o => objOk o.f0 o.f1 o.f2.f0 o.f2.f1 o.f2.f2 o.f2.f3
theorem objectsOk_ev (l : List S49) (hm : l.length ≤ maxLen) (hx : ∀ x ∈ l, x.f0.length ≤ maxLen) : Ev (fun k => impl_objectsOk.f k l) (objsOk l) := by
  simp only [impl_objectsOk.f]
  refine ev_loop0 l (F := fun k i => impl_objectsOk.l0 k l l.length i) (fun _ r => objsOk r) ?_ (fun pre x rest e h => ?_)
  · simp only [impl_objectsOk.l0, end_lt, if_false]; exact Ev.now _
  · have hxx := hx x (by rw [e]; simp)
    subst e
    simp only [impl_objectsOk.l0, mid_lt, mid_nn, mid_wrap hm, if_true, rd_T49, Int.toNat_natCast, mid_get]
    refine Ev.bind (iObjectOk_ev x.f0 _ _ _ _ _ hxx) ?_
    exact Ev.andB (fun _ => h)
def nbBase (h i : Int) : List (List Int) := if bandOk h i = true then whiteRows h else []
theorem iNewBand_ev (h i : Int) : Ev (fun k => impl_NewBand.f k h i) (if bandOk h i = true then h else 0, if bandOk h i = true then i else 0, nbBase h i, ([] : List S49), bandOk h i) := by
  simp only [impl_NewBand.f, iIsHeight_eq, iCountBands_eq, within_eq, Option.bind_some]
  unfold nbBase
  have hb : inB i 0 (wrap64 (cntB h - 1)) = bandOk h i := rfl
  rw [hb]
  by_cases e : isH h = true
  · simp only [if_pos e]
    by_cases cb : bandOk h i = true
    · simp only [cb, if_true]
      exact Ev.bind (iWhiteRows_ev h) (Ev.now _)
    · have c' : bandOk h i = false := by simpa using cb
      simp only [c', Bool.false_eq_true, if_false]; exact Ev.now _
  · have c' : bandOk h i = false := by
      cases hc : bandOk h i
      · rfl
      · exact absurd (bandOk_isH hc) e
    simp only [if_neg e, c', Bool.false_eq_true, if_false]; exact Ev.now _
def bndOk (h i : Int) (rows : List (List Int)) (l : List S49) : Bool := bandOk h i && (decide ((rows.length : Int) = h) && (rowsOk rows && (objsOk l && decide (cellsGo l 0 ≤ 60))))
theorem iBandOk_ev (h i : Int) (rows : List (List Int)) (l : List S49) (hm : l.length ≤ maxLen) (hx : ∀ x ∈ l, x.f0.length ≤ maxLen) : Ev (fun k => impl_BandOk.f k h i rows l) (bndOk h i rows l) := by
  simp only [impl_BandOk.f]
  unfold bndOk
  refine Ev.bind (iNewBand_ev h i) ?_
  refine Ev.andB (fun _ => Ev.andP (fun _ => ?_))
  refine Ev.bind (iRowsOk_ev rows) (Ev.andB (fun _ => ?_))
  refine Ev.bind (objectsOk_ev l hm hx) (Ev.andB (fun _ => ?_))
  exact Ev.bind (iBandCells_ev h i rows l hm) (Ev.now _)
theorem sBandOk_ev (h i : Int) (rows : List (List Int)) (l : List S49) (hr : rows.length ≤ maxLen) (hrx : ∀ x ∈ rows, x.length ≤ maxLen) (hm : l.length ≤ maxLen) (hx : ∀ x ∈ l, x.f0.length ≤ maxLen) : Ev (fun k => spec_BandOk.f k h i rows l) (bndOk h i rows l) := by
  simp only [spec_BandOk.f]
  have e : bndOk h i rows l = (objsOk l && (bandOk h i && (decide ((rows.length : Int) = h) && (rowsOk rows && decide (cellsGo l 0 ≤ 60))))) := by
    unfold bndOk
    cases objsOk l <;> simp
  rw [e]
  generalize hz : (bandOk h i && (decide ((rows.length : Int) = h) && (rowsOk rows && decide (cellsGo l 0 ≤ 60)))) = Z
  have hend : Ev (fun k => (spec_l12Ok.f h i).bind fun t => (if t = true then (if (rows.length : Int) = h then ((spec_RowsOk.f k rows).bind fun t2 => (if t2 = true then ((spec_BandCells.f k h i rows l).bind fun t3 => (some (decide (t3 ≤ 60)))) else (some false))) else (some false)) else (some false))) Z := by
    simp only [spec_l12Ok.f, sCountBands_eq, l01In_eq, Option.bind_some]
    have hb : inB i 0 (wrap64 (cntB h - 1)) = bandOk h i := rfl
    rw [hb, ← hz]
    refine Ev.andB (fun _ => Ev.andP (fun _ => ?_))
    refine Ev.bind (sRowsOk_ev rows hr hrx) (Ev.andB (fun _ => ?_))
    exact Ev.bind (sBandCells_ev h i rows l hm) (Ev.now _)
  refine ev_loop0 l (F := fun k j => spec_BandOk.l0 k j h i rows l) (fun _ r => objsOk r && Z) ?_ (fun pre x rest e h => ?_)
  · simp only [spec_BandOk.l0, end_lt, if_false, objsOk, List.all_nil, Bool.true_and]; exact hend
  · have hxx := hx x (by rw [e]; simp)
    clear hend hz
    have e0 := e
    rw [e0] at hm
    have hget : rd_T49 l (pre.length : Int) = x := by rw [e]; exact mid_get _
    have hlt : ((pre.length : Int) < (l.length : Int)) := by rw [e]; simp; omega
    have hw := mid_wrap (pre := pre) (rest := rest) (x := x) hm
    simp only [spec_BandOk.l0, if_pos hlt, mid_nn, if_true, hget, hw]
    refine Ev.bind (sObjectOk_ev x.f0 _ _ _ _ _ hxx) ?_
    have e1 : (objsOk (x :: rest) && Z) = (objOk x.f0 x.f1 x.f2.f0 x.f2.f1 x.f2.f2 x.f2.f3 && (objsOk rest && Z)) := by simp [objsOk, Bool.and_assoc]
    rw [e1]
    exact Ev.andB (fun _ => h)
end Go.Proofs.YtncfipboidmfbaaGreat.Pure
namespace Go.Proofs.YtncfipboidmfbaaGreat.Pure
open Go.RowKit Go.Proofs.YtncfipboidmfbaaGreat.QFnExactAddToBand Go.Proofs.YtncfipboidmfbaaGreatW.PrintWords Go.Proofs.YtncfipboidmfbaaGreatW.PrintLast Go.Proofs.YtncfipboidmfbaaGreat.Plain

theorem meetGo_in (a b : Int) : ∀ (l s : List S146), (∀ y ∈ s, a ≤ y.f0 ∧ y.f1 ≤ b) → ∀ y ∈ meetGo a b l s, a ≤ y.f0 ∧ y.f1 ≤ b
  | [], _, hs, y, hy => hs y hy
  | x :: r, s, hs, y, hy => by
    unfold meetGo at hy
    refine meetGo_in a b r _ ?_ y hy
    intro z hz
    by_cases c : mx x.f0 a < mn x.f1 b
    · rw [if_pos c] at hz
      rcases List.mem_append.1 hz with h | h
      · exact hs z h
      · rw [List.mem_singleton] at h
        subst h
        unfold mx mn
        simp only
        constructor <;> split <;> omega
    · rw [if_neg c] at hz; exact hs z hz
theorem objRow_in {l : List S151} {g a b c d y : Int} : ∀ x ∈ objRow l g a b c d y, 0 ≤ x.f0 ∧ x.f1 ≤ 32 := by
  intro x hx
  unfold objRow at hx
  split at hx
  · simp at hx
  · unfold meetSp at hx
    split at hx
    · have hp := objBox_page l g a b c d
      obtain ⟨h0, _, h2, _⟩ := hp
      have h := meetGo_in _ _ _ [] (by simp) x hx
      omega
    · simp at hx
def R32 (n : Nat) (M : List (List Int)) : Prop := M.length = n ∧ ∀ r ∈ M, r.length = 32
theorem R32_row {n : Nat} {M : List (List Int)} (h : R32 n M) (j : Nat) (hj : j < n) : (M.getD j []).length = 32 := by
  have hl : j < M.length := by rw [h.1]; exact hj
  rw [List.getD_eq_getElem?_getD, List.getElem?_eq_getElem hl]
  exact h.2 _ (List.getElem_mem hl)
theorem R32_set {n : Nat} {M : List (List Int)} (h : R32 n M) (j : Nat) (hj : j < n) (x : Nat) (g : Int) : R32 n (M.set j ((M.getD j []).set x g)) := by
  refine ⟨by rw [List.length_set]; exact h.1, fun r hr => ?_⟩
  rcases List.mem_or_eq_of_mem_set hr with h1 | h1
  · exact h.2 r h1
  · rw [h1, List.length_set]; exact R32_row h j hj
def fillM (g : Int) (j : Nat) : Nat → Int → List (List Int) → List (List Int)
  | 0, _, M => M
  | n + 1, x, M => fillM g j n (x + 1) (M.set j ((M.getD j []).set x.toNat g))
theorem fillM_R {n : Nat} (g : Int) (j : Nat) (hj : j < n) : ∀ (m : Nat) (x : Int) (M : List (List Int)), R32 n M → R32 n (fillM g j m x M)
  | 0, _, _, h => h
  | m + 1, x, M, h => by unfold fillM; exact fillM_R g j hj m (x + 1) _ (R32_set h j hj _ g)
def spansM (g : Int) (j : Nat) : List S146 → List (List Int) → List (List Int)
  | [], M => M
  | x :: r, M => spansM g j r (fillM g j (x.f1 - x.f0).toNat x.f0 M)
theorem spansM_R {n : Nat} (g : Int) (j : Nat) (hj : j < n) : ∀ (l : List S146) (M : List (List Int)), R32 n M → R32 n (spansM g j l M)
  | [], _, h => h
  | x :: r, M, h => by unfold spansM; exact spansM_R g j hj r _ (fillM_R g j hj _ _ M h)
def paintM (l : List S151) (g a b c d y0 : Int) : Nat → Nat → List (List Int) → List (List Int)
  | 0, _, M => M
  | n + 1, j, M => paintM l g a b c d y0 n (j + 1) (spansM g j (objRow l g a b c d (wrap64 (y0 + j))) M)
theorem paintM_R {n : Nat} (l : List S151) (g a b c d y0 : Int) : ∀ (m j : Nat) (M : List (List Int)), j + m ≤ n → R32 n M → R32 n (paintM l g a b c d y0 m j M)
  | 0, _, _, _, h => h
  | m + 1, j, M, hj, h => by unfold paintM; exact paintM_R l g a b c d y0 m (j + 1) _ (by omega) (spansM_R g j (by omega) _ M h)
theorem ev_fill {β : Type} {n : Nat} {F : Nat → List (List Int) → Int → Option β} (g : Int) (j : Nat) (hj : j < n) (f1 : Int) (T : List (List Int)) (V : β)
    (hend : ∀ x, f1 ≤ x → Ev (fun k => F (k + 1) T x) V)
    (hstep : ∀ M x, R32 n M → 0 ≤ x → x < f1 → Ev (fun k => F k (M.set j ((M.getD j []).set x.toNat g)) (x + 1)) V → Ev (fun k => F (k + 1) M x) V) :
    ∀ (m : Nat) (M : List (List Int)) (x : Int), (f1 - x).toNat = m → 0 ≤ x → R32 n M → fillM g j m x M = T → Ev (fun k => F k M x) V
  | 0, M, x, hm, _, _, hT => by
    refine Ev.up ?_
    rw [fillM] at hT
    rw [hT]
    exact hend x (by omega)
  | m + 1, M, x, hm, h0, hR, hT => by
    refine Ev.up ?_
    rw [fillM] at hT
    exact hstep M x hR h0 (by omega) (ev_fill g j hj f1 T V hend hstep m _ (x + 1) (by omega) (by omega) (R32_set hR j hj _ g) hT)
theorem iPaint2 {n : Nat} (x1 j11 j12 : Int) (j : Nat) (s19 : List S146) (s20 s21 : Int) (l : List S151) (g a b c d q f0 f1 : Int) (V : List (List Int)) (M T : List (List Int)) (h : R32 n M) (hj : j < n) (h0 : 0 ≤ f0) (h1 : f1 ≤ 32) (hT : fillM g j (f1 - f0).toNat f0 M = T)
    (hk : Ev (fun k => impl_paint.l1 k T x1 j j11 j12 s19 s20 (wrap64 (s21 + 1)) l g a b c d) V) :
    Ev (fun k => impl_paint.l2 k M x1 j f0 j11 j12 s19 s20 s21 l g a b c d q f1) V := by
  refine ev_fill (F := fun k M x => impl_paint.l2 k M x1 j x j11 j12 s19 s20 s21 l g a b c d q f1) g j hj f1 T V ?_ ?_ _ M f0 rfl h0 h hT
  · intro x hx
    simp only [impl_paint.l2, if_neg (show ¬ x < f1 by omega)]
    exact hk
  · intro M x hM hx hx1 ih
    have hr := R32_row hM j hj
    have hl : (j : Int) < (M.length : Int) := by rw [hM.1]; omega
    have hxr : x < ((M.getD j []).length : Int) := by rw [hr]; omega
    have hw : wrap64 (x + 1) = x + 1 := wrap_id (by omega) (by omega)
    simp only [impl_paint.l2, if_pos hx1, mid_nn, if_true, if_pos hl, if_pos hx, rd_L1, Int.toNat_natCast, if_pos hxr, hw]
    exact ih
theorem iPaint_ev (l : List S151) (g a b c d y : Int) (rows : List (List Int)) {n : Nat} (hm : l.length ≤ maxLen) (hR : R32 n rows) (hn : n ≤ 32) : Ev (fun k => impl_paint.f k rows y l g a b c d) (paintM l g a b c d y n 0 rows) := by
  simp only [impl_paint.f]
  have hL : (rows.length : Int) = n := by rw [hR.1]
  rw [hL]
  refine ev_range (F := fun k M i => impl_paint.l0 k M y n i l g a b c d) 0 n (by omega) (fun i M => R32 n M ∧ paintM l g a b c d y ((n : Int) - i).toNat i.toNat M = paintM l g a b c d y n 0 rows) _ ?_ ?_ rows ⟨hR, by simp⟩
  · rintro M ⟨_, hT⟩
    rw [Int.sub_self] at hT
    simp only [impl_paint.l0, Int.lt_irrefl, if_false]
    exact Ev.val hT
  · rintro i M h0 h1 ⟨hM, hT⟩ ih
    generalize paintM l g a b c d y n 0 rows = V at hT ih ⊢
    obtain ⟨j, rfl⟩ : ∃ j : Nat, i = (j : Int) := ⟨i.toNat, by omega⟩
    have hj : j < n := by omega
    have e : ((n : Int) - (j : Int)).toNat = ((n : Int) - ((j : Int) + 1)).toNat + 1 := by omega
    rw [e, Int.toNat_natCast, paintM] at hT
    simp only [impl_paint.l0, if_pos h1]
    refine Ev.bind (iObjectRow_ev l g a b c d _ hm) ?_
    have hin := objRow_in (l := l) (g := g) (a := a) (b := b) (c := c) (d := d) (y := wrap64 (y + (j : Int)))
    have hrm := objRow_max l g a b c d (wrap64 (y + (j : Int)))
    generalize hN : spansM g j (objRow l g a b c d (wrap64 (y + (j : Int)))) M = N at hT
    generalize objRow l g a b c d (wrap64 (y + (j : Int))) = S at hin hrm hN ⊢
    have hNR : R32 n N := hN ▸ spansM_R g j hj S M hM
    have hw : wrap64 ((j : Int) + 1) = (j : Int) + 1 := wrap_id (by omega) (by omega)
    have ih1 := ih N ⟨hNR, by rw [show ((j : Int) + 1).toNat = j + 1 by omega]; exact hT⟩
    refine ev_loop S (F := fun k M i => impl_paint.l1 k M y j n j S S.length i l g a b c d) (fun _ r M => R32 n M ∧ spansM g j r M = N) (fun _ _ _ => V) ?_ ?_ M ⟨hM, hN⟩
    · rintro M1 ⟨_, e1⟩
      rw [spansM] at e1
      subst e1
      simp only [impl_paint.l1, end_lt, if_false, hw]
      exact ih1
    · rintro pre x rest M1 e1 ⟨hM1, hT1⟩ ih2
      have hx := hin x (by rw [e1]; simp)
      rw [spansM] at hT1
      have h2 := ih2 _ ⟨fillM_R g j hj _ _ M1 hM1, hT1⟩
      clear ih ih1 ih2 hin hN
      subst e1
      simp only [impl_paint.l1, mid_lt, mid_nn, if_true, rd_T146, Int.toNat_natCast, mid_get]
      refine iPaint2 y n j j _ _ _ l g a b c d _ x.f0 x.f1 V M1 _ hM1 hj hx.1 hx.2 rfl ?_
      rw [mid_wrap hrm]
      exact h2
theorem sPaint2 {n : Nat} (x1 : Int) (j : Nat) (pre : List S146) (sp : S146) (rest : List S146) (l : List S151) (g a b c d : Int) (V : List (List Int) × Bool) (M T : List (List Int)) (h : R32 n M) (hj : j < n) (h0 : 0 ≤ sp.f0) (h1 : sp.f1 ≤ 32) (hT : fillM g j (sp.f1 - sp.f0).toNat sp.f0 M = T)
    (hk : Ev (fun k => spec_PaintObject.l1 k x1 T j (pre ++ sp :: rest) (wrap64 ((pre.length : Int) + 1)) l g a b c d) V) :
    Ev (fun k => spec_PaintObject.l2 k x1 M j (pre ++ sp :: rest) (pre.length : Int) sp.f0 l g a b c d) V := by
  refine ev_fill (F := fun k M x => spec_PaintObject.l2 k x1 M j (pre ++ sp :: rest) (pre.length : Int) x l g a b c d) g j hj sp.f1 T V ?_ ?_ _ M sp.f0 rfl h0 h hT
  · intro x hx
    simp only [spec_PaintObject.l2, mid_lt, mid_nn, if_true, rd_T146, Int.toNat_natCast, mid_get, if_neg (show ¬ x < sp.f1 by omega)]
    exact hk
  · intro M x hM hx hx1 ih
    have hr := R32_row hM j hj
    have hl : (j : Int) < (M.length : Int) := by rw [hM.1]; omega
    have hxr : x < ((M.getD j []).length : Int) := by rw [hr]; omega
    have hw : wrap64 (x + 1) = x + 1 := wrap_id (by omega) (by omega)
    simp only [spec_PaintObject.l2, mid_lt, mid_nn, if_true, rd_T146, mid_get, if_pos hx1, if_pos hl, if_pos hx, rd_L1, Int.toNat_natCast, if_pos hxr, hw]
    exact ih
theorem sPaint_ev (l : List S151) (g a b c d y : Int) (rows : List (List Int)) {n : Nat} (hm : l.length ≤ maxLen) (hR : R32 n rows) (hn : n ≤ 32) : Ev (fun k => spec_PaintObject.l0 k y rows 0 l g a b c d) (paintM l g a b c d y n 0 rows, true) := by
  refine ev_range (F := fun k M i => spec_PaintObject.l0 k y M i l g a b c d) 0 n (by omega) (fun i M => R32 n M ∧ paintM l g a b c d y ((n : Int) - i).toNat i.toNat M = paintM l g a b c d y n 0 rows) _ ?_ ?_ rows ⟨hR, by simp⟩
  · rintro M ⟨hM, hT⟩
    rw [Int.sub_self] at hT
    have hL : (M.length : Int) = n := by rw [hM.1]
    simp only [spec_PaintObject.l0, hL, Int.lt_irrefl, if_false]
    exact Ev.val (by rw [← hT]; rfl)
  · rintro i M h0 h1 ⟨hM, hT⟩ ih
    generalize paintM l g a b c d y n 0 rows = V at hT ih ⊢
    obtain ⟨j, rfl⟩ : ∃ j : Nat, i = (j : Int) := ⟨i.toNat, by omega⟩
    have hj : j < n := by omega
    have e : ((n : Int) - (j : Int)).toNat = ((n : Int) - ((j : Int) + 1)).toNat + 1 := by omega
    rw [e, Int.toNat_natCast, paintM] at hT
    have hL : (M.length : Int) = n := by rw [hM.1]
    simp only [spec_PaintObject.l0, hL, if_pos h1]
    refine Ev.bind (sObjectRow_ev l g a b c d _ hm) ?_
    have hin := objRow_in (l := l) (g := g) (a := a) (b := b) (c := c) (d := d) (y := wrap64 (y + (j : Int)))
    have hrm := objRow_max l g a b c d (wrap64 (y + (j : Int)))
    generalize hN : spansM g j (objRow l g a b c d (wrap64 (y + (j : Int)))) M = N at hT
    generalize objRow l g a b c d (wrap64 (y + (j : Int))) = S at hin hrm hN ⊢
    have hNR : R32 n N := hN ▸ spansM_R g j hj S M hM
    have hw : wrap64 ((j : Int) + 1) = (j : Int) + 1 := wrap_id (by omega) (by omega)
    have ih1 := ih N ⟨hNR, by rw [show ((j : Int) + 1).toNat = j + 1 by omega]; exact hT⟩
    refine ev_loop S (F := fun k M i => spec_PaintObject.l1 k y M j S i l g a b c d) (fun _ r M => R32 n M ∧ spansM g j r M = N) (fun _ _ _ => (V, true)) ?_ ?_ M ⟨hM, hN⟩
    · rintro M1 ⟨_, e1⟩
      rw [spansM] at e1
      subst e1
      simp only [spec_PaintObject.l1, end_lt, if_false, hw]
      exact ih1
    · rintro pre x rest M1 e1 ⟨hM1, hT1⟩ ih2
      have hx := hin x (by rw [e1]; simp)
      rw [spansM] at hT1
      have h2 := ih2 _ ⟨fillM_R g j hj _ _ M1 hM1, hT1⟩
      clear ih ih1 ih2 hin hN
      subst e1
      simp only [spec_PaintObject.l1, mid_lt, mid_nn, if_true, rd_T146, Int.toNat_natCast, mid_get]
      refine sPaint2 y j pre x rest l g a b c d _ M1 _ hM1 hj hx.1 hx.2 rfl ?_
      rw [mid_wrap hrm]
      exact h2
theorem iCopyRows_ev (l : List (List Int)) (hl : (l.length : Int) ≤ 1048576) (hx : ∀ x ∈ l, (x.length : Int) ≤ 1048576) : Ev (fun k => impl_copyRows.f k l) l := by
  have hm : l.length ≤ maxLen := by rw [maxLen_eq]; omega
  simp only [impl_copyRows.f]
  refine ev_loop l (F := fun k s i => impl_copyRows.l0 k s l l.length i) (fun pre _ s => s = pre) (fun p r _ => p ++ r) ?_ ?_ [] rfl
  · rintro s rfl; simp only [impl_copyRows.l0, end_lt, if_false]; exact Ev.val (by simp)
  · rintro pre x rest s e rfl ih
    have hxx := hx x (by rw [e]; simp)
    have hs8 : s.length < 5864062014805 := by rw [e] at hl; simp at hl; omega
    have h2 := ih (s ++ [x]) rfl
    clear ih
    subst e
    have hc : slices_Clone_int_int.f x = some x := by
      have c : x.length < 17592186044416 := by omega
      simp [slices_Clone_int_int.f, c]
    simp only [impl_copyRows.l0, mid_lt, mid_nn, mid_wrap hm, if_true, rd_L1, Int.toNat_natCast, mid_get, hc, Option.bind_some, if_pos hs8]
    simpa using h2
theorem sCopyRows_ev (l : List (List Int)) (hl : (l.length : Int) ≤ 1048576) (hx : ∀ x ∈ l, (x.length : Int) ≤ 1048576) : Ev (fun k => spec_l11Copy.f k l) l := by
  have hm : l.length ≤ maxLen := by rw [maxLen_eq]; omega
  simp only [spec_l11Copy.f]
  refine ev_loop l (F := fun k s i => spec_l11Copy.l0 k l s i) (fun pre _ s => s = pre) (fun p r _ => p ++ r) ?_ ?_ [] rfl
  · rintro s rfl; simp only [spec_l11Copy.l0, end_lt, if_false]; exact Ev.val (by simp)
  · rintro pre x rest s e rfl ih
    have hxx := hx x (by rw [e]; simp)
    have hs8 : s.length < 5864062014805 := by rw [e] at hl; simp at hl; omega
    have h2 := ih (s ++ [x]) rfl
    clear ih
    subst e
    have hc : spec_l05Copy.f x = some x := by
      have c : x.length < 17592186044416 := by omega
      simp [spec_l05Copy.f, c]
    simp only [spec_l11Copy.l0, mid_lt, mid_nn, mid_wrap hm, if_true, rd_L1, Int.toNat_natCast, mid_get, hc, Option.bind_some, if_pos hs8]
    simpa using h2
theorem rowsOk_R {l : List (List Int)} (h : rowsOk l = true) : R32 l.length l ∧ l.length ≤ 32 := by
  unfold rowsOk at h
  simp only [Bool.and_eq_true, decide_eq_true_eq, List.all_eq_true] at h
  refine ⟨⟨rfl, fun r hr => ?_⟩, by omega⟩
  have h1 := h.2 r hr
  unfold rowOk at h1
  simp only [Bool.and_eq_true, decide_eq_true_eq, beq_iff_eq] at h1
  omega
def paintO (rows : List (List Int)) (y : Int) (l : List S151) (g a b c d : Int) : List (List Int) × Bool := if rowsOk rows = true then (if objOk l g a b c d = true then (if inB y 0 32 = true then (paintM l g a b c d y rows.length 0 rows, true) else (rows, false)) else (rows, false)) else (rows, false)
theorem sPaintObject_ev (rows : List (List Int)) (y : Int) (l : List S151) (g a b c d : Int) (hr : (rows.length : Int) ≤ 1048576) (hrx : ∀ x ∈ rows, (x.length : Int) ≤ 1048576) (hm : l.length ≤ maxLen) : Ev (fun k => spec_PaintObject.f k rows y l g a b c d) (paintO rows y l g a b c d) := by
  have hrm : rows.length ≤ maxLen := by rw [maxLen_eq]; omega
  have hrxm : ∀ x ∈ rows, x.length ≤ maxLen := fun x hx => by have := hrx x hx; rw [maxLen_eq]; omega
  simp only [spec_PaintObject.f, l01In_eq, Option.bind_some]
  unfold paintO
  refine Ev.bind (sCopyRows_ev rows hr hrx) (Ev.bind (sRowsOk_ev rows hrm hrxm) (Ev.ite (fun c1 => ?_) (fun c1 => ?_)))
  · rw [if_pos c1]
    obtain ⟨h1, h2⟩ := rowsOk_R c1
    refine Ev.bind (sObjectOk_ev l g a b c d hm) (Ev.ite (fun c2 => ?_) (fun c2 => ?_))
    · rw [if_pos c2]
      refine Ev.up ?_
      simp only [spec_PaintObject.j0]
      by_cases c3 : inB y 0 32 = true
      · rw [if_pos c3]; simp only [c3, Bool.not_true, Bool.false_eq_true, if_false]; exact sPaint_ev l g a b c d y rows hm h1 h2
      · rw [if_neg c3]
        have c4 : inB y 0 32 = false := by simpa using c3
        simp only [c4, Bool.not_false, if_true]; exact Ev.now _
    · rw [if_neg c2]; exact Ev.up (by simp only [spec_PaintObject.j0, if_true]; exact Ev.now _)
  · rw [if_neg c1]; exact Ev.up (by simp only [spec_PaintObject.j0, if_true]; exact Ev.now _)
end Go.Proofs.YtncfipboidmfbaaGreat.Pure
namespace Go.Proofs.YtncfipboidmfbaaGreat.Pure
open Go.RowKit Go.Proofs.YtncfipboidmfbaaGreat.QFnExactAddToBand Go.Proofs.YtncfipboidmfbaaGreatW.PrintWords Go.Proofs.YtncfipboidmfbaaGreatW.PrintLast Go.Proofs.YtncfipboidmfbaaGreat.Plain

def RG (n : Nat) (M : List (List Int)) : Prop := M.length = n ∧ ∀ r ∈ M, rowOk r = true
theorem rowOk_iff {r : List Int} : rowOk r = true ↔ r.length = 32 ∧ ∀ v ∈ r, inB v 0 255 = true := by
  unfold rowOk
  simp only [Bool.and_eq_true, decide_eq_true_eq, List.all_eq_true]
  constructor
  · rintro ⟨h1, h2⟩; exact ⟨by omega, h2⟩
  · rintro ⟨h1, h2⟩; exact ⟨by omega, h2⟩
theorem RG_32 {n : Nat} {M : List (List Int)} (h : RG n M) : R32 n M := ⟨h.1, fun r hr => (rowOk_iff.1 (h.2 r hr)).1⟩
theorem RG_ok {n : Nat} {M : List (List Int)} (h : RG n M) (hn : n ≤ 32) : rowsOk M = true := by
  have h0 := h.1
  unfold rowsOk
  simp only [Bool.and_eq_true, decide_eq_true_eq, List.all_eq_true]
  exact ⟨by omega, h.2⟩
theorem RG_set {n : Nat} {M : List (List Int)} (h : RG n M) (j : Nat) (hj : j < n) (x : Nat) (g : Int) (hg : inB g 0 255 = true) : RG n (M.set j ((M.getD j []).set x g)) := by
  refine ⟨by rw [List.length_set]; exact h.1, fun r hr => ?_⟩
  rcases List.mem_or_eq_of_mem_set hr with h1 | h1
  · exact h.2 r h1
  · have hl : j < M.length := by rw [h.1]; exact hj
    have e : M.getD j [] = M[j] := by rw [List.getD_eq_getElem?_getD, List.getElem?_eq_getElem hl]; rfl
    have ho := rowOk_iff.1 (h.2 _ (List.getElem_mem hl))
    rw [h1, e]
    refine rowOk_iff.2 ⟨by rw [List.length_set]; exact ho.1, fun v hv => ?_⟩
    rcases List.mem_or_eq_of_mem_set hv with h2 | h2
    · exact ho.2 v h2
    · rw [h2]; exact hg
theorem fillM_G {n : Nat} (g : Int) (hg : inB g 0 255 = true) (j : Nat) (hj : j < n) : ∀ (m : Nat) (x : Int) (M : List (List Int)), RG n M → RG n (fillM g j m x M)
  | 0, _, _, h => h
  | m + 1, x, M, h => by unfold fillM; exact fillM_G g hg j hj m (x + 1) _ (RG_set h j hj _ g hg)
theorem spansM_G {n : Nat} (g : Int) (hg : inB g 0 255 = true) (j : Nat) (hj : j < n) : ∀ (l : List S146) (M : List (List Int)), RG n M → RG n (spansM g j l M)
  | [], _, h => h
  | x :: r, M, h => by unfold spansM; exact spansM_G g hg j hj r _ (fillM_G g hg j hj _ _ M h)
theorem paintM_G {n : Nat} (l : List S151) (g a b c d y0 : Int) (hg : inB g 0 255 = true) : ∀ (m j : Nat) (M : List (List Int)), j + m ≤ n → RG n M → RG n (paintM l g a b c d y0 m j M)
  | 0, _, _, _, h => h
  | m + 1, j, M, hj, h => by unfold paintM; exact paintM_G l g a b c d y0 hg m (j + 1) _ (by omega) (spansM_G g hg j (by omega) _ M h)
theorem objOk_g {l : List S151} {g a b c d : Int} (h : objOk l g a b c d = true) : inB g 0 255 = true := by
  unfold objOk at h
  simp only [Bool.and_eq_true] at h
  first | exact h.2.2.2.1 | simp_all
def rendO (y : Int) (o : S49) (M : List (List Int)) : List (List Int) := if objOk o.f0 o.f1 o.f2.f0 o.f2.f1 o.f2.f2 o.f2.f3 = true then paintM o.f0 o.f1 o.f2.f0 o.f2.f1 o.f2.f2 o.f2.f3 y M.length 0 M else M
def rendGo (y : Int) : List S49 → List (List Int) → List (List Int)
  | [], M => M
  | o :: r, M => rendGo y r (rendO y o M)
theorem rendO_G {n : Nat} (y : Int) (o : S49) (M : List (List Int)) (h : RG n M) : RG n (rendO y o M) := by
  unfold rendO
  split
  · rename_i c
    rw [h.1]
    exact paintM_G _ _ _ _ _ _ _ (objOk_g c) n 0 M (by omega) h
  · exact h
theorem rendGo_G {n : Nat} (y : Int) : ∀ (l : List S49) (M : List (List Int)), RG n M → RG n (rendGo y l M)
  | [], _, h => h
  | o :: r, M, h => by unfold rendGo; exact rendGo_G y r _ (rendO_G y o M h)
theorem whiteRows_G (n : Int) : RG (whiteRows n).length (whiteRows n) := ⟨rfl, fun r hr => by rw [whiteRows_row hr]; exact rowOk_iff.2 ⟨rfl, fun v hv => by rw [(List.mem_replicate.1 hv).2]; decide⟩⟩
theorem paintO_rend (y : Int) (hy : inB y 0 32 = true) (o : S49) (M : List (List Int)) {n : Nat} (h : RG n M) (hn : n ≤ 32) : (paintO M y o.f0 o.f1 o.f2.f0 o.f2.f1 o.f2.f2 o.f2.f3).1 = rendO y o M := by
  unfold paintO rendO
  rw [if_pos (RG_ok h hn)]
  by_cases c : objOk o.f0 o.f1 o.f2.f0 o.f2.f1 o.f2.f2 o.f2.f3 = true
  · rw [if_pos c, if_pos c, if_pos hy]
  · rw [if_neg c, if_neg c]
theorem sRend_ev (y : Int) (hy : inB y 0 32 = true) (o : S49) (M : List (List Int)) {n : Nat} (h : RG n M) (hn : n ≤ 32) (hm : o.f0.length ≤ maxLen) : ∃ b, Ev (fun k => spec_PaintObject.f k M y o.f0 o.f1 o.f2.f0 o.f2.f1 o.f2.f2 o.f2.f3) (rendO y o M, b) := by
  refine ⟨(paintO M y o.f0 o.f1 o.f2.f0 o.f2.f1 o.f2.f2 o.f2.f3).2, ?_⟩
  have h32 := RG_32 h
  rw [← paintO_rend y hy o M h hn]
  exact sPaintObject_ev M y o.f0 _ _ _ _ _ (by have := h.1; omega) (fun x hx => by rw [h32.2 x hx]; omega) hm
end Go.Proofs.YtncfipboidmfbaaGreat.Pure
namespace Go.Proofs.YtncfipboidmfbaaGreat.Pure
open Go.RowKit Go.Proofs.YtncfipboidmfbaaGreat.QFnExactAddToBand Go.Proofs.YtncfipboidmfbaaGreatW.PrintWords Go.Proofs.YtncfipboidmfbaaGreatW.PrintLast Go.Proofs.YtncfipboidmfbaaGreat.Plain

theorem markBand_ev (p q : Int) (rows : List (List Int)) (l : List S49) (a : Int) (hr : rows.length ≤ maxLen) (hrx : ∀ x ∈ rows, x.length ≤ maxLen) (hm : l.length ≤ maxLen) (hx : ∀ x ∈ l, x.f0.length ≤ maxLen) (h0 : 0 ≤ a) (h1 : a + lnAll lnI rows + lnAll lnOb l ≤ 9223372036854775806) :
    Ev (fun k => laws_markBand.f k p q rows l a) (a + lnAll lnI rows + lnAll lnOb l, mkAll mkI lnI a rows, mkAll mkOb lnOb (a + lnAll lnI rows) l) := by
  have hN := lnAll_nn lnI rows (fun x _ => by unfold lnI; omega)
  have hN2 := lnAll_nn lnOb l (fun x _ => by unfold lnOb; omega)
  simp only [laws_markBand.f]
  exact Ev.bind (markIntSS_ev rows a hr hrx h0 (by omega)) (Ev.bind (markObjectS_ev l _ hm hx (by simp only; omega) (by simp only; omega)) (Ev.now _))
theorem heldBand_ev (p q : Int) (rows : List (List Int)) (l : List S49) (a : Int) (hr : rows.length ≤ maxLen) (hm : l.length ≤ maxLen) (h0 : 0 ≤ a) (h1 : a + lnAll lnI rows + lnAll lnOb l ≤ 9223372036854775806) :
    Ev (fun k => laws_heldBand.f k p q (mkAll mkI lnI a rows) (mkAll mkOb lnOb (a + lnAll lnI rows) l) a) (a + lnAll lnI rows + lnAll lnOb l) := by
  have hN := lnAll_nn lnI rows (fun x _ => by unfold lnI; omega)
  have hN2 := lnAll_nn lnOb l (fun x _ => by unfold lnOb; omega)
  simp only [laws_heldBand.f]
  exact Ev.bind (heldIntSS_ev rows a hr h0 (by omega)) (Ev.ite (fun c => absurd c (by omega)) (fun _ => Ev.bind (heldObjectS_ev l _ hm (by omega) (by omega)) (Ev.ite (fun c => absurd c (by omega)) (fun _ => Ev.now _))))
end Go.Proofs.YtncfipboidmfbaaGreat.Pure
namespace Go.Proofs.YtncfipboidmfbaaGreat.Pure
open Go.RowKit Go.Proofs.YtncfipboidmfbaaGreat.QFnExactAddToBand Go.Proofs.YtncfipboidmfbaaGreatW.PrintWords Go.Proofs.YtncfipboidmfbaaGreatW.PrintLast Go.Proofs.YtncfipboidmfbaaGreat.Plain

theorem rowsOk_G {rows : List (List Int)} (h : rowsOk rows = true) : RG rows.length rows ∧ rows.length ≤ 32 := by
  unfold rowsOk at h
  simp only [Bool.and_eq_true, decide_eq_true_eq, List.all_eq_true] at h
  exact ⟨⟨rfl, h.2⟩, by omega⟩
theorem iPoint_eq3 (l : List S151) (h : (l.length : Int) ≤ 1048576) : impl_Point.f l = some l := by
  have c : l.length < 8796093022208 := by omega
  simp [impl_Point.f, c]
theorem copyObject_eq3 (l : List S151) (g a b c d : Int) (h : (l.length : Int) ≤ 1048576) : impl_copyObject.f l g a b c d = some (l, g, a, b, c, d) := by
  unfold impl_copyObject.f; rw [iPoint_eq3 l h]; rfl
theorem copyObjects_ev (l : List S49) (hl : (l.length : Int) ≤ 1048576) (hx : ∀ x ∈ l, (x.f0.length : Int) ≤ 1048576) : Ev (fun k => impl_copyObjects.f k l) l := by
  have hm : l.length ≤ maxLen := by rw [maxLen_eq]; omega
  simp only [impl_copyObjects.f]
  refine ev_loop l (F := fun k s i => impl_copyObjects.l0 k s l l.length i) (fun pre _ s => s = pre) (fun p r _ => p ++ r) ?_ ?_ [] rfl
  · rintro s rfl; simp only [impl_copyObjects.l0, end_lt, if_false]; exact Ev.val (by simp)
  · rintro pre x rest s e rfl ih
    have hxx := hx x (by rw [e]; simp)
    have hs8 : s.length < 2199023255552 := by rw [e] at hl; simp at hl; omega
    have h2 := ih (s ++ [x]) rfl
    clear ih
    subst e
    simp only [impl_copyObjects.l0, mid_lt, mid_nn, mid_wrap hm, if_true, rd_T49, Int.toNat_natCast, mid_get, copyObject_eq3 x.f0 _ _ _ _ _ hxx, Option.bind_some, if_pos hs8]
    simpa using h2
def mergeB (h i : Int) (rows : List (List Int)) (l : List S49) : Int × Int × List (List Int) × List S49 := if bndOk h i rows l = true then (h, i, rendGo (wrap64 (h * i)) l rows, []) else (h, i, rows, l)
theorem bndOk_tells {h i : Int} {rows : List (List Int)} {l : List S49} (c : bndOk h i rows l = true) : bandOk h i = true ∧ (rows.length : Int) = h ∧ rowsOk rows = true ∧ objsOk l = true := by
  unfold bndOk at c
  simp only [Bool.and_eq_true, decide_eq_true_eq] at c
  exact ⟨c.1, c.2.1, c.2.2.1, c.2.2.2.1⟩
theorem iMergeBand_ev (h i : Int) (rows : List (List Int)) (l : List S49) (hr : (rows.length : Int) ≤ 1048576) (hrx : ∀ x ∈ rows, (x.length : Int) ≤ 1048576) (hl : (l.length : Int) ≤ 1048576) (hx : ∀ x ∈ l, (x.f0.length : Int) ≤ 1048576) : Ev (fun k => impl_MergeBand.f k h i rows l) (mergeB h i rows l) := by
  have hm : l.length ≤ maxLen := by rw [maxLen_eq]; omega
  have hxm : ∀ x ∈ l, x.f0.length ≤ maxLen := fun x h9 => by have := hx x h9; rw [maxLen_eq]; omega
  simp only [impl_MergeBand.f, impl_copyBand.f]
  unfold mergeB
  refine Ev.bind (Ev.bind (iCopyRows_ev rows hr hrx) (Ev.bind (copyObjects_ev l hl hx) (Ev.now _))) (Ev.bind (iBandOk_ev h i rows l hm hxm) (Ev.ite (fun c => ?_) (fun c => ?_)))
  · rw [if_pos c]
    obtain ⟨c1, c2, c3, c4⟩ := bndOk_tells c
    obtain ⟨hG, hn⟩ := rowsOk_G c3
    generalize hV : rendGo (wrap64 (h * i)) l rows = V
    refine ev_loop l (F := fun k M j => impl_MergeBand.l0 k l l.length j h i M l) (fun _ r M => RG rows.length M ∧ rendGo (wrap64 (h * i)) r M = V) (fun _ _ _ => (h, i, V, [])) ?_ ?_ rows ⟨hG, hV⟩
    · rintro M ⟨_, e⟩
      simp only [impl_MergeBand.l0, end_lt, if_false]
      exact Ev.val (by rw [← e]; rfl)
    · rintro pre x rest M e ⟨hM, hT⟩ ih
      have hxx := hxm x (by rw [e]; simp)
      have hox : objOk x.f0 x.f1 x.f2.f0 x.f2.f1 x.f2.f2 x.f2.f3 = true := by
        unfold objsOk at c4
        rw [List.all_eq_true] at c4
        exact c4 x (by rw [e]; simp)
      rw [rendGo] at hT
      have h2 := ih _ ⟨rendO_G _ x M hM, hT⟩
      clear ih hV c c4
      subst e
      simp only [impl_MergeBand.l0, mid_lt, mid_nn, mid_wrap hm, if_true, rd_T49, Int.toNat_natCast, mid_get]
      unfold rendO at h2
      rw [if_pos hox] at h2
      refine Ev.bind (iPaint_ev x.f0 _ _ _ _ _ _ M hxx (RG_32 hM) hn) ?_
      rw [hM.1] at h2
      exact h2
  · rw [if_neg c]; exact Ev.now _
theorem mergeB_len (h i : Int) (rows : List (List Int)) (l : List S49) (hr : (rows.length : Int) ≤ 1048576) (hrx : ∀ x ∈ rows, (x.length : Int) ≤ 1048576) (hl : (l.length : Int) ≤ 1048576) (hx : ∀ x ∈ l, (x.f0.length : Int) ≤ 1048576) :
    (((mergeB h i rows l).2.2.1.length : Int) ≤ 1048576 ∧ ∀ x ∈ (mergeB h i rows l).2.2.1, (x.length : Int) ≤ 1048576) ∧ (((mergeB h i rows l).2.2.2.length : Int) ≤ 1048576 ∧ ∀ x ∈ (mergeB h i rows l).2.2.2, (x.f0.length : Int) ≤ 1048576) := by
  unfold mergeB
  split
  · rename_i c
    obtain ⟨hG, hn⟩ := rowsOk_G (bndOk_tells c).2.2.1
    have hR := RG_32 (rendGo_G (wrap64 (h * i)) l rows hG)
    exact ⟨⟨by rw [hR.1]; omega, fun x hx => by rw [hR.2 x hx]; omega⟩, by simp, fun x hx => by simp at hx⟩
  · exact ⟨⟨hr, hrx⟩, hl, hx⟩
theorem l07Shape_eq3 (l : List S151) (g a b c d : Int) (h : (l.length : Int) ≤ 1048576) : spec_l07Shape.f l g a b c d = some (l, g, a, b, c, d) := by
  have c : l.length < 8796093022208 := by omega
  simp [spec_l07Shape.f, c]
theorem l13Copy_ev (h i : Int) (rows : List (List Int)) (l : List S49) (hr : (rows.length : Int) ≤ 1048576) (hrx : ∀ x ∈ rows, (x.length : Int) ≤ 1048576) (hl : (l.length : Int) ≤ 1048576) (hx : ∀ x ∈ l, (x.f0.length : Int) ≤ 1048576) : Ev (fun k => spec_l13Copy.f k h i rows l) (h, i, rows, l) := by
  have hm : l.length ≤ maxLen := by rw [maxLen_eq]; omega
  simp only [spec_l13Copy.f]
  refine Ev.bind (sCopyRows_ev rows hr hrx) ?_
  refine ev_loop l (F := fun k s j => spec_l13Copy.l0 k j h i rows l h i rows s) (fun pre _ s => s = pre) (fun p r _ => (h, i, rows, p ++ r)) ?_ ?_ [] rfl
  · rintro s rfl; simp only [spec_l13Copy.l0, end_lt, if_false]; exact Ev.val (by simp)
  · rintro pre x rest s e rfl ih
    have hxx := hx x (by rw [e]; simp)
    have hs8 : s.length < 2199023255552 := by rw [e] at hl; simp at hl; omega
    have h2 := ih (s ++ [x]) rfl
    clear ih
    subst e
    simp only [spec_l13Copy.l0, mid_lt, mid_nn, mid_wrap hm, if_true, rd_T49, Int.toNat_natCast, mid_get, l07Shape_eq3 x.f0 _ _ _ _ _ hxx, Option.bind_some, if_pos hs8]
    simpa using h2
theorem sMergeBand_ev (h i : Int) (rows : List (List Int)) (l : List S49) (hr : (rows.length : Int) ≤ 1048576) (hrx : ∀ x ∈ rows, (x.length : Int) ≤ 1048576) (hl : (l.length : Int) ≤ 1048576) (hx : ∀ x ∈ l, (x.f0.length : Int) ≤ 1048576) : Ev (fun k => spec_MergeBand.f k h i rows l) (mergeB h i rows l) := by
  have hm : l.length ≤ maxLen := by rw [maxLen_eq]; omega
  have hrm : rows.length ≤ maxLen := by rw [maxLen_eq]; omega
  have hrxm : ∀ x ∈ rows, x.length ≤ maxLen := fun x h9 => by have := hrx x h9; rw [maxLen_eq]; omega
  have hxm : ∀ x ∈ l, x.f0.length ≤ maxLen := fun x h9 => by have := hx x h9; rw [maxLen_eq]; omega
  simp only [spec_MergeBand.f]
  unfold mergeB
  refine Ev.bind (l13Copy_ev h i rows l hr hrx hl hx) (Ev.bind (sBandOk_ev h i rows l hrm hrxm hm hxm) (Ev.ite (fun c => ?_) (fun c => ?_)))
  · rw [if_pos c]
    obtain ⟨c1, c2, c3, c4⟩ := bndOk_tells c
    obtain ⟨hG, hn⟩ := rowsOk_G c3
    have hy : inB (wrap64 (h * i)) 0 32 = true := by
      have hp := bandOk_page c1
      rw [Int.mul_comm, inB_iff, hp.2.2.2.1]; omega
    generalize hV : rendGo (wrap64 (h * i)) l rows = V
    refine ev_loop l (F := fun k M j => spec_MergeBand.l0 k j h i rows l h i M l) (fun _ r M => RG rows.length M ∧ rendGo (wrap64 (h * i)) r M = V) (fun _ _ _ => (h, i, V, [])) ?_ ?_ rows ⟨hG, hV⟩
    · rintro M ⟨_, e⟩
      simp only [spec_MergeBand.l0, end_lt, if_false]
      exact Ev.val (by rw [← e]; rfl)
    · rintro pre x rest M e ⟨hM, hT⟩ ih
      have hxx := hxm x (by rw [e]; simp)
      rw [rendGo] at hT
      have h2 := ih _ ⟨rendO_G _ x M hM, hT⟩
      clear ih hV c c4
      subst e
      simp only [spec_MergeBand.l0, mid_lt, mid_nn, mid_wrap hm, if_true, rd_T49, Int.toNat_natCast, mid_get]
      obtain ⟨b, hS⟩ := sRend_ev _ hy x M hM hn hxx
      exact Ev.bind hS h2
  · rw [if_neg c]; exact Ev.now _
end Go.Proofs.YtncfipboidmfbaaGreat.Pure
namespace Go.Proofs.YtncfipboidmfbaaGreat.Pure
open Go.RowKit Go.Proofs.YtncfipboidmfbaaGreat.QFnExactAddToBand Go.Proofs.YtncfipboidmfbaaGreatW.PrintWords Go.Proofs.YtncfipboidmfbaaGreatW.PrintLast Go.Proofs.YtncfipboidmfbaaGreat.Plain

theorem cellsGo_app : ∀ (l m : List S49) (a : Int), cellsGo (l ++ m) a = cellsGo m (cellsGo l a)
  | [], m, a => rfl
  | x :: l, m, a => by rw [List.cons_append, cellsGo, cellsGo, cellsGo_app l m]
theorem cellsGo_one (o : S49) (a : Int) : cellsGo [o] a = wrap64 (a + wrap64 (2 + o.f0.length)) := rfl
theorem iCopyBand_ev (h i : Int) (rows : List (List Int)) (l : List S49) (hr : (rows.length : Int) ≤ 1048576) (hrx : ∀ x ∈ rows, (x.length : Int) ≤ 1048576) (hl : (l.length : Int) ≤ 1048576) (hx : ∀ x ∈ l, (x.f0.length : Int) ≤ 1048576) : Ev (fun k => impl_copyBand.f k h i rows l) (h, i, rows, l) := by
  simp only [impl_copyBand.f]
  exact Ev.bind (iCopyRows_ev rows hr hrx) (Ev.bind (copyObjects_ev l hl hx) (Ev.now _))
def addB (h i : Int) (rows : List (List Int)) (l : List S49) (o : S49) : Int × Int × List (List Int) × List S49 × Bool :=
  if bndOk h i rows l = true ∧ objOk o.f0 o.f1 o.f2.f0 o.f2.f1 o.f2.f2 o.f2.f3 = true then
    (if touches o.f0 o.f1 o.f2.f0 o.f2.f1 o.f2.f2 o.f2.f3 h i = true then
      (if wrap64 (wrap64 (cellsGo l 0 + 2) + (o.f0.length : Int)) > 60 then ((mergeB h i rows l).1, (mergeB h i rows l).2.1, (mergeB h i rows l).2.2.1, (mergeB h i rows l).2.2.2 ++ [o], true) else (h, i, rows, l ++ [o], true))
    else (h, i, rows, l, true))
  else (h, i, rows, l, false)
theorem iAddToBand_ev (h i : Int) (rows : List (List Int)) (l : List S49) (o : S49) (hr : (rows.length : Int) ≤ 1048576) (hrx : ∀ x ∈ rows, (x.length : Int) ≤ 1048576) (hl : (l.length : Int) ≤ 1048576) (hx : ∀ x ∈ l, (x.f0.length : Int) ≤ 1048576) (ho : (o.f0.length : Int) ≤ 1048576) :
    Ev (fun k => impl_AddToBand.f k h i rows l o.f0 o.f1 o.f2.f0 o.f2.f1 o.f2.f2 o.f2.f3) (addB h i rows l o) := by
  have hm : l.length ≤ maxLen := by rw [maxLen_eq]; omega
  have hxm : ∀ x ∈ l, x.f0.length ≤ maxLen := fun x h9 => by have := hx x h9; rw [maxLen_eq]; omega
  have hom : o.f0.length ≤ maxLen := by rw [maxLen_eq]; omega
  have hcb := iCopyBand_ev h i rows l hr hrx hl hx
  have no : Ev (fun k => impl_AddToBand.j0 k true h i rows l o.f0 o.f1 o.f2.f0 o.f2.f1 o.f2.f2 o.f2.f3) (h, i, rows, l, false) := Ev.up (by
    simp only [impl_AddToBand.j0, if_true]; exact Ev.bind hcb (Ev.now _))
  simp only [impl_AddToBand.f]
  unfold addB
  refine Ev.bind (iBandOk_ev h i rows l hm hxm) ?_
  by_cases c : bndOk h i rows l = true
  · simp only [if_pos c]
    refine Ev.bind (iObjectOk_ev o.f0 _ _ _ _ _ hom) ?_
    by_cases c1 : objOk o.f0 o.f1 o.f2.f0 o.f2.f1 o.f2.f2 o.f2.f3 = true
    · rw [if_pos ⟨c, c1⟩]
      simp only [c1, Bool.not_true]
      refine Ev.up ?_
      simp only [impl_AddToBand.j0, Bool.false_eq_true, if_false]
      refine Ev.bind (iTouchesBand_ev o.f0 _ _ _ _ _ h i hom) (Ev.ite (fun t => ?_) (fun t => ?_))
      · rw [if_pos t]
        refine Ev.bind hcb (Ev.bind (iBandCells_ev h i rows l hm) (Ev.ite (fun z => ?_) (fun z => ?_)))
        · rw [if_pos z]
          have hL := mergeB_len h i rows l hr hrx hl hx
          refine Ev.bind (iMergeBand_ev h i rows l hr hrx hl hx) ?_
          have h8 : (mergeB h i rows l).2.2.2.length < 2199023255552 := by have := hL.2.1; omega
          simp only [copyObject_eq3 o.f0 _ _ _ _ _ ho, Option.bind_some, if_pos h8]
          exact Ev.now _
        · rw [if_neg z]
          have h8 : l.length < 2199023255552 := by omega
          simp only [copyObject_eq3 o.f0 _ _ _ _ _ ho, Option.bind_some, if_pos h8]
          exact Ev.now _
      · rw [if_neg t]; exact Ev.bind hcb (Ev.now _)
    · rw [if_neg (fun q => c1 q.2)]
      have c2 : objOk o.f0 o.f1 o.f2.f0 o.f2.f1 o.f2.f2 o.f2.f3 = false := by simpa using c1
      simp only [c2, Bool.not_false]; exact no
  · rw [if_neg (fun q => c q.1)]
    simp only [if_neg c]; exact no
theorem sAddToBand_ev (h i : Int) (rows : List (List Int)) (l : List S49) (o : S49) (hr : (rows.length : Int) ≤ 1048576) (hrx : ∀ x ∈ rows, (x.length : Int) ≤ 1048576) (hl : (l.length : Int) ≤ 1048576) (hx : ∀ x ∈ l, (x.f0.length : Int) ≤ 1048576) (ho : (o.f0.length : Int) ≤ 1048576) :
    Ev (fun k => spec_AddToBand.f k h i rows l o.f0 o.f1 o.f2.f0 o.f2.f1 o.f2.f2 o.f2.f3) (addB h i rows l o) := by
  have hm : l.length ≤ maxLen := by rw [maxLen_eq]; omega
  have hrm : rows.length ≤ maxLen := by rw [maxLen_eq]; omega
  have hrxm : ∀ x ∈ rows, x.length ≤ maxLen := fun x h9 => by have := hrx x h9; rw [maxLen_eq]; omega
  have hxm : ∀ x ∈ l, x.f0.length ≤ maxLen := fun x h9 => by have := hx x h9; rw [maxLen_eq]; omega
  have hom : o.f0.length ≤ maxLen := by rw [maxLen_eq]; omega
  have no : Ev (fun k => spec_AddToBand.j0 k true h i rows l o.f0 o.f1 o.f2.f0 o.f2.f1 o.f2.f2 o.f2.f3 h i rows l) (h, i, rows, l, false) := Ev.up (by
    simp only [spec_AddToBand.j0, if_true]; exact Ev.now _)
  simp only [spec_AddToBand.f]
  unfold addB
  refine Ev.bind (l13Copy_ev h i rows l hr hrx hl hx) (Ev.bind (sBandOk_ev h i rows l hrm hrxm hm hxm) ?_)
  by_cases c : bndOk h i rows l = true
  · simp only [if_pos c]
    refine Ev.bind (sObjectOk_ev o.f0 _ _ _ _ _ hom) ?_
    by_cases c1 : objOk o.f0 o.f1 o.f2.f0 o.f2.f1 o.f2.f2 o.f2.f3 = true
    · rw [if_pos ⟨c, c1⟩]
      simp only [c1, Bool.not_true]
      refine Ev.up ?_
      simp only [spec_AddToBand.j0, Bool.false_eq_true, if_false]
      refine Ev.bind (sTouchesBand_ev o.f0 _ _ _ _ _ h i hom) (Ev.ite (fun t => ?_) (fun t => ?_))
      · rw [if_pos t]
        refine Ev.bind (sBandCells_ev h i rows l hm) (Ev.ite (fun z => ?_) (fun z => ?_))
        · rw [if_pos z]
          have hL := mergeB_len h i rows l hr hrx hl hx
          refine Ev.bind (sMergeBand_ev h i rows l hr hrx hl hx) ?_
          have h8 : (mergeB h i rows l).2.2.2.length < 2199023255552 := by have := hL.2.1; omega
          simp only [l07Shape_eq3 o.f0 _ _ _ _ _ ho, Option.bind_some, if_pos h8]
          exact Ev.now _
        · rw [if_neg z]
          have h8 : l.length < 2199023255552 := by omega
          simp only [l07Shape_eq3 o.f0 _ _ _ _ _ ho, Option.bind_some, if_pos h8]
          exact Ev.now _
      · rw [if_neg t]; exact Ev.now _
    · rw [if_neg (fun q => c1 q.2)]
      have c2 : objOk o.f0 o.f1 o.f2.f0 o.f2.f1 o.f2.f2 o.f2.f3 = false := by simpa using c1
      simp only [c2, Bool.not_false]; exact no
  · rw [if_neg (fun q => c q.1)]
    simp only [if_neg c]; exact no
end Go.Proofs.YtncfipboidmfbaaGreat.Pure
namespace Go.Proofs.YtncfipboidmfbaaGreat.Pure
open Go.RowKit Go.Proofs.YtncfipboidmfbaaGreat.QFnExactAddToBand Go.Proofs.YtncfipboidmfbaaGreatW.PrintWords Go.Proofs.YtncfipboidmfbaaGreatW.PrintLast Go.Proofs.YtncfipboidmfbaaGreat.Plain

theorem addB_len (h i : Int) (rows : List (List Int)) (l : List S49) (o : S49) (hr : (rows.length : Int) ≤ 1048576) (hrx : ∀ x ∈ rows, (x.length : Int) ≤ 1048576) (hl : (l.length : Int) ≤ 1048576) (hx : ∀ x ∈ l, (x.f0.length : Int) ≤ 1048576) (ho : (o.f0.length : Int) ≤ 1048576) :
    (((addB h i rows l o).2.2.1.length : Int) ≤ 1048576 ∧ ∀ x ∈ (addB h i rows l o).2.2.1, (x.length : Int) ≤ 1048576) ∧ (((addB h i rows l o).2.2.2.1.length : Int) ≤ 1048577 ∧ ∀ x ∈ (addB h i rows l o).2.2.2.1, (x.f0.length : Int) ≤ 1048576) := by
  obtain ⟨⟨m1, m2⟩, m3, m4⟩ := mergeB_len h i rows l hr hrx hl hx
  unfold addB
  split
  · split
    · split
      · exact ⟨⟨m1, m2⟩, by simp; omega, fun x hx2 => by rcases List.mem_append.1 hx2 with h2 | h2; exact m4 x h2; rw [List.mem_singleton] at h2; rw [h2]; exact ho⟩
      · exact ⟨⟨hr, hrx⟩, by simp; omega, fun x hx2 => by rcases List.mem_append.1 hx2 with h2 | h2; exact hx x h2; rw [List.mem_singleton] at h2; rw [h2]; exact ho⟩
    · exact ⟨⟨hr, hrx⟩, by simp only; omega, hx⟩
  · exact ⟨⟨hr, hrx⟩, by simp only; omega, hx⟩
theorem FnExactAddToBand (p q : Int) (rows : List (List Int)) (l : List S42) (o : List S153) (g a b c d : Int) (h : ((Lit.int .i64 p).wf = true) ∧ ((Lit.int .i64 q).wf = true) ∧ (rows.length ≤ maxLen ∧ ∀ y ∈ rows, (y.length ≤ maxLen ∧ ∀ yy ∈ y, ((Lit.int .i64 yy).wf = true))) ∧ (l.length ≤ maxLen ∧ ∀ y ∈ l, ((y.f0.length ≤ maxLen ∧ ∀ yy ∈ y.f0, (((Lit.int .i64 yy.f0).wf = true) ∧ ((Lit.int .i64 yy.f1).wf = true))) ∧ ((Lit.int .i64 y.f1).wf = true) ∧ (((Lit.int .i64 y.f2.f0).wf = true) ∧ ((Lit.int .i64 y.f2.f1).wf = true) ∧ ((Lit.int .i64 y.f2.f2).wf = true) ∧ ((Lit.int .i64 y.f2.f3).wf = true))))) (ho : ((o.length ≤ maxLen ∧ ∀ y ∈ o, (((Lit.int .i64 y.f0).wf = true) ∧ ((Lit.int .i64 y.f1).wf = true))) ∧ ((Lit.int .i64 g).wf = true) ∧ (((Lit.int .i64 a).wf = true) ∧ ((Lit.int .i64 b).wf = true) ∧ ((Lit.int .i64 c).wf = true) ∧ ((Lit.int .i64 d).wf = true)))) : ∃ k, laws_FnExactAddToBand.f k p q rows l o g a b c d = some true := by
  obtain ⟨_, _, hr, h⟩ := h
  refine Ev.rounds (g := fun k => laws_FnExactAddToBand.f k p q rows l o g a b c d) ?_
  simp only [laws_FnExactAddToBand.f]
  refine Ev.bind (szBand_ev p q rows l 1048576 hr.1 (fun x hx => (hr.2 x hx).1) h.1 (fun x hx => (h.2 x hx).1.1) (by omega) (by omega)) (Ev.ite (fun _ => Ev.now _) (fun cz => ?_))
  rcases szBd_tells rows l 1048576 (by omega) (by omega) with hn | ⟨s0, s1, ⟨hl, hlx⟩, ⟨hlo0, hox⟩⟩
  · omega
  generalize szBd rows l 1048576 = S at s0 s1 cz
  simp only [szObject_eq o g a b c d S ho.1.1 s0 s1, Option.bind_some]
  refine Ev.ite (fun _ => Ev.now _) (fun cn => ?_)
  have hlp : (o.length : Int) ≤ 1048576 := by rcases szN_tells o.length S s0 with hn | h2 <;> omega
  have hlp2 : ((o.map tPoint).length : Int) ≤ 1048576 := by rw [List.length_map]; omega
  have hmo : (o.map tPoint).length ≤ maxLen := by rw [maxLen_eq, List.length_map]; omega
  have hpo := toObject_ev o g a b c d hlp
  have hlo : ((l.map tObj).length : Int) ≤ 1048576 := by rw [List.length_map]; omega
  have hm : (l.map tObj).length ≤ maxLen := by rw [maxLen_eq, List.length_map]; omega
  have hT := toBand_ev p q rows l hl hlx hlo0 hox
  have hxm := map_tObj_len hox
  have hx0 : ∀ x ∈ rows, x.length ≤ maxLen := fun x hx => (hr.2 x hx).1
  have hxi : ∀ x ∈ l.map tObj, (x.f0.length : Int) ≤ 1048576 := fun x hx => by obtain ⟨y, hy, rfl⟩ := List.mem_map.1 hx; have := hox y hy; simp only [tObj, List.length_map]; omega
  have hI := iAddToBand_ev p q rows (l.map tObj) ⟨o.map tPoint, g, ⟨a, b, c, d⟩⟩ hl hlx hlo hxi hlp2
  have hS := sAddToBand_ev p q rows (l.map tObj) ⟨o.map tPoint, g, ⟨a, b, c, d⟩⟩ hl hlx hlo hxi hlp2
  have hL := addB_len p q rows (l.map tObj) ⟨o.map tPoint, g, ⟨a, b, c, d⟩⟩ hl hlx hlo hxi hlp2
  have hTo : lnAll lnOb (l.map tObj) ≤ 4194304 * (l.map tObj).length := lnAll_le lnOb _ (fun x hx => by have := hxi x hx; unfold lnOb; omega)
  have hNo : 0 ≤ lnAll lnOb (l.map tObj) := lnAll_nn lnOb _ (fun x _ => by unfold lnOb; omega)
  have hTr : lnAll lnI rows ≤ 4194304 * rows.length := lnAll_le lnI _ (fun x hx => by have := hlx x hx; unfold lnI; omega)
  have hNr : 0 ≤ lnAll lnI rows := lnAll_nn lnI _ (fun x _ => by unfold lnI; omega)
  refine Ev.bind hT (Ev.bind hpo (Ev.bind hS (Ev.bind hT (Ev.bind hpo (Ev.bind hI ?_)))))
  generalize addB p q rows (l.map tObj) ⟨o.map tPoint, g, ⟨a, b, c, d⟩⟩ = M at hI hL ⊢
  obtain ⟨⟨hL1, hL2⟩, hL3, hL4⟩ := hL
  have hM : M.2.2.1.length ≤ maxLen := by rw [maxLen_eq]; omega
  have hX : ∀ x ∈ M.2.2.1, x.length ≤ maxLen := fun x hx => by have := hL2 x hx; rw [maxLen_eq]; omega
  have hM2 : M.2.2.2.1.length ≤ maxLen := by rw [maxLen_eq]; omega
  have hX2 : ∀ x ∈ M.2.2.2.1, x.f0.length ≤ maxLen := fun x hx => by have := hL4 x hx; rw [maxLen_eq]; omega
  have hTm : lnAll lnI M.2.2.1 ≤ 4194304 * M.2.2.1.length := lnAll_le lnI _ (fun x hx => by have := hL2 x hx; unfold lnI; omega)
  have hNm : 0 ≤ lnAll lnI M.2.2.1 := lnAll_nn lnI _ (fun x _ => by unfold lnI; omega)
  have hTn : lnAll lnOb M.2.2.2.1 ≤ 4194304 * M.2.2.2.1.length := lnAll_le lnOb _ (fun x hx => by have := hL4 x hx; unfold lnOb; omega)
  have hNn : 0 ≤ lnAll lnOb M.2.2.2.1 := lnAll_nn lnOb _ (fun x _ => by unfold lnOb; omega)
  have hE := eqBand_ev M.1 M.2.1 M.2.2.1 M.2.2.2.1 hM hX hM2 hX2
  have hH := heldBand_ev M.1 M.2.1 M.2.2.1 M.2.2.2.1 1 hM hM2 (by omega) (by omega)
  refine Ev.bind hE (Ev.ite (fun _ => Ev.ite (fun c => absurd c (by simp)) (fun _ => ?_)) (fun c => absurd rfl c))
  refine Ev.bind hT (Ev.bind (eqBand_ev p q rows _ hr.1 hx0 hm hxm) (Ev.ite (fun _ => ?_) (fun c => absurd rfl c)))
  refine Ev.bind hpo (Ev.bind (eqObject_ev _ _ _ _ _ _ hmo) (Ev.ite (fun _ => ?_) (fun c => absurd rfl c)))
  refine Ev.bind (markBand_ev p q rows (l.map tObj) 1 hr.1 hx0 hm hxm (by omega) (by omega)) ?_
  refine Ev.bind (markObject_ev (o.map tPoint) _ _ _ _ _ (1 + lnAll lnI rows + lnAll lnOb (l.map tObj)) hmo (by omega) (by omega)) (Ev.ite (fun c => absurd c (by simp only; omega)) (fun _ => ?_))
  refine Ev.bind hE (Ev.ite (fun _ => ?_) (fun c => absurd rfl c))
  refine Ev.bind (markBand_ev M.1 M.2.1 M.2.2.1 M.2.2.2.1 1 hM hX hM2 hX2 (by omega) (by omega)) ?_
  refine Ev.bind hH (Ev.ite (fun c => absurd c (by omega)) (fun _ => Ev.ite (fun _ => ?_) (fun c => absurd rfl c)))
  refine Ev.bind hT (Ev.bind hpo (Ev.bind hI (Ev.bind hE (Ev.ite (fun _ => Ev.ite (fun c => absurd c (by simp)) (fun _ => ?_)) (fun c => absurd rfl c)))))
  exact Ev.bind hH (Ev.ite (fun c => absurd c (by omega)) (fun _ => Ev.ite (fun _ => Ev.now _) (fun c => absurd rfl c)))
end Go.Proofs.YtncfipboidmfbaaGreat.Pure
