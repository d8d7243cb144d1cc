/- The plain law of FnExactBandOk: over numbers and lists, what the printed functions answer, and that the law answers true. -/
import Derived.Test.YtigodjcnkgebaaaQFnExactBandOkx6
import Derived.Test.YtigodjcnkgebaaaPlain
set_option linter.unusedSimpArgs false
set_option linter.unusedVariables false
namespace Go.Proofs.Ytigodjcnkgebaaa.Pure
open Go.RowKit Go.Proofs.Ytigodjcnkgebaaa.QFnExactBandOk Go.Proofs.YtigodjcnkgebaaaW.PrintWords Go.Proofs.YtigodjcnkgebaaaW.PrintLast Go.Proofs.Ytigodjcnkgebaaa.Plain

theorem szIntS_eq (l : List Int) (a : Int) (h : l.length ≤ maxLen) (h0 : 0 ≤ a) (h1 : a ≤ 1048576) : laws_szIntS.f l a = some (szN l.length a) := by
  rw [maxLen_eq] at h
  unfold laws_szIntS.f szN
  rw [wrap_id (by omega) (by omega)]
  split <;> rfl
theorem szPointS_eq (l : List S173) (a : Int) (h : l.length ≤ maxLen) (h0 : 0 ≤ a) (h1 : a ≤ 1048576) : laws_szPointS.f l a = some (szN l.length a) := by
  rw [maxLen_eq] at h
  unfold laws_szPointS.f szN
  rw [wrap_id (by omega) (by omega)]
  split <;> rfl
def szSS (l : List (List Int)) (a : Int) : Int := if szN l.length a < 0 then -1 else szL (fun x a => szN x.length a) l (szN l.length a)
theorem szSS_tells (l : List (List Int)) (a : Int) (h0 : 0 ≤ a) (h1 : a ≤ 1048576) : szSS l a = -1 ∨ (0 ≤ szSS l a ∧ szSS l a ≤ a ∧ (l.length : Int) ≤ a ∧ ∀ x ∈ l, (x.length : Int) ≤ 1048576) := by
  unfold szSS
  rcases szN_tells l.length a h0 with h | ⟨h2, h3, h4⟩
  · rw [h]; exact .inl rfl
  · rw [if_neg (by omega)]
    rcases szL_tells (f := fun (x : List Int) a => szN x.length a) (P := fun x => (x.length : Int) ≤ 1048576) (fun x a h0 h1 => by rcases szN_tells x.length a h0 with h | ⟨h5, h6, h7⟩; exact .inl h; exact .inr ⟨h5, h6, by omega⟩) l _ h2 (by omega) with h | ⟨h5, h6, h7⟩
    · exact .inl h
    · exact .inr ⟨h5, by omega, h4, h7⟩
theorem szIntSS_ev (l : List (List Int)) (a : Int) (h : l.length ≤ maxLen) (hx : ∀ x ∈ l, x.length ≤ maxLen) (h0 : 0 ≤ a) (h1 : a ≤ 1048576) : Ev (fun k => laws_szIntSS.f k l a) (szSS l a) := by
  have h' := h
  rw [maxLen_eq] at h'
  simp only [laws_szIntSS.f]
  rw [wrap_id (by omega) (by omega)]
  have hn : szN l.length a = if a - (l.length : Int) < 0 then -1 else a - (l.length : Int) := rfl
  unfold szSS
  rw [hn]
  by_cases c : a - (l.length : Int) < 0
  · simp only [if_pos c]; exact Ev.val rfl
  · simp only [if_neg c]
    refine ev_loop l (F := fun k s i => laws_szIntSS.l0 k l s i) (fun _ _ s => 0 ≤ s ∧ s ≤ 1048576) (fun _ r s => szL (fun x a => szN x.length a) r s) ?_ ?_ (a - (l.length : Int)) ⟨by omega, by omega⟩
    · intro s _
      simp only [laws_szIntSS.l0, end_lt, if_false, szL]
      exact Ev.now _
    · rintro pre x rest s e ⟨hs0, hs1⟩ ih
      have hxx := hx x (by rw [e]; simp)
      subst e
      simp only [laws_szIntSS.l0, mid_lt, mid_nn, mid_wrap h, if_true, rd_L5, Int.toNat_natCast, mid_get, szIntS_eq x s hxx hs0 hs1, Option.bind_some, szL]
      rcases szN_tells x.length s hs0 with hn | ⟨h2, h3, h4⟩
      · rw [hn]; exact Ev.now _
      · have c2 : ¬ szN x.length s < 0 := by omega
        simp only [if_neg c2]
        exact ih _ ⟨h2, by omega⟩
theorem szObject_eq (l : List S173) (b c d e f : Int) (a : Int) (h : l.length ≤ maxLen) (h0 : 0 ≤ a) (h1 : a ≤ 1048576) : laws_szObject.f l b c d e f a = some (szN l.length a) := by
  unfold laws_szObject.f
  rw [szPointS_eq l a h h0 h1]
  rcases szN_tells l.length a h0 with hn | ⟨h2, h3, h4⟩
  · rw [hn]; rfl
  · have c2 : ¬ szN l.length a < 0 := by omega
    simp [c2]

theorem toIntS_ev (l : List Int) (h : (l.length : Int) ≤ 1048576) : Ev (fun k => laws_toIntS.f k l) l := by
  have hm : l.length ≤ maxLen := by rw [maxLen_eq]; omega
  simp only [laws_toIntS.f]
  refine Ev.ite (fun _ => Ev.ite (fun _ => ?_) (fun c => absurd (by omega) c)) (fun c => absurd (by omega) c)
  have := ev_fill l id (F := fun k s i => laws_toIntS.l0 k l s i) (fun s => by
    simp only [laws_toIntS.l0, end_lt, if_false]
    exact Ev.now _) (fun pre x rest s r e hs h => by
    subst e
    simp only [laws_toIntS.l0, hs, mid_lt, mid_nn, mid_wrap hm, if_true, rd, Int.toNat_natCast, mid_get]
    exact h) (List.replicate ((l.length : Int) : Int).toNat 0) (by simp)
  simpa using this
theorem toIntSS_ev (l : List (List Int)) (h : (l.length : Int) ≤ 1048576) (hx : ∀ x ∈ l, (x.length : Int) ≤ 1048576) : Ev (fun k => laws_toIntSS.f k l) l := by
  have hm : l.length ≤ maxLen := by rw [maxLen_eq]; omega
  simp only [laws_toIntSS.f]
  refine Ev.ite (fun _ => Ev.ite (fun _ => ?_) (fun c => absurd (by omega) c)) (fun c => absurd (by omega) c)
  have := ev_fill l id (F := fun k s i => laws_toIntSS.l0 k l s i) (fun s => by
    simp only [laws_toIntSS.l0, end_lt, if_false]
    exact Ev.now _) (fun pre x rest s r e hs h => by
    have hxx := hx x (by rw [e]; simp)
    subst e
    simp only [laws_toIntSS.l0, hs, mid_lt, mid_nn, mid_wrap hm, if_true, rd_L5, Int.toNat_natCast, mid_get]
    exact Ev.bind (toIntS_ev x hxx) h) (List.replicate ((l.length : Int) : Int).toNat []) (by simp)
  simpa using this
def tPoint (r : S173) : S171 := ⟨r.f0, r.f1⟩
theorem toPointS_ev (l : List S173) (h : (l.length : Int) ≤ 1048576) : Ev (fun k => laws_toPointS.f k l) (l.map tPoint) := by
  have hm : l.length ≤ maxLen := by rw [maxLen_eq]; omega
  simp only [laws_toPointS.f]
  refine Ev.ite (fun _ => Ev.ite (fun _ => ?_) (fun c => absurd (by omega) c)) (fun c => absurd (by omega) c)
  exact ev_fill l tPoint (F := fun k s i => laws_toPointS.l0 k l s i) (fun s => by
    simp only [laws_toPointS.l0, end_lt, if_false]
    exact Ev.now _) (fun pre x rest s r e hs h => by
    subst e
    simp only [laws_toPointS.l0, hs, mid_lt, mid_nn, mid_wrap hm, if_true, rd_T173, Int.toNat_natCast, mid_get, laws_toPoint.f, Option.bind_some]
    exact h) _ (by simp)
theorem eqIntS_ev (l : List Int) (hm : l.length ≤ maxLen) : Ev (fun k => laws_eqIntS.f k l l) true := by
  simp only [laws_eqIntS.f, if_true]
  refine ev_loop0 l (F := fun k i => laws_eqIntS.l0 k l l i) (fun _ _ => true) ?_ (fun pre x rest e h => ?_)
  · simp only [laws_eqIntS.l0, end_lt, if_false]; exact Ev.now _
  · subst e
    simp only [laws_eqIntS.l0, mid_lt, mid_nn, mid_wrap hm, if_true]
    exact h
theorem eqIntSS_ev (l : List (List Int)) (hm : l.length ≤ maxLen) (hx : ∀ x ∈ l, x.length ≤ maxLen) : Ev (fun k => laws_eqIntSS.f k l l) true := by
  simp only [laws_eqIntSS.f, if_true]
  refine ev_loop0 l (F := fun k i => laws_eqIntSS.l0 k l l i) (fun _ _ => true) ?_ (fun pre x rest e h => ?_)
  · simp only [laws_eqIntSS.l0, end_lt, if_false]; exact Ev.now _
  · have hxx := hx x (by rw [e]; simp)
    subst e
    simp only [laws_eqIntSS.l0, mid_lt, mid_nn, mid_wrap hm, if_true, rd_L5, Int.toNat_natCast, mid_get]
    exact Ev.bind (eqIntS_ev x hxx) h
theorem eqPointS_ev (l : List S171) (hm : l.length ≤ maxLen) : Ev (fun k => laws_eqPointS.f k l l) true := by
  simp only [laws_eqPointS.f, if_true]
  refine ev_loop0 l (F := fun k i => laws_eqPointS.l0 k l l i) (fun _ _ => true) ?_ (fun pre x rest e h => ?_)
  · simp only [laws_eqPointS.l0, end_lt, if_false]; exact Ev.now _
  · subst e
    simp only [laws_eqPointS.l0, mid_lt, mid_nn, mid_wrap hm, if_true, laws_eqPoint.f, Option.bind_some]
    exact h
theorem eqObject_ev (l : List S171) (b c d e f : Int) (hm : l.length ≤ maxLen) : Ev (fun k => laws_eqObject.f k l b c d e f l b c d e f) true := by
  simp only [laws_eqObject.f, laws_eqBox.f, if_true, Option.bind_some]
  exact Ev.bind (eqPointS_ev l hm) (Ev.now _)

end Go.Proofs.Ytigodjcnkgebaaa.Pure
namespace Go.Proofs.Ytigodjcnkgebaaa.Pure
open Go.RowKit Go.Proofs.Ytigodjcnkgebaaa.QFnExactBandOk Go.Proofs.YtigodjcnkgebaaaW.PrintWords Go.Proofs.YtigodjcnkgebaaaW.PrintLast Go.Proofs.Ytigodjcnkgebaaa.Plain

def szOS (l : List S38) (a : Int) : Int := if szN l.length a < 0 then -1 else szL (fun x a => szN x.f0.length a) l (szN l.length a)
theorem szOS_tells (l : List S38) (a : Int) (h0 : 0 ≤ a) (h1 : a ≤ 1048576) : szOS l a = -1 ∨ (0 ≤ szOS l a ∧ szOS l a ≤ a ∧ (l.length : Int) ≤ a ∧ ∀ x ∈ l, (x.f0.length : Int) ≤ 1048576) := by
  unfold szOS
  rcases szN_tells l.length a h0 with h | ⟨h2, h3, h4⟩
  · rw [h]; exact .inl rfl
  · rw [if_neg (by omega)]
    rcases szL_tells (f := fun (x : S38) a => szN x.f0.length a) (P := fun x => (x.f0.length : Int) ≤ 1048576) (fun x a h0 h1 => by rcases szN_tells x.f0.length a h0 with h | ⟨h5, h6, h7⟩; exact .inl h; exact .inr ⟨h5, h6, by omega⟩) l _ h2 (by omega) with h | ⟨h5, h6, h7⟩
    · exact .inl h
    · exact .inr ⟨h5, by omega, h4, h7⟩
theorem szObjectS_ev (l : List S38) (a : Int) (h : l.length ≤ maxLen) (hx : ∀ x ∈ l, x.f0.length ≤ maxLen) (h0 : 0 ≤ a) (h1 : a ≤ 1048576) : Ev (fun k => laws_szObjectS.f k l a) (szOS l a) := by
  have h' := h
  rw [maxLen_eq] at h'
  simp only [laws_szObjectS.f]
  rw [wrap_id (by omega) (by omega)]
  have hn : szN l.length a = if a - (l.length : Int) < 0 then -1 else a - (l.length : Int) := rfl
  unfold szOS
  rw [hn]
  by_cases c : a - (l.length : Int) < 0
  · simp only [if_pos c]; exact Ev.val rfl
  · simp only [if_neg c]
    refine ev_loop l (F := fun k s i => laws_szObjectS.l0 k l s i) (fun _ _ s => 0 ≤ s ∧ s ≤ 1048576) (fun _ r s => szL (fun x a => szN x.f0.length a) r s) ?_ ?_ (a - (l.length : Int)) ⟨by omega, by omega⟩
    · intro s _
      simp only [laws_szObjectS.l0, end_lt, if_false, szL]
      exact Ev.now _
    · rintro pre x rest s e ⟨hs0, hs1⟩ ih
      have hxx := hx x (by rw [e]; simp)
      subst e
      simp only [laws_szObjectS.l0, mid_lt, mid_nn, mid_wrap h, if_true, rd_T38, Int.toNat_natCast, mid_get, szObject_eq x.f0 _ _ _ _ _ s hxx hs0 hs1, Option.bind_some, szL]
      rcases szN_tells x.f0.length s hs0 with hn | ⟨h2, h3, h4⟩
      · rw [hn]; exact Ev.now _
      · have c2 : ¬ szN x.f0.length s < 0 := by omega
        simp only [if_neg c2]
        exact ih _ ⟨h2, by omega⟩
def szBd (rows : List (List Int)) (l : List S38) (a : Int) : Int := if szSS rows a < 0 then -1 else szOS l (szSS rows a)
theorem szBd_tells (rows : List (List Int)) (l : List S38) (a : Int) (h0 : 0 ≤ a) (h1 : a ≤ 1048576) : szBd rows l a = -1 ∨ (0 ≤ szBd rows l a ∧ szBd rows l a ≤ a ∧ ((rows.length : Int) ≤ a ∧ ∀ x ∈ rows, (x.length : Int) ≤ 1048576) ∧ ((l.length : Int) ≤ a ∧ ∀ x ∈ l, (x.f0.length : Int) ≤ 1048576)) := by
  unfold szBd
  rcases szSS_tells rows a h0 h1 with h | ⟨h2, h3, h4, h5⟩
  · rw [h]; exact .inl rfl
  · rw [if_neg (by omega)]
    rcases szOS_tells l _ h2 (by omega) with h | ⟨g2, g3, g4, g5⟩
    · exact .inl h
    · exact .inr ⟨g2, by omega, ⟨h4, h5⟩, ⟨by omega, g5⟩⟩
theorem szBand_ev (p q : Int) (rows : List (List Int)) (l : List S38) (a : Int) (hr : rows.length ≤ maxLen) (hrx : ∀ x ∈ rows, x.length ≤ maxLen) (h : l.length ≤ maxLen) (hx : ∀ x ∈ l, x.f0.length ≤ maxLen) (h0 : 0 ≤ a) (h1 : a ≤ 1048576) : Ev (fun k => laws_szBand.f k p q rows l a) (szBd rows l a) := by
  simp only [laws_szBand.f]
  unfold szBd
  refine Ev.bind (szIntSS_ev rows a hr hrx h0 h1) ?_
  rcases szSS_tells rows a h0 h1 with hn | ⟨h2, h3, h4, h5⟩
  · rw [hn]; exact Ev.now _
  · have c2 : ¬ szSS rows a < 0 := by omega
    simp only [if_neg c2]
    refine Ev.bind (szObjectS_ev l _ h hx h2 (by omega)) ?_
    rcases szOS_tells l _ h2 (by omega) with hn | ⟨g2, g3, g4, g5⟩
    · rw [hn]; exact Ev.now _
    · exact Ev.ite (fun c => absurd c (by omega)) (fun _ => Ev.now _)
theorem toObject_ev (l : List S173) (g a b c d : Int) (hl : (l.length : Int) ≤ 1048576) : Ev (fun k => laws_toObject.f k l g a b c d) (l.map tPoint, g, a, b, c, d) := by
  simp only [laws_toObject.f, laws_toBox.f, Option.bind_some]
  exact Ev.bind (toPointS_ev l hl) (Ev.now _)
def tBox (b : S36) : S43 := ⟨b.f0, b.f1, b.f2, b.f3⟩
def tObj (o : S38) : S45 := ⟨o.f0.map tPoint, o.f1, tBox o.f2⟩
theorem toObjectS_ev (l : List S38) (h : (l.length : Int) ≤ 1048576) (hx : ∀ x ∈ l, (x.f0.length : Int) ≤ 1048576) : Ev (fun k => laws_toObjectS.f k l) (l.map tObj) := by
  have hm : l.length ≤ maxLen := by rw [maxLen_eq]; omega
  simp only [laws_toObjectS.f]
  refine Ev.ite (fun _ => Ev.ite (fun _ => ?_) (fun c => absurd (by omega) c)) (fun c => absurd (by omega) c)
  exact ev_fill l tObj (F := fun k s i => laws_toObjectS.l0 k l s i) (fun s => by
    simp only [laws_toObjectS.l0, end_lt, if_false]
    exact Ev.now _) (fun pre x rest s r e hs h => by
    have hxx := hx x (by rw [e]; simp)
    subst e
    simp only [laws_toObjectS.l0, hs, mid_lt, mid_nn, mid_wrap hm, if_true, rd_T38, Int.toNat_natCast, mid_get]
    exact Ev.bind (toObject_ev x.f0 _ _ _ _ _ hxx) h) _ (by simp)
theorem map_tObj_len {l : List S38} (hx : ∀ x ∈ l, (x.f0.length : Int) ≤ 1048576) : ∀ x ∈ l.map tObj, x.f0.length ≤ maxLen := by
  intro x hx'
  obtain ⟨y, hy, rfl⟩ := List.mem_map.1 hx'
  have := hx y hy
  simp only [tObj, List.length_map, maxLen_eq]
  omega
theorem toBand_ev (p q : Int) (rows : List (List Int)) (l : List S38) (hr : (rows.length : Int) ≤ 1048576) (hrx : ∀ x ∈ rows, (x.length : Int) ≤ 1048576) (h : (l.length : Int) ≤ 1048576) (hx : ∀ x ∈ l, (x.f0.length : Int) ≤ 1048576) : Ev (fun k => laws_toBand.f k p q rows l) (p, q, rows, l.map tObj) := by
  simp only [laws_toBand.f]
  exact Ev.bind (toIntSS_ev rows hr hrx) (Ev.bind (toObjectS_ev l h hx) (Ev.now _))
theorem eqObjectS_ev (l : List S45) (hm : l.length ≤ maxLen) (hx : ∀ x ∈ l, x.f0.length ≤ maxLen) : Ev (fun k => laws_eqObjectS.f k l l) true := by
  simp only [laws_eqObjectS.f, if_true]
  refine ev_loop0 l (F := fun k i => laws_eqObjectS.l0 k l l i) (fun _ _ => true) ?_ (fun pre x rest e h => ?_)
  · simp only [laws_eqObjectS.l0, end_lt, if_false]; exact Ev.now _
  · have hxx := hx x (by rw [e]; simp)
    subst e
    simp only [laws_eqObjectS.l0, mid_lt, mid_nn, mid_wrap hm, if_true, rd_T45, Int.toNat_natCast, mid_get]
    exact Ev.bind (eqObject_ev x.f0 _ _ _ _ _ hxx) h
theorem eqBand_ev (p q : Int) (rows : List (List Int)) (l : List S45) (hr : rows.length ≤ maxLen) (hrx : ∀ x ∈ rows, x.length ≤ maxLen) (hm : l.length ≤ maxLen) (hx : ∀ x ∈ l, x.f0.length ≤ maxLen) : Ev (fun k => laws_eqBand.f k p q rows l p q rows l) true := by
  simp only [laws_eqBand.f, if_true]
  exact Ev.bind (eqIntSS_ev rows hr hrx) (Ev.bind (eqObjectS_ev l hm hx) (Ev.now _))
end Go.Proofs.Ytigodjcnkgebaaa.Pure
namespace Go.Proofs.Ytigodjcnkgebaaa.Pure
open Go.RowKit Go.Proofs.Ytigodjcnkgebaaa.QFnExactBandOk Go.Proofs.YtigodjcnkgebaaaW.PrintWords Go.Proofs.YtigodjcnkgebaaaW.PrintLast Go.Proofs.Ytigodjcnkgebaaa.Plain

end Go.Proofs.Ytigodjcnkgebaaa.Pure
namespace Go.Proofs.Ytigodjcnkgebaaa.Pure
open Go.RowKit Go.Proofs.Ytigodjcnkgebaaa.QFnExactBandOk Go.Proofs.YtigodjcnkgebaaaW.PrintWords Go.Proofs.YtigodjcnkgebaaaW.PrintLast Go.Proofs.Ytigodjcnkgebaaa.Plain

theorem within_eq (a b c : Int) : impl_within.f a b c = some (inB a b c) := by unfold impl_within.f inB; by_cases h : b ≤ a <;> simp [h]
theorem l01In_eq (a b c : Int) : spec_l01In.f a b c = some (inB a b c) := by unfold spec_l01In.f inB; by_cases h : b ≤ a <;> simp [h]
def isH (a : Int) : Bool := decide (a = 1 ∨ a = 2 ∨ a = 4 ∨ a = 8 ∨ a = 16 ∨ a = 32)
theorem iIsHeight_eq (a : Int) : impl_IsHeight.f a = some (isH a) := by
  unfold impl_IsHeight.f isH
  by_cases h1 : a = 1
  · simp [h1]
  by_cases h2 : a = 2
  · simp [h2]
  by_cases h4 : a = 4
  · simp [h4]
  by_cases h8 : a = 8
  · simp [h8]
  by_cases h16 : a = 16
  · simp [h16]
  by_cases h32 : a = 32
  · simp [h32]
  simp [h1, h2, h4, h8, h16, h32]
theorem sIsHeight_eq (a : Int) : spec_IsHeight.f a = some (isH a) := by
  unfold spec_IsHeight.f isH
  by_cases h1 : a = 1
  · simp [h1]
  by_cases h2 : a = 2
  · simp [h2]
  by_cases h4 : a = 4
  · simp [h4]
  by_cases h8 : a = 8
  · simp [h8]
  by_cases h16 : a = 16
  · simp [h16]
  by_cases h32 : a = 32
  · simp [h32]
  simp [h1, h2, h4, h8, h16, h32]
def cntB (a : Int) : Int := if isH a = true then 32 / a else 0
theorem isH_cases {a : Int} (h : isH a = true) : a = 1 ∨ a = 2 ∨ a = 4 ∨ a = 8 ∨ a = 16 ∨ a = 32 := by simpa [isH] using h
theorem cntB_wrap {a : Int} (h : isH a = true) : ¬ a = 0 ∧ wrap64 ((32 : Int) / a) = 32 / a := by rcases isH_cases h with rfl | rfl | rfl | rfl | rfl | rfl <;> exact ⟨by decide, by unfold wrap64; omega⟩
theorem iCountBands_eq (a : Int) : impl_CountBands.f a = some (cntB a) := by
  unfold impl_CountBands.f cntB
  rw [iIsHeight_eq]
  by_cases h : isH a = true
  · simp [h, cntB_wrap h]
  · simp [h]
theorem sCountBands_eq (a : Int) : spec_CountBands.f a = some (cntB a) := by
  unfold spec_CountBands.f cntB
  rw [sIsHeight_eq]
  by_cases h : isH a = true
  · simp [h, cntB_wrap h]
  · simp [h]

def coord (a : Int) : Bool := inB a (-200) 200
def boxOk (a b c d : Int) : Bool := coord a && (coord b && (coord c && (coord d && (decide (a ≤ c) && decide (b ≤ d)))))
theorem coordOk_eq (a : Int) : impl_coordOk.f a = some (coord a) := by unfold impl_coordOk.f; rw [within_eq]; rfl
theorem l02In_eq (a : Int) : spec_l02In.f a = some (coord a) := by unfold spec_l02In.f; rw [l01In_eq]; rfl
theorem iPointOk_eq (a b : Int) : impl_PointOk.f a b = some (coord a && coord b) := by unfold impl_PointOk.f; simp only [coordOk_eq, Option.bind_some, and_some]
theorem sPointOk_eq (a b : Int) : spec_PointOk.f a b = some (coord a && coord b) := by unfold spec_PointOk.f; simp only [l02In_eq, Option.bind_some, and_some]
theorem iBoxOk_eq (a b c d : Int) : impl_BoxOk.f a b c d = some (boxOk a b c d) := by unfold impl_BoxOk.f boxOk; simp only [coordOk_eq, Option.bind_some, and_some_p (a ≤ c), and_some]
theorem sBoxOk_eq (a b c d : Int) : spec_BoxOk.f a b c d = some (boxOk a b c d) := by unfold spec_BoxOk.f boxOk; simp only [l02In_eq, Option.bind_some, and_some_p (a ≤ c), and_some]
def ptsOk (l : List S171) : Bool := l.all fun p => coord p.f0 && coord p.f1
theorem pointsOk_ev (l : List S171) (hm : l.length ≤ maxLen) : Ev (fun k => impl_pointsOk.f k l) (ptsOk l) := by
  simp only [impl_pointsOk.f]
  refine ev_loop0 l (F := fun k i => impl_pointsOk.l0 k l l.length i) (fun _ r => ptsOk r) ?_ (fun pre x rest e h => ?_)
  · simp only [impl_pointsOk.l0, end_lt, if_false]; exact Ev.now _
  · subst e
    simp only [impl_pointsOk.l0, mid_lt, mid_nn, mid_wrap hm, if_true, rd_T171, Int.toNat_natCast, mid_get, iPointOk_eq, Option.bind_some]
    exact Ev.andB (fun _ => h)
theorem l07Points_ev (l : List S171) (hm : l.length ≤ maxLen) : Ev (fun k => spec_l07Points.f k l) (ptsOk l && decide ((l.length : Int) ≤ 8)) := by
  simp only [spec_l07Points.f]
  refine ev_loop0 l (F := fun k i => spec_l07Points.l0 k l i) (fun _ r => ptsOk r && decide ((l.length : Int) ≤ 8)) ?_ (fun pre x rest e h => ?_)
  · simp only [spec_l07Points.l0, end_lt, if_false]; exact Ev.now _
  · have : ptsOk (x :: rest) = ((coord x.f0 && coord x.f1) && ptsOk rest) := rfl
    rw [this, Bool.and_assoc]
    subst e
    simp only [spec_l07Points.l0, mid_lt, mid_nn, mid_wrap hm, if_true, rd_T171, Int.toNat_natCast, mid_get, sPointOk_eq, Option.bind_some]
    exact Ev.andB (fun _ => h)
def objOk (l : List S171) (g a b c d : Int) : Bool := decide (3 ≤ (l.length : Int)) && (decide ((l.length : Int) ≤ 8) && (ptsOk l && (inB g 0 255 && boxOk a b c d)))
theorem iObjectOk_ev (l : List S171) (g a b c d : Int) (hm : l.length ≤ maxLen) : Ev (fun k => impl_ObjectOk.f k l g a b c d) (objOk l g a b c d) := by
  simp only [impl_ObjectOk.f, within_eq, iBoxOk_eq, Option.bind_some, and_some]
  unfold objOk
  rw [← Bool.and_assoc]
  exact Ev.andB (fun _ => Ev.bind (pointsOk_ev l hm) (Ev.now _))
theorem l07Object_ev (l : List S171) (g a b c d : Int) (hm : l.length ≤ maxLen) : Ev (fun k => spec_l07Object.f k l g a b c d) (objOk l g a b c d) := by
  simp only [spec_l07Object.f, l01In_eq, sBoxOk_eq, Option.bind_some, and_some]
  unfold objOk
  refine Ev.andP (fun _ => ?_)
  have : (decide ((l.length : Int) ≤ 8) && (ptsOk l && (inB g 0 255 && boxOk a b c d))) = ((ptsOk l && decide ((l.length : Int) ≤ 8)) && (inB g 0 255 && boxOk a b c d)) := by
    cases decide ((l.length : Int) ≤ 8) <;> cases ptsOk l <;> rfl
  rw [this]
  exact Ev.bind (l07Points_ev l hm) (Ev.now _)
theorem sObjectOk_ev (l : List S171) (g a b c d : Int) (hm : l.length ≤ maxLen) : Ev (fun k => spec_ObjectOk.f k l g a b c d) (objOk l g a b c d) := by
  simp only [spec_ObjectOk.f]
  exact Ev.bind (l07Object_ev l g a b c d hm) (Ev.now _)

def rowOk (l : List Int) : Bool := decide ((l.length : Int) = 32) && l.all fun v => inB v 0 255
def rowsOk (l : List (List Int)) : Bool := decide ((l.length : Int) ≤ 32) && l.all rowOk
theorem rowOk_ev (l : List Int) : Ev (fun k => impl_rowOk.f k l) (rowOk l) := by
  simp only [impl_rowOk.f]
  refine Ev.andP (fun c => ?_)
  have hm : l.length ≤ maxLen := by rw [maxLen_eq]; omega
  clear c
  refine ev_loop0 l (F := fun k i => impl_rowOk.l0 k l l.length i) (fun _ r => r.all fun v => inB v 0 255) ?_ (fun pre x rest e h => ?_)
  · simp only [impl_rowOk.l0, end_lt, if_false]; exact Ev.now _
  · subst e
    simp only [impl_rowOk.l0, mid_lt, mid_nn, mid_wrap hm, if_true, rd, Int.toNat_natCast, mid_get, within_eq, Option.bind_some]
    exact Ev.andB (fun _ => h)
theorem iRowsOk_ev (l : List (List Int)) : Ev (fun k => impl_RowsOk.f k l) (rowsOk l) := by
  simp only [impl_RowsOk.f, rowsOk]
  refine Ev.ite (fun c => Ev.val (by simp; omega)) (fun c => ?_)
  have hm : l.length ≤ maxLen := by rw [maxLen_eq]; omega
  have hd : decide ((l.length : Int) ≤ 32) = true := by simp; omega
  rw [hd, Bool.true_and]
  clear c hd
  refine ev_loop0 l (F := fun k i => impl_RowsOk.l0 k l l.length i) (fun _ r => r.all rowOk) ?_ (fun pre x rest e h => ?_)
  · simp only [impl_RowsOk.l0, end_lt, if_false]; exact Ev.now _
  · subst e
    simp only [impl_RowsOk.l0, mid_lt, mid_nn, mid_wrap hm, if_true, rd_L5, Int.toNat_natCast, mid_get]
    exact Ev.bind (rowOk_ev x) (Ev.andB (fun _ => h))
theorem l11Row_ev (l : List Int) (hm : l.length ≤ maxLen) : Ev (fun k => spec_l11Row.f k l) (rowOk l) := by
  simp only [spec_l11Row.f]
  unfold rowOk
  rw [Bool.and_comm]
  refine ev_loop0 l (F := fun k i => spec_l11Row.l0 k l i) (fun _ r => (r.all fun v => inB v 0 255) && decide ((l.length : Int) = 32)) ?_ (fun pre x rest e h => ?_)
  · simp only [spec_l11Row.l0, end_lt, if_false]; exact Ev.now _
  · rw [List.all_cons, Bool.and_assoc]
    subst e
    simp only [spec_l11Row.l0, mid_lt, mid_nn, mid_wrap hm, if_true, rd, Int.toNat_natCast, mid_get, l01In_eq, Option.bind_some]
    exact Ev.andB (fun _ => h)
theorem sRowsOk_ev (l : List (List Int)) (hm : l.length ≤ maxLen) (hx : ∀ x ∈ l, x.length ≤ maxLen) : Ev (fun k => spec_RowsOk.f k l) (rowsOk l) := by
  simp only [spec_RowsOk.f]
  unfold rowsOk
  rw [Bool.and_comm]
  refine ev_loop0 l (F := fun k i => spec_RowsOk.l0 k l i) (fun _ r => r.all rowOk && decide ((l.length : Int) ≤ 32)) ?_ (fun pre x rest e h => ?_)
  · simp only [spec_RowsOk.l0, end_lt, if_false]; exact Ev.now _
  · have hxx := hx x (by rw [e]; simp)
    rw [List.all_cons, Bool.and_assoc]
    subst e
    simp only [spec_RowsOk.l0, mid_lt, mid_nn, mid_wrap hm, if_true, rd_L5, Int.toNat_natCast, mid_get]
    exact Ev.bind (l11Row_ev x hxx) (Ev.andB (fun _ => h))

end Go.Proofs.Ytigodjcnkgebaaa.Pure
namespace Go.Proofs.Ytigodjcnkgebaaa.Pure
open Go.RowKit Go.Proofs.Ytigodjcnkgebaaa.QFnExactBandOk Go.Proofs.YtigodjcnkgebaaaW.PrintWords Go.Proofs.YtigodjcnkgebaaaW.PrintLast Go.Proofs.Ytigodjcnkgebaaa.Plain

def cellsGo : List S45 → Int → Int
  | [], a => a
  | x :: r, a => cellsGo r (wrap64 (a + wrap64 (2 + (x.f0.length : Int))))
theorem wrap_assoc (a b : Int) : wrap64 (wrap64 (a + 2) + b) = wrap64 (a + wrap64 (2 + b)) := by unfold wrap64; omega
theorem objectsCells_ev (l : List S45) (hm : l.length ≤ maxLen) : Ev (fun k => impl_objectsCells.f k l) (cellsGo l 0) := by
  simp only [impl_objectsCells.f]
  refine ev_loop l (F := fun k s i => impl_objectsCells.l0 k s l l.length i) (fun _ _ _ => True) (fun _ r s => cellsGo r s) ?_ ?_ _ trivial
  · intro s _; simp only [impl_objectsCells.l0, end_lt, if_false]; exact Ev.now _
  · rintro pre x rest s e _ ih
    subst e
    simp only [impl_objectsCells.l0, mid_lt, mid_nn, mid_wrap hm, if_true, rd_T45, Int.toNat_natCast, mid_get]
    exact ih _ trivial
theorem iBandCells_ev (a b : Int) (rows : List (List Int)) (l : List S45) (hm : l.length ≤ maxLen) : Ev (fun k => impl_BandCells.f k a b rows l) (cellsGo l 0) := by
  simp only [impl_BandCells.f]
  exact Ev.bind (objectsCells_ev l hm) (Ev.now _)
theorem sBandCells_ev (a b : Int) (rows : List (List Int)) (l : List S45) (hm : l.length ≤ maxLen) : Ev (fun k => spec_BandCells.f k a b rows l) (cellsGo l 0) := by
  simp only [spec_BandCells.f]
  refine ev_loop l (F := fun k s i => spec_BandCells.l0 k s i a b rows l) (fun _ _ _ => True) (fun _ r s => cellsGo r s) ?_ ?_ _ trivial
  · intro s _; simp only [spec_BandCells.l0, end_lt, if_false]; exact Ev.now _
  · rintro pre x rest s e _ ih
    subst e
    simp only [spec_BandCells.l0, mid_lt, mid_nn, mid_wrap hm, if_true, rd_T45, Int.toNat_natCast, mid_get, wrap_assoc]
    exact ih _ trivial
end Go.Proofs.Ytigodjcnkgebaaa.Pure
namespace Go.Proofs.Ytigodjcnkgebaaa.Pure
open Go.RowKit Go.Proofs.Ytigodjcnkgebaaa.QFnExactBandOk Go.Proofs.YtigodjcnkgebaaaW.PrintWords Go.Proofs.YtigodjcnkgebaaaW.PrintLast Go.Proofs.Ytigodjcnkgebaaa.Plain

abbrev BoxT := Int × Int × Int × Int
theorem mx_self (a : Int) : mx a a = a := by unfold mx; split <;> rfl
theorem mn_self (a : Int) : mn a a = a := by unfold mn; split <;> rfl
theorem mx_comm (a b : Int) : mx a b = mx b a := by unfold mx; omega
theorem mn_comm (a b : Int) : mn a b = mn b a := by unfold mn; omega
def meet (p q : BoxT) : BoxT := if boxOk p.1 p.2.1 p.2.2.1 p.2.2.2 = true ∧ boxOk q.1 q.2.1 q.2.2.1 q.2.2.2 = true ∧ mx p.1 q.1 < mn p.2.2.1 q.2.2.1 ∧ mx p.2.1 q.2.1 < mn p.2.2.2 q.2.2.2 then (mx p.1 q.1, mx p.2.1 q.2.1, mn p.2.2.1 q.2.2.1, mn p.2.2.2 q.2.2.2) else (0, 0, 0, 0)
def boxFrom : List S171 → BoxT → BoxT
  | [], b => b
  | x :: r, b => boxFrom r (mn b.1 x.f0, mn b.2.1 x.f1, mx b.2.2.1 x.f0, mx b.2.2.2 x.f1)
def boxOf (l : List S171) : BoxT :=
  match l with
  | [] => (0, 0, 0, 0)
  | x :: r => if ptsOk (x :: r) = true then boxFrom r (x.f0, x.f1, x.f0, x.f1) else (0, 0, 0, 0)
/-- A loop that counts from lo to hi. -/
theorem ev_range {σ β : Type} {F : Nat → σ → Int → Option β} (lo hi : Int) (hlh : lo ≤ hi) (Inv : Int → σ → Prop) (r : β)
    (hnil : ∀ s, Inv hi s → Ev (fun k => F (k + 1) s hi) r)
    (hcons : ∀ i s, lo ≤ i → i < hi → Inv i s → (∀ s', Inv (i + 1) s' → Ev (fun k => F k s' (i + 1)) r) → Ev (fun k => F (k + 1) s i) r) :
    ∀ s, Inv lo s → Ev (fun k => F k s lo) r := by
  have main : ∀ (n : Nat) (i : Int) (s : σ), lo ≤ i → i + n = hi → Inv i s → Ev (fun k => F k s i) r := by
    intro n
    induction n with
    | zero =>
      intro i s h0 h1 hI
      have e : i = hi := by omega
      subst e
      exact Ev.up (hnil s hI)
    | succ n ih =>
      intro i s h0 h1 hI
      exact Ev.up (hcons i s h0 (by omega) hI (fun s' hI' => ih (i + 1) s' (by omega) (by omega) hI'))
  intro s hI
  exact main (hi - lo).toNat lo s (by omega) (by omega) hI
def inPage (p : BoxT) : Prop := 0 ≤ p.1 ∧ p.1 ≤ p.2.2.1 ∧ p.2.2.1 ≤ 32 ∧ 0 ≤ p.2.1 ∧ p.2.1 ≤ p.2.2.2 ∧ p.2.2.2 ≤ 32
theorem meet_page (p : BoxT) : inPage (meet p (0, 0, 32, 32)) := by
  unfold meet
  by_cases c : boxOk p.1 p.2.1 p.2.2.1 p.2.2.2 = true ∧ boxOk 0 0 32 32 = true ∧ mx p.1 0 < mn p.2.2.1 32 ∧ mx p.2.1 0 < mn p.2.2.2 32
  · rw [if_pos c]
    obtain ⟨_, _, h3, h4⟩ := c
    unfold inPage
    simp only
    unfold mx mn at *
    omega
  · rw [if_neg c]; simp [inPage]
def cntD (p : BoxT) : Int := if boxOk p.1 p.2.1 p.2.2.1 p.2.2.2 = true then wrap64 (wrap64 (p.2.2.1 - p.1) * wrap64 (p.2.2.2 - p.2.1)) else 0
def bandOk (h i : Int) : Bool := inB i 0 (wrap64 (cntB h - 1))
theorem bandOk_isH {h i : Int} (c : bandOk h i = true) : isH h = true := by
  unfold bandOk cntB at c
  rw [inB_iff] at c
  by_cases e : isH h = true
  · exact e
  · rw [if_neg e, wrap_id (by omega) (by omega)] at c; omega
theorem bandOk_page {h i : Int} (c : bandOk h i = true) : 0 ≤ i * h ∧ 1 ≤ h ∧ i * h + h ≤ 32 ∧ wrap64 (i * h) = i * h ∧ wrap64 (i * h + h) = i * h + h ∧ 0 ≤ i ∧ i ≤ 31 := by
  have e := bandOk_isH c
  unfold bandOk cntB at c
  rw [inB_iff, if_pos e] at c
  rcases isH_cases e with rfl | rfl | rfl | rfl | rfl | rfl <;> (rw [wrap_id (by omega) (by omega)] at c; refine ⟨?_, ?_, ?_, ?_, ?_, ?_, ?_⟩ <;> first | omega | exact wrap_id (by omega) (by omega))
end Go.Proofs.Ytigodjcnkgebaaa.Pure
namespace Go.Proofs.Ytigodjcnkgebaaa.Pure
open Go.RowKit Go.Proofs.Ytigodjcnkgebaaa.QFnExactBandOk Go.Proofs.YtigodjcnkgebaaaW.PrintWords Go.Proofs.YtigodjcnkgebaaaW.PrintLast Go.Proofs.Ytigodjcnkgebaaa.Plain

def wRow : List Int := List.replicate 32 255
def whiteRows (n : Int) : List (List Int) := if inB n 0 32 = true then List.replicate n.toNat wRow else []
theorem whiteRows_len (n : Int) : (whiteRows n).length ≤ 32 := by
  unfold whiteRows
  split
  · rename_i h; rw [inB_iff] at h; rw [List.length_replicate]; omega
  · simp
theorem whiteRows_row {n : Int} {x : List Int} (h : x ∈ whiteRows n) : x = wRow := by
  unfold whiteRows at h
  split at h
  · exact (List.mem_replicate.1 h).2
  · simp at h
theorem iWhiteRows_ev (n : Int) : Ev (fun k => impl_WhiteRows.f k n) (whiteRows n) := by
  simp only [impl_WhiteRows.f, within_eq, Option.bind_some]
  unfold whiteRows
  refine Ev.ite (fun c => ?_) (fun c => ?_)
  · rw [if_pos c]
    rw [inB_iff] at c
    have main : ∀ (m : Nat) (s : List (List Int)), s.length + m ≤ 64 → Ev (fun k => impl_WhiteRows.l0 k (m : Int) s) (s ++ List.replicate m wRow) := by
      intro m
      induction m with
      | zero =>
        intro s _
        refine Ev.up ?_
        simp only [impl_WhiteRows.l0, Int.ofNat_zero, gt_iff_lt, Int.lt_irrefl, if_false]
        exact Ev.val (by simp)
      | succ m ih =>
        intro s hs
        refine Ev.up ?_
        have hp : ((m + 1 : Nat) : Int) > 0 := by omega
        have hw : wrap64 (((m + 1 : Nat) : Int) - 1) = (m : Int) := by rw [wrap_id (by omega) (by omega)]; omega
        have hr : slices_Repeat_int_int.f ([255] : List Int) 32 = some wRow := by unfold slices_Repeat_int_int.f; rw [if_pos ⟨rfl, rfl⟩]; rfl
        have hl : s.length < 5864062014805 := by omega
        simp only [impl_WhiteRows.l0, if_pos hp, hr, Option.bind_some, if_pos hl, hw]
        have h := ih (s ++ [wRow]) (by simp; omega)
        simpa [List.replicate_succ] using h
    have h := main n.toNat [] (by simp; omega)
    rw [show ((n.toNat : Nat) : Int) = n by omega] at h
    simpa using h
  · rw [if_neg c]; exact Ev.now _
end Go.Proofs.Ytigodjcnkgebaaa.Pure
namespace Go.Proofs.Ytigodjcnkgebaaa.Pure
open Go.RowKit Go.Proofs.Ytigodjcnkgebaaa.QFnExactBandOk Go.Proofs.YtigodjcnkgebaaaW.PrintWords Go.Proofs.YtigodjcnkgebaaaW.PrintLast Go.Proofs.Ytigodjcnkgebaaa.Plain

def objsOk (l : List S45) : Bool := l.all fun o => objOk o.f0 o.f1 o.f2.f0 o.f2.f1 o.f2.f2 o.f2.f3
theorem objectsOk_ev (l : List S45) (hm : l.length ≤ maxLen) (hx : ∀ x ∈ l, x.f0.length ≤ maxLen) : Ev (fun k => impl_objectsOk.f k l) (objsOk l) := by
  simp only [impl_objectsOk.f]
  refine ev_loop0 l (F := fun k i => impl_objectsOk.l0 k l l.length i) (fun _ r => objsOk r) ?_ (fun pre x rest e h => ?_)
  · simp only [impl_objectsOk.l0, end_lt, if_false]; exact Ev.now _
  · have hxx := hx x (by rw [e]; simp)
    subst e
    simp only [impl_objectsOk.l0, mid_lt, mid_nn, mid_wrap hm, if_true, rd_T45, Int.toNat_natCast, mid_get]
    refine Ev.bind (iObjectOk_ev x.f0 _ _ _ _ _ hxx) ?_
    exact Ev.andB (fun _ => h)
def nbBase (h i : Int) : List (List Int) := if bandOk h i = true then whiteRows h else []
theorem iNewBand_ev (h i : Int) : Ev (fun k => impl_NewBand.f k h i) (if bandOk h i = true then h else 0, if bandOk h i = true then i else 0, nbBase h i, ([] : List S45), bandOk h i) := by
  simp only [impl_NewBand.f, iIsHeight_eq, iCountBands_eq, within_eq, Option.bind_some]
  unfold nbBase
  have hb : inB i 0 (wrap64 (cntB h - 1)) = bandOk h i := rfl
  rw [hb]
  by_cases e : isH h = true
  · simp only [if_pos e]
    by_cases cb : bandOk h i = true
    · simp only [cb, if_true]
      exact Ev.bind (iWhiteRows_ev h) (Ev.now _)
    · have c' : bandOk h i = false := by simpa using cb
      simp only [c', Bool.false_eq_true, if_false]; exact Ev.now _
  · have c' : bandOk h i = false := by
      cases hc : bandOk h i
      · rfl
      · exact absurd (bandOk_isH hc) e
    simp only [if_neg e, c', Bool.false_eq_true, if_false]; exact Ev.now _
def bndOk (h i : Int) (rows : List (List Int)) (l : List S45) : Bool := bandOk h i && (decide ((rows.length : Int) = h) && (rowsOk rows && (objsOk l && decide (cellsGo l 0 ≤ 60))))
theorem iBandOk_ev (h i : Int) (rows : List (List Int)) (l : List S45) (hm : l.length ≤ maxLen) (hx : ∀ x ∈ l, x.f0.length ≤ maxLen) : Ev (fun k => impl_BandOk.f k h i rows l) (bndOk h i rows l) := by
  simp only [impl_BandOk.f]
  unfold bndOk
  refine Ev.bind (iNewBand_ev h i) ?_
  refine Ev.andB (fun _ => Ev.andP (fun _ => ?_))
  refine Ev.bind (iRowsOk_ev rows) (Ev.andB (fun _ => ?_))
  refine Ev.bind (objectsOk_ev l hm hx) (Ev.andB (fun _ => ?_))
  exact Ev.bind (iBandCells_ev h i rows l hm) (Ev.now _)
theorem sBandOk_ev (h i : Int) (rows : List (List Int)) (l : List S45) (hr : rows.length ≤ maxLen) (hrx : ∀ x ∈ rows, x.length ≤ maxLen) (hm : l.length ≤ maxLen) (hx : ∀ x ∈ l, x.f0.length ≤ maxLen) : Ev (fun k => spec_BandOk.f k h i rows l) (bndOk h i rows l) := by
  simp only [spec_BandOk.f]
  have e : bndOk h i rows l = (objsOk l && (bandOk h i && (decide ((rows.length : Int) = h) && (rowsOk rows && decide (cellsGo l 0 ≤ 60))))) := by
    unfold bndOk
    cases objsOk l <;> simp
  rw [e]
  generalize hz : (bandOk h i && (decide ((rows.length : Int) = h) && (rowsOk rows && decide (cellsGo l 0 ≤ 60)))) = Z
  have hend : Ev (fun k => (spec_l12Ok.f h i).bind fun t => (if t = true then (if (rows.length : Int) = h then ((spec_RowsOk.f k rows).bind fun t2 => (if t2 = true then ((spec_BandCells.f k h i rows l).bind fun t3 => (some (decide (t3 ≤ 60)))) else (some false))) else (some false)) else (some false))) Z := by
    simp only [spec_l12Ok.f, sCountBands_eq, l01In_eq, Option.bind_some]
    have hb : inB i 0 (wrap64 (cntB h - 1)) = bandOk h i := rfl
    rw [hb, ← hz]
    refine Ev.andB (fun _ => Ev.andP (fun _ => ?_))
    refine Ev.bind (sRowsOk_ev rows hr hrx) (Ev.andB (fun _ => ?_))
    exact Ev.bind (sBandCells_ev h i rows l hm) (Ev.now _)
  refine ev_loop0 l (F := fun k j => spec_BandOk.l0 k j h i rows l) (fun _ r => objsOk r && Z) ?_ (fun pre x rest e h => ?_)
  · simp only [spec_BandOk.l0, end_lt, if_false, objsOk, List.all_nil, Bool.true_and]; exact hend
  · have hxx := hx x (by rw [e]; simp)
    clear hend hz
    have e0 := e
    rw [e0] at hm
    have hget : rd_T45 l (pre.length : Int) = x := by rw [e]; exact mid_get _
    have hlt : ((pre.length : Int) < (l.length : Int)) := by rw [e]; simp; omega
    have hw := mid_wrap (pre := pre) (rest := rest) (x := x) hm
    simp only [spec_BandOk.l0, if_pos hlt, mid_nn, if_true, hget, hw]
    refine Ev.bind (sObjectOk_ev x.f0 _ _ _ _ _ hxx) ?_
    have e1 : (objsOk (x :: rest) && Z) = (objOk x.f0 x.f1 x.f2.f0 x.f2.f1 x.f2.f2 x.f2.f3 && (objsOk rest && Z)) := by simp [objsOk, Bool.and_assoc]
    rw [e1]
    exact Ev.andB (fun _ => h)
end Go.Proofs.Ytigodjcnkgebaaa.Pure
namespace Go.Proofs.Ytigodjcnkgebaaa.Pure
open Go.RowKit Go.Proofs.Ytigodjcnkgebaaa.QFnExactBandOk Go.Proofs.YtigodjcnkgebaaaW.PrintWords Go.Proofs.YtigodjcnkgebaaaW.PrintLast Go.Proofs.Ytigodjcnkgebaaa.Plain

theorem FnExactBandOk (p q : Int) (rows : List (List Int)) (l : List S38) (h : ((Lit.int .i64 p).wf = true) ∧ ((Lit.int .i64 q).wf = true) ∧ (rows.length ≤ maxLen ∧ ∀ y ∈ rows, (y.length ≤ maxLen ∧ ∀ yy ∈ y, ((Lit.int .i64 yy).wf = true))) ∧ (l.length ≤ maxLen ∧ ∀ y ∈ l, ((y.f0.length ≤ maxLen ∧ ∀ yy ∈ y.f0, (((Lit.int .i64 yy.f0).wf = true) ∧ ((Lit.int .i64 yy.f1).wf = true))) ∧ ((Lit.int .i64 y.f1).wf = true) ∧ (((Lit.int .i64 y.f2.f0).wf = true) ∧ ((Lit.int .i64 y.f2.f1).wf = true) ∧ ((Lit.int .i64 y.f2.f2).wf = true) ∧ ((Lit.int .i64 y.f2.f3).wf = true))))) : ∃ k, laws_FnExactBandOk.f k p q rows l = some true := by
  obtain ⟨_, _, hr, h⟩ := h
  refine Ev.rounds (g := fun k => laws_FnExactBandOk.f k p q rows l) ?_
  simp only [laws_FnExactBandOk.f]
  refine Ev.bind (szBand_ev p q rows l 1048576 hr.1 (fun x hx => (hr.2 x hx).1) h.1 (fun x hx => (h.2 x hx).1.1) (by omega) (by omega)) (Ev.ite (fun _ => Ev.now _) (fun c => ?_))
  rcases szBd_tells rows l 1048576 (by omega) (by omega) with hn | ⟨_, _, ⟨hl, hlx⟩, ⟨ho, hox⟩⟩
  · omega
  have hm : (l.map tObj).length ≤ maxLen := by rw [maxLen_eq, List.length_map]; omega
  have hT := toBand_ev p q rows l hl hlx ho hox
  have hxm := map_tObj_len hox
  refine Ev.bind hT (Ev.bind (sBandOk_ev p q rows _ hr.1 (fun x hx => (hr.2 x hx).1) hm hxm) (Ev.bind hT (Ev.bind (iBandOk_ev p q rows _ hm hxm) (Ev.iteB (fun c => absurd c (by simp)) (fun _ => ?_)))))
  exact Ev.bind hT (Ev.bind (eqBand_ev p q rows _ hr.1 (fun x hx => (hr.2 x hx).1) hm (map_tObj_len hox)) (Ev.now _))
end Go.Proofs.Ytigodjcnkgebaaa.Pure
