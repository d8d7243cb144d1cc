/- The plain law of FnExactObjectsOfBand: over numbers and lists, what the printed functions answer, and that the law answers true. -/
import Derived.Test.YtimpejidlnjhlaaQFnExactObjectsOfBandx8
import Derived.Test.YtimpejidlnjhlaaPlain
set_option linter.unusedSimpArgs false
set_option linter.unusedVariables false
namespace Go.Proofs.Ytimpejidlnjhlaa.Pure
open Go.RowKit Go.Proofs.Ytimpejidlnjhlaa.QFnExactObjectsOfBand Go.Proofs.YtimpejidlnjhlaaW.PrintWords Go.Proofs.YtimpejidlnjhlaaW.PrintLast Go.Proofs.Ytimpejidlnjhlaa.Plain

theorem szPointS_eq (l : List S180) (a : Int) (h : l.length ≤ maxLen) (h0 : 0 ≤ a) (h1 : a ≤ 1048576) : laws_szPointS.f l a = some (szN l.length a) := by
  rw [maxLen_eq] at h
  unfold laws_szPointS.f szN
  rw [wrap_id (by omega) (by omega)]
  split <;> rfl
theorem szObject_eq (l : List S180) (b c d e f : Int) (a : Int) (h : l.length ≤ maxLen) (h0 : 0 ≤ a) (h1 : a ≤ 1048576) : laws_szObject.f l b c d e f a = some (szN l.length a) := by
  unfold laws_szObject.f
  rw [szPointS_eq l a h h0 h1]
  rcases szN_tells l.length a h0 with hn | ⟨h2, h3, h4⟩
  · rw [hn]; rfl
  · have c2 : ¬ szN l.length a < 0 := by omega
    simp [c2]

def tPoint (r : S180) : S166 := ⟨r.f0, r.f1⟩
theorem toPointS_ev (l : List S180) (h : (l.length : Int) ≤ 1048576) : Ev (fun k => laws_toPointS.f k l) (l.map tPoint) := by
  have hm : l.length ≤ maxLen := by rw [maxLen_eq]; omega
  simp only [laws_toPointS.f]
  refine Ev.ite (fun _ => Ev.ite (fun _ => ?_) (fun c => absurd (by omega) c)) (fun c => absurd (by omega) c)
  exact ev_fill l tPoint (F := fun k s i => laws_toPointS.l0 k l s i) (fun s => by
    simp only [laws_toPointS.l0, end_lt, if_false]
    exact Ev.now _) (fun pre x rest s r e hs h => by
    subst e
    simp only [laws_toPointS.l0, hs, mid_lt, mid_nn, mid_wrap hm, if_true, rd_T180, Int.toNat_natCast, mid_get, laws_toPoint.f, Option.bind_some]
    exact h) _ (by simp)
theorem eqPointS_ev (l : List S166) (hm : l.length ≤ maxLen) : Ev (fun k => laws_eqPointS.f k l l) true := by
  simp only [laws_eqPointS.f, if_true]
  refine ev_loop0 l (F := fun k i => laws_eqPointS.l0 k l l i) (fun _ _ => true) ?_ (fun pre x rest e h => ?_)
  · simp only [laws_eqPointS.l0, end_lt, if_false]; exact Ev.now _
  · subst e
    simp only [laws_eqPointS.l0, mid_lt, mid_nn, mid_wrap hm, if_true, laws_eqPoint.f, Option.bind_some]
    exact h
theorem eqObject_ev (l : List S166) (b c d e f : Int) (hm : l.length ≤ maxLen) : Ev (fun k => laws_eqObject.f k l b c d e f l b c d e f) true := by
  simp only [laws_eqObject.f, laws_eqBox.f, if_true, Option.bind_some]
  exact Ev.bind (eqPointS_ev l hm) (Ev.now _)

end Go.Proofs.Ytimpejidlnjhlaa.Pure
namespace Go.Proofs.Ytimpejidlnjhlaa.Pure
open Go.RowKit Go.Proofs.Ytimpejidlnjhlaa.QFnExactObjectsOfBand Go.Proofs.YtimpejidlnjhlaaW.PrintWords Go.Proofs.YtimpejidlnjhlaaW.PrintLast Go.Proofs.Ytimpejidlnjhlaa.Plain

theorem within_eq (a b c : Int) : impl_within.f a b c = some (inB a b c) := by unfold impl_within.f inB; by_cases h : b ≤ a <;> simp [h]
theorem l01In_eq (a b c : Int) : spec_l01In.f a b c = some (inB a b c) := by unfold spec_l01In.f inB; by_cases h : b ≤ a <;> simp [h]
def isH (a : Int) : Bool := decide (a = 1 ∨ a = 2 ∨ a = 4 ∨ a = 8 ∨ a = 16 ∨ a = 32)
theorem iIsHeight_eq (a : Int) : impl_IsHeight.f a = some (isH a) := by
  unfold impl_IsHeight.f isH
  by_cases h1 : a = 1
  · simp [h1]
  by_cases h2 : a = 2
  · simp [h2]
  by_cases h4 : a = 4
  · simp [h4]
  by_cases h8 : a = 8
  · simp [h8]
  by_cases h16 : a = 16
  · simp [h16]
  by_cases h32 : a = 32
  · simp [h32]
  simp [h1, h2, h4, h8, h16, h32]
theorem sIsHeight_eq (a : Int) : spec_IsHeight.f a = some (isH a) := by
  unfold spec_IsHeight.f isH
  by_cases h1 : a = 1
  · simp [h1]
  by_cases h2 : a = 2
  · simp [h2]
  by_cases h4 : a = 4
  · simp [h4]
  by_cases h8 : a = 8
  · simp [h8]
  by_cases h16 : a = 16
  · simp [h16]
  by_cases h32 : a = 32
  · simp [h32]
  simp [h1, h2, h4, h8, h16, h32]
def cntB (a : Int) : Int := if isH a = true then 32 / a else 0
theorem isH_cases {a : Int} (h : isH a = true) : a = 1 ∨ a = 2 ∨ a = 4 ∨ a = 8 ∨ a = 16 ∨ a = 32 := by simpa [isH] using h
theorem cntB_wrap {a : Int} (h : isH a = true) : ¬ a = 0 ∧ wrap64 ((32 : Int) / a) = 32 / a := by rcases isH_cases h with rfl | rfl | rfl | rfl | rfl | rfl <;> exact ⟨by decide, by unfold wrap64; omega⟩
theorem iCountBands_eq (a : Int) : impl_CountBands.f a = some (cntB a) := by
  unfold impl_CountBands.f cntB
  rw [iIsHeight_eq]
  by_cases h : isH a = true
  · simp [h, cntB_wrap h]
  · simp [h]
theorem sCountBands_eq (a : Int) : spec_CountBands.f a = some (cntB a) := by
  unfold spec_CountBands.f cntB
  rw [sIsHeight_eq]
  by_cases h : isH a = true
  · simp [h, cntB_wrap h]
  · simp [h]

def coord (a : Int) : Bool := inB a (-200) 200
def boxOk (a b c d : Int) : Bool := coord a && (coord b && (coord c && (coord d && (decide (a ≤ c) && decide (b ≤ d)))))
theorem coordOk_eq (a : Int) : impl_coordOk.f a = some (coord a) := by unfold impl_coordOk.f; rw [within_eq]; rfl
theorem l02In_eq (a : Int) : spec_l02In.f a = some (coord a) := by unfold spec_l02In.f; rw [l01In_eq]; rfl
theorem iPointOk_eq (a b : Int) : impl_PointOk.f a b = some (coord a && coord b) := by unfold impl_PointOk.f; simp only [coordOk_eq, Option.bind_some, and_some]
theorem sPointOk_eq (a b : Int) : spec_PointOk.f a b = some (coord a && coord b) := by unfold spec_PointOk.f; simp only [l02In_eq, Option.bind_some, and_some]
theorem iBoxOk_eq (a b c d : Int) : impl_BoxOk.f a b c d = some (boxOk a b c d) := by unfold impl_BoxOk.f boxOk; simp only [coordOk_eq, Option.bind_some, and_some_p (a ≤ c), and_some]
theorem sBoxOk_eq (a b c d : Int) : spec_BoxOk.f a b c d = some (boxOk a b c d) := by unfold spec_BoxOk.f boxOk; simp only [l02In_eq, Option.bind_some, and_some_p (a ≤ c), and_some]
def ptsOk (l : List S166) : Bool := l.all fun p => coord p.f0 && coord p.f1
theorem pointsOk_ev (l : List S166) (hm : l.length ≤ maxLen) : Ev (fun k => impl_pointsOk.f k l) (ptsOk l) := by
  simp only [impl_pointsOk.f]
  refine ev_loop0 l (F := fun k i => impl_pointsOk.l0 k l l.length i) (fun _ r => ptsOk r) ?_ (fun pre x rest e h => ?_)
  · simp only [impl_pointsOk.l0, end_lt, if_false]; exact Ev.now _
  · subst e
    simp only [impl_pointsOk.l0, mid_lt, mid_nn, mid_wrap hm, if_true, rd_T166, Int.toNat_natCast, mid_get, iPointOk_eq, Option.bind_some]
    exact Ev.andB (fun _ => h)
theorem l07Points_ev (l : List S166) (hm : l.length ≤ maxLen) : Ev (fun k => spec_l07Points.f k l) (ptsOk l && decide ((l.length : Int) ≤ 8)) := by
  simp only [spec_l07Points.f]
  refine ev_loop0 l (F := fun k i => spec_l07Points.l0 k l i) (fun _ r => ptsOk r && decide ((l.length : Int) ≤ 8)) ?_ (fun pre x rest e h => ?_)
  · simp only [spec_l07Points.l0, end_lt, if_false]; exact Ev.now _
  · have : ptsOk (x :: rest) = ((coord x.f0 && coord x.f1) && ptsOk rest) := rfl
    rw [this, Bool.and_assoc]
    subst e
    simp only [spec_l07Points.l0, mid_lt, mid_nn, mid_wrap hm, if_true, rd_T166, Int.toNat_natCast, mid_get, sPointOk_eq, Option.bind_some]
    exact Ev.andB (fun _ => h)
def objOk (l : List S166) (g a b c d : Int) : Bool := decide (3 ≤ (l.length : Int)) && (decide ((l.length : Int) ≤ 8) && (ptsOk l && (inB g 0 255 && boxOk a b c d)))
theorem iObjectOk_ev (l : List S166) (g a b c d : Int) (hm : l.length ≤ maxLen) : Ev (fun k => impl_ObjectOk.f k l g a b c d) (objOk l g a b c d) := by
  simp only [impl_ObjectOk.f, within_eq, iBoxOk_eq, Option.bind_some, and_some]
  unfold objOk
  rw [← Bool.and_assoc]
  exact Ev.andB (fun _ => Ev.bind (pointsOk_ev l hm) (Ev.now _))
theorem l07Object_ev (l : List S166) (g a b c d : Int) (hm : l.length ≤ maxLen) : Ev (fun k => spec_l07Object.f k l g a b c d) (objOk l g a b c d) := by
  simp only [spec_l07Object.f, l01In_eq, sBoxOk_eq, Option.bind_some, and_some]
  unfold objOk
  refine Ev.andP (fun _ => ?_)
  have : (decide ((l.length : Int) ≤ 8) && (ptsOk l && (inB g 0 255 && boxOk a b c d))) = ((ptsOk l && decide ((l.length : Int) ≤ 8)) && (inB g 0 255 && boxOk a b c d)) := by
    cases decide ((l.length : Int) ≤ 8) <;> cases ptsOk l <;> rfl
  rw [this]
  exact Ev.bind (l07Points_ev l hm) (Ev.now _)
theorem sObjectOk_ev (l : List S166) (g a b c d : Int) (hm : l.length ≤ maxLen) : Ev (fun k => spec_ObjectOk.f k l g a b c d) (objOk l g a b c d) := by
  simp only [spec_ObjectOk.f]
  exact Ev.bind (l07Object_ev l g a b c d hm) (Ev.now _)

def rowOk (l : List Int) : Bool := decide ((l.length : Int) = 32) && l.all fun v => inB v 0 255
def rowsOk (l : List (List Int)) : Bool := decide ((l.length : Int) ≤ 32) && l.all rowOk
end Go.Proofs.Ytimpejidlnjhlaa.Pure
namespace Go.Proofs.Ytimpejidlnjhlaa.Pure
open Go.RowKit Go.Proofs.Ytimpejidlnjhlaa.QFnExactObjectsOfBand Go.Proofs.YtimpejidlnjhlaaW.PrintWords Go.Proofs.YtimpejidlnjhlaaW.PrintLast Go.Proofs.Ytimpejidlnjhlaa.Plain

def szOS (l : List S91) (a : Int) : Int := if szN l.length a < 0 then -1 else szL (fun x a => szN x.f0.length a) l (szN l.length a)
theorem szOS_tells (l : List S91) (a : Int) (h0 : 0 ≤ a) (h1 : a ≤ 1048576) : szOS l a = -1 ∨ (0 ≤ szOS l a ∧ szOS l a ≤ a ∧ (l.length : Int) ≤ a ∧ ∀ x ∈ l, (x.f0.length : Int) ≤ 1048576) := by
  unfold szOS
  rcases szN_tells l.length a h0 with h | ⟨h2, h3, h4⟩
  · rw [h]; exact .inl rfl
  · rw [if_neg (by omega)]
    rcases szL_tells (f := fun (x : S91) a => szN x.f0.length a) (P := fun x => (x.f0.length : Int) ≤ 1048576) (fun x a h0 h1 => by rcases szN_tells x.f0.length a h0 with h | ⟨h5, h6, h7⟩; exact .inl h; exact .inr ⟨h5, h6, by omega⟩) l _ h2 (by omega) with h | ⟨h5, h6, h7⟩
    · exact .inl h
    · exact .inr ⟨h5, by omega, h4, h7⟩
theorem szObjectS_ev (l : List S91) (a : Int) (h : l.length ≤ maxLen) (hx : ∀ x ∈ l, x.f0.length ≤ maxLen) (h0 : 0 ≤ a) (h1 : a ≤ 1048576) : Ev (fun k => laws_szObjectS.f k l a) (szOS l a) := by
  have h' := h
  rw [maxLen_eq] at h'
  simp only [laws_szObjectS.f]
  rw [wrap_id (by omega) (by omega)]
  have hn : szN l.length a = if a - (l.length : Int) < 0 then -1 else a - (l.length : Int) := rfl
  unfold szOS
  rw [hn]
  by_cases c : a - (l.length : Int) < 0
  · simp only [if_pos c]; exact Ev.val rfl
  · simp only [if_neg c]
    refine ev_loop l (F := fun k s i => laws_szObjectS.l0 k l s i) (fun _ _ s => 0 ≤ s ∧ s ≤ 1048576) (fun _ r s => szL (fun x a => szN x.f0.length a) r s) ?_ ?_ (a - (l.length : Int)) ⟨by omega, by omega⟩
    · intro s _
      simp only [laws_szObjectS.l0, end_lt, if_false, szL]
      exact Ev.now _
    · rintro pre x rest s e ⟨hs0, hs1⟩ ih
      have hxx := hx x (by rw [e]; simp)
      subst e
      simp only [laws_szObjectS.l0, mid_lt, mid_nn, mid_wrap h, if_true, rd_T91, Int.toNat_natCast, mid_get, szObject_eq x.f0 _ _ _ _ _ s hxx hs0 hs1, Option.bind_some, szL]
      rcases szN_tells x.f0.length s hs0 with hn | ⟨h2, h3, h4⟩
      · rw [hn]; exact Ev.now _
      · have c2 : ¬ szN x.f0.length s < 0 := by omega
        simp only [if_neg c2]
        exact ih _ ⟨h2, by omega⟩
theorem toObject_ev (l : List S180) (g a b c d : Int) (hl : (l.length : Int) ≤ 1048576) : Ev (fun k => laws_toObject.f k l g a b c d) (l.map tPoint, g, a, b, c, d) := by
  simp only [laws_toObject.f, laws_toBox.f, Option.bind_some]
  exact Ev.bind (toPointS_ev l hl) (Ev.now _)
def tBox (b : S89) : S39 := ⟨b.f0, b.f1, b.f2, b.f3⟩
def tObj (o : S91) : S41 := ⟨o.f0.map tPoint, o.f1, tBox o.f2⟩
theorem toObjectS_ev (l : List S91) (h : (l.length : Int) ≤ 1048576) (hx : ∀ x ∈ l, (x.f0.length : Int) ≤ 1048576) : Ev (fun k => laws_toObjectS.f k l) (l.map tObj) := by
  have hm : l.length ≤ maxLen := by rw [maxLen_eq]; omega
  simp only [laws_toObjectS.f]
  refine Ev.ite (fun _ => Ev.ite (fun _ => ?_) (fun c => absurd (by omega) c)) (fun c => absurd (by omega) c)
  exact ev_fill l tObj (F := fun k s i => laws_toObjectS.l0 k l s i) (fun s => by
    simp only [laws_toObjectS.l0, end_lt, if_false]
    exact Ev.now _) (fun pre x rest s r e hs h => by
    have hxx := hx x (by rw [e]; simp)
    subst e
    simp only [laws_toObjectS.l0, hs, mid_lt, mid_nn, mid_wrap hm, if_true, rd_T91, Int.toNat_natCast, mid_get]
    exact Ev.bind (toObject_ev x.f0 _ _ _ _ _ hxx) h) _ (by simp)
theorem map_tObj_len {l : List S91} (hx : ∀ x ∈ l, (x.f0.length : Int) ≤ 1048576) : ∀ x ∈ l.map tObj, x.f0.length ≤ maxLen := by
  intro x hx'
  obtain ⟨y, hy, rfl⟩ := List.mem_map.1 hx'
  have := hx y hy
  simp only [tObj, List.length_map, maxLen_eq]
  omega
theorem eqObjectS_ev (l : List S41) (hm : l.length ≤ maxLen) (hx : ∀ x ∈ l, x.f0.length ≤ maxLen) : Ev (fun k => laws_eqObjectS.f k l l) true := by
  simp only [laws_eqObjectS.f, if_true]
  refine ev_loop0 l (F := fun k i => laws_eqObjectS.l0 k l l i) (fun _ _ => true) ?_ (fun pre x rest e h => ?_)
  · simp only [laws_eqObjectS.l0, end_lt, if_false]; exact Ev.now _
  · have hxx := hx x (by rw [e]; simp)
    subst e
    simp only [laws_eqObjectS.l0, mid_lt, mid_nn, mid_wrap hm, if_true, rd_T41, Int.toNat_natCast, mid_get]
    exact Ev.bind (eqObject_ev x.f0 _ _ _ _ _ hxx) h
end Go.Proofs.Ytimpejidlnjhlaa.Pure
namespace Go.Proofs.Ytimpejidlnjhlaa.Pure
open Go.RowKit Go.Proofs.Ytimpejidlnjhlaa.QFnExactObjectsOfBand Go.Proofs.YtimpejidlnjhlaaW.PrintWords Go.Proofs.YtimpejidlnjhlaaW.PrintLast Go.Proofs.Ytimpejidlnjhlaa.Plain

def mkPoint (a : Int) : S166 := ⟨a, a + 1⟩
theorem markPointS_ev (l : List S166) (a : Int) (hm : l.length ≤ maxLen) (h0 : 0 ≤ a) (h1 : a + 2 * l.length ≤ 9223372036854775806) : Ev (fun k => laws_markPointS.f k l a) (a + 2 * l.length, iota 2 mkPoint a l.length) := by
  simp only [laws_markPointS.f]
  refine ev_loop l (F := fun k (s : List S166 × Int) i => laws_markPointS.l0 k s.1 s.2 i) (fun pre rest s => s.1 = iota 2 mkPoint a pre.length ++ rest ∧ s.2 = a + 2 * pre.length) (fun _ _ _ => (a + 2 * l.length, iota 2 mkPoint a l.length)) ?_ ?_ (l, a) ⟨rfl, by simp⟩
  · rintro ⟨s, b⟩ ⟨rfl, rfl⟩
    have hl : ((iota 2 mkPoint a l.length ++ ([] : List S166)).length : Int) = l.length := by simp [iota_length]
    simp only [laws_markPointS.l0, hl, end_lt, if_false]
    exact Ev.val (by simp)
  · rintro pre x rest ⟨s, b⟩ e ⟨rfl, rfl⟩ ih
    subst e
    have hl : ((iota 2 mkPoint a pre.length ++ x :: rest).length : Int) = ((pre ++ x :: rest).length : Int) := by simp [iota_length]
    have hlen := mid_len (pre := pre) (rest := rest) (x := x)
    have hs := iota_set 2 mkPoint a pre rest x
    have hw1 : wrap64 (a + 2 * (pre.length : Int) + 1) = a + 2 * (pre.length : Int) + 1 := wrap_id (by omega) (by omega)
    have hw : wrap64 (a + 2 * (pre.length : Int) + 1 + 1) = a + 2 * ((pre ++ [x]).length : Int) := by rw [wrap_id (by omega) (by omega)]; simp; omega
    have hg : ∀ y : S166, ((iota 2 mkPoint a pre.length ++ x :: rest).set pre.length y).getD pre.length z166 = y := by
      intro y
      rw [List.getD_eq_getElem?_getD, List.getElem?_set_self (by have := hl; omega)]
      rfl
    simp only [laws_markPointS.l0, hl, mid_lt, mid_nn, mid_wrap hm, if_true, Int.toNat_natCast, Option.bind_some, hw1, hw, rd_T166, hg, List.set_set]
    exact ih (_, _) ⟨hs, rfl⟩
theorem heldPointS_ev (n : Nat) (a : Int) (h0 : 0 ≤ a) (h1 : a + 2 * n ≤ 9223372036854775806) : Ev (fun k => laws_heldPointS.f k (iota 2 mkPoint a n) a) (a + 2 * n) := by
  have hm : (iota 2 mkPoint a n).length ≤ maxLen := by rw [iota_length, maxLen_eq]; omega
  simp only [laws_heldPointS.f]
  refine ev_loop (iota 2 mkPoint a n) (F := fun k s i => laws_heldPointS.l0 k (iota 2 mkPoint a n) s i) (fun pre rest s => s = a + 2 * pre.length) (fun _ _ _ => a + 2 * n) ?_ ?_ a (by simp)
  · rintro s rfl
    simp only [laws_heldPointS.l0, end_lt, if_false]
    exact Ev.val (by rw [iota_length])
  · rintro pre x rest s e rfl ih
    have hx := iota_mid 2 mkPoint pre rest x a n e
    have hn := congrArg List.length e
    rw [iota_length] at hn
    have hlen := mid_len (pre := pre) (rest := rest) (x := x)
    rw [e] at hm ⊢
    rw [e] at ih
    have hw1 : wrap64 (a + 2 * (pre.length : Int) + 1) = a + 2 * (pre.length : Int) + 1 := wrap_id (by omega) (by omega)
    have hw : wrap64 (a + 2 * (pre.length : Int) + 1 + 1) = a + 2 * ((pre ++ [x]).length : Int) := by rw [wrap_id (by omega) (by omega)]; simp; omega
    have e0 : x.f0 = a + 2 * (pre.length : Int) := by rw [hx]; rfl
    have e1 : x.f1 = a + 2 * (pre.length : Int) + 1 := by rw [hx]; rfl
    simp only [laws_heldPointS.l0, mid_lt, mid_nn, mid_wrap hm, if_true, rd_T166, Int.toNat_natCast, mid_get, e0, e1, hw1, hw]
    exact ih _ rfl
end Go.Proofs.Ytimpejidlnjhlaa.Pure
namespace Go.Proofs.Ytimpejidlnjhlaa.Pure
open Go.RowKit Go.Proofs.Ytimpejidlnjhlaa.QFnExactObjectsOfBand Go.Proofs.YtimpejidlnjhlaaW.PrintWords Go.Proofs.YtimpejidlnjhlaaW.PrintLast Go.Proofs.Ytimpejidlnjhlaa.Plain

abbrev BoxT := Int × Int × Int × Int
theorem mx_self (a : Int) : mx a a = a := by unfold mx; split <;> rfl
theorem mn_self (a : Int) : mn a a = a := by unfold mn; split <;> rfl
theorem mx_comm (a b : Int) : mx a b = mx b a := by unfold mx; omega
theorem mn_comm (a b : Int) : mn a b = mn b a := by unfold mn; omega
def meet (p q : BoxT) : BoxT := if boxOk p.1 p.2.1 p.2.2.1 p.2.2.2 = true ∧ boxOk q.1 q.2.1 q.2.2.1 q.2.2.2 = true ∧ mx p.1 q.1 < mn p.2.2.1 q.2.2.1 ∧ mx p.2.1 q.2.1 < mn p.2.2.2 q.2.2.2 then (mx p.1 q.1, mx p.2.1 q.2.1, mn p.2.2.1 q.2.2.1, mn p.2.2.2 q.2.2.2) else (0, 0, 0, 0)
theorem sMeetBox_eq (a b c d e f g h : Int) : spec_MeetBox.f a b c d e f g h = some (meet (a, b, c, d) (e, f, g, h)) := by
  unfold spec_MeetBox.f meet
  simp only [sBoxOk_eq, Option.bind_some]
  by_cases c1 : boxOk a b c d = true
  · by_cases c2 : boxOk e f g h = true
    · by_cases c3 : mx a e ≥ mn c g
      · have n3 : ¬ mx a e < mn c g := by omega
        simp [c1, c2, c3, n3]
      · have n3 : mx a e < mn c g := by omega
        by_cases c4 : mx b f ≥ mn d h
        · have n4 : ¬ mx b f < mn d h := by omega
          simp [c1, c2, c4, n4]
        · have n4 : mx b f < mn d h := by omega
          simp [c1, c2, n3, n4, c3, c4]
    · simp [c1, c2]
  · simp [c1]
theorem iMeetBox_j0 (k : Nat) (z : Bool) (a b c d e f g h : Int) : impl_MeetBox.j0 (k + 1) z a b c d e f g h = some (if z = false ∧ mx a e < mn c g ∧ mx b f < mn d h then (mx a e, mx b f, mn c g, mn d h) else (0, 0, 0, 0)) := by
  simp only [impl_MeetBox.j0]
  cases z
  · by_cases c3 : mx a e < mn c g
    · have n3 : ¬ mx a e ≥ mn c g := by omega
      by_cases c4 : mx b f < mn d h
      · have n4 : ¬ mx b f ≥ mn d h := by omega
        simp only [Bool.false_eq_true, if_false, if_neg n3, if_neg n4]
        rw [if_pos ⟨trivial, c3, c4⟩]
      · have n4 : mx b f ≥ mn d h := by omega
        simp only [Bool.false_eq_true, if_false, if_neg n3, if_pos n4]
        rw [if_neg (fun q => c4 q.2.2)]
    · have n3 : mx a e ≥ mn c g := by omega
      simp only [Bool.false_eq_true, if_false, if_pos n3]
      rw [if_neg (fun q => c3 q.2.1)]
  · simp
theorem iMeetBox_ev (a b c d e f g h : Int) : Ev (fun k => impl_MeetBox.f k a b c d e f g h) (meet (a, b, c, d) (e, f, g, h)) := by
  simp only [impl_MeetBox.f, iBoxOk_eq, Option.bind_some]
  unfold meet
  by_cases c1 : boxOk a b c d = true
  · simp only [if_pos c1]
    refine Ev.up ?_
    simp only [iMeetBox_j0]
    refine Ev.val ?_
    by_cases c2 : boxOk e f g h = true
    · simp [c1, c2]
    · simp [c1, c2]
  · simp only [if_neg c1]
    refine Ev.up ?_
    simp only [iMeetBox_j0]
    exact Ev.val (by simp [c1])
def boxFrom : List S166 → BoxT → BoxT
  | [], b => b
  | x :: r, b => boxFrom r (mn b.1 x.f0, mn b.2.1 x.f1, mx b.2.2.1 x.f0, mx b.2.2.2 x.f1)
def boxOf (l : List S166) : BoxT :=
  match l with
  | [] => (0, 0, 0, 0)
  | x :: r => if ptsOk (x :: r) = true then boxFrom r (x.f0, x.f1, x.f0, x.f1) else (0, 0, 0, 0)
theorem iBoxOf_ev (l : List S166) (hm : l.length ≤ maxLen) : Ev (fun k => impl_BoxOf.f k l) (boxOf l) := by
  simp only [impl_BoxOf.f]
  match l, hm with
  | [], hm =>
    simp only [List.length_nil, Int.ofNat_zero, if_true]
    exact Ev.up (by simp only [impl_BoxOf.j0, if_true]; exact Ev.now _)
  | x :: r, hm =>
    have hne : ¬ ((x :: r).length : Int) = 0 := by rw [List.length_cons]; omega
    have hpos : (0 : Int) < ((x :: r).length : Int) := by rw [List.length_cons]; omega
    simp only [if_neg hne]
    refine Ev.bind (pointsOk_ev _ hm) (Ev.up ?_)
    unfold boxOf
    by_cases c : ptsOk (x :: r) = true
    · have hx : rd_T166 (x :: r) 0 = x := rfl
      simp only [c, Bool.not_true, impl_BoxOf.j0, Bool.false_eq_true, if_false, if_pos hpos, hx, if_true]
      have hb : boxFrom r (x.f0, x.f1, x.f0, x.f1) = boxFrom (x :: r) (x.f0, x.f1, x.f0, x.f1) := by simp only [boxFrom, mn_self, mx_self]
      rw [hb]
      generalize hq : x :: r = q at *
      refine ev_loop q (F := fun k (s : BoxT) i => impl_BoxOf.l0 k q q.length i s.1 s.2.1 s.2.2.1 s.2.2.2) (fun _ _ _ => True) (fun _ r s => boxFrom r s) ?_ ?_ (x.f0, x.f1, x.f0, x.f1) trivial
      · intro s _; simp only [impl_BoxOf.l0, end_lt, if_false]; exact Ev.now _
      · rintro pre y rest s e _ ih
        clear hq
        subst e
        simp only [impl_BoxOf.l0, mid_lt, mid_nn, mid_wrap hm, if_true, rd_T166, Int.toNat_natCast, mid_get]
        exact ih (mn s.1 y.f0, mn s.2.1 y.f1, mx s.2.2.1 y.f0, mx s.2.2.2 y.f1) trivial
    · have c' : ptsOk (x :: r) = false := by simpa using c
      simp only [c', Bool.not_false, impl_BoxOf.j0, if_true, Bool.false_eq_true, if_false]; exact Ev.now _
theorem sBoxOf_ev (l : List S166) (hm : l.length ≤ maxLen) : Ev (fun k => spec_BoxOf.f k l) (boxOf l) := by
  simp only [spec_BoxOf.f]
  have hg : boxOf l = if ptsOk l = true then (if ([] : List S166) = [] then boxOf l else boxFrom l (0, 0, 0, 0)) else (0, 0, 0, 0) := by
    match l with
    | [] => simp [boxOf]
    | x :: r => unfold boxOf; by_cases c : ptsOk (x :: r) = true <;> simp [c]
  rw [hg]
  refine ev_loop l (F := fun k (s : BoxT) i => spec_BoxOf.l0 k l i s.1 s.2.1 s.2.2.1 s.2.2.2) (fun p _ s => p = [] → s = (0, 0, 0, 0)) (fun p r s => if ptsOk r = true then (if p = [] then boxOf r else boxFrom r s) else (0, 0, 0, 0)) ?_ ?_ (0, 0, 0, 0) (fun _ => rfl)
  · intro s hs
    simp only [spec_BoxOf.l0, end_lt, if_false]
    refine Ev.val ?_
    by_cases c : l = []
    · rw [hs c]; simp [c, boxOf, ptsOk]
    · simp [c, boxFrom, ptsOk]
  · rintro pre x rest s e hs ih
    have hp : ptsOk (x :: rest) = ((coord x.f0 && coord x.f1) && ptsOk rest) := rfl
    clear hg
    subst e
    simp only [spec_BoxOf.l0, mid_lt, mid_nn, mid_wrap hm, if_true, rd_T166, Int.toNat_natCast, mid_get, sPointOk_eq, Option.bind_some]
    by_cases cx : (coord x.f0 && coord x.f1) = true
    · simp only [cx, if_true]
      have hpe : ptsOk (x :: rest) = ptsOk rest := by rw [hp, cx, Bool.true_and]
      have hne : ¬ pre ++ [x] = [] := by simp
      by_cases cp : pre = []
      · have c0 : (pre.length : Int) = 0 := by simp [cp]
        have h := ih (x.f0, x.f1, x.f0, x.f1) (fun e => absurd e hne)
        simp only [if_neg hne] at h
        simp only [c0, if_true, if_pos cp, hpe]
        by_cases cr : ptsOk rest = true
        · simp only [cr, if_true] at h ⊢
          have : boxOf (x :: rest) = boxFrom rest (x.f0, x.f1, x.f0, x.f1) := by
            show (if ptsOk (x :: rest) = true then boxFrom rest (x.f0, x.f1, x.f0, x.f1) else (0, 0, 0, 0)) = _
            rw [if_pos (hpe.trans cr)]
          rw [this]
          exact h
        · simp only [if_neg cr] at h ⊢
          exact h
      · have c0 : ¬ (pre.length : Int) = 0 := by
          intro h; exact cp (List.eq_nil_of_length_eq_zero (by omega))
        have h := ih (mn s.1 x.f0, mn s.2.1 x.f1, mx s.2.2.1 x.f0, mx s.2.2.2 x.f1) (fun e => absurd e hne)
        simp only [if_neg hne] at h
        simp only [if_neg c0, if_neg cp, hpe]
        exact h
    · have hpe : ptsOk (x :: rest) = false := by rw [hp]; simp [cx]
      simp only [if_neg cx, hpe, Bool.false_eq_true, if_false]
      exact Ev.now _
def objBox (l : List S166) (g a b c d : Int) : BoxT := if objOk l g a b c d = true then meet (meet (boxOf l) (a, b, c, d)) (0, 0, 32, 32) else (0, 0, 0, 0)
theorem iObjectBox_ev (l : List S166) (g a b c d : Int) (hm : l.length ≤ maxLen) : Ev (fun k => impl_ObjectBox.f k l g a b c d) (objBox l g a b c d) := by
  simp only [impl_ObjectBox.f]
  unfold objBox
  refine Ev.bind (iObjectOk_ev l g a b c d hm) (Ev.ite (fun c => ?_) (fun c => ?_))
  · rw [if_pos c]
    refine Ev.bind (iBoxOf_ev l hm) (Ev.bind (iMeetBox_ev _ _ _ _ _ _ _ _) ?_)
    simp only [impl_pageBox.f, Option.bind_some]
    exact Ev.bind (iMeetBox_ev _ _ _ _ _ _ _ _) (Ev.now _)
  · rw [if_neg c]; exact Ev.now _
theorem sObjectBox_ev (l : List S166) (g a b c d : Int) (hm : l.length ≤ maxLen) : Ev (fun k => spec_ObjectBox.f k l g a b c d) (objBox l g a b c d) := by
  simp only [spec_ObjectBox.f]
  unfold objBox
  refine Ev.bind (sObjectOk_ev l g a b c d hm) (Ev.ite (fun c => ?_) (fun c => ?_))
  · rw [if_pos c]
    refine Ev.bind (sBoxOf_ev l hm) ?_
    simp only [sMeetBox_eq, spec_l07Full.f, Option.bind_some]
    exact Ev.now _
  · rw [if_neg c]; exact Ev.now _
/-- A loop that counts from lo to hi. -/
theorem ev_range {σ β : Type} {F : Nat → σ → Int → Option β} (lo hi : Int) (hlh : lo ≤ hi) (Inv : Int → σ → Prop) (r : β)
    (hnil : ∀ s, Inv hi s → Ev (fun k => F (k + 1) s hi) r)
    (hcons : ∀ i s, lo ≤ i → i < hi → Inv i s → (∀ s', Inv (i + 1) s' → Ev (fun k => F k s' (i + 1)) r) → Ev (fun k => F (k + 1) s i) r) :
    ∀ s, Inv lo s → Ev (fun k => F k s lo) r := by
  have main : ∀ (n : Nat) (i : Int) (s : σ), lo ≤ i → i + n = hi → Inv i s → Ev (fun k => F k s i) r := by
    intro n
    induction n with
    | zero =>
      intro i s h0 h1 hI
      have e : i = hi := by omega
      subst e
      exact Ev.up (hnil s hI)
    | succ n ih =>
      intro i s h0 h1 hI
      exact Ev.up (hcons i s h0 (by omega) hI (fun s' hI' => ih (i + 1) s' (by omega) (by omega) hI'))
  intro s hI
  exact main (hi - lo).toNat lo s (by omega) (by omega) hI
def inPage (p : BoxT) : Prop := 0 ≤ p.1 ∧ p.1 ≤ p.2.2.1 ∧ p.2.2.1 ≤ 32 ∧ 0 ≤ p.2.1 ∧ p.2.1 ≤ p.2.2.2 ∧ p.2.2.2 ≤ 32
theorem meet_page (p : BoxT) : inPage (meet p (0, 0, 32, 32)) := by
  unfold meet
  by_cases c : boxOk p.1 p.2.1 p.2.2.1 p.2.2.2 = true ∧ boxOk 0 0 32 32 = true ∧ mx p.1 0 < mn p.2.2.1 32 ∧ mx p.2.1 0 < mn p.2.2.2 32
  · rw [if_pos c]
    obtain ⟨_, _, h3, h4⟩ := c
    unfold inPage
    simp only
    unfold mx mn at *
    omega
  · rw [if_neg c]; simp [inPage]
theorem objBox_page (l : List S166) (g a b c d : Int) : inPage (objBox l g a b c d) := by
  unfold objBox
  split
  · exact meet_page _
  · simp [inPage]
def cntD (p : BoxT) : Int := if boxOk p.1 p.2.1 p.2.2.1 p.2.2.2 = true then wrap64 (wrap64 (p.2.2.1 - p.1) * wrap64 (p.2.2.2 - p.2.1)) else 0
theorem iCountDots_eq (a b c d : Int) : impl_CountDots.f a b c d = some (cntD (a, b, c, d)) := by
  unfold impl_CountDots.f cntD
  simp only [iBoxOk_eq, Option.bind_some]
  by_cases h : boxOk a b c d = true <;> simp [h]
theorem sCountDots_eq (a b c d : Int) : spec_CountDots.f a b c d = some (cntD (a, b, c, d)) := by
  unfold spec_CountDots.f cntD
  simp only [sBoxOk_eq, Option.bind_some]
  by_cases h : boxOk a b c d = true <;> simp [h]
def bandOk (h i : Int) : Bool := inB i 0 (wrap64 (cntB h - 1))
theorem bandOk_isH {h i : Int} (c : bandOk h i = true) : isH h = true := by
  unfold bandOk cntB at c
  rw [inB_iff] at c
  by_cases e : isH h = true
  · exact e
  · rw [if_neg e, wrap_id (by omega) (by omega)] at c; omega
theorem bandOk_page {h i : Int} (c : bandOk h i = true) : 0 ≤ i * h ∧ 1 ≤ h ∧ i * h + h ≤ 32 ∧ wrap64 (i * h) = i * h ∧ wrap64 (i * h + h) = i * h + h ∧ 0 ≤ i ∧ i ≤ 31 := by
  have e := bandOk_isH c
  unfold bandOk cntB at c
  rw [inB_iff, if_pos e] at c
  rcases isH_cases e with rfl | rfl | rfl | rfl | rfl | rfl <;> (rw [wrap_id (by omega) (by omega)] at c; refine ⟨?_, ?_, ?_, ?_, ?_, ?_, ?_⟩ <;> first | omega | exact wrap_id (by omega) (by omega))
def touches (l : List S166) (g a b c d h i : Int) : Bool := bandOk h i && (decide (cntD (objBox l g a b c d) > 0) && (decide ((objBox l g a b c d).2.1 < wrap64 (wrap64 (i * h) + h)) && decide ((objBox l g a b c d).2.2.2 > wrap64 (i * h))))
theorem and_some_d (p : Prop) [Decidable p] (q : Bool) : (if p then some q else some false) = some (decide p && q) := and_some_p p q
theorem iTouchesBand_ev (l : List S166) (g a b c d h i : Int) (hm : l.length ≤ maxLen) : Ev (fun k => impl_TouchesBand.f k l g a b c d h i) (touches l g a b c d h i) := by
  simp only [impl_TouchesBand.f, iIsHeight_eq, iCountBands_eq, within_eq, Option.bind_some]
  have hb : inB i 0 (wrap64 (cntB h - 1)) = bandOk h i := rfl
  rw [hb]
  unfold touches
  by_cases e : isH h = true
  · simp only [if_pos e]
    refine Ev.up ?_
    by_cases cb : bandOk h i = true
    · simp only [impl_TouchesBand.j0, cb, Bool.not_true, Bool.false_eq_true, if_false, Bool.true_and]
      refine Ev.bind (iObjectBox_ev l g a b c d hm) ?_
      simp only [iCountDots_eq, Option.bind_some, and_some_p]
      exact Ev.now _
    · have c' : bandOk h i = false := by simpa using cb
      simp only [impl_TouchesBand.j0, c', Bool.not_false, if_true, Bool.false_and]; exact Ev.now _
  · simp only [if_neg e]
    have c' : bandOk h i = false := by
      cases hc : bandOk h i
      · rfl
      · exact absurd (bandOk_isH hc) e
    refine Ev.up ?_
    simp only [impl_TouchesBand.j0, c', if_true, Bool.false_and]; exact Ev.now _
theorem sTouchesBand_ev (l : List S166) (g a b c d h i : Int) (hm : l.length ≤ maxLen) : Ev (fun k => spec_TouchesBand.f k l g a b c d h i) (touches l g a b c d h i) := by
  simp only [spec_TouchesBand.f, spec_l12Ok.f, sCountBands_eq, l01In_eq, Option.bind_some]
  have hb : inB i 0 (wrap64 (cntB h - 1)) = bandOk h i := rfl
  rw [hb]
  unfold touches
  refine Ev.bind (sObjectBox_ev l g a b c d hm) ?_
  simp only [sCountDots_eq, Option.bind_some, and_some_p, and_some]
  exact Ev.val (by rw [Bool.decide_eq_true])
end Go.Proofs.Ytimpejidlnjhlaa.Pure
namespace Go.Proofs.Ytimpejidlnjhlaa.Pure
open Go.RowKit Go.Proofs.Ytimpejidlnjhlaa.QFnExactObjectsOfBand Go.Proofs.YtimpejidlnjhlaaW.PrintWords Go.Proofs.YtimpejidlnjhlaaW.PrintLast Go.Proofs.Ytimpejidlnjhlaa.Plain

end Go.Proofs.Ytimpejidlnjhlaa.Pure
namespace Go.Proofs.Ytimpejidlnjhlaa.Pure
open Go.RowKit Go.Proofs.Ytimpejidlnjhlaa.QFnExactObjectsOfBand Go.Proofs.YtimpejidlnjhlaaW.PrintWords Go.Proofs.YtimpejidlnjhlaaW.PrintLast Go.Proofs.Ytimpejidlnjhlaa.Plain

theorem wrapR (a b : Int) : wrap64 (a + wrap64 b) = wrap64 (a + b) := by unfold wrap64; omega
theorem wrapL (a b : Int) : wrap64 (wrap64 a + b) = wrap64 (a + b) := by unfold wrap64; omega
theorem wrapS (a b c : Int) : wrap64 (wrap64 (a + b) - c) = wrap64 (a + (b - c)) := by unfold wrap64; omega
theorem last_gt {α : Type} (pre : List α) (y x : α) (rest : List α) (z : α) (hm : ((pre ++ [y]) ++ x :: rest).length ≤ maxLen) :
    wrap64 (((pre ++ [y]).length : Int) - 1) = (pre.length : Int) ∧ ((pre ++ [y]) ++ x :: rest).getD pre.length z = y := by
  rw [maxLen_eq] at hm
  simp at hm
  refine ⟨by rw [wrap_id (by simp <;> omega) (by simp <;> omega)]; simp, by simp [List.getD_eq_getElem?_getD]⟩
end Go.Proofs.Ytimpejidlnjhlaa.Pure
namespace Go.Proofs.Ytimpejidlnjhlaa.Pure
open Go.RowKit Go.Proofs.Ytimpejidlnjhlaa.QFnExactObjectsOfBand Go.Proofs.YtimpejidlnjhlaaW.PrintWords Go.Proofs.YtimpejidlnjhlaaW.PrintLast Go.Proofs.Ytimpejidlnjhlaa.Plain

section
variable {α : Type} (mk : Int → α → α) (ln : α → Int)
def mkAll : Int → List α → List α
  | _, [] => []
  | a, x :: r => mk a x :: mkAll (a + ln x) r
def lnAll : List α → Int
  | [] => 0
  | x :: r => ln x + lnAll r
theorem mkAll_length : ∀ (a : Int) (l : List α), (mkAll mk ln a l).length = l.length
  | _, [] => rfl
  | a, x :: r => by simp [mkAll, mkAll_length (a + ln x) r]
theorem lnAll_nn : ∀ l : List α, (∀ x ∈ l, 0 ≤ ln x) → 0 ≤ lnAll ln l
  | [], _ => Int.le_refl _
  | x :: r, h => by
    have h1 := h x (by simp)
    have h2 := lnAll_nn r (fun y hy => h y (by simp [hy]))
    unfold lnAll; omega
theorem lnAll_le : ∀ l : List α, (∀ x ∈ l, ln x ≤ 4194304) → lnAll ln l ≤ 4194304 * l.length
  | [], _ => by simp [lnAll]
  | x :: r, h => by
    have h1 := h x (by simp)
    have h2 := lnAll_le r (fun y hy => h y (by simp [hy]))
    unfold lnAll; rw [List.length_cons]; omega
theorem ev_mark (xs : List α) {F : Nat → List α → Int → Int → Option (Int × List α)} (a : Int) (hn : ∀ x ∈ xs, 0 ≤ ln x)
    (hnil : ∀ s b, s.length = xs.length → Ev (fun k => F (k + 1) s b (xs.length : Int)) (b, s))
    (hcons : ∀ (done : List α) x rest b, done.length + (rest.length + 1) = xs.length → x ∈ xs → a ≤ b → b + ln x ≤ a + lnAll ln xs → ∀ r, Ev (fun k => F k (done ++ mk b x :: rest) (b + ln x) ((done.length : Int) + 1)) r → Ev (fun k => F (k + 1) (done ++ x :: rest) b (done.length : Int)) r) :
    Ev (fun k => F k xs a 0) (a + lnAll ln xs, mkAll mk ln a xs) := by
  have main : ∀ (rest done : List α) (b : Int), done.length + rest.length = xs.length → (∀ x ∈ rest, x ∈ xs) → a ≤ b → b + lnAll ln rest = a + lnAll ln xs → Ev (fun k => F k (done ++ rest) b (done.length : Int)) (a + lnAll ln xs, done ++ mkAll mk ln b rest) := by
    intro rest
    induction rest with
    | nil =>
      intro done b hl _ _ hb
      have h := hnil (done ++ []) b (by simpa using hl)
      have e : (done.length : Int) = xs.length := by simp at hl; omega
      have e2 : b = a + lnAll ln xs := by simpa [lnAll] using hb
      rw [e, ← e2]
      simpa [mkAll] using Ev.up (g := fun k => F k (done ++ []) b (xs.length : Int)) h
    | cons x rest ih =>
      intro done b hl hm hab hb
      have hx := hm x (by simp)
      have h0 := hn x hx
      have h1 := lnAll_nn ln rest (fun y hy => hn y (hm y (by simp [hy])))
      have hb' : ln x + lnAll ln rest + b = a + lnAll ln xs := by simp only [lnAll] at hb; omega
      refine Ev.up (hcons done x rest b (by simpa using hl) hx hab (by omega) _ ?_)
      have h := ih (done ++ [mk b x]) (b + ln x) (by simp at hl ⊢; omega) (fun y hy => hm y (by simp [hy])) (by omega) (by omega)
      have e : ((done ++ [mk b x]).length : Int) = (done.length : Int) + 1 := by simp
      rw [e] at h
      simpa [mkAll] using h
  simpa using main xs [] a (by simp) (fun _ h => h) (Int.le_refl _) rfl
theorem ev_held (xs : List α) {F : Nat → Int → Int → Option Int} (a : Int) (hn : ∀ x ∈ xs, 0 ≤ ln x)
    (hnil : ∀ b, Ev (fun k => F (k + 1) b ((mkAll mk ln a xs).length : Int)) b)
    (hcons : ∀ pre x rest b, mkAll mk ln a xs = pre ++ mk b x :: rest → x ∈ xs → a ≤ b → b + ln x ≤ a + lnAll ln xs → ∀ r, Ev (fun k => F k (b + ln x) ((pre.length : Int) + 1)) r → Ev (fun k => F (k + 1) b (pre.length : Int)) r) :
    Ev (fun k => F k a 0) (a + lnAll ln xs) := by
  have main : ∀ (rest : List α) (pre : List α) (b : Int), mkAll mk ln a xs = pre ++ mkAll mk ln b rest → (∀ x ∈ rest, x ∈ xs) → a ≤ b → b + lnAll ln rest = a + lnAll ln xs → Ev (fun k => F k b (pre.length : Int)) (a + lnAll ln xs) := by
    intro rest
    induction rest with
    | nil =>
      intro pre b he _ _ hb
      have e : mkAll mk ln a xs = pre := by simpa [mkAll] using he
      have e2 : b = a + lnAll ln xs := by simpa [lnAll] using hb
      have h := hnil b
      rw [e] at h
      rw [← e2]
      exact Ev.up h
    | cons x rest ih =>
      intro pre b he hm hab hb
      have hx := hm x (by simp)
      have h0 := hn x hx
      have h1 := lnAll_nn ln rest (fun y hy => hn y (hm y (by simp [hy])))
      have hb' : ln x + lnAll ln rest + b = a + lnAll ln xs := by simp only [lnAll] at hb; omega
      refine Ev.up (hcons pre x (mkAll mk ln (b + ln x) rest) b he hx hab (by omega) _ ?_)
      have h := ih (pre ++ [mk b x]) (b + ln x) (by rw [he]; simp [mkAll]) (fun y hy => hm y (by simp [hy])) (by omega) (by omega)
      have e : ((pre ++ [mk b x]).length : Int) = (pre.length : Int) + 1 := by simp
      rw [e] at h
      exact h
  simpa using main xs [] a rfl (fun _ h => h) (Int.le_refl _) rfl
end
theorem set_mid {α : Type} (done rest : List α) (x y : α) : (done ++ x :: rest).set done.length y = done ++ y :: rest := by
  rw [List.set_append_right _ _ (Nat.le_refl _), Nat.sub_self]; rfl
theorem mid_lt2 {α : Type} (done rest : List α) (x : α) : ((done.length : Int) < ((done ++ x :: rest).length : Int)) = True := mid_lt
theorem mid_w2 {n : Nat} (h : n + 1 ≤ maxLen) : wrap64 ((n : Int) + 1) = (n : Int) + 1 := by rw [maxLen_eq] at h; exact wrap_id (by omega) (by omega)
def mkOb (b : Int) (x : S41) : S41 := ⟨iota 2 mkPoint b x.f0.length, b + 2 * x.f0.length, ⟨b + 2 * x.f0.length + 1, b + 2 * x.f0.length + 2, b + 2 * x.f0.length + 3, b + 2 * x.f0.length + 4⟩⟩
def lnOb (x : S41) : Int := 2 * x.f0.length + 5
theorem markObjectS_ev (l : List S41) (a : Int) (hm : l.length ≤ maxLen) (hx : ∀ x ∈ l, x.f0.length ≤ maxLen) (h0 : 0 ≤ a) (h1 : a + lnAll lnOb l ≤ 9223372036854775806) : Ev (fun k => laws_markObjectS.f k l a) (a + lnAll lnOb l, mkAll mkOb lnOb a l) := by
  simp only [laws_markObjectS.f]
  refine ev_mark mkOb lnOb l a (fun x _ => by unfold lnOb; omega) (fun s b hs => ?_) (fun done x rest b hl hxm hab hbl r ih => ?_)
  · simp only [laws_markObjectS.l0, hs, end_lt, if_false]; exact Ev.now _
  · rw [show lnOb x = 2 * (x.f0.length : Int) + 5 from rfl] at hbl
    simp only [laws_markObjectS.l0, mid_lt2, mid_nn, if_true, Int.toNat_natCast, mid_get, mid_w2 (show done.length + 1 ≤ maxLen by omega)]
    refine Ev.bind (markPointS_ev x.f0 b (hx x hxm) (by omega) (by omega)) ?_
    have w1 : wrap64 (b + 2 * (x.f0.length : Int) + 1) = b + 2 * x.f0.length + 1 := wrap_id (by omega) (by omega)
    have w2 : wrap64 (b + 2 * (x.f0.length : Int) + 1 + 1) = b + 2 * x.f0.length + 2 := by rw [wrap_id (by omega) (by omega)]; omega
    have w3 : wrap64 (b + 2 * (x.f0.length : Int) + 2 + 1) = b + 2 * x.f0.length + 3 := by rw [wrap_id (by omega) (by omega)]; omega
    have w4 : wrap64 (b + 2 * (x.f0.length : Int) + 3 + 1) = b + 2 * x.f0.length + 4 := by rw [wrap_id (by omega) (by omega)]; omega
    have w5 : wrap64 (b + 2 * (x.f0.length : Int) + 4 + 1) = b + lnOb x := by rw [wrap_id (by omega) (by omega)]; unfold lnOb; omega
    simp only [set_mid, w1, w2, w3, w4, w5]
    exact ih
theorem heldObjectS_ev (l : List S41) (a : Int) (hm : l.length ≤ maxLen) (h0 : 0 ≤ a) (h1 : a + lnAll lnOb l ≤ 9223372036854775806) : Ev (fun k => laws_heldObjectS.f k (mkAll mkOb lnOb a l) a) (a + lnAll lnOb l) := by
  simp only [laws_heldObjectS.f]
  refine ev_held mkOb lnOb l (F := fun k b i => laws_heldObjectS.l0 k (mkAll mkOb lnOb a l) b i) a (fun x _ => by unfold lnOb; omega) (fun b => ?_) (fun pre x rest b he hxm hab hbl r ih => ?_)
  · simp only [laws_heldObjectS.l0, end_lt, if_false]; exact Ev.now _
  · have hn := congrArg List.length he
    rw [mkAll_length, List.length_append, List.length_cons] at hn
    rw [show lnOb x = 2 * (x.f0.length : Int) + 5 from rfl] at hbl
    rw [he] at ih ⊢
    simp only [laws_heldObjectS.l0, mid_lt2, mid_nn, if_true, rd_T41, Int.toNat_natCast, mid_get, mid_w2 (show pre.length + 1 ≤ maxLen by omega), mkOb]
    refine Ev.bind (heldPointS_ev x.f0.length b (by omega) (by omega)) ?_
    have w1 : wrap64 (b + 2 * (x.f0.length : Int) + 1) = b + 2 * x.f0.length + 1 := wrap_id (by omega) (by omega)
    have w2 : wrap64 (b + 2 * (x.f0.length : Int) + 1 + 1) = b + 2 * x.f0.length + 2 := by rw [wrap_id (by omega) (by omega)]; omega
    have w3 : wrap64 (b + 2 * (x.f0.length : Int) + 2 + 1) = b + 2 * x.f0.length + 3 := by rw [wrap_id (by omega) (by omega)]; omega
    have w4 : wrap64 (b + 2 * (x.f0.length : Int) + 3 + 1) = b + 2 * x.f0.length + 4 := by rw [wrap_id (by omega) (by omega)]; omega
    have w5 : wrap64 (b + 2 * (x.f0.length : Int) + 4 + 1) = b + lnOb x := by rw [wrap_id (by omega) (by omega)]; unfold lnOb; omega
    simp only [if_neg (show ¬ b + 2 * (x.f0.length : Int) < 0 by omega), if_true, w1, w2, w3, w4, w5]
    exact ih
end Go.Proofs.Ytimpejidlnjhlaa.Pure
namespace Go.Proofs.Ytimpejidlnjhlaa.Pure
open Go.RowKit Go.Proofs.Ytimpejidlnjhlaa.QFnExactObjectsOfBand Go.Proofs.YtimpejidlnjhlaaW.PrintWords Go.Proofs.YtimpejidlnjhlaaW.PrintLast Go.Proofs.Ytimpejidlnjhlaa.Plain

def objsOk (l : List S41) : Bool := l.all fun o => objOk o.f0 o.f1 o.f2.f0 o.f2.f1 o.f2.f2 o.f2.f3
def touchO (h i : Int) (o : S41) : Bool := touches o.f0 o.f1 o.f2.f0 o.f2.f1 o.f2.f2 o.f2.f3 h i
def objsB (l : List S41) (h i : Int) : List S41 := l.filter (touchO h i)
theorem touches_ok {l : List S166} {g a b c d h i : Int} (t : touches l g a b c d h i = true) : objOk l g a b c d = true := by
  cases o : objOk l g a b c d
  · have e : objBox l g a b c d = (0, 0, 0, 0) := by unfold objBox; rw [o]; rfl
    unfold touches at t
    rw [e] at t
    have z : cntD (0, 0, 0, 0) = 0 := by unfold cntD wrap64; split <;> simp
    simp [z] at t
  · rfl
theorem iPoint_eq2 (l : List S166) (h : (l.length : Int) ≤ 1048576) : impl_Point.f l = some l := by
  unfold impl_Point.f; first | simp; omega | (simp <;> omega)
theorem copyObject_eq2 (l : List S166) (g a b c d : Int) (h : (l.length : Int) ≤ 1048576) : impl_copyObject.f l g a b c d = some (l, g, a, b, c, d) := by
  unfold impl_copyObject.f; rw [iPoint_eq2 l h]; rfl
theorem iObjectsOfBand_ev (l : List S41) (h i : Int) (hl : (l.length : Int) ≤ 1048576) (hx : ∀ x ∈ l, (x.f0.length : Int) ≤ 1048576) : Ev (fun k => impl_ObjectsOfBand.f k l h i) (objsB l h i) := by
  have hm : l.length ≤ maxLen := by rw [maxLen_eq]; omega
  simp only [impl_ObjectsOfBand.f]
  refine ev_loop l (F := fun k s j => impl_ObjectsOfBand.l0 k h i s l l.length j) (fun pre _ s => s.length ≤ pre.length) (fun _ r s => s ++ objsB r h i) ?_ ?_ [] (by simp)
  · intro s _; simp only [impl_ObjectsOfBand.l0, end_lt, if_false]; exact Ev.val (by simp [objsB])
  · rintro pre x rest s e hs ih
    have hxx := hx x (by rw [e]; simp)
    have hxm : x.f0.length ≤ maxLen := by rw [maxLen_eq]; omega
    have hs8 : s.length < 2199023255552 := by rw [e] at hl; simp at hl; omega
    subst e
    simp only [impl_ObjectsOfBand.l0, mid_lt, mid_nn, mid_wrap hm, if_true, rd_T41, Int.toNat_natCast, mid_get, copyObject_eq2 x.f0 _ _ _ _ _ hxx, Option.bind_some, if_pos hs8]
    refine Ev.bind (iObjectOk_ev x.f0 _ _ _ _ _ hxm) (Ev.ite (fun o => ?_) (fun o => ?_))
    · refine Ev.bind (iTouchesBand_ev x.f0 _ _ _ _ _ h i hxm) (Ev.ite (fun t => ?_) (fun t => ?_))
      · have h2 := ih (s ++ [x]) (by simp; omega)
        have e2 : objsB (x :: rest) h i = x :: objsB rest h i := by unfold objsB; rw [List.filter_cons_of_pos (show touchO h i x = true from t)]
        rw [e2]; simpa using h2
      · have h2 := ih s (by simp; omega)
        have e2 : objsB (x :: rest) h i = objsB rest h i := by unfold objsB; rw [List.filter_cons_of_neg (show ¬ touchO h i x = true from t)]
        rw [e2]; exact h2
    · have h2 := ih s (by simp; omega)
      have e2 : objsB (x :: rest) h i = objsB rest h i := by unfold objsB; rw [List.filter_cons_of_neg (show ¬ touchO h i x = true from fun t => o (touches_ok t))]
      rw [e2]; exact h2
theorem l07Shape_eq2 (l : List S166) (g a b c d : Int) (h : (l.length : Int) ≤ 1048576) : spec_l07Shape.f l g a b c d = some (l, g, a, b, c, d) := by
  unfold spec_l07Shape.f; first | simp; omega | (simp <;> omega)
theorem sObjectsOfBand_ev (l : List S41) (h i : Int) (hl : (l.length : Int) ≤ 1048576) (hx : ∀ x ∈ l, (x.f0.length : Int) ≤ 1048576) : Ev (fun k => spec_ObjectsOfBand.f k l h i) (objsB l h i) := by
  have hm : l.length ≤ maxLen := by rw [maxLen_eq]; omega
  simp only [spec_ObjectsOfBand.f]
  refine ev_loop l (F := fun k s j => spec_ObjectsOfBand.l0 k l h i s j) (fun pre _ s => s.length ≤ pre.length) (fun _ r s => s ++ objsB r h i) ?_ ?_ [] (by simp)
  · intro s _; simp only [spec_ObjectsOfBand.l0, end_lt, if_false]; exact Ev.val (by simp [objsB])
  · rintro pre x rest s e hs ih
    have hxx := hx x (by rw [e]; simp)
    have hxm : x.f0.length ≤ maxLen := by rw [maxLen_eq]; omega
    have hs8 : s.length < 2199023255552 := by rw [e] at hl; simp at hl; omega
    subst e
    simp only [spec_ObjectsOfBand.l0, mid_lt, mid_nn, mid_wrap hm, if_true, rd_T41, Int.toNat_natCast, mid_get, l07Shape_eq2 x.f0 _ _ _ _ _ hxx, Option.bind_some, if_pos hs8]
    refine Ev.bind (sTouchesBand_ev x.f0 _ _ _ _ _ h i hxm) (Ev.ite (fun t => ?_) (fun t => ?_))
    · have h2 := ih (s ++ [x]) (by simp; omega)
      have e2 : objsB (x :: rest) h i = x :: objsB rest h i := by unfold objsB; rw [List.filter_cons_of_pos (show touchO h i x = true from t)]
      rw [e2]; simpa using h2
    · have h2 := ih s (by simp; omega)
      have e2 : objsB (x :: rest) h i = objsB rest h i := by unfold objsB; rw [List.filter_cons_of_neg (show ¬ touchO h i x = true from t)]
      rw [e2]; exact h2
end Go.Proofs.Ytimpejidlnjhlaa.Pure
namespace Go.Proofs.Ytimpejidlnjhlaa.Pure
open Go.RowKit Go.Proofs.Ytimpejidlnjhlaa.QFnExactObjectsOfBand Go.Proofs.YtimpejidlnjhlaaW.PrintWords Go.Proofs.YtimpejidlnjhlaaW.PrintLast Go.Proofs.Ytimpejidlnjhlaa.Plain

theorem FnExactObjectsOfBand (l : List S91) (hh i : Int) (h : (l.length ≤ maxLen ∧ ∀ y ∈ l, ((y.f0.length ≤ maxLen ∧ ∀ yy ∈ y.f0, (((Lit.int .i64 yy.f0).wf = true) ∧ ((Lit.int .i64 yy.f1).wf = true))) ∧ ((Lit.int .i64 y.f1).wf = true) ∧ (((Lit.int .i64 y.f2.f0).wf = true) ∧ ((Lit.int .i64 y.f2.f1).wf = true) ∧ ((Lit.int .i64 y.f2.f2).wf = true) ∧ ((Lit.int .i64 y.f2.f3).wf = true))))) (_ : (Lit.int .i64 hh).wf = true) (_ : (Lit.int .i64 i).wf = true) : ∃ k, laws_FnExactObjectsOfBand.f k l hh i = some true := by
  refine Ev.rounds (g := fun k => laws_FnExactObjectsOfBand.f k l hh i) ?_
  simp only [laws_FnExactObjectsOfBand.f]
  refine Ev.bind (szObjectS_ev l 1048576 h.1 (fun x hx => (h.2 x hx).1.1) (by omega) (by omega)) (Ev.ite (fun _ => Ev.now _) (fun c => ?_))
  rcases szOS_tells l 1048576 (by omega) (by omega) with hn | ⟨_, _, ho, hox⟩
  · omega
  have hl : ((l.map tObj).length : Int) ≤ 1048576 := by rw [List.length_map]; omega
  have hm : (l.map tObj).length ≤ maxLen := by rw [maxLen_eq, List.length_map]; omega
  have hT := toObjectS_ev l ho hox
  have hxm := map_tObj_len hox
  have hxi : ∀ x ∈ l.map tObj, (x.f0.length : Int) ≤ 1048576 := fun x hx => by obtain ⟨y, hy, rfl⟩ := List.mem_map.1 hx; have := hox y hy; simp only [tObj, List.length_map]; omega
  have hEO := eqObjectS_ev (l.map tObj) hm hxm
  have hTo : lnAll lnOb (l.map tObj) ≤ 4194304 * (l.map tObj).length := lnAll_le lnOb _ (fun x hx => by have := hxi x hx; unfold lnOb; omega)
  have hNo : 0 ≤ lnAll lnOb (l.map tObj) := lnAll_nn lnOb _ (fun x _ => by unfold lnOb; omega)
  have hMO := markObjectS_ev (l.map tObj) 1 hm hxm (by omega) (by omega)
  have hI := iObjectsOfBand_ev (l.map tObj) hh i hl hxi
  have hsub : ∀ x ∈ objsB (l.map tObj) hh i, x ∈ l.map tObj := fun x hx => (List.mem_filter.1 hx).1
  have hL : (objsB (l.map tObj) hh i).length ≤ (l.map tObj).length := List.length_filter_le _ _
  have hX : ∀ x ∈ objsB (l.map tObj) hh i, x.f0.length ≤ maxLen := fun x hx => hxm x (hsub x hx)
  have hTm : lnAll lnOb (objsB (l.map tObj) hh i) ≤ 4194304 * (objsB (l.map tObj) hh i).length := lnAll_le lnOb _ (fun x hx => by have := hxi x (hsub x hx); unfold lnOb; omega)
  have hNm : 0 ≤ lnAll lnOb (objsB (l.map tObj) hh i) := lnAll_nn lnOb _ (fun x _ => by unfold lnOb; omega)
  refine Ev.bind hT (Ev.bind (sObjectsOfBand_ev _ hh i hl hxi) (Ev.bind hT (Ev.bind hI ?_)))
  generalize objsB (l.map tObj) hh i = M at hI hL hX hTm hNm ⊢
  have hM : M.length ≤ maxLen := by omega
  have hE := eqObjectS_ev M hM hX
  have hH := heldObjectS_ev M 1 hM (by omega) (by omega)
  refine Ev.bind hE (Ev.ite (fun _ => ?_) (fun c => absurd rfl c))
  refine Ev.bind hT (Ev.bind hEO (Ev.ite (fun _ => ?_) (fun c => absurd rfl c)))
  refine Ev.bind hMO (Ev.ite (fun c => absurd c (by simp only; omega)) (fun _ => ?_))
  refine Ev.bind hE (Ev.ite (fun _ => ?_) (fun c => absurd rfl c))
  refine Ev.bind (markObjectS_ev M 1 hM hX (by omega) (by omega)) ?_
  refine Ev.bind hH (Ev.ite (fun c => absurd c (by omega)) (fun _ => Ev.ite (fun _ => ?_) (fun c => absurd rfl c)))
  refine Ev.bind hT (Ev.bind hI (Ev.bind hE (Ev.ite (fun _ => ?_) (fun c => absurd rfl c))))
  exact Ev.bind hH (Ev.ite (fun c => absurd c (by omega)) (fun _ => Ev.ite (fun _ => Ev.now _) (fun c => absurd rfl c)))
end Go.Proofs.Ytimpejidlnjhlaa.Pure
