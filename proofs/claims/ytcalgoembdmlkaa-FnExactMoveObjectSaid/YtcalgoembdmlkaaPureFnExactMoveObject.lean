/- The plain law of FnExactMoveObject: over numbers and lists, what the printed functions answer, and that the law answers true. -/
import Derived.Test.YtcalgoembdmlkaaQFnExactMoveObjectx6
import Derived.Test.YtcalgoembdmlkaaPlain
set_option linter.unusedSimpArgs false
set_option linter.unusedVariables false
namespace Go.Proofs.Ytcalgoembdmlkaa.Pure
open Go.RowKit Go.Proofs.Ytcalgoembdmlkaa.QFnExactMoveObject Go.Proofs.YtcalgoembdmlkaaW.PrintWords Go.Proofs.YtcalgoembdmlkaaW.PrintLast Go.Proofs.Ytcalgoembdmlkaa.Plain

theorem szPointS_eq (l : List S132) (a : Int) (h : l.length ≤ maxLen) (h0 : 0 ≤ a) (h1 : a ≤ 1048576) : laws_szPointS.f l a = some (szN l.length a) := by
  rw [maxLen_eq] at h
  unfold laws_szPointS.f szN
  rw [wrap_id (by omega) (by omega)]
  split <;> rfl
theorem szObject_eq (l : List S132) (b c d e f : Int) (a : Int) (h : l.length ≤ maxLen) (h0 : 0 ≤ a) (h1 : a ≤ 1048576) : laws_szObject.f l b c d e f a = some (szN l.length a) := by
  unfold laws_szObject.f
  rw [szPointS_eq l a h h0 h1]
  rcases szN_tells l.length a h0 with hn | ⟨h2, h3, h4⟩
  · rw [hn]; rfl
  · have c2 : ¬ szN l.length a < 0 := by omega
    simp [c2]

def tPoint (r : S132) : S130 := ⟨r.f0, r.f1⟩
theorem toPointS_ev (l : List S132) (h : (l.length : Int) ≤ 1048576) : Ev (fun k => laws_toPointS.f k l) (l.map tPoint) := by
  have hm : l.length ≤ maxLen := by rw [maxLen_eq]; omega
  simp only [laws_toPointS.f]
  refine Ev.ite (fun _ => Ev.ite (fun _ => ?_) (fun c => absurd (by omega) c)) (fun c => absurd (by omega) c)
  exact ev_fill l tPoint (F := fun k s i => laws_toPointS.l0 k l s i) (fun s => by
    simp only [laws_toPointS.l0, end_lt, if_false]
    exact Ev.now _) (fun pre x rest s r e hs h => by
    subst e
    simp only [laws_toPointS.l0, hs, mid_lt, mid_nn, mid_wrap hm, if_true, rd_T132, Int.toNat_natCast, mid_get, laws_toPoint.f, Option.bind_some]
    exact h) _ (by simp)
theorem eqPointS_ev (l : List S130) (hm : l.length ≤ maxLen) : Ev (fun k => laws_eqPointS.f k l l) true := by
  simp only [laws_eqPointS.f, if_true]
  refine ev_loop0 l (F := fun k i => laws_eqPointS.l0 k l l i) (fun _ _ => true) ?_ (fun pre x rest e h => ?_)
  · simp only [laws_eqPointS.l0, end_lt, if_false]; exact Ev.now _
  · subst e
    simp only [laws_eqPointS.l0, mid_lt, mid_nn, mid_wrap hm, if_true, laws_eqPoint.f, Option.bind_some]
    exact h
theorem eqObject_ev (l : List S130) (b c d e f : Int) (hm : l.length ≤ maxLen) : Ev (fun k => laws_eqObject.f k l b c d e f l b c d e f) true := by
  simp only [laws_eqObject.f, laws_eqBox.f, if_true, Option.bind_some]
  exact Ev.bind (eqPointS_ev l hm) (Ev.now _)

end Go.Proofs.Ytcalgoembdmlkaa.Pure
namespace Go.Proofs.Ytcalgoembdmlkaa.Pure
open Go.RowKit Go.Proofs.Ytcalgoembdmlkaa.QFnExactMoveObject Go.Proofs.YtcalgoembdmlkaaW.PrintWords Go.Proofs.YtcalgoembdmlkaaW.PrintLast Go.Proofs.Ytcalgoembdmlkaa.Plain

theorem within_eq (a b c : Int) : impl_within.f a b c = some (inB a b c) := by unfold impl_within.f inB; by_cases h : b ≤ a <;> simp [h]
theorem l01In_eq (a b c : Int) : spec_l01In.f a b c = some (inB a b c) := by unfold spec_l01In.f inB; by_cases h : b ≤ a <;> simp [h]
def coord (a : Int) : Bool := inB a (-200) 200
def boxOk (a b c d : Int) : Bool := coord a && (coord b && (coord c && (coord d && (decide (a ≤ c) && decide (b ≤ d)))))
theorem coordOk_eq (a : Int) : impl_coordOk.f a = some (coord a) := by unfold impl_coordOk.f; rw [within_eq]; rfl
theorem l02In_eq (a : Int) : spec_l02In.f a = some (coord a) := by unfold spec_l02In.f; rw [l01In_eq]; rfl
theorem iPointOk_eq (a b : Int) : impl_PointOk.f a b = some (coord a && coord b) := by unfold impl_PointOk.f; simp only [coordOk_eq, Option.bind_some, and_some]
theorem sPointOk_eq (a b : Int) : spec_PointOk.f a b = some (coord a && coord b) := by unfold spec_PointOk.f; simp only [l02In_eq, Option.bind_some, and_some]
theorem iBoxOk_eq (a b c d : Int) : impl_BoxOk.f a b c d = some (boxOk a b c d) := by unfold impl_BoxOk.f boxOk; simp only [coordOk_eq, Option.bind_some, and_some_p (a ≤ c), and_some]
theorem sBoxOk_eq (a b c d : Int) : spec_BoxOk.f a b c d = some (boxOk a b c d) := by unfold spec_BoxOk.f boxOk; simp only [l02In_eq, Option.bind_some, and_some_p (a ≤ c), and_some]
def ptsOk (l : List S130) : Bool := l.all fun p => coord p.f0 && coord p.f1
theorem pointsOk_ev (l : List S130) (hm : l.length ≤ maxLen) : Ev (fun k => impl_pointsOk.f k l) (ptsOk l) := by
  simp only [impl_pointsOk.f]
  refine ev_loop0 l (F := fun k i => impl_pointsOk.l0 k l l.length i) (fun _ r => ptsOk r) ?_ (fun pre x rest e h => ?_)
  · simp only [impl_pointsOk.l0, end_lt, if_false]; exact Ev.now _
  · subst e
    simp only [impl_pointsOk.l0, mid_lt, mid_nn, mid_wrap hm, if_true, rd_T130, Int.toNat_natCast, mid_get, iPointOk_eq, Option.bind_some]
    exact Ev.andB (fun _ => h)
theorem l07Points_ev (l : List S130) (hm : l.length ≤ maxLen) : Ev (fun k => spec_l07Points.f k l) (ptsOk l && decide ((l.length : Int) ≤ 8)) := by
  simp only [spec_l07Points.f]
  refine ev_loop0 l (F := fun k i => spec_l07Points.l0 k l i) (fun _ r => ptsOk r && decide ((l.length : Int) ≤ 8)) ?_ (fun pre x rest e h => ?_)
  · simp only [spec_l07Points.l0, end_lt, if_false]; exact Ev.now _
  · have : ptsOk (x :: rest) = ((coord x.f0 && coord x.f1) && ptsOk rest) := rfl
    rw [this, Bool.and_assoc]
    subst e
    simp only [spec_l07Points.l0, mid_lt, mid_nn, mid_wrap hm, if_true, rd_T130, Int.toNat_natCast, mid_get, sPointOk_eq, Option.bind_some]
    exact Ev.andB (fun _ => h)
def objOk (l : List S130) (g a b c d : Int) : Bool := decide (3 ≤ (l.length : Int)) && (decide ((l.length : Int) ≤ 8) && (ptsOk l && (inB g 0 255 && boxOk a b c d)))
theorem iObjectOk_ev (l : List S130) (g a b c d : Int) (hm : l.length ≤ maxLen) : Ev (fun k => impl_ObjectOk.f k l g a b c d) (objOk l g a b c d) := by
  simp only [impl_ObjectOk.f, within_eq, iBoxOk_eq, Option.bind_some, and_some]
  unfold objOk
  rw [← Bool.and_assoc]
  exact Ev.andB (fun _ => Ev.bind (pointsOk_ev l hm) (Ev.now _))
theorem l07Object_ev (l : List S130) (g a b c d : Int) (hm : l.length ≤ maxLen) : Ev (fun k => spec_l07Object.f k l g a b c d) (objOk l g a b c d) := by
  simp only [spec_l07Object.f, l01In_eq, sBoxOk_eq, Option.bind_some, and_some]
  unfold objOk
  refine Ev.andP (fun _ => ?_)
  have : (decide ((l.length : Int) ≤ 8) && (ptsOk l && (inB g 0 255 && boxOk a b c d))) = ((ptsOk l && decide ((l.length : Int) ≤ 8)) && (inB g 0 255 && boxOk a b c d)) := by
    cases decide ((l.length : Int) ≤ 8) <;> cases ptsOk l <;> rfl
  rw [this]
  exact Ev.bind (l07Points_ev l hm) (Ev.now _)
theorem sObjectOk_ev (l : List S130) (g a b c d : Int) (hm : l.length ≤ maxLen) : Ev (fun k => spec_ObjectOk.f k l g a b c d) (objOk l g a b c d) := by
  simp only [spec_ObjectOk.f]
  exact Ev.bind (l07Object_ev l g a b c d hm) (Ev.now _)

def rowOk (l : List Int) : Bool := decide ((l.length : Int) = 32) && l.all fun v => inB v 0 255
def rowsOk (l : List (List Int)) : Bool := decide ((l.length : Int) ≤ 32) && l.all rowOk
end Go.Proofs.Ytcalgoembdmlkaa.Pure
namespace Go.Proofs.Ytcalgoembdmlkaa.Pure
open Go.RowKit Go.Proofs.Ytcalgoembdmlkaa.QFnExactMoveObject Go.Proofs.YtcalgoembdmlkaaW.PrintWords Go.Proofs.YtcalgoembdmlkaaW.PrintLast Go.Proofs.Ytcalgoembdmlkaa.Plain

theorem toObject_ev (l : List S132) (g a b c d : Int) (hl : (l.length : Int) ≤ 1048576) : Ev (fun k => laws_toObject.f k l g a b c d) (l.map tPoint, g, a, b, c, d) := by
  simp only [laws_toObject.f, laws_toBox.f, Option.bind_some]
  exact Ev.bind (toPointS_ev l hl) (Ev.now _)
end Go.Proofs.Ytcalgoembdmlkaa.Pure
namespace Go.Proofs.Ytcalgoembdmlkaa.Pure
open Go.RowKit Go.Proofs.Ytcalgoembdmlkaa.QFnExactMoveObject Go.Proofs.YtcalgoembdmlkaaW.PrintWords Go.Proofs.YtcalgoembdmlkaaW.PrintLast Go.Proofs.Ytcalgoembdmlkaa.Plain

def mkPoint (a : Int) : S130 := ⟨a, a + 1⟩
theorem markPointS_ev (l : List S130) (a : Int) (hm : l.length ≤ maxLen) (h0 : 0 ≤ a) (h1 : a + 2 * l.length ≤ 9223372036854775806) : Ev (fun k => laws_markPointS.f k l a) (a + 2 * l.length, iota 2 mkPoint a l.length) := by
  simp only [laws_markPointS.f]
  refine ev_loop l (F := fun k (s : List S130 × Int) i => laws_markPointS.l0 k s.1 s.2 i) (fun pre rest s => s.1 = iota 2 mkPoint a pre.length ++ rest ∧ s.2 = a + 2 * pre.length) (fun _ _ _ => (a + 2 * l.length, iota 2 mkPoint a l.length)) ?_ ?_ (l, a) ⟨rfl, by simp⟩
  · rintro ⟨s, b⟩ ⟨rfl, rfl⟩
    have hl : ((iota 2 mkPoint a l.length ++ ([] : List S130)).length : Int) = l.length := by simp [iota_length]
    simp only [laws_markPointS.l0, hl, end_lt, if_false]
    exact Ev.val (by simp)
  · rintro pre x rest ⟨s, b⟩ e ⟨rfl, rfl⟩ ih
    subst e
    have hl : ((iota 2 mkPoint a pre.length ++ x :: rest).length : Int) = ((pre ++ x :: rest).length : Int) := by simp [iota_length]
    have hlen := mid_len (pre := pre) (rest := rest) (x := x)
    have hs := iota_set 2 mkPoint a pre rest x
    have hw1 : wrap64 (a + 2 * (pre.length : Int) + 1) = a + 2 * (pre.length : Int) + 1 := wrap_id (by omega) (by omega)
    have hw : wrap64 (a + 2 * (pre.length : Int) + 1 + 1) = a + 2 * ((pre ++ [x]).length : Int) := by rw [wrap_id (by omega) (by omega)]; simp; omega
    have hg : ∀ y : S130, ((iota 2 mkPoint a pre.length ++ x :: rest).set pre.length y).getD pre.length z130 = y := by
      intro y
      rw [List.getD_eq_getElem?_getD, List.getElem?_set_self (by have := hl; omega)]
      rfl
    simp only [laws_markPointS.l0, hl, mid_lt, mid_nn, mid_wrap hm, if_true, Int.toNat_natCast, Option.bind_some, hw1, hw, rd_T130, hg, List.set_set]
    exact ih (_, _) ⟨hs, rfl⟩
theorem heldPointS_ev (n : Nat) (a : Int) (h0 : 0 ≤ a) (h1 : a + 2 * n ≤ 9223372036854775806) : Ev (fun k => laws_heldPointS.f k (iota 2 mkPoint a n) a) (a + 2 * n) := by
  have hm : (iota 2 mkPoint a n).length ≤ maxLen := by rw [iota_length, maxLen_eq]; omega
  simp only [laws_heldPointS.f]
  refine ev_loop (iota 2 mkPoint a n) (F := fun k s i => laws_heldPointS.l0 k (iota 2 mkPoint a n) s i) (fun pre rest s => s = a + 2 * pre.length) (fun _ _ _ => a + 2 * n) ?_ ?_ a (by simp)
  · rintro s rfl
    simp only [laws_heldPointS.l0, end_lt, if_false]
    exact Ev.val (by rw [iota_length])
  · rintro pre x rest s e rfl ih
    have hx := iota_mid 2 mkPoint pre rest x a n e
    have hn := congrArg List.length e
    rw [iota_length] at hn
    have hlen := mid_len (pre := pre) (rest := rest) (x := x)
    rw [e] at hm ⊢
    rw [e] at ih
    have hw1 : wrap64 (a + 2 * (pre.length : Int) + 1) = a + 2 * (pre.length : Int) + 1 := wrap_id (by omega) (by omega)
    have hw : wrap64 (a + 2 * (pre.length : Int) + 1 + 1) = a + 2 * ((pre ++ [x]).length : Int) := by rw [wrap_id (by omega) (by omega)]; simp; omega
    have e0 : x.f0 = a + 2 * (pre.length : Int) := by rw [hx]; rfl
    have e1 : x.f1 = a + 2 * (pre.length : Int) + 1 := by rw [hx]; rfl
    simp only [laws_heldPointS.l0, mid_lt, mid_nn, mid_wrap hm, if_true, rd_T130, Int.toNat_natCast, mid_get, e0, e1, hw1, hw]
    exact ih _ rfl
theorem markObject_ev (l : List S130) (p q r s t a : Int) (hm : l.length ≤ maxLen) (h0 : 0 ≤ a) (h1 : a + 2 * l.length ≤ 9223372036854775806) : Ev (fun k => laws_markObject.f k l p q r s t a) (a + 2 * l.length, iota 2 mkPoint a l.length) := by
  simp only [laws_markObject.f]
  exact Ev.bind (markPointS_ev l a hm h0 h1) (Ev.now _)
theorem heldObject_ev (n : Nat) (p q r s t a : Int) (h0 : 0 ≤ a) (h1 : a + 2 * n ≤ 9223372036854775806) : Ev (fun k => laws_heldObject.f k (iota 2 mkPoint a n) p q r s t a) (a + 2 * n) := by
  simp only [laws_heldObject.f]
  exact Ev.bind (heldPointS_ev n a h0 h1) (Ev.ite (fun c => absurd c (by omega)) (fun _ => Ev.now _))
end Go.Proofs.Ytcalgoembdmlkaa.Pure
namespace Go.Proofs.Ytcalgoembdmlkaa.Pure
open Go.RowKit Go.Proofs.Ytcalgoembdmlkaa.QFnExactMoveObject Go.Proofs.YtcalgoembdmlkaaW.PrintWords Go.Proofs.YtcalgoembdmlkaaW.PrintLast Go.Proofs.Ytcalgoembdmlkaa.Plain

def mvP (dx dy : Int) (p : S130) : S130 := ⟨wrap64 (p.f0 + dx), wrap64 (p.f1 + dy)⟩
abbrev MvT := List S130 × Int × Int × Int × Int × Int × Bool
def mvOk (l : List S130) (g a b c d dx dy : Int) : Bool := objOk (l.map (mvP dx dy)) g (wrap64 (a + dx)) (wrap64 (b + dy)) (wrap64 (c + dx)) (wrap64 (d + dy))
def mvObj (l : List S130) (g a b c d dx dy : Int) : MvT :=
  if objOk l g a b c d = true ∧ coord dx = true ∧ coord dy = true ∧ mvOk l g a b c d dx dy = true then (l.map (mvP dx dy), g, wrap64 (a + dx), wrap64 (b + dy), wrap64 (c + dx), wrap64 (d + dy), true) else (l, g, a, b, c, d, false)
theorem objOk_len {l : List S130} {g a b c d : Int} (h : objOk l g a b c d = true) : l.length ≤ 8 ∧ 3 ≤ l.length := by
  unfold objOk at h
  simp only [Bool.and_eq_true, decide_eq_true_eq] at h
  omega
theorem mvObj_len (l : List S130) (g a b c d dx dy : Int) : (mvObj l g a b c d dx dy).1.length = l.length := by
  unfold mvObj; split <;> simp
theorem iPoint_eq (l : List S130) (h : (l.length : Int) ≤ 1048576) : impl_Point.f l = some l := by
  have c : l.length < 8796093022208 := by omega
  simp [impl_Point.f, c]
theorem copyObject_eq (l : List S130) (g a b c d : Int) (h : (l.length : Int) ≤ 1048576) : impl_copyObject.f l g a b c d = some (l, g, a, b, c, d) := by
  simp [impl_copyObject.f, iPoint_eq l h]
theorem iMove_loop (l : List S130) (g a b c d dx dy : Int) (hl : (l.length : Int) ≤ 1048576) :
    Ev (fun k => impl_MoveObject.l0 k dx dy l.length 0 l g a b c d l g a b c d) (if mvOk l g a b c d dx dy = true then (l.map (mvP dx dy), g, wrap64 (a + dx), wrap64 (b + dy), wrap64 (c + dx), wrap64 (d + dy), true) else (l, g, a, b, c, d, false)) := by
  have hm : l.length ≤ maxLen := by rw [maxLen_eq]; omega
  refine ev_loop l (F := fun k s i => impl_MoveObject.l0 k dx dy l.length i l g a b c d s g a b c d) (fun pre rest s => s = pre.map (mvP dx dy) ++ rest) (fun _ _ _ => _) ?_ ?_ l rfl
  · rintro s rfl
    rw [List.append_nil]
    simp only [impl_MoveObject.l0, end_lt, if_false]
    have hm2 : (l.map (mvP dx dy)).length ≤ maxLen := by rw [List.length_map]; exact hm
    refine Ev.bind (iObjectOk_ev _ _ _ _ _ _ hm2) (Ev.ite (fun cc => ?_) (fun cc => ?_))
    · rw [if_pos (show mvOk l g a b c d dx dy = true from cc)]; exact Ev.now _
    · rw [if_neg (show ¬ mvOk l g a b c d dx dy = true from cc)]
      simp only [copyObject_eq l g a b c d hl, Option.bind_some]
      exact Ev.now _
  · rintro pre x rest s e rfl ih
    have hlen : ((pre.map (mvP dx dy) ++ x :: rest).length : Int) = ((pre ++ x :: rest).length : Int) := by simp
    have hlt : (pre.length : Int) < ((pre ++ x :: rest).length : Int) := by rw [mid_len]; omega
    have hg0 : (pre.map (mvP dx dy) ++ x :: rest).getD pre.length z130 = x := mid_get' (by simp) _
    have hset : ∀ y : S130, (pre.map (mvP dx dy) ++ x :: rest).set pre.length y = pre.map (mvP dx dy) ++ y :: rest := by
      intro y
      rw [List.set_append_right _ _ (by simp)]; simp
    have hg : ∀ y : S130, (pre.map (mvP dx dy) ++ y :: rest).getD pre.length z130 = y := fun y => mid_get' (by simp) _
    have hset2 : ∀ y y' : S130, (pre.map (mvP dx dy) ++ y :: rest).set pre.length y' = pre.map (mvP dx dy) ++ y' :: rest := by
      intro y y'
      rw [List.set_append_right _ _ (by simp)]; simp
    have hw := mid_wrap (pre := pre) (rest := rest) (x := x) (by rw [← e]; exact hm)
    have hi := ih (pre.map (mvP dx dy) ++ mvP dx dy x :: rest) (by simp)
    have hle : (l.length : Int) = ((pre ++ x :: rest).length : Int) := by rw [e]
    rw [hle] at hi ⊢
    simp only [impl_MoveObject.l0, hlen, if_pos hlt, mid_nn, if_true, hw, rd_T130, Int.toNat_natCast, hg0, hset, Option.bind_some, hg, hset2]
    exact hi
theorem iMoveObject_ev (l : List S130) (g a b c d dx dy : Int) (hl : (l.length : Int) ≤ 1048576) : Ev (fun k => impl_MoveObject.f k l g a b c d dx dy) (mvObj l g a b c d dx dy) := by
  have hm : l.length ≤ maxLen := by rw [maxLen_eq]; omega
  have no : Ev (fun k => impl_MoveObject.j0 k dx dy true l g a b c d) (l, g, a, b, c, d, false) := Ev.up (by
    simp only [impl_MoveObject.j0, if_true, copyObject_eq l g a b c d hl, Option.bind_some]; exact Ev.now _)
  simp only [impl_MoveObject.f, coordOk_eq, Option.bind_some]
  unfold mvObj
  refine Ev.bind (iObjectOk_ev l g a b c d hm) ?_
  by_cases h1 : objOk l g a b c d = true
  · simp only [if_pos h1]
    by_cases h2 : coord dx = true
    · simp only [if_pos h2]
      by_cases h3 : coord dy = true
      · simp only [h3, Bool.not_true]
        refine Ev.up ?_
        simp only [impl_MoveObject.j0, Bool.false_eq_true, if_false, copyObject_eq l g a b c d hl, Option.bind_some]
        have := iMove_loop l g a b c d dx dy hl
        simpa only [h1, h2, true_and] using this
      · have h3' : coord dy = false := by simpa using h3
        rw [if_neg (fun q => h3 q.2.2.1)]
        simp only [h3', Bool.not_false]; exact no
    · rw [if_neg (fun q => h2 q.2.1)]
      simp only [if_neg h2]; exact no
  · rw [if_neg (fun q => h1 q.1)]
    simp only [if_neg h1]; exact no
theorem l07Shape_eq (l : List S130) (g a b c d : Int) (h : (l.length : Int) ≤ 1048576) : spec_l07Shape.f l g a b c d = some (l, g, a, b, c, d) := by
  have cc : l.length < 8796093022208 := by omega
  simp [spec_l07Shape.f, cc]
theorem allR_of0 {l : List S130} (h : ptsOk l = true) : ∀ x ∈ l, (coord x.f0 && coord x.f1) = true := fun x hx => List.all_eq_true.1 h x hx
def shP (dx dy : Int) (l : List S130) : List S130 := if ptsOk (l.map (mvP dx dy)) = true then l.map (mvP dx dy) else []
theorem ShiftPath_ev (l : List S130) (dx dy : Int) (hl : (l.length : Int) ≤ 1048576) (hx : coord dx = true) (hy : coord dy = true) (hp : ptsOk l = true) : Ev (fun k => spec_ShiftPath.f k l dx dy) (shP dx dy l) := by
  have hm : l.length ≤ maxLen := by rw [maxLen_eq]; omega
  simp only [spec_ShiftPath.f, l02In_eq, Option.bind_some, hx, hy, if_true, Bool.not_true]
  refine Ev.up ?_
  simp only [spec_ShiftPath.j0, Bool.false_eq_true, if_false]
  unfold shP
  have hR := allR_of0 hp
  refine ev_loop l (F := fun k s i => spec_ShiftPath.l0 k l dx dy s i) (fun pre rest s => s = pre.map (mvP dx dy)) (fun pre rest s => if ptsOk (rest.map (mvP dx dy)) = true then s ++ rest.map (mvP dx dy) else []) ?_ ?_ [] rfl
  · intro s _
    simp only [spec_ShiftPath.l0, end_lt, if_false]
    exact Ev.val (by simp [ptsOk])
  · rintro pre x rest s e rfl ih
    have hpx : (coord x.f0 && coord x.f1) = true := hR x (by rw [e]; simp)
    have c4 : (pre.map (mvP dx dy)).length < 8796093022208 := by
      have : pre.length < l.length := by rw [e]; simp
      rw [List.length_map]; omega
    have hpt : ptsOk (List.map (mvP dx dy) (x :: rest)) = ((coord (wrap64 (x.f0 + dx)) && coord (wrap64 (x.f1 + dy))) && ptsOk (rest.map (mvP dx dy))) := rfl
    have hi := ih (pre.map (mvP dx dy) ++ [mvP dx dy x]) (by simp)
    clear hR
    subst e
    simp only [spec_ShiftPath.l0, mid_lt, mid_nn, mid_wrap hm, if_true, rd_T130, Int.toNat_natCast, mid_get, sPointOk_eq, Option.bind_some, hpx, if_pos c4, hpt]
    by_cases cx : (coord (wrap64 (x.f0 + dx)) && coord (wrap64 (x.f1 + dy))) = true
    · simp only [cx, if_true, Bool.true_and]
      simp only [List.append_assoc, List.map_cons, List.singleton_append] at hi ⊢
      exact hi
    · have cx' : (coord (wrap64 (x.f0 + dx)) && coord (wrap64 (x.f1 + dy))) = false := by simpa using cx
      simp only [cx', Bool.false_eq_true, if_false, Bool.false_and]
      exact Ev.now _
theorem objOk_shP (l : List S130) (g a b c d dx dy : Int) : objOk (shP dx dy l) g a b c d = objOk (l.map (mvP dx dy)) g a b c d := by
  unfold shP
  by_cases h : ptsOk (l.map (mvP dx dy)) = true
  · rw [if_pos h]
  · rw [if_neg h]
    have h' : ptsOk (l.map (mvP dx dy)) = false := by simpa using h
    unfold objOk
    rw [h']
    simp
theorem sMoveObject_ev (l : List S130) (g a b c d dx dy : Int) (hl : (l.length : Int) ≤ 1048576) : Ev (fun k => spec_MoveObject.f k l g a b c d dx dy) (mvObj l g a b c d dx dy) := by
  have hm : l.length ≤ maxLen := by rw [maxLen_eq]; omega
  have no : Ev (fun k => spec_MoveObject.j0 k dx dy true l g a b c d) (l, g, a, b, c, d, false) := Ev.up (by
    simp only [spec_MoveObject.j0, if_true, l07Shape_eq l g a b c d hl, Option.bind_some]; exact Ev.now _)
  simp only [spec_MoveObject.f, l02In_eq, Option.bind_some]
  unfold mvObj
  refine Ev.bind (sObjectOk_ev l g a b c d hm) ?_
  by_cases h1 : objOk l g a b c d = true
  · simp only [if_pos h1]
    by_cases h2 : coord dx = true
    · simp only [if_pos h2]
      by_cases h3 : coord dy = true
      · simp only [h3, Bool.not_true]
        refine Ev.up ?_
        have hp : ptsOk l = true := by unfold objOk at h1; simp only [Bool.and_eq_true] at h1; exact h1.2.2.1
        have hsl : (shP dx dy l).length ≤ maxLen := by unfold shP; split <;> simp [hm]
        simp only [spec_MoveObject.j0, Bool.false_eq_true, if_false]
        refine Ev.bind (ShiftPath_ev l dx dy hl h2 h3 hp) (Ev.bind (sObjectOk_ev _ _ _ _ _ _ hsl) ?_)
        rw [objOk_shP]
        have hmv : objOk (l.map (mvP dx dy)) g (wrap64 (a + dx)) (wrap64 (b + dy)) (wrap64 (c + dx)) (wrap64 (d + dy)) = mvOk l g a b c d dx dy := rfl
        rw [hmv]
        by_cases h4 : mvOk l g a b c d dx dy = true
        · have hs : shP dx dy l = l.map (mvP dx dy) := by
            unfold shP; rw [if_pos]
            unfold mvOk objOk at h4; simp only [Bool.and_eq_true] at h4; exact h4.2.2.1
          simp only [if_pos h4]
          rw [if_pos ⟨h1, h2, trivial, h4⟩, hs]
          exact Ev.now _
        · simp only [if_neg h4, l07Shape_eq l g a b c d hl, Option.bind_some]
          rw [if_neg (fun q => h4 q.2.2.2)]
          exact Ev.now _
      · have h3' : coord dy = false := by simpa using h3
        rw [if_neg (fun q => h3 q.2.2.1)]
        simp only [h3', Bool.not_false]; exact no
    · rw [if_neg (fun q => h2 q.2.1)]
      simp only [if_neg h2]; exact no
  · rw [if_neg (fun q => h1 q.1)]
    simp only [if_neg h1]; exact no
end Go.Proofs.Ytcalgoembdmlkaa.Pure
namespace Go.Proofs.Ytcalgoembdmlkaa.Pure
open Go.RowKit Go.Proofs.Ytcalgoembdmlkaa.QFnExactMoveObject Go.Proofs.YtcalgoembdmlkaaW.PrintWords Go.Proofs.YtcalgoembdmlkaaW.PrintLast Go.Proofs.Ytcalgoembdmlkaa.Plain

theorem FnExactMoveObject (l : List S132) (g a b c d dx dy : Int) (h : ((l.length ≤ maxLen ∧ ∀ y ∈ l, (((Lit.int .i64 y.f0).wf = true) ∧ ((Lit.int .i64 y.f1).wf = true))) ∧ ((Lit.int .i64 g).wf = true) ∧ (((Lit.int .i64 a).wf = true) ∧ ((Lit.int .i64 b).wf = true) ∧ ((Lit.int .i64 c).wf = true) ∧ ((Lit.int .i64 d).wf = true)))) (_ : (Lit.int .i64 dx).wf = true) (_ : (Lit.int .i64 dy).wf = true) :
    ∃ k, laws_FnExactMoveObject.f k l g a b c d dx dy = some true := by
  refine Ev.rounds (g := fun k => laws_FnExactMoveObject.f k l g a b c d dx dy) ?_
  simp only [laws_FnExactMoveObject.f, szObject_eq l g a b c d 1048576 h.1.1 (by omega) (by omega), Option.bind_some]
  refine Ev.ite (fun _ => Ev.now _) (fun cn => ?_)
  have hl : (l.length : Int) ≤ 1048576 := by rcases szN_tells l.length 1048576 (by omega) with hn | h2 <;> omega
  have hl2 : ((l.map tPoint).length : Int) ≤ 1048576 := by rw [List.length_map]; omega
  have hm : (l.map tPoint).length ≤ maxLen := by rw [maxLen_eq, List.length_map]; omega
  have hto := toObject_ev l g a b c d hl
  have hML := mvObj_len (l.map tPoint) g a b c d dx dy
  have hMm : (mvObj (l.map tPoint) g a b c d dx dy).1.length ≤ maxLen := by rw [hML]; exact hm
  have hMl : ((mvObj (l.map tPoint) g a b c d dx dy).1.length : Int) ≤ 1048576 := by rw [hML]; exact hl2
  have hI := iMoveObject_ev (l.map tPoint) g a b c d dx dy hl2
  refine Ev.bind hto (Ev.bind (sMoveObject_ev _ _ _ _ _ _ dx dy hl2) (Ev.bind hto (Ev.bind hI ?_)))
  generalize mvObj (l.map tPoint) g a b c d dx dy = M at hML hMm hMl hI ⊢
  refine Ev.bind (eqObject_ev _ _ _ _ _ _ hMm) (Ev.ite (fun _ => ?_) (fun c => absurd rfl c))
  refine Ev.up ?_
  simp only [laws_FnExactMoveObject.j0, bne_self_eq_false, Bool.false_eq_true, if_false]
  refine Ev.bind hto (Ev.bind (eqObject_ev _ _ _ _ _ _ hm) (Ev.ite (fun _ => ?_) (fun c => absurd rfl c)))
  refine Ev.bind (markObject_ev _ _ _ _ _ _ 1 hm (by omega) (by omega)) (Ev.ite (fun c => absurd c (by simp only; omega)) (fun _ => ?_))
  refine Ev.bind (eqObject_ev _ _ _ _ _ _ hMm) (Ev.ite (fun _ => ?_) (fun c => absurd rfl c))
  refine Ev.up ?_
  simp only [laws_FnExactMoveObject.j1, bne_self_eq_false, Bool.false_eq_true, if_false]
  refine Ev.bind (markObject_ev M.1 _ _ _ _ _ 1 hMm (by omega) (by omega)) ?_
  refine Ev.bind (heldObject_ev M.1.length _ _ _ _ _ 1 (by omega) (by omega)) (Ev.ite (fun c => absurd c (by omega)) (fun _ => Ev.ite (fun _ => ?_) (fun c => absurd rfl c)))
  refine Ev.bind hto (Ev.bind hI (Ev.bind (eqObject_ev _ _ _ _ _ _ hMm) (Ev.ite (fun _ => ?_) (fun c => absurd rfl c))))
  refine Ev.up ?_
  simp only [laws_FnExactMoveObject.j2, bne_self_eq_false, Bool.false_eq_true, if_false]
  exact Ev.bind (heldObject_ev M.1.length _ _ _ _ _ 1 (by omega) (by omega)) (Ev.ite (fun c => absurd c (by omega)) (fun _ => Ev.ite (fun _ => Ev.now _) (fun c => absurd rfl c)))
end Go.Proofs.Ytcalgoembdmlkaa.Pure
