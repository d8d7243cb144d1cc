-- Made out of the translation by a program of this session (a changed copy of the print). Not trusted: Lean checks it.
import Derived.Test.YtigodjcnkgebaaaQFnExactRenderBandsx0
import Derived.Test.YtigodjcnkgebaaaQFnExactRenderBandsx10
import Derived.Test.YtigodjcnkgebaaaQFnExactRenderBandsx11
import Derived.Test.YtigodjcnkgebaaaQFnExactRenderBandsx12
import Derived.Test.YtigodjcnkgebaaaQFnExactRenderBandsx13
namespace Go.Proofs.Ytigodjcnkgebaaa.QFnExactRenderBands
open Go.RowKit Go.Proofs.YtigodjcnkgebaaaW.PrintWords Go.Proofs.YtigodjcnkgebaaaW.PrintLast Go.Proofs.YtigodjcnkgebaaaW.PrintMore
attribute [local go_sem] max2_int min2_int max_two min_two max_three min_three max_four min_four   -- for this text's walks alone
set_option linter.unusedVariables false
set_option linter.unusedSimpArgs false
set_option maxHeartbeats 8000000
set_option maxRecDepth 100000

/-! ### spec_ObjectRow: function 24 -/
def spec_ObjectRow.j0 : Nat → Int → Bool → List (S171) → Int → Int → Int → Int → Int → Int → Int → Int → Int → Option ((List (S124)))
 | 0, _, _, _, _, _, _, _, _, _, _, _, _ => none
 | k + 1, x1, x22, x431000, x431001, x431002, x431003, x431004, x431005, x436000, x436001, x436002, x436003 => if x22 = true then (some (([] : List (S124)))) else ((spec_SpansAt.f k x431000 x1).bind fun t440 => ((spec_MeetSpans.f k t440 x436000 x436002).bind fun t443 => (some t443)))
def spec_ObjectRow.f (k : Nat) (l0_0 : List (S171)) (a0_1 : Int) (a0_2 : Int) (a0_3 : Int) (a0_4 : Int) (a0_5 : Int) (a1 : Int) : Option ((List (S124))) := (spec_ObjectBox.f k l0_0 a0_1 a0_2 a0_3 a0_4 a0_5).bind fun bt431 => ((spec_CountDots.f bt431.1 bt431.2.1 bt431.2.2.1 bt431.2.2.2).bind fun t436 => (if t436 = 0 then (spec_ObjectRow.j0 k a1 true l0_0 a0_1 a0_2 a0_3 a0_4 a0_5 bt431.1 bt431.2.1 bt431.2.2.1 bt431.2.2.2) else (if a1 < bt431.2.1 then (spec_ObjectRow.j0 k a1 true l0_0 a0_1 a0_2 a0_3 a0_4 a0_5 bt431.1 bt431.2.1 bt431.2.2.1 bt431.2.2.2) else (spec_ObjectRow.j0 k a1 (decide (a1 ≥ bt431.2.2.2)) l0_0 a0_1 a0_2 a0_3 a0_4 a0_5 bt431.1 bt431.2.1 bt431.2.2.1 bt431.2.2.2))))
def spec_ObjectRow.T4 : Bool × List (List Nat × List Nat) := (true, [([], []), ([0], [0]), ([], []), ([1, 2], [1, 2]), ([], []), ([4], [4]), ([], []), ([6], [6]), ([3, 5, 7, 3], [3, 5, 7]), ([8, 8, 0, 1, 2, 3, 4, 5, 6, 7, 8], [8])])
def spec_ObjectRow.B4 : List Nat := [0, 1, 0, 7, 0, 16, 0, 64, 255, 511]
theorem spec_ObjectRow.tab4 : rtab .any (opsOf Try.f24 4) = spec_ObjectRow.T4 := by kernel_rfl
theorem spec_ObjectRow.bits4 : waitsOk spec_ObjectRow.T4.2 spec_ObjectRow.B4 = true := by kernel_rfl
theorem spec_ObjectRow.calls (k : Nat) (A0_0 : Option Addr) (c0_0 : Nat) (l0_0 : List (S171)) (a0_1 : Int) (a0_2 : Int) (a0_3 : Int) (a0_4 : Int) (a0_5 : Int) (a1 : Int) (r : List (S124)) (w : World) (hr0_0 : Kd.C k171 w A0_0 l0_0.length l0_0) (hc0_0 : l0_0.length ≤ c0_0) (h : spec_ObjectRow.f k l0_0 a0_1 a0_2 a0_3 a0_4 a0_5 a1 = some r) :
  Calls Try.prog 24 #[.agg #[.slice A0_0 l0_0.length c0_0, .int .i64 a0_1, .int .i64 a0_2, .int .i64 a0_3, .int .i64 a0_4, .int .i64 a0_5], .int .i64 a1] w fun e w' => ∃ v0_ : Value, e = .returned (v0_) ∧ Kd.R k124 124 w' w.heap.size (fun _ => True) v0_ r ∧ Below w.heap.size w w' := by
 have hu45 := Try.underlying45
 have hu43 := Try.underlying43
 have HR0_0 := Aside0.mk hr0_0
 have HC0_0 := Aside0.mk hc0_0
 clear hr0_0 hc0_0
 have HB := Aside0.mk (Below.refl w.heap.size w)
 have H : ((spec_ObjectBox.f k l0_0 a0_1 a0_2 a0_3 a0_4 a0_5).bind fun bt431 => ((spec_CountDots.f bt431.1 bt431.2.1 bt431.2.2.1 bt431.2.2.2).bind fun t436 => (if t436 = 0 then (spec_ObjectRow.j0 k a1 true l0_0 a0_1 a0_2 a0_3 a0_4 a0_5 bt431.1 bt431.2.1 bt431.2.2.1 bt431.2.2.2) else (if a1 < bt431.2.1 then (spec_ObjectRow.j0 k a1 true l0_0 a0_1 a0_2 a0_3 a0_4 a0_5 bt431.1 bt431.2.1 bt431.2.2.1 bt431.2.2.2) else (spec_ObjectRow.j0 k a1 (decide (a1 ≥ bt431.2.2.2)) l0_0 a0_1 a0_2 a0_3 a0_4 a0_5 bt431.1 bt431.2.1 bt431.2.2.1 bt431.2.2.2))))) = some r := h
 clear h
 replace H := bN H
 obtain ⟨⟨t431, t432, t433, t434⟩, A3, H⟩ := H
 have HC4 := Aside0.mk H
 clear H
 go_enter Try.func24, Try.ntmps24
 go_upto_region 2 with (first | ((with_reducible refine gD 2 ?_); refine bxE #[.slice A0_0 l0_0.length c0_0, .int .i64 a0_1, .int .i64 a0_2, .int .i64 a0_3, .int .i64 a0_4, .int .i64 a0_5] 45 ?_; intro gb430 hg w5 BK430 hb; have GW430 := gE hg; have GE430 := gE hg; replace HB := hB hb; clear hb hg; have hcz6_0 : w5.cell? ⟨gb430, 0, none⟩ = some (.slice A0_0 l0_0.length c0_0) := (blk_cell BK430.out 0).trans rfl; have hcz6_1 : w5.cell? ⟨gb430, 1, none⟩ = some (.int .i64 a0_1) := (blk_cell BK430.out 1).trans rfl; have hcz6_2 : w5.cell? ⟨gb430, 2, none⟩ = some (.int .i64 a0_2) := (blk_cell BK430.out 2).trans rfl; have hcz6_3 : w5.cell? ⟨gb430, 3, none⟩ = some (.int .i64 a0_3) := (blk_cell BK430.out 3).trans rfl; have hcz6_4 : w5.cell? ⟨gb430, 4, none⟩ = some (.int .i64 a0_4) := (blk_cell BK430.out 4).trans rfl; have hcz6_5 : w5.cell? ⟨gb430, 5, none⟩ = some (.int .i64 a0_5) := (blk_cell BK430.out 5).trans rfl; have hfz6_0 := blk_frozen BK430.out 0; have hfz6_1 := blk_frozen BK430.out 1; have hfz6_2 := blk_frozen BK430.out 2; have hfz6_3 := blk_frozen BK430.out 3; have hfz6_4 := blk_frozen BK430.out 4; have hfz6_5 := blk_frozen BK430.out 5) | ((with_reducible refine gC 81 ?_); refine cL (some 7) Try.func81 #[.agg #[.slice A0_0 l0_0.length c0_0, .int .i64 a0_1, .int .i64 a0_2, .int .i64 a0_3, .int .i64 a0_4, .int .i64 a0_5]] ?_; (with_reducible refine (spec_ObjectBox.calls k _ _ l0_0 a0_1 a0_2 a0_3 a0_4 a0_5 t431 t432 t433 t434 _ (cS (Kd.C_below HR0_0.out HB.out)) HC0_0.out A3.out).mono ?_); rintro e w7 ⟨rfl, hb⟩; refine ⟨_, rfl, ?_⟩; replace BK430 := kB (g := gb430) hb; replace HB := hB hb; (try clear hb); (try clear hb2); (try clear hk); (try clear hi)) | ((with_reducible refine gD 5 ?_); refine bxE #[.int .i64 0, .int .i64 0, .int .i64 0, .int .i64 0] 43 ?_; intro gb435 hg w8 BK435 hb; have GW435 := gE hg; have GE435 := gE hg; have NB430_435 := nL (g := gb430) hg; have NB435_430 := nG (g := gb430) hg; replace BK430 := kB (g := gb430) hb; replace HB := hB hb; clear hb hg; have hnb9 := NB435_430.out; have hnc9 := NB430_435.out; have hcz10_0 : w8.cell? ⟨gb435, 0, none⟩ = some (.int .i64 0) := (blk_cell BK435.out 0).trans rfl; have hcz10_1 : w8.cell? ⟨gb435, 1, none⟩ = some (.int .i64 0) := (blk_cell BK435.out 1).trans rfl; have hcz10_2 : w8.cell? ⟨gb435, 2, none⟩ = some (.int .i64 0) := (blk_cell BK435.out 2).trans rfl; have hcz10_3 : w8.cell? ⟨gb435, 3, none⟩ = some (.int .i64 0) := (blk_cell BK435.out 3).trans rfl; have hfz10_0 := blk_frozen BK435.out 0; have hfz10_1 := blk_frozen BK435.out 1; have hfz10_2 := blk_frozen BK435.out 2; have hfz10_3 := blk_frozen BK435.out 3))
 (try simp only [Act.put, List.setIfInBounds_toArray, List.set_cons_zero, List.set_cons_succ])
 go_cut [22] (fun v22 wc => ∃ (kq : Nat) (x22_3 : Bool), v22 = .bool x22_3 ∧ Aside0 (spec_ObjectRow.j0 kq a1 x22_3 l0_0 a0_1 a0_2 a0_3 a0_4 a0_5 t431 t432 t433 t434 = some r) ∧ Aside0 (kq ≤ k) ∧ Aside0 (wc.heap[gb430]? = some (.cells #[(.slice A0_0 l0_0.length c0_0), .int .i64 a0_1, .int .i64 a0_2, .int .i64 a0_3, .int .i64 a0_4, .int .i64 a0_5] 45 (0, 0))) ∧ Aside0 (wc.heap[gb435]? = some (.cells #[.int .i64 t431, .int .i64 t432, .int .i64 t433, .int .i64 t434] 43 (0, 0))) ∧ Aside0 (Below w.heap.size w wc))
 case first =>
  have H := HC4.out
  clear HC4
  replace H := bN H
  obtain ⟨t436, A11, H⟩ := H
  by_cases c12 : t436 = 0
  ·rw [if_pos c12] at H
   have c12b0 : (t436 == 0) = true := beq_iff_eq.mpr c12
   have c12b1 : (t436 != 0) = false := bne_eq_false_iff_eq.mpr c12
   clear c12
   (first | rw [c12b0] | (simp only [i64_w, i32_w]; rw [c12b0]) | skip)
   have H' := Aside0.mk H
   clear H
   have hnb13 := NB435_430.out
   have hnc13 := NB430_435.out
   have hcz14_0 : w8.cell? ⟨gb435, 0, none⟩ = some (.int .i64 0) := (blk_cell BK435.out 0).trans rfl
   have hcz14_1 : w8.cell? ⟨gb435, 1, none⟩ = some (.int .i64 0) := (blk_cell BK435.out 1).trans rfl
   have hcz14_2 : w8.cell? ⟨gb435, 2, none⟩ = some (.int .i64 0) := (blk_cell BK435.out 2).trans rfl
   have hcz14_3 : w8.cell? ⟨gb435, 3, none⟩ = some (.int .i64 0) := (blk_cell BK435.out 3).trans rfl
   have hfz14_0 := blk_frozen BK435.out 0
   have hfz14_1 := blk_frozen BK435.out 1
   have hfz14_2 := blk_frozen BK435.out 2
   have hfz14_3 := blk_frozen BK435.out 3
   go_wp2_with (first | ((with_reducible refine gC 82 ?_); refine cL (some 9) Try.func82 #[.agg #[.int .i64 t431, .int .i64 t432, .int .i64 t433, .int .i64 t434]] ?_; (with_reducible refine (spec_CountDots.calls t431 t432 t433 t434 t436 _ A11.out).mono ?_); rintro e w15 ⟨rfl, hb⟩; refine ⟨_, rfl, ?_⟩; replace BK430 := kB (g := gb430) hb; replace BK435 := Aside0.mk (blk_below (g := gb435) (o := .cells #[.int .i64 t431, .int .i64 t432, .int .i64 t433, .int .i64 t434] 43 (0, 0)) kS hb); replace HB := hB hb; (try clear hb); (try clear hb2); (try clear hk); (try clear hi)))
   go_meet
   case rel => exact ⟨_, (true), fS, H', ⟨by first | omega | exact Nat.le_refl _⟩, ⟨kS⟩, ⟨kS⟩, ⟨bS⟩⟩
  ·rw [if_neg c12] at H
   have c12b0 : (t436 == 0) = false := beq_eq_false_iff_ne.mpr c12
   have c12b1 : (t436 != 0) = true := bne_iff_ne.mpr c12
   (first | rw [c12b0] | (simp only [i64_w, i32_w]; rw [c12b0]) | skip)
   rcases iD H with ⟨c16b0, H⟩ | ⟨c16b0, H⟩
   ·have H' := Aside0.mk H
    clear H
    have hnb17 := NB435_430.out
    have hnc17 := NB430_435.out
    have hcz18_0 : w8.cell? ⟨gb435, 0, none⟩ = some (.int .i64 0) := (blk_cell BK435.out 0).trans rfl
    have hcz18_1 : w8.cell? ⟨gb435, 1, none⟩ = some (.int .i64 0) := (blk_cell BK435.out 1).trans rfl
    have hcz18_2 : w8.cell? ⟨gb435, 2, none⟩ = some (.int .i64 0) := (blk_cell BK435.out 2).trans rfl
    have hcz18_3 : w8.cell? ⟨gb435, 3, none⟩ = some (.int .i64 0) := (blk_cell BK435.out 3).trans rfl
    have hfz18_0 := blk_frozen BK435.out 0
    have hfz18_1 := blk_frozen BK435.out 1
    have hfz18_2 := blk_frozen BK435.out 2
    have hfz18_3 := blk_frozen BK435.out 3
    go_wp2_with (first | ((with_reducible refine gC 82 ?_); refine cL (some 9) Try.func82 #[.agg #[.int .i64 t431, .int .i64 t432, .int .i64 t433, .int .i64 t434]] ?_; (with_reducible refine (spec_CountDots.calls t431 t432 t433 t434 t436 _ A11.out).mono ?_); rintro e w19 ⟨rfl, hb⟩; refine ⟨_, rfl, ?_⟩; replace BK430 := kB (g := gb430) hb; replace BK435 := Aside0.mk (blk_below (g := gb435) (o := .cells #[.int .i64 t431, .int .i64 t432, .int .i64 t433, .int .i64 t434] 43 (0, 0)) kS hb); replace HB := hB hb; (try clear hb); (try clear hb2); (try clear hk); (try clear hi); have hcz20_0 : w19.cell? ⟨gb435, 0, none⟩ = some (.int .i64 t431) := (blk_cell BK435.out 0).trans rfl; have hcz20_1 : w19.cell? ⟨gb435, 1, none⟩ = some (.int .i64 t432) := (blk_cell BK435.out 1).trans rfl; have hcz20_2 : w19.cell? ⟨gb435, 2, none⟩ = some (.int .i64 t433) := (blk_cell BK435.out 2).trans rfl; have hcz20_3 : w19.cell? ⟨gb435, 3, none⟩ = some (.int .i64 t434) := (blk_cell BK435.out 3).trans rfl; have hfz20_0 := blk_frozen BK435.out 0; have hfz20_1 := blk_frozen BK435.out 1; have hfz20_2 := blk_frozen BK435.out 2; have hfz20_3 := blk_frozen BK435.out 3))
    go_meet
    case rel => exact ⟨_, (true), fS, H', ⟨by first | omega | exact Nat.le_refl _⟩, ⟨kS⟩, ⟨kS⟩, ⟨bS⟩⟩
   ·have H' := Aside0.mk H
    clear H
    have hnb21 := NB435_430.out
    have hnc21 := NB430_435.out
    have hcz22_0 : w8.cell? ⟨gb435, 0, none⟩ = some (.int .i64 0) := (blk_cell BK435.out 0).trans rfl
    have hcz22_1 : w8.cell? ⟨gb435, 1, none⟩ = some (.int .i64 0) := (blk_cell BK435.out 1).trans rfl
    have hcz22_2 : w8.cell? ⟨gb435, 2, none⟩ = some (.int .i64 0) := (blk_cell BK435.out 2).trans rfl
    have hcz22_3 : w8.cell? ⟨gb435, 3, none⟩ = some (.int .i64 0) := (blk_cell BK435.out 3).trans rfl
    have hfz22_0 := blk_frozen BK435.out 0
    have hfz22_1 := blk_frozen BK435.out 1
    have hfz22_2 := blk_frozen BK435.out 2
    have hfz22_3 := blk_frozen BK435.out 3
    go_wp2_with (first | ((with_reducible refine gC 82 ?_); refine cL (some 9) Try.func82 #[.agg #[.int .i64 t431, .int .i64 t432, .int .i64 t433, .int .i64 t434]] ?_; (with_reducible refine (spec_CountDots.calls t431 t432 t433 t434 t436 _ A11.out).mono ?_); rintro e w23 ⟨rfl, hb⟩; refine ⟨_, rfl, ?_⟩; replace BK430 := kB (g := gb430) hb; replace BK435 := Aside0.mk (blk_below (g := gb435) (o := .cells #[.int .i64 t431, .int .i64 t432, .int .i64 t433, .int .i64 t434] 43 (0, 0)) kS hb); replace HB := hB hb; (try clear hb); (try clear hb2); (try clear hk); (try clear hi); have hcz24_0 : w23.cell? ⟨gb435, 0, none⟩ = some (.int .i64 t431) := (blk_cell BK435.out 0).trans rfl; have hcz24_1 : w23.cell? ⟨gb435, 1, none⟩ = some (.int .i64 t432) := (blk_cell BK435.out 1).trans rfl; have hcz24_2 : w23.cell? ⟨gb435, 2, none⟩ = some (.int .i64 t433) := (blk_cell BK435.out 2).trans rfl; have hcz24_3 : w23.cell? ⟨gb435, 3, none⟩ = some (.int .i64 t434) := (blk_cell BK435.out 3).trans rfl; have hfz24_0 := blk_frozen BK435.out 0; have hfz24_1 := blk_frozen BK435.out 1; have hfz24_2 := blk_frozen BK435.out 2; have hfz24_3 := blk_frozen BK435.out 3))
    go_meet
    case rel => exact ⟨_, (decide (a1 ≥ t434)), fS, H', ⟨by first | omega | exact Nat.le_refl _⟩, ⟨kS⟩, ⟨kS⟩, ⟨bS⟩⟩
 case rest =>
  clear HC4
  try clear c1
  try clear c2
  try clear p2
  try clear c8
  try clear c9
  try clear c12
  try clear c12b0
  try clear c12b1
  try clear c13
  try clear c16
  try clear c16b0
  try clear c17
  try clear c21
  try clear c24
  try clear hcz10_0
  try clear hcz10_1
  try clear hcz10_2
  try clear hcz10_3
  try clear hcz14_0
  try clear hcz14_1
  try clear hcz14_2
  try clear hcz14_3
  try clear hcz18_0
  try clear hcz18_1
  try clear hcz18_2
  try clear hcz18_3
  try clear hcz20_0
  try clear hcz20_1
  try clear hcz20_2
  try clear hcz20_3
  try clear hcz22_0
  try clear hcz22_1
  try clear hcz22_2
  try clear hcz22_3
  try clear hcz24_0
  try clear hcz24_1
  try clear hcz24_2
  try clear hcz24_3
  try clear hcz6_0
  try clear hcz6_1
  try clear hcz6_2
  try clear hcz6_3
  try clear hcz6_4
  try clear hcz6_5
  try clear hfz10_0
  try clear hfz10_1
  try clear hfz10_2
  try clear hfz10_3
  try clear hfz14_0
  try clear hfz14_1
  try clear hfz14_2
  try clear hfz14_3
  try clear hfz18_0
  try clear hfz18_1
  try clear hfz18_2
  try clear hfz18_3
  try clear hfz20_0
  try clear hfz20_1
  try clear hfz20_2
  try clear hfz20_3
  try clear hfz22_0
  try clear hfz22_1
  try clear hfz22_2
  try clear hfz22_3
  try clear hfz24_0
  try clear hfz24_1
  try clear hfz24_2
  try clear hfz24_3
  try clear hfz6_0
  try clear hfz6_1
  try clear hfz6_2
  try clear hfz6_3
  try clear hfz6_4
  try clear hfz6_5
  obtain ⟨kq, x22_3, rfl, HA, HJ3, BK430, BK435, HB⟩ := hcut
  cases kq with
  | zero => exact absurd HA.out (by simp [spec_ObjectRow.j0])
  | succ kj3 =>
   have H := HA.out
   clear HA
   simp only [spec_ObjectRow.j0] at H
   by_cases c25 : x22_3 = true
   ·subst c25
    rw [if_pos rfl] at H
    obtain ⟨y437, hy437⟩ : ∃ y_ : List (S124), y_ = (([] : List (S124))) := ⟨_, rfl⟩
    replace H : (some y437) = some r := by first | (rw [hy437]; with_reducible exact H) | (have H2_ := (Option.bind_some _ _).symm.trans H; rw [hy437]; with_reducible exact H2_) | (have H2_ := (Option.bind_some _ _).symm.trans H; with_reducible exact H2_) | with_reducible exact H | (rw [hy437]; exact H) | exact H
    have Ny437 := Aside0.mk hy437
    clear hy437
    obtain rfl := Option.some.inj H
    go_wp2_with (first | ((with_reducible refine gate_dst (N := 23) rfl ?_); refine Kd.R_lit k124 _ 124 ?hg (N := 23) ?hd (xs := ([] : List (S124))) (inner := []) (ok := fun _ => True) (okp := fun _ => True) ?hr ?hp (fun _ hk => hk) trivial (Below.refl _ _) (Nat.le_refl _) (by simp) ?_; (case hd => rfl); (case hg => rfl); (case hr => first | (go_simp; done) | (go_simp; rfl)); (case hp => exact (Reps.none _ _)); intro v438 w26 ho27 hb hg_ hnew_; clear hg_ hnew_; (first | rw [← Ny437.out] at ho27 | (simp only [Int.reduceToNat] at ho27; rw [← Ny437.out] at ho27)); have HO439 := Aside0.mk (Kd.R_lower ho27 (below_size bS)); replace BK430 := kB (g := gb430) hb; replace BK435 := kB (g := gb435) hb; replace HB := hB hb; clear hb ho27))
    go_ret
    exact ⟨_, eS, rS HO439, bS⟩
   ·obtain rfl := Bool.eq_false_iff.mpr c25
    rw [if_neg nF] at H
    replace H := bN H
    obtain ⟨t440, A28, H⟩ := H
    replace H := bN H
    obtain ⟨t443, A29, H⟩ := H
    obtain rfl := Option.some.inj H
    try go_wp2
    replace BK430 := Aside0.mk (blk_drew BK430.out)
    replace BK435 := Aside0.mk (blk_drew BK435.out)
    replace HB := Aside0.mk (below_drew1 HB.out)
    refine start_ (n := 10) (S := fun w' => w'.cell? ⟨gb430, 0, none⟩ = some (.slice A0_0 l0_0.length c0_0) ∧ w'.cell? ⟨gb430, 1, none⟩ = some (.int .i64 a0_1) ∧ w'.cell? ⟨gb430, 2, none⟩ = some (.int .i64 a0_2) ∧ w'.cell? ⟨gb430, 3, none⟩ = some (.int .i64 a0_3) ∧ w'.cell? ⟨gb430, 4, none⟩ = some (.int .i64 a0_4) ∧ w'.cell? ⟨gb430, 5, none⟩ = some (.int .i64 a0_5) ∧ w'.cell? ⟨gb435, 0, none⟩ = some (.int .i64 t431) ∧ w'.cell? ⟨gb435, 1, none⟩ = some (.int .i64 t432) ∧ w'.cell? ⟨gb435, 2, none⟩ = some (.int .i64 t433) ∧ w'.cell? ⟨gb435, 3, none⟩ = some (.int .i64 t434)) (ds := []) #[false, false, false, false, false, false, false, false, false, false] (by kernel_rfl) rfl rfl ⟨(blk_cell BK430.out 0).trans rfl, (blk_cell BK430.out 1).trans rfl, (blk_cell BK430.out 2).trans rfl, (blk_cell BK430.out 3).trans rfl, (blk_cell BK430.out 4).trans rfl, (blk_cell BK430.out 5).trans rfl, (blk_cell BK435.out 0).trans rfl, (blk_cell BK435.out 1).trans rfl, (blk_cell BK435.out 2).trans rfl, (blk_cell BK435.out 3).trans rfl⟩ (fun hHeld => ?_); refine with_tabW spec_ObjectRow.tab4 spec_ObjectRow.bits4 (fun HT_ HW_ => ?_)
    generalize wc.drew = w30 at BK430 BK435 HB hHeld ⊢
    refine pU 0 (some 24) #[true, false, false, false, false, false, false, false, false, false] ?_
    refine pU 2 (some 26) #[true, false, true, false, false, false, false, false, false, false] ?_
    refine pU 4 (some 28) #[true, false, true, false, true, false, false, false, false, false] ?_
    refine pU 6 (some 30) #[true, false, true, false, true, false, true, false, false, false] ?_
    refine tK 1 (some 25) #[true, true, true, false, true, false, true, false, false, false] ?_
    refine tK 5 (some 29) #[true, true, true, false, true, true, true, false, false, false] ?_
    refine tK 7 (some 31) #[true, true, true, false, true, true, true, true, false, false] ?_
    refine one_ (i := 3) (N := some 27) #[true, true, true, true, true, true, true, true, false, false] rfl rfl (one_of HT_.out (by kernel_rfl)) (by decide) (fun K hK => ?_)
    refine goes_ Try.func84 (by kernel_rfl) rfl #[.slice A0_0 l0_0.length c0_0, .int .i64 a1] (by rfl) rfl rfl (by (try simp only [List.map_toArray, List.map_cons, List.map_nil]); first | done | rfl | (simp only [List.length_drop, List.length_take]; rfl)) ?_
    with_reducible refine (spec_SpansAt.calls kj3 _ _ l0_0 a1 t440 _ ?side1 ?side2 A28.out).mono ?_
    (case side1 => exact cS (Kd.C_below HR0_0.out HB.out))
    (case side2 => exact HC0_0.out)
    rintro e w31 ⟨v441, rfl, ho0, hb⟩
    refine ⟨_, rfl, ?_⟩
    have HO442 := Aside0.mk (Kd.R_lower ho0 (below_size bS))
    replace BK430 := kB (g := gb430) hb
    replace BK435 := kB (g := gb435) hb
    replace HB := hB hb
    (try clear hb)
    (try clear hb2)
    (try clear hk)
    (try clear hi)
    (try clear ho0)
    obtain ⟨Ao32, co32, eo32⟩ := Kd.R_slice HO442.out
    (first | subst eo32 | (injection eo32 with f1_ f2_ f3_; have f4_ := f1_.symm; have f5_ := f3_.symm; clear f1_ f2_ f3_; subst f4_; subst f5_))
    refine hK.out _ _ ⟨(blk_cell BK430.out 0).trans rfl, (blk_cell BK430.out 1).trans rfl, (blk_cell BK430.out 2).trans rfl, (blk_cell BK430.out 3).trans rfl, (blk_cell BK430.out 4).trans rfl, (blk_cell BK430.out 5).trans rfl, (blk_cell BK435.out 0).trans rfl, (blk_cell BK435.out 1).trans rfl, (blk_cell BK435.out 2).trans rfl, (blk_cell BK435.out 3).trans rfl⟩ (fun hHeld => ?_)
    clear hK K
    refine norm_ (a' := ?_) ?_ ?_
    rotate_left
    ·show Act.put _ (some 27) _ = _
     simp only [Act.put, List.setIfInBounds_toArray, List.set_cons_zero, List.set_cons_succ, i64_w, i32_w]
     rfl
    refine one_ (i := 8) (N := some 32) #[true, true, true, true, true, true, true, true, true, false] rfl rfl (one_of HT_.out (by kernel_rfl)) (by decide) (fun K hK => ?_)
    refine goes_ Try.func83 (by kernel_rfl) rfl #[.slice Ao32 t440.length co32, .int .i64 t431, .int .i64 t433] (by rfl) rfl rfl (by (try simp only [List.map_toArray, List.map_cons, List.map_nil]); first | done | rfl | (simp only [List.length_drop, List.length_take]; rfl)) ?_
    with_reducible refine (spec_MeetSpans.calls kj3 _ _ t440 t431 t433 t443 _ ?side1 ?side2 A29.out).mono ?_
    (case side1 => exact cS (Kd.R_reads' HO442.out).2.2)
    (case side2 => exact (Kd.R_reads' HO442.out).2.1)
    rintro e w33 ⟨v444, rfl, ho0, hb⟩
    refine ⟨_, rfl, ?_⟩
    have HO445 := Aside0.mk (Kd.R_lower (Kd.R_new' ho0 (Kd.R_lt (rS HO442))) (below_size bS))
    replace HO442 := Aside0.mk (Kd.R_elder' (rS HO442) (Kd.R_base ho0) hb)
    replace BK430 := kB (g := gb430) hb
    replace BK435 := kB (g := gb435) hb
    replace HB := hB hb
    (try clear hb)
    (try clear hb2)
    (try clear hk)
    (try clear hi)
    (try clear ho0)
    refine hK.out _ _ ⟨(blk_cell BK430.out 0).trans rfl, (blk_cell BK430.out 1).trans rfl, (blk_cell BK430.out 2).trans rfl, (blk_cell BK430.out 3).trans rfl, (blk_cell BK430.out 4).trans rfl, (blk_cell BK430.out 5).trans rfl, (blk_cell BK435.out 0).trans rfl, (blk_cell BK435.out 1).trans rfl, (blk_cell BK435.out 2).trans rfl, (blk_cell BK435.out 3).trans rfl⟩ (fun hHeld => ?_)
    clear hK K
    refine norm_ (a' := ?_) ?_ ?_
    rotate_left
    ·show Act.put _ (some 32) _ = _
     simp only [Act.put, List.setIfInBounds_toArray, List.set_cons_zero, List.set_cons_succ, i64_w, i32_w]
     rfl
    refine pU 9 (some 4) #[true, true, true, true, true, true, true, true, true, true] ?_
    refine done_ (done_of HT_.out (by kernel_rfl)) ?_
    try go_wp2
    go_ret
    exact ⟨_, eS, by exact rT (Kd.R_mono HO445.out (fun _ hk => trivial)), bS⟩

/-! ### spec_l11Row: function 161 -/
def spec_l11Row.l0 : Nat → List Int → Int → Option (Bool)
 | 0, _, _ => none
 | k + 1, x0, x3 => if x3 < (x0.length : Int) then (if 0 ≤ x3 then ((spec_l01In.f (rd x0 x3) 0 255).bind fun t447 => (if t447 = true then (spec_l11Row.l0 k x0 (wrap64 (x3 + 1))) else (some false))) else (none)) else (some ((x0.length : Int) == 32))
def spec_l11Row.f (k : Nat) (l0 : List Int) : Option (Bool) := spec_l11Row.l0 k l0 0
theorem spec_l11Row.calls (k : Nat) (A0 : Option Addr) (c0 : Nat) (l0 : List Int) (r : Bool) (w : World) (hr0 : Kd.C (Kd.int .i64) w A0 l0.length l0) (hc0 : l0.length ≤ c0) (h : spec_l11Row.f k l0 = some r) :
  Calls Try.prog 161 #[.slice A0 l0.length c0] w fun e w' => e = .returned (.bool r) ∧ Drawn0 w w' := by
 have HR0 := Aside0.mk hr0
 have HC0 := Aside0.mk hc0
 clear hr0 hc0
 have H : (spec_l11Row.l0 k l0 0) = some r := h
 clear h
 have H' := Aside0.mk H
 clear H
 go_enter Try.func161, Try.ntmps161
 go_wp2
 go_loopg [3] k (fun kq v3 w' => ∃ (x3_1 : Int), v3 = .int .i64 x3_1 ∧ Aside0 (spec_l11Row.l0 kq l0 x3_1 = some r) ∧ Aside0 (kq ≤ k) ∧ Drawn0 w w')
 case atStart => exact ⟨(0), fS, H', ⟨Nat.le_refl _⟩, dS⟩
 case round =>
  clear H'
  try clear c1
  obtain ⟨x3_1, rfl, HA, HK1, ⟨m1, rfl⟩⟩ := hrel
  cases gk with
  | zero => exact absurd HA.out (by simp [spec_l11Row.l0])
  | succ k1 =>
   have H := HA.out
   clear HA
   simp only [spec_l11Row.l0] at H
   rcases iD H with ⟨c2b0, H⟩ | ⟨c2b0, H⟩
   ·obtain ⟨c3b0, H⟩ := iT H
    replace H := bN H
    obtain ⟨t447, A4, H⟩ := H
    by_cases c5 : t447 = true
    ·subst c5
     rw [if_pos rfl] at H
     have H' := Aside0.mk H
     clear H
     have p446 : 0 ≤ (x3_1 : Int) := dA
     have q446 : x3_1 < (l0.length : Int) := dA
     obtain ⟨ad446, e446, hx446_0⟩ := Kd.at_int HR0.out x3_1 p446 q446
     cases e446
     replace p446 := eq_true p446
     replace q446 := eq_true q446
     go_wp2_with (first | ((with_reducible refine gC 123 ?_); refine cL (some 14) Try.func123 #[.int .i64 (rd l0 x3_1), .int .i64 0, .int .i64 255] ?_; (with_reducible refine (spec_l01In.calls (rd l0 x3_1) 0 255 _ _ A4.out).mono ?_); rintro e w' ⟨rfl, ⟨nd, rfl⟩⟩; refine ⟨_, rfl, ?_⟩))
     go_roundg k1
     case measure => have := HK1.out; omega
     case rel => exact ⟨(wrap64 (x3_1 + 1)), fS, H', ⟨by have := HK1.out; omega⟩, dS⟩
    ·obtain rfl := Bool.eq_false_iff.mpr c5
     rw [if_neg nF] at H
     obtain rfl := Option.some.inj H
     have p446 : 0 ≤ (x3_1 : Int) := dA
     have q446 : x3_1 < (l0.length : Int) := dA
     obtain ⟨ad446, e446, hx446_0⟩ := Kd.at_int HR0.out x3_1 p446 q446
     cases e446
     replace p446 := eq_true p446
     replace q446 := eq_true q446
     go_wp2_with (first | ((with_reducible refine gC 123 ?_); refine cL (some 14) Try.func123 #[.int .i64 (rd l0 x3_1), .int .i64 0, .int .i64 255] ?_; (with_reducible refine (spec_l01In.calls (rd l0 x3_1) 0 255 _ _ A4.out).mono ?_); rintro e w' ⟨rfl, ⟨nd, rfl⟩⟩; refine ⟨_, rfl, ?_⟩))
     go_ret
     exact ⟨fS, dS⟩
   ·obtain rfl := Option.some.inj H
    go_wp2
    go_ret
    exact ⟨fS, dS⟩

/-! ### spec_RowsOk: function 97 -/
def spec_RowsOk.l0 : Nat → List (List Int) → Int → Option (Bool)
 | 0, _, _ => none
 | k + 1, x0, x3 => if x3 < (x0.length : Int) then (if 0 ≤ x3 then ((spec_l11Row.f k (rd_L1 x0 x3)).bind fun t449 => (if t449 = true then (spec_RowsOk.l0 k x0 (wrap64 (x3 + 1))) else (some false))) else (none)) else (some (decide ((x0.length : Int) ≤ 32)))
def spec_RowsOk.f (k : Nat) (l0 : List (List Int)) : Option (Bool) := spec_RowsOk.l0 k l0 0
theorem spec_RowsOk.calls (k : Nat) (A0 : Option Addr) (c0 : Nat) (l0 : List (List Int)) (r : Bool) (w : World) (hr0 : Kd.C (Kd.slice 3 (Kd.int .i64)) w A0 l0.length l0) (hc0 : l0.length ≤ c0) (h : spec_RowsOk.f k l0 = some r) :
  Calls Try.prog 97 #[.slice A0 l0.length c0] w fun e w' => e = .returned (.bool r) ∧ Drawn0 w w' := by
 have HR0 := Aside0.mk hr0
 have HC0 := Aside0.mk hc0
 clear hr0 hc0
 have H : (spec_RowsOk.l0 k l0 0) = some r := h
 clear h
 have H' := Aside0.mk H
 clear H
 go_enter Try.func97, Try.ntmps97
 go_wp2
 go_loopg [3] k (fun kq v3 w' => ∃ (x3_1 : Int), v3 = .int .i64 x3_1 ∧ Aside0 (spec_RowsOk.l0 kq l0 x3_1 = some r) ∧ Aside0 (kq ≤ k) ∧ Drawn0 w w')
 case atStart => exact ⟨(0), fS, H', ⟨Nat.le_refl _⟩, dS⟩
 case round =>
  clear H'
  obtain ⟨x3_1, rfl, HA, HK1, ⟨m1, rfl⟩⟩ := hrel
  cases gk with
  | zero => exact absurd HA.out (by simp [spec_RowsOk.l0])
  | succ k1 =>
   have H := HA.out
   clear HA
   simp only [spec_RowsOk.l0] at H
   rcases iD H with ⟨c2b0, H⟩ | ⟨c2b0, H⟩
   ·obtain ⟨c3b0, H⟩ := iT H
    replace H := bN H
    obtain ⟨t449, A4, H⟩ := H
    by_cases c5 : t449 = true
    ·subst c5
     rw [if_pos rfl] at H
     have H' := Aside0.mk H
     clear H
     have p448 : 0 ≤ (x3_1 : Int) := dA
     have q448 : x3_1 < (l0.length : Int) := dA
     obtain ⟨ad448, A448_0, c448_0, e448, hx448_0, hl448_0, hi448_0⟩ := at_L1 HR0.out x3_1 p448 q448
     cases e448
     have HR448_0 := Aside0.mk hi448_0
     have HC448_0 := Aside0.mk hl448_0
     clear hi448_0 hl448_0
     replace p448 := eq_true p448
     replace q448 := eq_true q448
     go_wp2_with (first | ((with_reducible refine gC 161 ?_); refine cL (some 14) Try.func161 #[.slice A448_0 (rd_L1 l0 x3_1).length c448_0] ?_; (with_reducible refine (spec_l11Row.calls k1 _ _ (rd_L1 l0 x3_1) _ _ ?side1 ?side2 A4.out).mono ?_); (case side1 => repeat (first | exact HR448_0.out | (with_reducible refine Kd.C_alloc ?_ _) | (with_reducible refine Kd.C_drewN ?_ _) | (with_reducible refine Kd.C_drew ?_))); (case side2 => exact HC448_0.out); rintro e w' ⟨rfl, ⟨nd, rfl⟩⟩; refine ⟨_, rfl, ?_⟩))
     go_roundg k1
     case measure => have := HK1.out; omega
     case rel => exact ⟨(wrap64 (x3_1 + 1)), fS, H', ⟨by have := HK1.out; omega⟩, dS⟩
    ·obtain rfl := Bool.eq_false_iff.mpr c5
     rw [if_neg nF] at H
     obtain rfl := Option.some.inj H
     have p448 : 0 ≤ (x3_1 : Int) := dA
     have q448 : x3_1 < (l0.length : Int) := dA
     obtain ⟨ad448, A448_0, c448_0, e448, hx448_0, hl448_0, hi448_0⟩ := at_L1 HR0.out x3_1 p448 q448
     cases e448
     have HR448_0 := Aside0.mk hi448_0
     have HC448_0 := Aside0.mk hl448_0
     clear hi448_0 hl448_0
     replace p448 := eq_true p448
     replace q448 := eq_true q448
     go_wp2_with (first | ((with_reducible refine gC 161 ?_); refine cL (some 14) Try.func161 #[.slice A448_0 (rd_L1 l0 x3_1).length c448_0] ?_; (with_reducible refine (spec_l11Row.calls k1 _ _ (rd_L1 l0 x3_1) _ _ ?side1 ?side2 A4.out).mono ?_); (case side1 => repeat (first | exact HR448_0.out | (with_reducible refine Kd.C_alloc ?_ _) | (with_reducible refine Kd.C_drewN ?_ _) | (with_reducible refine Kd.C_drew ?_))); (case side2 => exact HC448_0.out); rintro e w' ⟨rfl, ⟨nd, rfl⟩⟩; refine ⟨_, rfl, ?_⟩))
     go_ret
     exact ⟨fS, dS⟩
   ·obtain rfl := Option.some.inj H
    go_wp2
    go_ret
    exact ⟨fS, dS⟩

/-! ### spec_l05Copy: function 178 -/
def spec_l05Copy.f (l0 : List Int) : Option (List Int) := (some (([] : List Int) : List Int)).bind fun y450 => (if y450.length + l0.length < 17592186044416 then (some (y450 ++ l0)) else (none))
theorem spec_l05Copy.calls (A0 : Option Addr) (c0 : Nat) (l0 : List Int) (r : List Int) (w : World) (hr0 : Kd.C (Kd.int .i64) w A0 l0.length l0) (hc0 : l0.length ≤ c0) (h : spec_l05Copy.f l0 = some r) :
  Calls Try.prog 178 #[.slice A0 l0.length c0] w fun e w' => ∃ v0_ : Value, e = .returned (v0_) ∧ Kd.R (Kd.int .i64) 3 w' w.heap.size (fun _ => True) v0_ r ∧ Below w.heap.size w w' := by
 have HR0 := Aside0.mk hr0
 have HC0 := Aside0.mk hc0
 clear hr0 hc0
 have HB := Aside0.mk (Below.refl w.heap.size w)
 have H : ((some (([] : List Int) : List Int)).bind fun y450 => (if y450.length + l0.length < 17592186044416 then (some (y450 ++ l0)) else (none))) = some r := h
 clear h
 obtain ⟨y450, hy450⟩ : ∃ y_ : List Int, y_ = (([] : List Int)) := ⟨_, rfl⟩
 replace H : (if y450.length + l0.length < 17592186044416 then (some (y450 ++ l0)) else (none)) = some r := by first | (rw [hy450]; with_reducible exact H) | (have H2_ := (Option.bind_some _ _).symm.trans H; rw [hy450]; with_reducible exact H2_) | (have H2_ := (Option.bind_some _ _).symm.trans H; with_reducible exact H2_) | with_reducible exact H | (rw [hy450]; exact H) | exact H
 have Ny450 := Aside0.mk hy450
 clear hy450
 by_cases c2 : y450.length + l0.length < 17592186044416
 ·rw [if_pos c2] at H
  have LMc2 := Aside0.mk c2
  clear c2
  obtain ⟨y453, hy453⟩ : ∃ y_ : List Int, y_ = (y450 ++ l0) := ⟨_, rfl⟩
  replace H : (some y453) = some r := by first | (rw [hy453]; with_reducible exact H) | (have H2_ := (Option.bind_some _ _).symm.trans H; rw [hy453]; with_reducible exact H2_) | (have H2_ := (Option.bind_some _ _).symm.trans H; with_reducible exact H2_) | with_reducible exact H | (rw [hy453]; exact H) | exact H
  have Ny453 := Aside0.mk hy453
  clear hy453
  obtain rfl := Option.some.inj H
  go_enter Try.func178, Try.ntmps178
  go_wp2_with (first | ((with_reducible refine gate_dst (N := 3) rfl ?_); refine Kd.R_lit (Kd.int .i64) _ 3 ?hg (N := 3) ?hd (xs := ([] : List Int)) (inner := []) (ok := fun _ => True) (okp := fun _ => True) ?hr ?hp (fun _ hk => hk) trivial (Below.refl _ _) (Nat.le_refl _) (by simp) ?_; (case hd => rfl); (case hg => rfl); (case hr => first | (go_simp; done) | (go_simp; rfl)); (case hp => exact (Reps.none _ _)); intro v451 w3 ho4 hb hg_ hnew_; clear hg_ hnew_; (first | rw [← Ny450.out] at ho4 | (simp only [Int.reduceToNat] at ho4; rw [← Ny450.out] at ho4)); have HO452 := Aside0.mk (Kd.R_lower ho4 (below_size bS)); replace HB := hB hb; clear hb ho4) | ((with_reducible refine gate_builtin (b := .append) (xs := #[.tmp 3, .tmp 4]) rfl ?_); at_builtin; refine Kd.R_append_rows (Kd.int .i64) (w0 := w) w.heap.size rfl (.tmp 3) (.tmp 4) 71 3 (.int .i64 0) 8 rfl Try.underlying71 info3 rfl (by decide) (by omega) v451 y450 l0 _ _ _ (fun _ => True) (fun _ => False) rfl rfl ?aO ?aR (fun _ _ h => h) (fun _ h => h.elim) ?aF ?aB ?aS ?aL ?_; (case aR => exact cS (Kd.C_below HR0.out HB.out)); (case aB => exact bS); (case aF => exact (fun _ _ => trivial)); (case aO => exact (rS HO452)); (case aS => exact (below_size bS)); (case aL => have := LMc2.out; omega); intro v454 w5 ho hb hg hat; rw [← Ny453.out] at ho; have HO455 := Aside0.mk (ho); replace HB := Aside0.mk (hb); clear HO452; clear ho hb hg hat))
  go_ret
  exact ⟨_, eS, rS HO455, bS⟩
 ·rw [if_neg c2] at H
  exact absurd H (by simp)

/-! ### spec_l11Copy: function 122 -/
def spec_l11Copy.l0 : Nat → List (List Int) → List (List Int) → Int → Option ((List (List Int)))
 | 0, _, _, _ => none
 | k + 1, x0, x3, x4 => if x4 < (x0.length : Int) then (if 0 ≤ x4 then ((spec_l05Copy.f (rd_L1 x0 x4)).bind fun t460 => (if x3.length < 5864062014805 then (spec_l11Copy.l0 k x0 (x3 ++ [t460]) (wrap64 (x4 + 1))) else (none))) else (none)) else (some x3)
def spec_l11Copy.f (k : Nat) (l0 : List (List Int)) : Option ((List (List Int))) := spec_l11Copy.l0 k l0 (([] : List (List Int))) 0
theorem spec_l11Copy.calls (k : Nat) (A0 : Option Addr) (c0 : Nat) (l0 : List (List Int)) (r : List (List Int)) (w : World) (hr0 : Kd.C (Kd.slice 3 (Kd.int .i64)) w A0 l0.length l0) (hc0 : l0.length ≤ c0) (h : spec_l11Copy.f k l0 = some r) :
  Calls Try.prog 122 #[.slice A0 l0.length c0] w fun e w' => ∃ v0_ : Value, e = .returned (v0_) ∧ Kd.S (Kd.slice 3 (Kd.int .i64)) 71 w' w.heap.size (fun _ => True) v0_ r ∧ Below w.heap.size w w' := by
 have HR0 := Aside0.mk hr0
 have HC0 := Aside0.mk hc0
 clear hr0 hc0
 have HB := Aside0.mk (Below.refl w.heap.size w)
 have H : (spec_l11Copy.l0 k l0 (([] : List (List Int))) 0) = some r := h
 clear h
 obtain ⟨y456, hy456⟩ : ∃ y_ : List (List Int), y_ = (([] : List (List Int))) := ⟨_, rfl⟩
 replace H : (spec_l11Copy.l0 k l0 y456 0) = some r := by first | (rw [hy456]; with_reducible exact H) | (have H2_ := (Option.bind_some _ _).symm.trans H; rw [hy456]; with_reducible exact H2_) | (have H2_ := (Option.bind_some _ _).symm.trans H; with_reducible exact H2_) | with_reducible exact H | (rw [hy456]; exact H) | exact H
 have Ny456 := Aside0.mk hy456
 clear hy456
 have H' := Aside0.mk H
 clear H
 go_enter Try.func122, Try.ntmps122
 go_wp2_with (first | ((with_reducible refine gate_dst (N := 5) rfl ?_); refine Kd.S_lit (Kd.slice 3 (Kd.int .i64)) _ 71 ?hg (N := 5) ?hd (xs := ([] : List (List Int))) (inner := []) (ok := fun _ => True) (okp := fun _ => True) ?hr ?hp (fun _ hk => hk) trivial (Below.refl _ _) (Nat.le_refl _) (by simp) ?_; (case hd => rfl); (case hg => rfl); (case hr => first | (go_simp; done) | (go_simp; rfl)); (case hp => exact (Reps.none _ _)); intro v457 w2 ho3 hb hg_ hnew_; clear hg_ hnew_; (first | rw [← Ny456.out] at ho3 | (simp only [Int.reduceToNat] at ho3; rw [← Ny456.out] at ho3)); have HO458 := Aside0.mk (Kd.S_lower ho3 (below_size bS)); replace HB := hB hb; clear hb ho3))
 go_loopg [3, 4] k (fun kq v3 v4 w' => ∃ (x3_1 : List (List Int)) (x4_1 : Int), v4 = .int .i64 x4_1 ∧ Aside0 (spec_l11Copy.l0 kq l0 x3_1 x4_1 = some r) ∧ Aside0 (kq ≤ k) ∧ Aside0 (Kd.S (Kd.slice 3 (Kd.int .i64)) 71 w' w.heap.size (fun _ => True) v3 x3_1) ∧ Aside0 (Below w.heap.size w w'))
 case atStart => exact ⟨(y456), (0), fS, H', ⟨Nat.le_refl _⟩, ⟨sS HO458⟩, ⟨bS⟩⟩
 case round =>
  clear H'
  try clear c1
  try clear p2
  obtain ⟨x3_1, x4_1, rfl, HA, HK1, HO_3, HB⟩ := hrel
  cases gk with
  | zero => exact absurd HA.out (by simp [spec_l11Copy.l0])
  | succ k1 =>
   have H := HA.out
   clear HA
   simp only [spec_l11Copy.l0] at H
   rcases iD H with ⟨c4b0, H⟩ | ⟨c4b0, H⟩
   ·obtain ⟨c5b0, H⟩ := iT H
    replace H := bN H
    obtain ⟨t460, A6, H⟩ := H
    obtain ⟨LMc7, H⟩ := iL H
    obtain ⟨y463, hy463⟩ : ∃ y_ : List (List Int), y_ = (x3_1 ++ [t460]) := ⟨_, rfl⟩
    replace H : (spec_l11Copy.l0 k1 l0 y463 (wrap64 (x4_1 + 1))) = some r := by first | (rw [hy463]; with_reducible exact H) | (have H2_ := (Option.bind_some _ _).symm.trans H; rw [hy463]; with_reducible exact H2_) | (have H2_ := (Option.bind_some _ _).symm.trans H; with_reducible exact H2_) | with_reducible exact H | (rw [hy463]; exact H) | exact H
    have Ny463 := Aside0.mk hy463
    clear hy463
    have H' := Aside0.mk H
    clear H
    have p459 : 0 ≤ (x4_1 : Int) := dA
    have q459 : x4_1 < (l0.length : Int) := dA
    obtain ⟨ad459, A459_0, c459_0, e459, hx459_0, hl459_0, hi459_0⟩ := at_L1 HR0.out x4_1 p459 q459
    cases e459
    replace hx459_0 := cB HB hx459_0
    have HR459_0 := Aside0.mk hi459_0
    have HC459_0 := Aside0.mk hl459_0
    clear hi459_0 hl459_0
    replace p459 := eq_true p459
    replace q459 := eq_true q459
    go_wp2_with (first | ((with_reducible refine gC 178 ?_); refine cL (some 17) Try.func178 #[.slice A459_0 (rd_L1 l0 x4_1).length c459_0] ?_; (with_reducible refine (spec_l05Copy.calls _ _ (rd_L1 l0 x4_1) t460 _ (cS (Kd.C_below HR459_0.out HB.out)) HC459_0.out A6.out).mono ?_); rintro e w8 ⟨v461, rfl, ho0, hb⟩; refine ⟨_, rfl, ?_⟩; have HO462 := Aside0.mk (Kd.R_lower ho0 (below_size bS)); replace HO_3 := Aside0.mk (Kd.S_elder' (sS HO_3) (Kd.R_base ho0) hb); replace HB := hB hb; (try clear hb); (try clear hb2); (try clear hk); (try clear hi); (try clear ho0); obtain ⟨Ao10, co10, eo10⟩ := Kd.R_slice HO462.out; subst eo10) | ((with_reducible refine gate_builtin (b := .append) (xs := #[.tmp 12, .tmp 18]) rfl ?_); at_builtin; refine Kd.S_append (Kd.slice 3 (Kd.int .i64)) (w0 := w) w.heap.size rfl (.tmp 12) (.tmp 18) 27 71 (.slice none 0 0) 24 rfl Try.underlying27 info71 rfl (by decide) (by omega) u3 x3_1 t460 [.slice Ao10 t460.length co10] (fun _ => True) (fun k_ => some k_ = (.slice Ao10 t460.length co10 : Value).ownBlock) rfl rfl ?aP (fun k_ hk_ => ((Kd.R_mono (ok' := fun k_ => ((fun _ => True)) k_ ∧ some k_ ≠ (u3 : Value).ownBlock) (Kd.R_apart' (HO462.out) (Kd.S_typed HO_3.out) (by decide)) (fun k_ hk => ⟨trivial, hk.2⟩))).1 k_ hk_.symm) ?aF ?aO ?aB ?aS ?aL ?_; (case aP => exact Kd.M_row (Kd.R_mono (Kd.R_tight rfl (Kd.R_mono (ok' := fun k_ => ((fun _ => True)) k_ ∧ some k_ ≠ (u3 : Value).ownBlock) (Kd.R_apart' (HO462.out) (Kd.S_typed HO_3.out) (by decide)) (fun k_ hk => ⟨trivial, hk.2⟩))) (fun _ h_ => h_))); (case aB => exact bS); (case aF => exact (fun _ _ => trivial)); (case aO => exact (by exact sT (Kd.S_mono HO_3.out (fun k_ hk => ⟨trivial, fun e_ => hk.2 e_⟩)))); (case aS => exact (below_size bS)); (case aL => have := LMc7.out; omega); intro v464 w9 ho hb hg hat; rw [← Ny463.out] at ho; have HO465 := Aside0.mk (ho); replace HB := Aside0.mk (hb); clear HO_3 HO462; clear ho hb hg hat))
    go_roundg k1
    case measure => have := HK1.out; omega
    case rel => exact ⟨(y463), (wrap64 (x4_1 + 1)), fS, H', ⟨by have := HK1.out; omega⟩, ⟨sS HO465⟩, ⟨bS⟩⟩
   ·obtain rfl := Option.some.inj H
    go_wp2
    go_ret
    exact ⟨_, eS, sS HO_3, bS⟩

end Go.Proofs.Ytigodjcnkgebaaa.QFnExactRenderBands
