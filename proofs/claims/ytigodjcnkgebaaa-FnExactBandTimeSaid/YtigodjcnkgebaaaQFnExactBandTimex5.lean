-- Made out of the translation by a program of this session (a changed copy of the print). Not trusted: Lean checks it.
import Derived.Test.YtigodjcnkgebaaaQFnExactBandTimex0
import Derived.Test.YtigodjcnkgebaaaQFnExactBandTimex1
import Derived.Test.YtigodjcnkgebaaaQFnExactBandTimex2
import Derived.Test.YtigodjcnkgebaaaQFnExactBandTimex3
import Derived.Test.YtigodjcnkgebaaaQFnExactBandTimex4
namespace Go.Proofs.Ytigodjcnkgebaaa.QFnExactBandTime
open Go.RowKit Go.Proofs.YtigodjcnkgebaaaW.PrintWords Go.Proofs.YtigodjcnkgebaaaW.PrintLast Go.Proofs.YtigodjcnkgebaaaW.PrintMore
attribute [local go_sem] max2_int min2_int max_two min_two max_three min_three max_four min_four   -- for this text's walks alone
set_option linter.unusedVariables false
set_option linter.unusedSimpArgs false
set_option maxHeartbeats 8000000
set_option maxRecDepth 100000

/-! ### spec_ObjectRow: function 24 -/
def spec_ObjectRow.j0 : Nat → Int → Bool → List (S171) → Int → Int → Int → Int → Int → Int → Int → Int → Int → Option ((List (S124)))
  | 0, _, _, _, _, _, _, _, _, _, _, _, _ => none
  | k + 1, x1, x22, x192000, x192001, x192002, x192003, x192004, x192005, x197000, x197001, x197002, x197003 => if x22 = true then (some (([] : List (S124)))) else ((spec_SpansAt.f k x192000 x1).bind fun t201 => ((spec_MeetSpans.f k t201 x197000 x197002).bind fun t204 => (some t204)))
def spec_ObjectRow.f (k : Nat) (l0_0 : List (S171)) (a0_1 : Int) (a0_2 : Int) (a0_3 : Int) (a0_4 : Int) (a0_5 : Int) (a1 : Int) : Option ((List (S124))) := (spec_ObjectBox.f k l0_0 a0_1 a0_2 a0_3 a0_4 a0_5).bind fun bt192 => ((spec_CountDots.f bt192.1 bt192.2.1 bt192.2.2.1 bt192.2.2.2).bind fun t197 => (if t197 = 0 then (spec_ObjectRow.j0 k a1 true l0_0 a0_1 a0_2 a0_3 a0_4 a0_5 bt192.1 bt192.2.1 bt192.2.2.1 bt192.2.2.2) else (if a1 < bt192.2.1 then (spec_ObjectRow.j0 k a1 true l0_0 a0_1 a0_2 a0_3 a0_4 a0_5 bt192.1 bt192.2.1 bt192.2.2.1 bt192.2.2.2) else (spec_ObjectRow.j0 k a1 (decide (a1 ≥ bt192.2.2.2)) l0_0 a0_1 a0_2 a0_3 a0_4 a0_5 bt192.1 bt192.2.1 bt192.2.2.1 bt192.2.2.2))))
def spec_ObjectRow.T4 : Bool × List (List Nat × List Nat) := (true, [([], []), ([0], [0]), ([], []), ([1, 2], [1, 2]), ([], []), ([4], [4]), ([], []), ([6], [6]), ([3, 5, 7, 3], [3, 5, 7]), ([8, 8, 0, 1, 2, 3, 4, 5, 6, 7, 8], [8])])
def spec_ObjectRow.B4 : List Nat := [0, 1, 0, 7, 0, 16, 0, 64, 255, 511]
theorem spec_ObjectRow.tab4 : rtab .any (opsOf Try.f24 4) = spec_ObjectRow.T4 := by kernel_rfl
theorem spec_ObjectRow.bits4 : waitsOk spec_ObjectRow.T4.2 spec_ObjectRow.B4 = true := by kernel_rfl
theorem spec_ObjectRow.calls (k : Nat) (A0_0 : Option Addr) (c0_0 : Nat) (l0_0 : List (S171)) (a0_1 : Int) (a0_2 : Int) (a0_3 : Int) (a0_4 : Int) (a0_5 : Int) (a1 : Int) (r : List (S124)) (w : World) (hr0_0 : Kd.C k171 w A0_0 l0_0.length l0_0) (hc0_0 : l0_0.length ≤ c0_0) (h : spec_ObjectRow.f k l0_0 a0_1 a0_2 a0_3 a0_4 a0_5 a1 = some r) :
    Calls Try.prog 24 #[.agg #[.slice A0_0 l0_0.length c0_0, .int .i64 a0_1, .int .i64 a0_2, .int .i64 a0_3, .int .i64 a0_4, .int .i64 a0_5], .int .i64 a1] w fun e w' => ∃ v0_ : Value, e = .returned (v0_) ∧ Kd.R k124 124 w' w.heap.size (fun _ => True) v0_ r ∧ Below w.heap.size w w' := by
  have hu45 := Try.underlying45
  have hu43 := Try.underlying43
  have HR0_0 := Aside0.mk hr0_0
  have HC0_0 := Aside0.mk hc0_0
  clear hr0_0 hc0_0
  have HB := Aside0.mk (Below.refl w.heap.size w)
  have H : ((spec_ObjectBox.f k l0_0 a0_1 a0_2 a0_3 a0_4 a0_5).bind fun bt192 => ((spec_CountDots.f bt192.1 bt192.2.1 bt192.2.2.1 bt192.2.2.2).bind fun t197 => (if t197 = 0 then (spec_ObjectRow.j0 k a1 true l0_0 a0_1 a0_2 a0_3 a0_4 a0_5 bt192.1 bt192.2.1 bt192.2.2.1 bt192.2.2.2) else (if a1 < bt192.2.1 then (spec_ObjectRow.j0 k a1 true l0_0 a0_1 a0_2 a0_3 a0_4 a0_5 bt192.1 bt192.2.1 bt192.2.2.1 bt192.2.2.2) else (spec_ObjectRow.j0 k a1 (decide (a1 ≥ bt192.2.2.2)) l0_0 a0_1 a0_2 a0_3 a0_4 a0_5 bt192.1 bt192.2.1 bt192.2.2.1 bt192.2.2.2))))) = some r := h
  clear h
  replace H := bN H
  obtain ⟨⟨t192, t193, t194, t195⟩, A3, H⟩ := H
  have HC4 := Aside0.mk H
  clear H
  go_enter Try.func24, Try.ntmps24
  go_upto_region 2 with (first | ((with_reducible refine gD 2 ?_); refine bxE #[.slice A0_0 l0_0.length c0_0, .int .i64 a0_1, .int .i64 a0_2, .int .i64 a0_3, .int .i64 a0_4, .int .i64 a0_5] 45 ?_; intro gb191 hg w5 BK191 hb; have GW191 := gE hg; have GE191 := gE hg; replace HB := hB hb; clear hb hg; have hcz6_0 : w5.cell? ⟨gb191, 0, none⟩ = some (.slice A0_0 l0_0.length c0_0) := (blk_cell BK191.out 0).trans rfl; have hcz6_1 : w5.cell? ⟨gb191, 1, none⟩ = some (.int .i64 a0_1) := (blk_cell BK191.out 1).trans rfl; have hcz6_2 : w5.cell? ⟨gb191, 2, none⟩ = some (.int .i64 a0_2) := (blk_cell BK191.out 2).trans rfl; have hcz6_3 : w5.cell? ⟨gb191, 3, none⟩ = some (.int .i64 a0_3) := (blk_cell BK191.out 3).trans rfl; have hcz6_4 : w5.cell? ⟨gb191, 4, none⟩ = some (.int .i64 a0_4) := (blk_cell BK191.out 4).trans rfl; have hcz6_5 : w5.cell? ⟨gb191, 5, none⟩ = some (.int .i64 a0_5) := (blk_cell BK191.out 5).trans rfl; have hfz6_0 := blk_frozen BK191.out 0; have hfz6_1 := blk_frozen BK191.out 1; have hfz6_2 := blk_frozen BK191.out 2; have hfz6_3 := blk_frozen BK191.out 3; have hfz6_4 := blk_frozen BK191.out 4; have hfz6_5 := blk_frozen BK191.out 5) | ((with_reducible refine gC 81 ?_); refine cL (some 7) Try.func81 #[.agg #[.slice A0_0 l0_0.length c0_0, .int .i64 a0_1, .int .i64 a0_2, .int .i64 a0_3, .int .i64 a0_4, .int .i64 a0_5]] ?_; (with_reducible refine (spec_ObjectBox.calls k _ _ l0_0 a0_1 a0_2 a0_3 a0_4 a0_5 t192 t193 t194 t195 _ ?side1 ?side2 A3.out).mono ?_); (case side1 => exact cS (Kd.C_below HR0_0.out HB.out)); (case side2 => exact HC0_0.out); rintro e w7 ⟨rfl, hb⟩; refine ⟨_, rfl, ?_⟩; replace BK191 := kB (g := gb191) hb; replace HB := hB hb; (try clear hb); (try clear hb2); (try clear hk); (try clear hi)) | ((with_reducible refine gD 5 ?_); refine bxE #[.int .i64 0, .int .i64 0, .int .i64 0, .int .i64 0] 43 ?_; intro gb196 hg w8 BK196 hb; have GW196 := gE hg; have GE196 := gE hg; have NB191_196 := nL (g := gb191) hg; have NB196_191 := nG (g := gb191) hg; replace BK191 := kB (g := gb191) hb; replace HB := hB hb; clear hb hg; have hnb9 := NB196_191.out; have hnc9 := NB191_196.out; have hcz10_0 : w8.cell? ⟨gb196, 0, none⟩ = some (.int .i64 0) := (blk_cell BK196.out 0).trans rfl; have hcz10_1 : w8.cell? ⟨gb196, 1, none⟩ = some (.int .i64 0) := (blk_cell BK196.out 1).trans rfl; have hcz10_2 : w8.cell? ⟨gb196, 2, none⟩ = some (.int .i64 0) := (blk_cell BK196.out 2).trans rfl; have hcz10_3 : w8.cell? ⟨gb196, 3, none⟩ = some (.int .i64 0) := (blk_cell BK196.out 3).trans rfl; have hfz10_0 := blk_frozen BK196.out 0; have hfz10_1 := blk_frozen BK196.out 1; have hfz10_2 := blk_frozen BK196.out 2; have hfz10_3 := blk_frozen BK196.out 3))
  (try simp only [Act.put, List.setIfInBounds_toArray, List.set_cons_zero, List.set_cons_succ])
  go_cut [22] (fun v22 wc => ∃ (kq : Nat) (x22_3 : Bool), v22 = .bool x22_3 ∧ Aside0 (spec_ObjectRow.j0 kq a1 x22_3 l0_0 a0_1 a0_2 a0_3 a0_4 a0_5 t192 t193 t194 t195 = some r) ∧ Aside0 (kq ≤ k) ∧ Aside0 (wc.heap[gb191]? = some (.cells #[(.slice A0_0 l0_0.length c0_0), .int .i64 a0_1, .int .i64 a0_2, .int .i64 a0_3, .int .i64 a0_4, .int .i64 a0_5] 45 (0, 0))) ∧ Aside0 (wc.heap[gb196]? = some (.cells #[.int .i64 t192, .int .i64 t193, .int .i64 t194, .int .i64 t195] 43 (0, 0))) ∧ Aside0 (Below w.heap.size w wc))
  case first =>
    have H := HC4.out
    clear HC4
    replace H := bN H
    obtain ⟨t197, A11, H⟩ := H
    by_cases c12 : t197 = 0
    · rw [if_pos c12] at H
      have c12b0 : (t197 == 0) = true := beq_iff_eq.mpr c12
      have c12b1 : (t197 != 0) = false := bne_eq_false_iff_eq.mpr c12
      clear c12
      (first | rw [c12b0] | (simp only [i64_w, i32_w]; rw [c12b0]) | skip)
      have H' := Aside0.mk H
      clear H
      have hnb13 := NB196_191.out
      have hnc13 := NB191_196.out
      have hcz14_0 : w8.cell? ⟨gb196, 0, none⟩ = some (.int .i64 0) := (blk_cell BK196.out 0).trans rfl
      have hcz14_1 : w8.cell? ⟨gb196, 1, none⟩ = some (.int .i64 0) := (blk_cell BK196.out 1).trans rfl
      have hcz14_2 : w8.cell? ⟨gb196, 2, none⟩ = some (.int .i64 0) := (blk_cell BK196.out 2).trans rfl
      have hcz14_3 : w8.cell? ⟨gb196, 3, none⟩ = some (.int .i64 0) := (blk_cell BK196.out 3).trans rfl
      have hfz14_0 := blk_frozen BK196.out 0
      have hfz14_1 := blk_frozen BK196.out 1
      have hfz14_2 := blk_frozen BK196.out 2
      have hfz14_3 := blk_frozen BK196.out 3
      go_wp2_with (first | ((with_reducible refine gC 82 ?_); refine cL (some 9) Try.func82 #[.agg #[.int .i64 t192, .int .i64 t193, .int .i64 t194, .int .i64 t195]] ?_; (with_reducible refine (spec_CountDots.calls t192 t193 t194 t195 t197 _ A11.out).mono ?_); rintro e w15 ⟨rfl, hb⟩; refine ⟨_, rfl, ?_⟩; replace BK191 := kB (g := gb191) hb; replace BK196 := Aside0.mk (blk_below (g := gb196) (o := .cells #[.int .i64 t192, .int .i64 t193, .int .i64 t194, .int .i64 t195] 43 (0, 0)) kS hb); replace HB := hB hb; (try clear hb); (try clear hb2); (try clear hk); (try clear hi)))
      go_meet
      case rel => exact ⟨_, (true), (by first | rfl | (simp; done) | (simp [*]; done)), H', ⟨by first | omega | exact Nat.le_refl _⟩, ⟨kS⟩, ⟨kS⟩, ⟨bS⟩⟩
    · rw [if_neg c12] at H
      have c12b0 : (t197 == 0) = false := beq_eq_false_iff_ne.mpr c12
      have c12b1 : (t197 != 0) = true := bne_iff_ne.mpr c12
      (first | rw [c12b0] | (simp only [i64_w, i32_w]; rw [c12b0]) | skip)
      by_cases c16 : a1 < t193
      · rw [if_pos c16] at H
        have c16b0 : decide (a1 < t193) = true := decide_eq_true c16
        clear c16
        have H' := Aside0.mk H
        clear H
        have hnb17 := NB196_191.out
        have hnc17 := NB191_196.out
        have hcz18_0 : w8.cell? ⟨gb196, 0, none⟩ = some (.int .i64 0) := (blk_cell BK196.out 0).trans rfl
        have hcz18_1 : w8.cell? ⟨gb196, 1, none⟩ = some (.int .i64 0) := (blk_cell BK196.out 1).trans rfl
        have hcz18_2 : w8.cell? ⟨gb196, 2, none⟩ = some (.int .i64 0) := (blk_cell BK196.out 2).trans rfl
        have hcz18_3 : w8.cell? ⟨gb196, 3, none⟩ = some (.int .i64 0) := (blk_cell BK196.out 3).trans rfl
        have hfz18_0 := blk_frozen BK196.out 0
        have hfz18_1 := blk_frozen BK196.out 1
        have hfz18_2 := blk_frozen BK196.out 2
        have hfz18_3 := blk_frozen BK196.out 3
        go_wp2_with (first | ((with_reducible refine gC 82 ?_); refine cL (some 9) Try.func82 #[.agg #[.int .i64 t192, .int .i64 t193, .int .i64 t194, .int .i64 t195]] ?_; (with_reducible refine (spec_CountDots.calls t192 t193 t194 t195 t197 _ A11.out).mono ?_); rintro e w19 ⟨rfl, hb⟩; refine ⟨_, rfl, ?_⟩; replace BK191 := kB (g := gb191) hb; replace BK196 := Aside0.mk (blk_below (g := gb196) (o := .cells #[.int .i64 t192, .int .i64 t193, .int .i64 t194, .int .i64 t195] 43 (0, 0)) kS hb); replace HB := hB hb; (try clear hb); (try clear hb2); (try clear hk); (try clear hi); have hcz20_0 : w19.cell? ⟨gb196, 0, none⟩ = some (.int .i64 t192) := (blk_cell BK196.out 0).trans rfl; have hcz20_1 : w19.cell? ⟨gb196, 1, none⟩ = some (.int .i64 t193) := (blk_cell BK196.out 1).trans rfl; have hcz20_2 : w19.cell? ⟨gb196, 2, none⟩ = some (.int .i64 t194) := (blk_cell BK196.out 2).trans rfl; have hcz20_3 : w19.cell? ⟨gb196, 3, none⟩ = some (.int .i64 t195) := (blk_cell BK196.out 3).trans rfl; have hfz20_0 := blk_frozen BK196.out 0; have hfz20_1 := blk_frozen BK196.out 1; have hfz20_2 := blk_frozen BK196.out 2; have hfz20_3 := blk_frozen BK196.out 3))
        go_meet
        case rel => exact ⟨_, (true), (by first | rfl | (simp; done) | (simp [*]; done)), H', ⟨by first | omega | exact Nat.le_refl _⟩, ⟨kS⟩, ⟨kS⟩, ⟨bS⟩⟩
      · rw [if_neg c16] at H
        have c16b0 : decide (a1 < t193) = false := decide_eq_false c16
        clear c16
        have H' := Aside0.mk H
        clear H
        have hnb21 := NB196_191.out
        have hnc21 := NB191_196.out
        have hcz22_0 : w8.cell? ⟨gb196, 0, none⟩ = some (.int .i64 0) := (blk_cell BK196.out 0).trans rfl
        have hcz22_1 : w8.cell? ⟨gb196, 1, none⟩ = some (.int .i64 0) := (blk_cell BK196.out 1).trans rfl
        have hcz22_2 : w8.cell? ⟨gb196, 2, none⟩ = some (.int .i64 0) := (blk_cell BK196.out 2).trans rfl
        have hcz22_3 : w8.cell? ⟨gb196, 3, none⟩ = some (.int .i64 0) := (blk_cell BK196.out 3).trans rfl
        have hfz22_0 := blk_frozen BK196.out 0
        have hfz22_1 := blk_frozen BK196.out 1
        have hfz22_2 := blk_frozen BK196.out 2
        have hfz22_3 := blk_frozen BK196.out 3
        go_wp2_with (first | ((with_reducible refine gC 82 ?_); refine cL (some 9) Try.func82 #[.agg #[.int .i64 t192, .int .i64 t193, .int .i64 t194, .int .i64 t195]] ?_; (with_reducible refine (spec_CountDots.calls t192 t193 t194 t195 t197 _ A11.out).mono ?_); rintro e w23 ⟨rfl, hb⟩; refine ⟨_, rfl, ?_⟩; replace BK191 := kB (g := gb191) hb; replace BK196 := Aside0.mk (blk_below (g := gb196) (o := .cells #[.int .i64 t192, .int .i64 t193, .int .i64 t194, .int .i64 t195] 43 (0, 0)) kS hb); replace HB := hB hb; (try clear hb); (try clear hb2); (try clear hk); (try clear hi); have hcz24_0 : w23.cell? ⟨gb196, 0, none⟩ = some (.int .i64 t192) := (blk_cell BK196.out 0).trans rfl; have hcz24_1 : w23.cell? ⟨gb196, 1, none⟩ = some (.int .i64 t193) := (blk_cell BK196.out 1).trans rfl; have hcz24_2 : w23.cell? ⟨gb196, 2, none⟩ = some (.int .i64 t194) := (blk_cell BK196.out 2).trans rfl; have hcz24_3 : w23.cell? ⟨gb196, 3, none⟩ = some (.int .i64 t195) := (blk_cell BK196.out 3).trans rfl; have hfz24_0 := blk_frozen BK196.out 0; have hfz24_1 := blk_frozen BK196.out 1; have hfz24_2 := blk_frozen BK196.out 2; have hfz24_3 := blk_frozen BK196.out 3))
        go_meet
        case rel => exact ⟨_, (decide (a1 ≥ t195)), (by first | rfl | (simp; done) | (simp [*]; done)), H', ⟨by first | omega | exact Nat.le_refl _⟩, ⟨kS⟩, ⟨kS⟩, ⟨bS⟩⟩
  case rest =>
    clear HC4
    try clear c1
    try clear c2
    try clear p2
    try clear c8
    try clear c9
    try clear c12
    try clear c12b0
    try clear c12b1
    try clear c13
    try clear c16
    try clear c16b0
    try clear c17
    try clear c21
    try clear c24
    try clear hcz10_0
    try clear hcz10_1
    try clear hcz10_2
    try clear hcz10_3
    try clear hcz14_0
    try clear hcz14_1
    try clear hcz14_2
    try clear hcz14_3
    try clear hcz18_0
    try clear hcz18_1
    try clear hcz18_2
    try clear hcz18_3
    try clear hcz20_0
    try clear hcz20_1
    try clear hcz20_2
    try clear hcz20_3
    try clear hcz22_0
    try clear hcz22_1
    try clear hcz22_2
    try clear hcz22_3
    try clear hcz24_0
    try clear hcz24_1
    try clear hcz24_2
    try clear hcz24_3
    try clear hcz6_0
    try clear hcz6_1
    try clear hcz6_2
    try clear hcz6_3
    try clear hcz6_4
    try clear hcz6_5
    try clear hfz10_0
    try clear hfz10_1
    try clear hfz10_2
    try clear hfz10_3
    try clear hfz14_0
    try clear hfz14_1
    try clear hfz14_2
    try clear hfz14_3
    try clear hfz18_0
    try clear hfz18_1
    try clear hfz18_2
    try clear hfz18_3
    try clear hfz20_0
    try clear hfz20_1
    try clear hfz20_2
    try clear hfz20_3
    try clear hfz22_0
    try clear hfz22_1
    try clear hfz22_2
    try clear hfz22_3
    try clear hfz24_0
    try clear hfz24_1
    try clear hfz24_2
    try clear hfz24_3
    try clear hfz6_0
    try clear hfz6_1
    try clear hfz6_2
    try clear hfz6_3
    try clear hfz6_4
    try clear hfz6_5
    obtain ⟨kq, x22_3, rfl, HA, HJ3, BK191, BK196, HB⟩ := hcut
    cases kq with
    | zero => exact absurd HA.out (by simp [spec_ObjectRow.j0])
    | succ kj3 =>
      have H := HA.out
      clear HA
      simp only [spec_ObjectRow.j0] at H
      by_cases c25 : x22_3 = true
      · subst c25
        rw [if_pos rfl] at H
        obtain ⟨y198, hy198⟩ : ∃ y_ : List (S124), y_ = (([] : List (S124))) := ⟨_, rfl⟩
        replace H : (some y198) = some r := by first | (rw [hy198]; with_reducible exact H) | (have H2_ := (Option.bind_some _ _).symm.trans H; rw [hy198]; with_reducible exact H2_) | (have H2_ := (Option.bind_some _ _).symm.trans H; with_reducible exact H2_) | with_reducible exact H | (rw [hy198]; exact H) | exact H
        have Ny198 := Aside0.mk hy198
        clear hy198
        obtain rfl := Option.some.inj H
        go_wp2_with (first | ((with_reducible refine gate_dst (N := 23) rfl ?_); refine Kd.R_lit k124 _ 124 ?hg (N := 23) ?hd (xs := ([] : List (S124))) (inner := []) (ok := fun _ => True) (okp := fun _ => True) ?hr ?hp (fun _ hk => hk) trivial (Below.refl _ _) (Nat.le_refl _) (by simp) ?_; (case hd => rfl); (case hg => rfl); (case hr => first | (go_simp; done) | (go_simp; rfl)); (case hp => exact (Reps.none _ _)); intro v199 w26 ho27 hb hg_ hnew_; clear hg_ hnew_; (first | rw [← Ny198.out] at ho27 | (simp only [Int.reduceToNat] at ho27; rw [← Ny198.out] at ho27)); have HO200 := Aside0.mk (Kd.R_lower ho27 (below_size bS)); replace BK191 := kB (g := gb191) hb; replace BK196 := kB (g := gb196) hb; replace HB := hB hb; clear hb ho27))
        go_ret
        exact ⟨_, eS, by (with_reducible repeat (first | apply Kd.R_alloc | apply Kd.R_drewN | apply Kd.R_drew)); exact HO200.out, bS⟩
      · obtain rfl := Bool.eq_false_iff.mpr c25
        rw [if_neg nF] at H
        replace H := bN H
        obtain ⟨t201, A28, H⟩ := H
        replace H := bN H
        obtain ⟨t204, A29, H⟩ := H
        obtain rfl := Option.some.inj H
        try go_wp2
        replace BK191 := Aside0.mk (blk_drew BK191.out)
        replace BK196 := Aside0.mk (blk_drew BK196.out)
        replace HB := Aside0.mk (below_drew1 HB.out)
        refine start_ (n := 10) (S := fun w' => w'.cell? ⟨gb191, 0, none⟩ = some (.slice A0_0 l0_0.length c0_0) ∧ w'.cell? ⟨gb191, 1, none⟩ = some (.int .i64 a0_1) ∧ w'.cell? ⟨gb191, 2, none⟩ = some (.int .i64 a0_2) ∧ w'.cell? ⟨gb191, 3, none⟩ = some (.int .i64 a0_3) ∧ w'.cell? ⟨gb191, 4, none⟩ = some (.int .i64 a0_4) ∧ w'.cell? ⟨gb191, 5, none⟩ = some (.int .i64 a0_5) ∧ w'.cell? ⟨gb196, 0, none⟩ = some (.int .i64 t192) ∧ w'.cell? ⟨gb196, 1, none⟩ = some (.int .i64 t193) ∧ w'.cell? ⟨gb196, 2, none⟩ = some (.int .i64 t194) ∧ w'.cell? ⟨gb196, 3, none⟩ = some (.int .i64 t195)) (ds := []) #[false, false, false, false, false, false, false, false, false, false] (by kernel_rfl) rfl rfl ⟨(blk_cell BK191.out 0).trans rfl, (blk_cell BK191.out 1).trans rfl, (blk_cell BK191.out 2).trans rfl, (blk_cell BK191.out 3).trans rfl, (blk_cell BK191.out 4).trans rfl, (blk_cell BK191.out 5).trans rfl, (blk_cell BK196.out 0).trans rfl, (blk_cell BK196.out 1).trans rfl, (blk_cell BK196.out 2).trans rfl, (blk_cell BK196.out 3).trans rfl⟩ (fun hHeld => ?_); refine with_tabW spec_ObjectRow.tab4 spec_ObjectRow.bits4 (fun HT_ HW_ => ?_)
        generalize wc.drew = w30 at BK191 BK196 HB hHeld ⊢
        refine pure_ (i := 0) (N := some 24) (v := ?_) (a' := ?_) #[true, false, false, false, false, false, false, false, false, false] rfl rfl (any_of HT_.out (by kernel_rfl)) (fun _ _ _ h => h) (Or.inl ⟨by rfl, ?_⟩) ?_ ?_
        rotate_left
        · intro w'
          go_simp
          with_reducible rfl
        rotate_left
        · simp only [Act.put, List.setIfInBounds_toArray, List.set_cons_zero, List.set_cons_succ, i64_w, i32_w]
          rfl
        refine pure_ (i := 2) (N := some 26) (v := ?_) (a' := ?_) #[true, false, true, false, false, false, false, false, false, false] rfl rfl (any_of HT_.out (by kernel_rfl)) (fun _ _ _ h => h) (Or.inl ⟨by rfl, ?_⟩) ?_ ?_
        rotate_left
        · intro w'
          go_simp
          with_reducible rfl
        rotate_left
        · simp only [Act.put, List.setIfInBounds_toArray, List.set_cons_zero, List.set_cons_succ, i64_w, i32_w]
          rfl
        refine pure_ (i := 4) (N := some 28) (v := ?_) (a' := ?_) #[true, false, true, false, true, false, false, false, false, false] rfl rfl (any_of HT_.out (by kernel_rfl)) (fun _ _ _ h => h) (Or.inl ⟨by rfl, ?_⟩) ?_ ?_
        rotate_left
        · intro w'
          go_simp
          with_reducible rfl
        rotate_left
        · simp only [Act.put, List.setIfInBounds_toArray, List.set_cons_zero, List.set_cons_succ, i64_w, i32_w]
          rfl
        refine pure_ (i := 6) (N := some 30) (v := ?_) (a' := ?_) #[true, false, true, false, true, false, true, false, false, false] rfl rfl (any_of HT_.out (by kernel_rfl)) (fun _ _ _ h => h) (Or.inl ⟨by rfl, ?_⟩) ?_ ?_
        rotate_left
        · intro w'
          go_simp
          with_reducible rfl
        rotate_left
        · simp only [Act.put, List.setIfInBounds_toArray, List.set_cons_zero, List.set_cons_succ, i64_w, i32_w]
          rfl
        refine take_ (i := 1) (N := some 25) (v := ?_) (a' := ?_) #[true, true, true, false, true, false, true, false, false, false] rfl rfl (take_ofW HT_.out HW_.out (by kernel_rfl)) (fun _ _ _ h => h) (Or.inl ⟨by rfl, ?_⟩) hHeld ?_ ?_
        rotate_left
        · rintro w' ⟨s0, s1, s2, s3, s4, s5, s6, s7, s8, s9⟩
          go_simp
          with_reducible rfl
        rotate_left
        · simp only [Act.put, List.setIfInBounds_toArray, List.set_cons_zero, List.set_cons_succ, i64_w, i32_w]
          rfl
        refine take_ (i := 5) (N := some 29) (v := ?_) (a' := ?_) #[true, true, true, false, true, true, true, false, false, false] rfl rfl (take_ofW HT_.out HW_.out (by kernel_rfl)) (fun _ _ _ h => h) (Or.inl ⟨by rfl, ?_⟩) hHeld ?_ ?_
        rotate_left
        · rintro w' ⟨s0, s1, s2, s3, s4, s5, s6, s7, s8, s9⟩
          go_simp
          with_reducible rfl
        rotate_left
        · simp only [Act.put, List.setIfInBounds_toArray, List.set_cons_zero, List.set_cons_succ, i64_w, i32_w]
          rfl
        refine take_ (i := 7) (N := some 31) (v := ?_) (a' := ?_) #[true, true, true, false, true, true, true, true, false, false] rfl rfl (take_ofW HT_.out HW_.out (by kernel_rfl)) (fun _ _ _ h => h) (Or.inl ⟨by rfl, ?_⟩) hHeld ?_ ?_
        rotate_left
        · rintro w' ⟨s0, s1, s2, s3, s4, s5, s6, s7, s8, s9⟩
          go_simp
          with_reducible rfl
        rotate_left
        · simp only [Act.put, List.setIfInBounds_toArray, List.set_cons_zero, List.set_cons_succ, i64_w, i32_w]
          rfl
        refine one_ (i := 3) (N := some 27) #[true, true, true, true, true, true, true, true, false, false] rfl rfl (one_of HT_.out (by kernel_rfl)) (by decide) (fun K hK => ?_)
        refine goes_ Try.func84 (by kernel_rfl) rfl #[.slice A0_0 l0_0.length c0_0, .int .i64 a1] (by rfl) rfl rfl (by (try simp only [List.map_toArray, List.map_cons, List.map_nil]); first | done | rfl | (simp only [List.length_drop, List.length_take]; rfl)) ?_
        with_reducible refine (spec_SpansAt.calls kj3 _ _ l0_0 a1 t201 _ ?side1 ?side2 A28.out).mono ?_
        (case side1 => exact cS (Kd.C_below HR0_0.out HB.out))
        (case side2 => exact HC0_0.out)
        rintro e w31 ⟨v202, rfl, ho0, hb⟩
        refine ⟨_, rfl, ?_⟩
        have HO203 := Aside0.mk (Kd.R_lower ho0 (below_size bS))
        replace BK191 := kB (g := gb191) hb
        replace BK196 := kB (g := gb196) hb
        replace HB := hB hb
        (try clear hb)
        (try clear hb2)
        (try clear hk)
        (try clear hi)
        (try clear ho0)
        obtain ⟨Ao32, co32, eo32⟩ := Kd.R_slice HO203.out
        (first | subst eo32 | (injection eo32 with f1_ f2_ f3_; have f4_ := f1_.symm; have f5_ := f3_.symm; clear f1_ f2_ f3_; subst f4_; subst f5_))
        refine hK.out _ _ ⟨(blk_cell BK191.out 0).trans rfl, (blk_cell BK191.out 1).trans rfl, (blk_cell BK191.out 2).trans rfl, (blk_cell BK191.out 3).trans rfl, (blk_cell BK191.out 4).trans rfl, (blk_cell BK191.out 5).trans rfl, (blk_cell BK196.out 0).trans rfl, (blk_cell BK196.out 1).trans rfl, (blk_cell BK196.out 2).trans rfl, (blk_cell BK196.out 3).trans rfl⟩ (fun hHeld => ?_)
        clear hK K
        refine norm_ (a' := ?_) ?_ ?_
        rotate_left
        · show Act.put _ (some 27) _ = _
          simp only [Act.put, List.setIfInBounds_toArray, List.set_cons_zero, List.set_cons_succ, i64_w, i32_w]
          rfl
        refine one_ (i := 8) (N := some 32) #[true, true, true, true, true, true, true, true, true, false] rfl rfl (one_of HT_.out (by kernel_rfl)) (by decide) (fun K hK => ?_)
        refine goes_ Try.func83 (by kernel_rfl) rfl #[.slice Ao32 t201.length co32, .int .i64 t192, .int .i64 t194] (by rfl) rfl rfl (by (try simp only [List.map_toArray, List.map_cons, List.map_nil]); first | done | rfl | (simp only [List.length_drop, List.length_take]; rfl)) ?_
        with_reducible refine (spec_MeetSpans.calls kj3 _ _ t201 t192 t194 t204 _ ?side1 ?side2 A29.out).mono ?_
        (case side1 => exact cS (Kd.R_reads' HO203.out).2.2)
        (case side2 => exact (Kd.R_reads' HO203.out).2.1)
        rintro e w33 ⟨v205, rfl, ho0, hb⟩
        refine ⟨_, rfl, ?_⟩
        have HO206 := Aside0.mk (Kd.R_lower (Kd.R_new' ho0 (Kd.R_lt (rS HO203))) (below_size bS))
        replace HO203 := Aside0.mk (Kd.R_elder' (rS HO203) (Kd.R_base ho0) hb)
        replace BK191 := kB (g := gb191) hb
        replace BK196 := kB (g := gb196) hb
        replace HB := hB hb
        (try clear hb)
        (try clear hb2)
        (try clear hk)
        (try clear hi)
        (try clear ho0)
        refine hK.out _ _ ⟨(blk_cell BK191.out 0).trans rfl, (blk_cell BK191.out 1).trans rfl, (blk_cell BK191.out 2).trans rfl, (blk_cell BK191.out 3).trans rfl, (blk_cell BK191.out 4).trans rfl, (blk_cell BK191.out 5).trans rfl, (blk_cell BK196.out 0).trans rfl, (blk_cell BK196.out 1).trans rfl, (blk_cell BK196.out 2).trans rfl, (blk_cell BK196.out 3).trans rfl⟩ (fun hHeld => ?_)
        clear hK K
        refine norm_ (a' := ?_) ?_ ?_
        rotate_left
        · show Act.put _ (some 32) _ = _
          simp only [Act.put, List.setIfInBounds_toArray, List.set_cons_zero, List.set_cons_succ, i64_w, i32_w]
          rfl
        refine pure_ (i := 9) (N := some 4) (v := ?_) (a' := ?_) #[true, true, true, true, true, true, true, true, true, true] rfl rfl (any_of HT_.out (by kernel_rfl)) (fun _ _ _ h => h) (Or.inl ⟨by rfl, ?_⟩) ?_ ?_
        rotate_left
        · intro w'
          go_simp
          with_reducible rfl
        rotate_left
        · simp only [Act.put, List.setIfInBounds_toArray, List.set_cons_zero, List.set_cons_succ, i64_w, i32_w]
          rfl
        refine done_ (done_of HT_.out (by kernel_rfl)) ?_
        try go_wp2
        go_ret
        exact ⟨_, eS, by (with_reducible repeat (first | apply Kd.R_alloc | apply Kd.R_drewN | apply Kd.R_drew)); exact Kd.R_mono HO206.out (fun _ hk => trivial), bS⟩

/-! ### spec_IsHeight: function 137 -/
def spec_IsHeight.f (a0 : Int) : Option (Bool) := if a0 = 1 then (some true) else (if a0 = 2 then (some true) else (if a0 = 4 then (some true) else (if a0 = 8 then (some true) else (if a0 = 16 then (some true) else (some (a0 == 32))))))
theorem spec_IsHeight.calls (a0 : Int) (r : Bool) (w : World) (h : spec_IsHeight.f a0 = some r) :
    Calls Try.prog 137 #[.int .i64 a0] w fun e w' => e = .returned (.bool r) ∧ Drawn0 w w' := by
  have H : (if a0 = 1 then (some true) else (if a0 = 2 then (some true) else (if a0 = 4 then (some true) else (if a0 = 8 then (some true) else (if a0 = 16 then (some true) else (some (a0 == 32))))))) = some r := h
  clear h
  by_cases c2 : a0 = 1
  · rw [if_pos c2] at H
    have c2b0 : (a0 == 1) = true := beq_iff_eq.mpr c2
    have c2b1 : (a0 != 1) = false := bne_eq_false_iff_eq.mpr c2
    clear c2
    obtain rfl := Option.some.inj H
    go_enter Try.func137, Try.ntmps137
    go_wp2
    go_ret
    exact ⟨by first | rfl | (simp; done) | (simp [*]; done), by repeat (first | exact Drawn0.refl _ | apply Drawn0.step)⟩
  · rw [if_neg c2] at H
    have c2b0 : (a0 == 1) = false := beq_eq_false_iff_ne.mpr c2
    have c2b1 : (a0 != 1) = true := bne_iff_ne.mpr c2
    by_cases c3 : a0 = 2
    · rw [if_pos c3] at H
      have c3b0 : (a0 == 2) = true := beq_iff_eq.mpr c3
      have c3b1 : (a0 != 2) = false := bne_eq_false_iff_eq.mpr c3
      clear c3
      obtain rfl := Option.some.inj H
      go_enter Try.func137, Try.ntmps137
      go_wp2
      go_ret
      exact ⟨by first | rfl | (simp; done) | (simp [*]; done), by repeat (first | exact Drawn0.refl _ | apply Drawn0.step)⟩
    · rw [if_neg c3] at H
      have c3b0 : (a0 == 2) = false := beq_eq_false_iff_ne.mpr c3
      have c3b1 : (a0 != 2) = true := bne_iff_ne.mpr c3
      by_cases c4 : a0 = 4
      · rw [if_pos c4] at H
        have c4b0 : (a0 == 4) = true := beq_iff_eq.mpr c4
        have c4b1 : (a0 != 4) = false := bne_eq_false_iff_eq.mpr c4
        clear c4
        obtain rfl := Option.some.inj H
        go_enter Try.func137, Try.ntmps137
        go_wp2
        go_ret
        exact ⟨by first | rfl | (simp; done) | (simp [*]; done), by repeat (first | exact Drawn0.refl _ | apply Drawn0.step)⟩
      · rw [if_neg c4] at H
        have c4b0 : (a0 == 4) = false := beq_eq_false_iff_ne.mpr c4
        have c4b1 : (a0 != 4) = true := bne_iff_ne.mpr c4
        by_cases c5 : a0 = 8
        · rw [if_pos c5] at H
          have c5b0 : (a0 == 8) = true := beq_iff_eq.mpr c5
          have c5b1 : (a0 != 8) = false := bne_eq_false_iff_eq.mpr c5
          clear c5
          obtain rfl := Option.some.inj H
          go_enter Try.func137, Try.ntmps137
          go_wp2
          go_ret
          exact ⟨by first | rfl | (simp; done) | (simp [*]; done), by repeat (first | exact Drawn0.refl _ | apply Drawn0.step)⟩
        · rw [if_neg c5] at H
          have c5b0 : (a0 == 8) = false := beq_eq_false_iff_ne.mpr c5
          have c5b1 : (a0 != 8) = true := bne_iff_ne.mpr c5
          by_cases c6 : a0 = 16
          · rw [if_pos c6] at H
            have c6b0 : (a0 == 16) = true := beq_iff_eq.mpr c6
            have c6b1 : (a0 != 16) = false := bne_eq_false_iff_eq.mpr c6
            clear c6
            obtain rfl := Option.some.inj H
            go_enter Try.func137, Try.ntmps137
            go_wp2
            go_ret
            exact ⟨by first | rfl | (simp; done) | (simp [*]; done), by repeat (first | exact Drawn0.refl _ | apply Drawn0.step)⟩
          · rw [if_neg c6] at H
            have c6b0 : (a0 == 16) = false := beq_eq_false_iff_ne.mpr c6
            have c6b1 : (a0 != 16) = true := bne_iff_ne.mpr c6
            obtain rfl := Option.some.inj H
            go_enter Try.func137, Try.ntmps137
            go_wp2
            go_ret
            exact ⟨by first | rfl | (simp; done) | (simp [*]; done), by repeat (first | exact Drawn0.refl _ | apply Drawn0.step)⟩

/-! ### spec_CountBands: function 67 -/
def spec_CountBands.f (a0 : Int) : Option (Int) := (spec_IsHeight.f a0).bind fun t207 => (if t207 = true then (if a0 = 0 then (none) else (some (wrap64 ((32 : Int) / a0)))) else (some 0))
theorem spec_CountBands.calls (a0 : Int) (r : Int) (w : World) (h : spec_CountBands.f a0 = some r) :
    Calls Try.prog 67 #[.int .i64 a0] w fun e w' => e = .returned (.int .i64 r) ∧ Drawn0 w w' := by
  have H : ((spec_IsHeight.f a0).bind fun t207 => (if t207 = true then (if a0 = 0 then (none) else (some (wrap64 ((32 : Int) / a0)))) else (some 0))) = some r := h
  clear h
  replace H := bN H
  obtain ⟨t207, A2, H⟩ := H
  by_cases c3 : t207 = true
  · subst c3
    rw [if_pos rfl] at H
    by_cases c4 : a0 = 0
    · rw [if_pos c4] at H
      exact absurd H (by simp)
    · rw [if_neg c4] at H
      have c4b0 : (a0 == 0) = false := beq_eq_false_iff_ne.mpr c4
      have c4b1 : (a0 != 0) = true := bne_iff_ne.mpr c4
      obtain rfl := Option.some.inj H
      go_enter Try.func67, Try.ntmps67
      go_wp2_with (first | ((with_reducible refine gC 137 ?_); refine cL (some 4) Try.func137 #[.int .i64 a0] ?_; (with_reducible refine (spec_IsHeight.calls a0 true _ A2.out).mono ?_); rintro e w' ⟨rfl, ⟨nd, rfl⟩⟩; refine ⟨_, rfl, ?_⟩))
      go_ret
      exact ⟨by first | rfl | (simp; done) | (simp [*]; done) | (simp [*, Int.tdiv_eq_ediv_of_nonneg]; done), by repeat (first | exact Drawn0.refl _ | apply Drawn0.step)⟩
  · obtain rfl := Bool.eq_false_iff.mpr c3
    rw [if_neg nF] at H
    obtain rfl := Option.some.inj H
    go_enter Try.func67, Try.ntmps67
    go_wp2_with (first | ((with_reducible refine gC 137 ?_); refine cL (some 4) Try.func137 #[.int .i64 a0] ?_; (with_reducible refine (spec_IsHeight.calls a0 false _ A2.out).mono ?_); rintro e w' ⟨rfl, ⟨nd, rfl⟩⟩; refine ⟨_, rfl, ?_⟩))
    go_ret
    exact ⟨by first | rfl | (simp; done) | (simp [*]; done) | (simp [*, Int.tdiv_eq_ediv_of_nonneg]; done), by repeat (first | exact Drawn0.refl _ | apply Drawn0.step)⟩

/-! ### spec_l12Ok: function 96 -/
def spec_l12Ok.f (a0 : Int) (a1 : Int) : Option (Bool) := (spec_CountBands.f a0).bind fun t208 => ((spec_l01In.f a1 0 (wrap64 (t208 - 1))).bind fun t209 => (some t209))
theorem spec_l12Ok.calls (a0 : Int) (a1 : Int) (r : Bool) (w : World) (h : spec_l12Ok.f a0 a1 = some r) :
    Calls Try.prog 96 #[.int .i64 a0, .int .i64 a1] w fun e w' => e = .returned (.bool r) ∧ Drawn0 w w' := by
  have H : ((spec_CountBands.f a0).bind fun t208 => ((spec_l01In.f a1 0 (wrap64 (t208 - 1))).bind fun t209 => (some t209))) = some r := h
  clear h
  replace H := bN H
  obtain ⟨t208, A3, H⟩ := H
  replace H := bN H
  obtain ⟨t209, A4, H⟩ := H
  obtain rfl := Option.some.inj H
  go_enter Try.func96, Try.ntmps96
  go_wp2_with (first | ((with_reducible refine gC 67 ?_); refine cL (some 7) Try.func67 #[.int .i64 a0] ?_; (with_reducible refine (spec_CountBands.calls a0 t208 _ A3.out).mono ?_); rintro e w' ⟨rfl, ⟨nd, rfl⟩⟩; refine ⟨_, rfl, ?_⟩) | ((with_reducible refine gC 123 ?_); refine cL (some 9) Try.func123 #[.int .i64 a1, .int .i64 0, .int .i64 (wrap64 (t208 - 1))] ?_; (with_reducible refine (spec_l01In.calls a1 0 (wrap64 (t208 - 1)) t209 _ A4.out).mono ?_); rintro e w' ⟨rfl, ⟨nd, rfl⟩⟩; refine ⟨_, rfl, ?_⟩))
  go_ret
  exact ⟨by first | rfl | (simp; done) | (simp [*]; done), by repeat (first | exact Drawn0.refl _ | apply Drawn0.step)⟩

/-! ### spec_TouchesBand: function 100 -/
def spec_TouchesBand.f (k : Nat) (l0_0 : List (S171)) (a0_1 : Int) (a0_2 : Int) (a0_3 : Int) (a0_4 : Int) (a0_5 : Int) (a1 : Int) (a2 : Int) : Option (Bool) := (spec_ObjectBox.f k l0_0 a0_1 a0_2 a0_3 a0_4 a0_5).bind fun bt211 => ((spec_l12Ok.f a1 a2).bind fun t216 => (if t216 = true then ((spec_CountDots.f bt211.1 bt211.2.1 bt211.2.2.1 bt211.2.2.2).bind fun t217 => (if t217 > 0 then (if bt211.2.1 < (wrap64 ((wrap64 (a2 * a1)) + a1)) then (some (decide (bt211.2.2.2 > (wrap64 (a2 * a1))))) else (some false)) else (some false))) else (some false)))
theorem spec_TouchesBand.calls (k : Nat) (A0_0 : Option Addr) (c0_0 : Nat) (l0_0 : List (S171)) (a0_1 : Int) (a0_2 : Int) (a0_3 : Int) (a0_4 : Int) (a0_5 : Int) (a1 : Int) (a2 : Int) (r : Bool) (w : World) (hr0_0 : Kd.C k171 w A0_0 l0_0.length l0_0) (hc0_0 : l0_0.length ≤ c0_0) (h : spec_TouchesBand.f k l0_0 a0_1 a0_2 a0_3 a0_4 a0_5 a1 a2 = some r) :
    Calls Try.prog 100 #[.agg #[.slice A0_0 l0_0.length c0_0, .int .i64 a0_1, .int .i64 a0_2, .int .i64 a0_3, .int .i64 a0_4, .int .i64 a0_5], .int .i64 a1, .int .i64 a2] w fun e w' => e = .returned (.bool r) ∧ Below w.heap.size w w' := by
  have hu45 := Try.underlying45
  have hu43 := Try.underlying43
  have HR0_0 := Aside0.mk hr0_0
  have HC0_0 := Aside0.mk hc0_0
  clear hr0_0 hc0_0
  have HB := Aside0.mk (Below.refl w.heap.size w)
  have H : ((spec_ObjectBox.f k l0_0 a0_1 a0_2 a0_3 a0_4 a0_5).bind fun bt211 => ((spec_l12Ok.f a1 a2).bind fun t216 => (if t216 = true then ((spec_CountDots.f bt211.1 bt211.2.1 bt211.2.2.1 bt211.2.2.2).bind fun t217 => (if t217 > 0 then (if bt211.2.1 < (wrap64 ((wrap64 (a2 * a1)) + a1)) then (some (decide (bt211.2.2.2 > (wrap64 (a2 * a1))))) else (some false)) else (some false))) else (some false)))) = some r := h
  clear h
  replace H := bN H
  obtain ⟨⟨t211, t212, t213, t214⟩, A4, H⟩ := H
  replace H := bN H
  obtain ⟨t216, A5, H⟩ := H
  by_cases c6 : t216 = true
  · subst c6
    rw [if_pos rfl] at H
    replace H := bN H
    obtain ⟨t217, A7, H⟩ := H
    by_cases c8 : t217 > 0
    · rw [if_pos c8] at H
      have c8b0 : decide (0 < t217) = true := decide_eq_true c8
      clear c8
      by_cases c9 : t212 < (wrap64 ((wrap64 (a2 * a1)) + a1))
      · rw [if_pos c9] at H
        have c9b0 : decide (t212 < (wrap64 ((wrap64 (a2 * a1)) + a1))) = true := decide_eq_true c9
        clear c9
        obtain rfl := Option.some.inj H
        go_enter Try.func100, Try.ntmps100
        go_wp2_with (first | ((with_reducible refine gD 3 ?_); refine bxE #[.slice A0_0 l0_0.length c0_0, .int .i64 a0_1, .int .i64 a0_2, .int .i64 a0_3, .int .i64 a0_4, .int .i64 a0_5] 45 ?_; intro gb210 hg w10 BK210 hb; have GW210 := gE hg; have GE210 := gE hg; replace HB := hB hb; clear hb hg; have hz11 := cz6 BK210) | ((with_reducible refine gC 81 ?_); refine cL (some 9) Try.func81 #[.agg #[.slice A0_0 l0_0.length c0_0, .int .i64 a0_1, .int .i64 a0_2, .int .i64 a0_3, .int .i64 a0_4, .int .i64 a0_5]] ?_; (with_reducible refine (spec_ObjectBox.calls k _ _ l0_0 a0_1 a0_2 a0_3 a0_4 a0_5 t211 t212 t213 t214 _ ?side1 ?side2 A4.out).mono ?_); (case side1 => exact cS (Kd.C_below HR0_0.out HB.out)); (case side2 => exact HC0_0.out); rintro e w12 ⟨rfl, hb⟩; refine ⟨_, rfl, ?_⟩; replace BK210 := kB (g := gb210) hb; replace HB := hB hb; (try clear hb); (try clear hb2); (try clear hk); (try clear hi)) | ((with_reducible refine gD 7 ?_); refine bxE #[.int .i64 0, .int .i64 0, .int .i64 0, .int .i64 0] 43 ?_; intro gb215 hg w13 BK215 hb; have GW215 := gE hg; have GE215 := gE hg; have NB210_215 := nL (g := gb210) hg; have NB215_210 := nG (g := gb210) hg; replace BK210 := kB (g := gb210) hb; replace HB := hB hb; clear hb hg; have hnb14 := NB215_210.out; have hnc14 := NB210_215.out; have hz15 := cz4 BK215) | ((with_reducible refine gC 96 ?_); refine cL (some 12) Try.func96 #[.int .i64 a1, .int .i64 a2] ?_; (with_reducible refine (spec_l12Ok.calls a1 a2 true _ A5.out).mono ?_); rintro e w' ⟨rfl, ⟨nd, rfl⟩⟩; refine ⟨_, rfl, ?_⟩) | (go_at_call 82; (with_reducible refine (spec_CountDots.calls t211 t212 t213 t214 t217 _ A7.out).mono ?_); rintro e w16 ⟨rfl, hb⟩; replace BK210 := kB (g := gb210) hb; replace BK215 := Aside0.mk (blk_below (g := gb215) (o := .cells #[.int .i64 t211, .int .i64 t212, .int .i64 t213, .int .i64 t214] 43 (0, 0)) kS hb); replace HB := hB hb; (try clear hb); (try clear hb2); (try clear hk); (try clear hi); have hz17 := cz4 BK215))
        go_ret
        exact ⟨eS, bS⟩
      · rw [if_neg c9] at H
        have c9b0 : decide (t212 < (wrap64 ((wrap64 (a2 * a1)) + a1))) = false := decide_eq_false c9
        clear c9
        obtain rfl := Option.some.inj H
        go_enter Try.func100, Try.ntmps100
        go_wp2_with (first | ((with_reducible refine gD 3 ?_); refine bxE #[.slice A0_0 l0_0.length c0_0, .int .i64 a0_1, .int .i64 a0_2, .int .i64 a0_3, .int .i64 a0_4, .int .i64 a0_5] 45 ?_; intro gb210 hg w18 BK210 hb; have GW210 := gE hg; have GE210 := gE hg; replace HB := hB hb; clear hb hg; have hz19 := cz6 BK210) | ((with_reducible refine gC 81 ?_); refine cL (some 9) Try.func81 #[.agg #[.slice A0_0 l0_0.length c0_0, .int .i64 a0_1, .int .i64 a0_2, .int .i64 a0_3, .int .i64 a0_4, .int .i64 a0_5]] ?_; (with_reducible refine (spec_ObjectBox.calls k _ _ l0_0 a0_1 a0_2 a0_3 a0_4 a0_5 t211 t212 t213 t214 _ ?side1 ?side2 A4.out).mono ?_); (case side1 => exact cS (Kd.C_below HR0_0.out HB.out)); (case side2 => exact HC0_0.out); rintro e w20 ⟨rfl, hb⟩; refine ⟨_, rfl, ?_⟩; replace BK210 := kB (g := gb210) hb; replace HB := hB hb; (try clear hb); (try clear hb2); (try clear hk); (try clear hi)) | ((with_reducible refine gD 7 ?_); refine bxE #[.int .i64 0, .int .i64 0, .int .i64 0, .int .i64 0] 43 ?_; intro gb215 hg w21 BK215 hb; have GW215 := gE hg; have GE215 := gE hg; have NB210_215 := nL (g := gb210) hg; have NB215_210 := nG (g := gb210) hg; replace BK210 := kB (g := gb210) hb; replace HB := hB hb; clear hb hg; have hnb22 := NB215_210.out; have hnc22 := NB210_215.out; have hz23 := cz4 BK215) | ((with_reducible refine gC 96 ?_); refine cL (some 12) Try.func96 #[.int .i64 a1, .int .i64 a2] ?_; (with_reducible refine (spec_l12Ok.calls a1 a2 true _ A5.out).mono ?_); rintro e w' ⟨rfl, ⟨nd, rfl⟩⟩; refine ⟨_, rfl, ?_⟩) | (go_at_call 82; (with_reducible refine (spec_CountDots.calls t211 t212 t213 t214 t217 _ A7.out).mono ?_); rintro e w24 ⟨rfl, hb⟩; replace BK210 := kB (g := gb210) hb; replace BK215 := Aside0.mk (blk_below (g := gb215) (o := .cells #[.int .i64 t211, .int .i64 t212, .int .i64 t213, .int .i64 t214] 43 (0, 0)) kS hb); replace HB := hB hb; (try clear hb); (try clear hb2); (try clear hk); (try clear hi); have hz25 := cz4 BK215))
        go_ret
        exact ⟨eS, bS⟩
    · rw [if_neg c8] at H
      have c8b0 : decide (0 < t217) = false := decide_eq_false c8
      clear c8
      obtain rfl := Option.some.inj H
      go_enter Try.func100, Try.ntmps100
      go_wp2_with (first | ((with_reducible refine gD 3 ?_); refine bxE #[.slice A0_0 l0_0.length c0_0, .int .i64 a0_1, .int .i64 a0_2, .int .i64 a0_3, .int .i64 a0_4, .int .i64 a0_5] 45 ?_; intro gb210 hg w26 BK210 hb; have GW210 := gE hg; have GE210 := gE hg; replace HB := hB hb; clear hb hg; have hz27 := cz6 BK210) | ((with_reducible refine gC 81 ?_); refine cL (some 9) Try.func81 #[.agg #[.slice A0_0 l0_0.length c0_0, .int .i64 a0_1, .int .i64 a0_2, .int .i64 a0_3, .int .i64 a0_4, .int .i64 a0_5]] ?_; (with_reducible refine (spec_ObjectBox.calls k _ _ l0_0 a0_1 a0_2 a0_3 a0_4 a0_5 t211 t212 t213 t214 _ ?side1 ?side2 A4.out).mono ?_); (case side1 => exact cS (Kd.C_below HR0_0.out HB.out)); (case side2 => exact HC0_0.out); rintro e w28 ⟨rfl, hb⟩; refine ⟨_, rfl, ?_⟩; replace BK210 := kB (g := gb210) hb; replace HB := hB hb; (try clear hb); (try clear hb2); (try clear hk); (try clear hi)) | ((with_reducible refine gD 7 ?_); refine bxE #[.int .i64 0, .int .i64 0, .int .i64 0, .int .i64 0] 43 ?_; intro gb215 hg w29 BK215 hb; have GW215 := gE hg; have GE215 := gE hg; have NB210_215 := nL (g := gb210) hg; have NB215_210 := nG (g := gb210) hg; replace BK210 := kB (g := gb210) hb; replace HB := hB hb; clear hb hg; have hnb30 := NB215_210.out; have hnc30 := NB210_215.out; have hz31 := cz4 BK215) | ((with_reducible refine gC 96 ?_); refine cL (some 12) Try.func96 #[.int .i64 a1, .int .i64 a2] ?_; (with_reducible refine (spec_l12Ok.calls a1 a2 true _ A5.out).mono ?_); rintro e w' ⟨rfl, ⟨nd, rfl⟩⟩; refine ⟨_, rfl, ?_⟩) | (go_at_call 82; (with_reducible refine (spec_CountDots.calls t211 t212 t213 t214 t217 _ A7.out).mono ?_); rintro e w32 ⟨rfl, hb⟩; replace BK210 := kB (g := gb210) hb; replace BK215 := Aside0.mk (blk_below (g := gb215) (o := .cells #[.int .i64 t211, .int .i64 t212, .int .i64 t213, .int .i64 t214] 43 (0, 0)) kS hb); replace HB := hB hb; (try clear hb); (try clear hb2); (try clear hk); (try clear hi)))
      go_ret
      exact ⟨eS, bS⟩
  · obtain rfl := Bool.eq_false_iff.mpr c6
    rw [if_neg nF] at H
    obtain rfl := Option.some.inj H
    go_enter Try.func100, Try.ntmps100
    go_wp2_with (first | ((with_reducible refine gD 3 ?_); refine bxE #[.slice A0_0 l0_0.length c0_0, .int .i64 a0_1, .int .i64 a0_2, .int .i64 a0_3, .int .i64 a0_4, .int .i64 a0_5] 45 ?_; intro gb210 hg w33 BK210 hb; have GW210 := gE hg; have GE210 := gE hg; replace HB := hB hb; clear hb hg; have hz34 := cz6 BK210) | ((with_reducible refine gC 81 ?_); refine cL (some 9) Try.func81 #[.agg #[.slice A0_0 l0_0.length c0_0, .int .i64 a0_1, .int .i64 a0_2, .int .i64 a0_3, .int .i64 a0_4, .int .i64 a0_5]] ?_; (with_reducible refine (spec_ObjectBox.calls k _ _ l0_0 a0_1 a0_2 a0_3 a0_4 a0_5 t211 t212 t213 t214 _ ?side1 ?side2 A4.out).mono ?_); (case side1 => exact cS (Kd.C_below HR0_0.out HB.out)); (case side2 => exact HC0_0.out); rintro e w35 ⟨rfl, hb⟩; refine ⟨_, rfl, ?_⟩; replace BK210 := kB (g := gb210) hb; replace HB := hB hb; (try clear hb); (try clear hb2); (try clear hk); (try clear hi)) | ((with_reducible refine gD 7 ?_); refine bxE #[.int .i64 0, .int .i64 0, .int .i64 0, .int .i64 0] 43 ?_; intro gb215 hg w36 BK215 hb; have GW215 := gE hg; have GE215 := gE hg; have NB210_215 := nL (g := gb210) hg; have NB215_210 := nG (g := gb210) hg; replace BK210 := kB (g := gb210) hb; replace HB := hB hb; clear hb hg; have hnb37 := NB215_210.out; have hnc37 := NB210_215.out; have hz38 := cz4 BK215) | ((with_reducible refine gC 96 ?_); refine cL (some 12) Try.func96 #[.int .i64 a1, .int .i64 a2] ?_; (with_reducible refine (spec_l12Ok.calls a1 a2 false _ A5.out).mono ?_); rintro e w' ⟨rfl, ⟨nd, rfl⟩⟩; refine ⟨_, rfl, ?_⟩))
    go_ret
    exact ⟨eS, bS⟩

/-! ### spec_SpanDots: function 101 -/
def spec_SpanDots.l0 : Nat → List (S124) → Int → Int → Option (Int)
  | 0, _, _, _ => none
  | k + 1, x0, x3, x4 => if x4 < (x0.length : Int) then ((spec_SpansOk.f k x0).bind fun t218 => (if t218 = true then (if 0 ≤ x4 then (spec_SpanDots.l0 k x0 (wrap64 ((wrap64 (x3 + ((rd_T124 x0 x4).f1))) - ((rd_T124 x0 x4).f0))) (wrap64 (x4 + 1))) else (none)) else (some x3))) else (some x3)
def spec_SpanDots.f (k : Nat) (l0 : List (S124)) : Option (Int) := spec_SpanDots.l0 k l0 0 0
theorem spec_SpanDots.calls (k : Nat) (A0 : Option Addr) (c0 : Nat) (l0 : List (S124)) (r : Int) (w : World) (hr0 : Kd.C k124 w A0 l0.length l0) (hc0 : l0.length ≤ c0) (h : spec_SpanDots.f k l0 = some r) :
    Calls Try.prog 101 #[.slice A0 l0.length c0] w fun e w' => e = .returned (.int .i64 r) ∧ Drawn0 w w' := by
  have HR0 := Aside0.mk hr0
  have HC0 := Aside0.mk hc0
  clear hr0 hc0
  have H : (spec_SpanDots.l0 k l0 0 0) = some r := h
  clear h
  have H' := Aside0.mk H
  clear H
  go_enter Try.func101, Try.ntmps101
  go_wp2
  repeat (go_quiet (fail); try go_wp2)
  go_loopg [3, 4] k (fun kq v3 v4 w' => ∃ (x3_1 : Int) (x4_1 : Int), v3 = .int .i64 x3_1 ∧ v4 = .int .i64 x4_1 ∧ Aside0 (spec_SpanDots.l0 kq l0 x3_1 x4_1 = some r) ∧ Aside0 (kq ≤ k) ∧ Drawn0 w w')
  case atStart => exact ⟨(0), (0), (by first | rfl | (simp; done) | (simp [*]; done)), (by first | rfl | (simp; done) | (simp [*]; done)), H', ⟨Nat.le_refl _⟩, by repeat (first | exact Drawn0.refl _ | apply Drawn0.step)⟩
  case round =>
    clear H'
    try clear c1
    obtain ⟨x3_1, x4_1, rfl, rfl, HA, HK1, ⟨m1, rfl⟩⟩ := hrel
    cases gk with
    | zero => exact absurd HA.out (by simp [spec_SpanDots.l0])
    | succ k1 =>
      have H := HA.out
      clear HA
      simp only [spec_SpanDots.l0] at H
      by_cases c2 : x4_1 < (l0.length : Int)
      · rw [if_pos c2] at H
        have c2b0 : decide (x4_1 < (l0.length : Int)) = true := decide_eq_true c2
        clear c2
        replace H := bN H
        obtain ⟨t218, A3, H⟩ := H
        by_cases c4 : t218 = true
        · subst c4
          rw [if_pos rfl] at H
          by_cases c5 : 0 ≤ x4_1
          · rw [if_pos c5] at H
            have c5b0 : decide (0 ≤ x4_1) = true := decide_eq_true c5
            clear c5
            have H' := Aside0.mk H
            clear H
            go_wp2_with (first | (go_at_call 146; (with_reducible refine (spec_SpansOk.calls k1 _ _ l0 true _ ?side1 ?side2 A3.out).mono ?_); (case side1 => repeat (first | exact HR0.out | (with_reducible refine Kd.C_alloc ?_ _) | (with_reducible refine Kd.C_drewN ?_ _) | (with_reducible refine Kd.C_drew ?_))); (case side2 => exact HC0.out); rintro e w' ⟨rfl, ⟨nd, rfl⟩⟩; (try first | exact ⟨rfl, _, World.drewN_drewN _ _ _⟩ | exact ⟨rfl, _, Eq.trans (World.drewN_drewN _ _ _) (congrArg (World.drewN _) (Nat.add_assoc _ _ _))⟩); have p219 : 0 ≤ (x4_1 : Int) := of_decide_eq_true (by first | (with_reducible assumption) | assumption); have q219 : x4_1 < (l0.length : Int) := of_decide_eq_true (by first | (with_reducible assumption) | assumption); obtain ⟨ad219, e219, hx219_0, hx219_1⟩ := at_T124 HR0.out x4_1 p219 q219; cases e219; replace p219 := eq_true p219; replace q219 := eq_true q219; have p220 : 0 ≤ (x4_1 : Int) := of_decide_eq_true (by first | (with_reducible assumption) | assumption); have q220 : x4_1 < (l0.length : Int) := of_decide_eq_true (by first | (with_reducible assumption) | assumption); obtain ⟨ad220, e220, hx220_0, hx220_1⟩ := at_T124 HR0.out x4_1 p220 q220; obtain rfl : ad219 = ad220 := (by injection e220); replace p220 := eq_true p220; replace q220 := eq_true q220))
            repeat (go_quiet (first | (go_at_call 146; (with_reducible refine (spec_SpansOk.calls k1 _ _ l0 true _ ?side1 ?side2 A3.out).mono ?_); (case side1 => repeat (first | exact HR0.out | (with_reducible refine Kd.C_alloc ?_ _) | (with_reducible refine Kd.C_drewN ?_ _) | (with_reducible refine Kd.C_drew ?_))); (case side2 => exact HC0.out); rintro e w' ⟨rfl, ⟨nd, rfl⟩⟩; (try first | exact ⟨rfl, _, World.drewN_drewN _ _ _⟩ | exact ⟨rfl, _, Eq.trans (World.drewN_drewN _ _ _) (congrArg (World.drewN _) (Nat.add_assoc _ _ _))⟩); have p219 : 0 ≤ (x4_1 : Int) := of_decide_eq_true (by first | (with_reducible assumption) | assumption); have q219 : x4_1 < (l0.length : Int) := of_decide_eq_true (by first | (with_reducible assumption) | assumption); obtain ⟨ad219, e219, hx219_0, hx219_1⟩ := at_T124 HR0.out x4_1 p219 q219; cases e219; replace p219 := eq_true p219; replace q219 := eq_true q219; have p220 : 0 ≤ (x4_1 : Int) := of_decide_eq_true (by first | (with_reducible assumption) | assumption); have q220 : x4_1 < (l0.length : Int) := of_decide_eq_true (by first | (with_reducible assumption) | assumption); obtain ⟨ad220, e220, hx220_0, hx220_1⟩ := at_T124 HR0.out x4_1 p220 q220; obtain rfl : ad219 = ad220 := (by injection e220); replace p220 := eq_true p220; replace q220 := eq_true q220)); try go_wp2_with (first | (go_at_call 146; (with_reducible refine (spec_SpansOk.calls k1 _ _ l0 true _ ?side1 ?side2 A3.out).mono ?_); (case side1 => repeat (first | exact HR0.out | (with_reducible refine Kd.C_alloc ?_ _) | (with_reducible refine Kd.C_drewN ?_ _) | (with_reducible refine Kd.C_drew ?_))); (case side2 => exact HC0.out); rintro e w' ⟨rfl, ⟨nd, rfl⟩⟩; (try first | exact ⟨rfl, _, World.drewN_drewN _ _ _⟩ | exact ⟨rfl, _, Eq.trans (World.drewN_drewN _ _ _) (congrArg (World.drewN _) (Nat.add_assoc _ _ _))⟩); have p219 : 0 ≤ (x4_1 : Int) := of_decide_eq_true (by first | (with_reducible assumption) | assumption); have q219 : x4_1 < (l0.length : Int) := of_decide_eq_true (by first | (with_reducible assumption) | assumption); obtain ⟨ad219, e219, hx219_0, hx219_1⟩ := at_T124 HR0.out x4_1 p219 q219; cases e219; replace p219 := eq_true p219; replace q219 := eq_true q219; have p220 : 0 ≤ (x4_1 : Int) := of_decide_eq_true (by first | (with_reducible assumption) | assumption); have q220 : x4_1 < (l0.length : Int) := of_decide_eq_true (by first | (with_reducible assumption) | assumption); obtain ⟨ad220, e220, hx220_0, hx220_1⟩ := at_T124 HR0.out x4_1 p220 q220; obtain rfl : ad219 = ad220 := (by injection e220); replace p220 := eq_true p220; replace q220 := eq_true q220)))
            go_roundg k1
            case measure => have := HK1.out; omega
            case rel => exact ⟨(wrap64 ((wrap64 (x3_1 + ((rd_T124 l0 x4_1).f1))) - ((rd_T124 l0 x4_1).f0))), (wrap64 (x4_1 + 1)), (by first | rfl | (simp; done) | (simp [*]; done)), (by first | rfl | (simp; done) | (simp [*]; done)), H', ⟨by have := HK1.out; omega⟩, by repeat (first | exact Drawn0.refl _ | apply Drawn0.step)⟩
          · rw [if_neg c5] at H
            exact absurd H (by simp)
        · obtain rfl := Bool.eq_false_iff.mpr c4
          rw [if_neg nF] at H
          obtain rfl := Option.some.inj H
          go_wp2_with (first | (go_at_call 146; (with_reducible refine (spec_SpansOk.calls k1 _ _ l0 false _ ?side1 ?side2 A3.out).mono ?_); (case side1 => repeat (first | exact HR0.out | (with_reducible refine Kd.C_alloc ?_ _) | (with_reducible refine Kd.C_drewN ?_ _) | (with_reducible refine Kd.C_drew ?_))); (case side2 => exact HC0.out); rintro e w' ⟨rfl, ⟨nd, rfl⟩⟩; (try first | exact ⟨rfl, _, World.drewN_drewN _ _ _⟩ | exact ⟨rfl, _, Eq.trans (World.drewN_drewN _ _ _) (congrArg (World.drewN _) (Nat.add_assoc _ _ _))⟩)))
          repeat (go_quiet (first | (go_at_call 146; (with_reducible refine (spec_SpansOk.calls k1 _ _ l0 false _ ?side1 ?side2 A3.out).mono ?_); (case side1 => repeat (first | exact HR0.out | (with_reducible refine Kd.C_alloc ?_ _) | (with_reducible refine Kd.C_drewN ?_ _) | (with_reducible refine Kd.C_drew ?_))); (case side2 => exact HC0.out); rintro e w' ⟨rfl, ⟨nd, rfl⟩⟩; (try first | exact ⟨rfl, _, World.drewN_drewN _ _ _⟩ | exact ⟨rfl, _, Eq.trans (World.drewN_drewN _ _ _) (congrArg (World.drewN _) (Nat.add_assoc _ _ _))⟩))); try go_wp2_with (first | (go_at_call 146; (with_reducible refine (spec_SpansOk.calls k1 _ _ l0 false _ ?side1 ?side2 A3.out).mono ?_); (case side1 => repeat (first | exact HR0.out | (with_reducible refine Kd.C_alloc ?_ _) | (with_reducible refine Kd.C_drewN ?_ _) | (with_reducible refine Kd.C_drew ?_))); (case side2 => exact HC0.out); rintro e w' ⟨rfl, ⟨nd, rfl⟩⟩; (try first | exact ⟨rfl, _, World.drewN_drewN _ _ _⟩ | exact ⟨rfl, _, Eq.trans (World.drewN_drewN _ _ _) (congrArg (World.drewN _) (Nat.add_assoc _ _ _))⟩))))
          go_ret
          exact ⟨by first | rfl | (simp; done) | (simp [*]; done), by repeat (first | exact Drawn0.refl _ | apply Drawn0.step)⟩
      · rw [if_neg c2] at H
        have c2b0 : decide (x4_1 < (l0.length : Int)) = false := decide_eq_false c2
        clear c2
        obtain rfl := Option.some.inj H
        go_wp2
        repeat (go_quiet (fail); try go_wp2)
        go_ret
        exact ⟨by first | rfl | (simp; done) | (simp [*]; done), by repeat (first | exact Drawn0.refl _ | apply Drawn0.step)⟩

/-! ### spec_PaintTime: function 37 -/
def spec_PaintTime.l0 : Nat → Int → Int → Int → Int → List (S171) → Int → Int → Int → Int → Int → Option (Int)
  | 0, _, _, _, _, _, _, _, _, _, _ => none
  | k + 1, x1, x2, x7, x8, x222000, x222001, x222002, x222003, x222004, x222005 => if x8 < (wrap64 ((wrap64 (x2 * x1)) + x1)) then ((spec_ObjectRow.f k x222000 x222001 x222002 x222003 x222004 x222005 x8).bind fun t223 => ((spec_SpanDots.f k t223).bind fun t226 => (spec_PaintTime.l0 k x1 x2 (wrap64 ((wrap64 (x7 + (t223.length : Int))) + (wrap64 (Int.tdiv (wrap64 (t226 + 7)) 8)))) (wrap64 (x8 + 1)) x222000 x222001 x222002 x222003 x222004 x222005))) else (some x7)
def spec_PaintTime.f (k : Nat) (l0_0 : List (S171)) (a0_1 : Int) (a0_2 : Int) (a0_3 : Int) (a0_4 : Int) (a0_5 : Int) (a1 : Int) (a2 : Int) : Option (Int) := (spec_TouchesBand.f k l0_0 a0_1 a0_2 a0_3 a0_4 a0_5 a1 a2).bind fun t222 => (if t222 = true then (spec_PaintTime.l0 k a1 a2 2 (wrap64 (a2 * a1)) l0_0 a0_1 a0_2 a0_3 a0_4 a0_5) else (some 0))
theorem spec_PaintTime.calls (k : Nat) (A0_0 : Option Addr) (c0_0 : Nat) (l0_0 : List (S171)) (a0_1 : Int) (a0_2 : Int) (a0_3 : Int) (a0_4 : Int) (a0_5 : Int) (a1 : Int) (a2 : Int) (r : Int) (w : World) (hr0_0 : Kd.C k171 w A0_0 l0_0.length l0_0) (hc0_0 : l0_0.length ≤ c0_0) (h : spec_PaintTime.f k l0_0 a0_1 a0_2 a0_3 a0_4 a0_5 a1 a2 = some r) :
    Calls Try.prog 37 #[.agg #[.slice A0_0 l0_0.length c0_0, .int .i64 a0_1, .int .i64 a0_2, .int .i64 a0_3, .int .i64 a0_4, .int .i64 a0_5], .int .i64 a1, .int .i64 a2] w fun e w' => e = .returned (.int .i64 r) ∧ Below w.heap.size w w' := by
  have hu45 := Try.underlying45
  have HR0_0 := Aside0.mk hr0_0
  have HC0_0 := Aside0.mk hc0_0
  clear hr0_0 hc0_0
  have HB := Aside0.mk (Below.refl w.heap.size w)
  have H : ((spec_TouchesBand.f k l0_0 a0_1 a0_2 a0_3 a0_4 a0_5 a1 a2).bind fun t222 => (if t222 = true then (spec_PaintTime.l0 k a1 a2 2 (wrap64 (a2 * a1)) l0_0 a0_1 a0_2 a0_3 a0_4 a0_5) else (some 0))) = some r := h
  clear h
  replace H := bN H
  obtain ⟨t222, A4, H⟩ := H
  by_cases c5 : t222 = true
  · subst c5
    rw [if_pos rfl] at H
    have H' := Aside0.mk H
    clear H
    go_enter Try.func37, Try.ntmps37
    go_wp2_with (first | ((with_reducible refine gD 3 ?_); refine bxE #[.slice A0_0 l0_0.length c0_0, .int .i64 a0_1, .int .i64 a0_2, .int .i64 a0_3, .int .i64 a0_4, .int .i64 a0_5] 45 ?_; intro gb221 hg w6 BK221 hb; have GW221 := gE hg; have GE221 := gE hg; replace HB := hB hb; clear hb hg; have hcz7_0 : w6.cell? ⟨gb221, 0, none⟩ = some (.slice A0_0 l0_0.length c0_0) := (blk_cell BK221.out 0).trans rfl; have hcz7_1 : w6.cell? ⟨gb221, 1, none⟩ = some (.int .i64 a0_1) := (blk_cell BK221.out 1).trans rfl; have hcz7_2 : w6.cell? ⟨gb221, 2, none⟩ = some (.int .i64 a0_2) := (blk_cell BK221.out 2).trans rfl; have hcz7_3 : w6.cell? ⟨gb221, 3, none⟩ = some (.int .i64 a0_3) := (blk_cell BK221.out 3).trans rfl; have hcz7_4 : w6.cell? ⟨gb221, 4, none⟩ = some (.int .i64 a0_4) := (blk_cell BK221.out 4).trans rfl; have hcz7_5 : w6.cell? ⟨gb221, 5, none⟩ = some (.int .i64 a0_5) := (blk_cell BK221.out 5).trans rfl; have hfz7_0 := blk_frozen BK221.out 0; have hfz7_1 := blk_frozen BK221.out 1; have hfz7_2 := blk_frozen BK221.out 2; have hfz7_3 := blk_frozen BK221.out 3; have hfz7_4 := blk_frozen BK221.out 4; have hfz7_5 := blk_frozen BK221.out 5) | ((with_reducible refine gC 100 ?_); refine cL (some 13) Try.func100 #[.agg #[.slice A0_0 l0_0.length c0_0, .int .i64 a0_1, .int .i64 a0_2, .int .i64 a0_3, .int .i64 a0_4, .int .i64 a0_5], .int .i64 a1, .int .i64 a2] ?_; (with_reducible refine (spec_TouchesBand.calls k _ _ l0_0 a0_1 a0_2 a0_3 a0_4 a0_5 a1 a2 true _ ?side1 ?side2 A4.out).mono ?_); (case side1 => exact cS (Kd.C_below HR0_0.out HB.out)); (case side2 => exact HC0_0.out); rintro e w8 ⟨rfl, hb⟩; refine ⟨_, rfl, ?_⟩; replace BK221 := kB (g := gb221) hb; replace HB := hB hb; (try clear hb); (try clear hb2); (try clear hk); (try clear hi)))
    go_loopg [7, 8] k (fun kq v7 v8 w' => ∃ (x7_1 : Int) (x8_1 : Int), v7 = .int .i64 x7_1 ∧ v8 = .int .i64 x8_1 ∧ Aside0 (spec_PaintTime.l0 kq a1 a2 x7_1 x8_1 l0_0 a0_1 a0_2 a0_3 a0_4 a0_5 = some r) ∧ Aside0 (kq ≤ k) ∧ Aside0 (w'.heap[gb221]? = some (.cells #[(.slice A0_0 l0_0.length c0_0), .int .i64 a0_1, .int .i64 a0_2, .int .i64 a0_3, .int .i64 a0_4, .int .i64 a0_5] 45 (0, 0))) ∧ Aside0 (Below w.heap.size w w'))
    case atStart => exact ⟨(2), (wrap64 (a2 * a1)), (by first | rfl | (simp; done) | (simp [*]; done)), (by first | rfl | (simp; done) | (simp [*]; done)), H', ⟨Nat.le_refl _⟩, ⟨kS⟩, ⟨bS⟩⟩
    case round =>
      clear H'
      try clear c1
      try clear p2
      try clear c3
      try clear c5
      try clear p6
      try clear hcz7_0
      try clear hcz7_1
      try clear hcz7_2
      try clear hcz7_3
      try clear hcz7_4
      try clear hcz7_5
      try clear hfz7_0
      try clear hfz7_1
      try clear hfz7_2
      try clear hfz7_3
      try clear hfz7_4
      try clear hfz7_5
      obtain ⟨x7_1, x8_1, rfl, rfl, HA, HK1, BK221, HB⟩ := hrel
      cases gk with
      | zero => exact absurd HA.out (by simp [spec_PaintTime.l0])
      | succ k1 =>
        have H := HA.out
        clear HA
        simp only [spec_PaintTime.l0] at H
        by_cases c9 : x8_1 < (wrap64 ((wrap64 (a2 * a1)) + a1))
        · rw [if_pos c9] at H
          have c9b0 : decide (x8_1 < (wrap64 ((wrap64 (a2 * a1)) + a1))) = true := decide_eq_true c9
          clear c9
          replace H := bN H
          obtain ⟨t223, A10, H⟩ := H
          replace H := bN H
          obtain ⟨t226, A11, H⟩ := H
          have H' := Aside0.mk H
          clear H
          have hz12 := cz6 BK221
          go_wp2_with (first | ((with_reducible refine gC 24 ?_); refine cL (some 29) Try.func24 #[.agg #[.slice A0_0 l0_0.length c0_0, .int .i64 a0_1, .int .i64 a0_2, .int .i64 a0_3, .int .i64 a0_4, .int .i64 a0_5], .int .i64 x8_1] ?_; (with_reducible refine (spec_ObjectRow.calls k1 _ _ l0_0 a0_1 a0_2 a0_3 a0_4 a0_5 x8_1 t223 _ ?side1 ?side2 A10.out).mono ?_); (case side1 => exact cS (Kd.C_below HR0_0.out HB.out)); (case side2 => exact HC0_0.out); rintro e w13 ⟨v224, rfl, ho0, hb⟩; refine ⟨_, rfl, ?_⟩; have HO225 := Aside0.mk (Kd.R_lower ho0 (below_size bS)); replace BK221 := kB (g := gb221) hb; replace HB := hB hb; (try clear hb); (try clear hb2); (try clear hk); (try clear hi); (try clear ho0); obtain ⟨Ao14, co14, eo14⟩ := Kd.R_slice HO225.out; subst eo14) | ((with_reducible refine gC 101 ?_); refine cL (some 35) Try.func101 #[.slice Ao14 t223.length co14] ?_; (with_reducible refine (spec_SpanDots.calls k1 _ _ t223 t226 _ ?side1 ?side2 A11.out).mono ?_); (case side1 => exact cS (Kd.R_reads' HO225.out).2.2); (case side2 => exact (Kd.R_reads' HO225.out).2.1); rintro e w' ⟨rfl, ⟨nd, rfl⟩⟩; refine ⟨_, rfl, ?_⟩))
          go_roundg k1
          case measure => have := HK1.out; omega
          case rel => exact ⟨(wrap64 ((wrap64 (x7_1 + (t223.length : Int))) + (wrap64 (Int.tdiv (wrap64 (t226 + 7)) 8)))), (wrap64 (x8_1 + 1)), (by first | rfl | (simp; done) | (simp [*]; done)), (by first | rfl | (simp; done) | (simp [*]; done)), H', ⟨by have := HK1.out; omega⟩, ⟨kS⟩, ⟨bS⟩⟩
        · rw [if_neg c9] at H
          have c9b0 : decide (x8_1 < (wrap64 ((wrap64 (a2 * a1)) + a1))) = false := decide_eq_false c9
          clear c9
          obtain rfl := Option.some.inj H
          go_wp2
          go_ret
          exact ⟨eS, bS⟩
  · obtain rfl := Bool.eq_false_iff.mpr c5
    rw [if_neg nF] at H
    obtain rfl := Option.some.inj H
    go_enter Try.func37, Try.ntmps37
    go_wp2_with (first | ((with_reducible refine gD 3 ?_); refine bxE #[.slice A0_0 l0_0.length c0_0, .int .i64 a0_1, .int .i64 a0_2, .int .i64 a0_3, .int .i64 a0_4, .int .i64 a0_5] 45 ?_; intro gb221 hg w15 BK221 hb; have GW221 := gE hg; have GE221 := gE hg; replace HB := hB hb; clear hb hg; have hz16 := cz6 BK221) | ((with_reducible refine gC 100 ?_); refine cL (some 13) Try.func100 #[.agg #[.slice A0_0 l0_0.length c0_0, .int .i64 a0_1, .int .i64 a0_2, .int .i64 a0_3, .int .i64 a0_4, .int .i64 a0_5], .int .i64 a1, .int .i64 a2] ?_; (with_reducible refine (spec_TouchesBand.calls k _ _ l0_0 a0_1 a0_2 a0_3 a0_4 a0_5 a1 a2 false _ ?side1 ?side2 A4.out).mono ?_); (case side1 => exact cS (Kd.C_below HR0_0.out HB.out)); (case side2 => exact HC0_0.out); rintro e w17 ⟨rfl, hb⟩; refine ⟨_, rfl, ?_⟩; replace BK221 := kB (g := gb221) hb; replace HB := hB hb; (try clear hb); (try clear hb2); (try clear hk); (try clear hi)))
    go_ret
    exact ⟨eS, bS⟩

/-! ### spec_BandTime: function 40 -/
def spec_BandTime.l0 : Nat → List (S45) → Int → Int → Int → Int → Option (Int)
  | 0, _, _, _, _, _ => none
  | k + 1, x0, x1, x2, x7, x8 => if x8 < (x0.length : Int) then (if 0 ≤ x8 then ((spec_PaintTime.f k ((rd_T45 x0 x8).f0) ((rd_T45 x0 x8).f1) ((rd_T45 x0 x8).f2.f0) ((rd_T45 x0 x8).f2.f1) ((rd_T45 x0 x8).f2.f2) ((rd_T45 x0 x8).f2.f3) x1 x2).bind fun t228 => (spec_BandTime.l0 k x0 x1 x2 (wrap64 (x7 + t228)) (wrap64 (x8 + 1)))) else (none)) else (some x7)
def spec_BandTime.f (k : Nat) (l0 : List (S45)) (a1 : Int) (a2 : Int) : Option (Int) := spec_BandTime.l0 k l0 a1 a2 0 0
theorem spec_BandTime.calls (k : Nat) (A0 : Option Addr) (c0 : Nat) (l0 : List (S45)) (a1 : Int) (a2 : Int) (r : Int) (w : World) (hr0 : Kd.C k45 w A0 l0.length l0) (hc0 : l0.length ≤ c0) (h : spec_BandTime.f k l0 a1 a2 = some r) :
    Calls Try.prog 40 #[.slice A0 l0.length c0, .int .i64 a1, .int .i64 a2] w fun e w' => e = .returned (.int .i64 r) ∧ Below w.heap.size w w' := by
  have hu45 := Try.underlying45
  have HR0 := Aside0.mk hr0
  have HC0 := Aside0.mk hc0
  clear hr0 hc0
  have HB := Aside0.mk (Below.refl w.heap.size w)
  have H : (spec_BandTime.l0 k l0 a1 a2 0 0) = some r := h
  clear h
  have H' := Aside0.mk H
  clear H
  go_enter Try.func40, Try.ntmps40
  go_wp2
  go_loopg [7, 8] k (fun kq v7 v8 w' => ∃ (x7_1 : Int) (x8_1 : Int), v7 = .int .i64 x7_1 ∧ v8 = .int .i64 x8_1 ∧ Aside0 (spec_BandTime.l0 kq l0 a1 a2 x7_1 x8_1 = some r) ∧ Aside0 (kq ≤ k) ∧ Aside0 (Below w.heap.size w w'))
  case atStart => exact ⟨(0), (0), (by first | rfl | (simp; done) | (simp [*]; done)), (by first | rfl | (simp; done) | (simp [*]; done)), H', ⟨Nat.le_refl _⟩, ⟨bS⟩⟩
  case round =>
    clear H'
    try clear p2
    obtain ⟨x7_1, x8_1, rfl, rfl, HA, HK1, HB⟩ := hrel
    cases gk with
    | zero => exact absurd HA.out (by simp [spec_BandTime.l0])
    | succ k1 =>
      have H := HA.out
      clear HA
      simp only [spec_BandTime.l0] at H
      by_cases c4 : x8_1 < (l0.length : Int)
      · rw [if_pos c4] at H
        have c4b0 : decide (x8_1 < (l0.length : Int)) = true := decide_eq_true c4
        clear c4
        by_cases c5 : 0 ≤ x8_1
        · rw [if_pos c5] at H
          have c5b0 : decide (0 ≤ x8_1) = true := decide_eq_true c5
          clear c5
          replace H := bN H
          obtain ⟨t228, A6, H⟩ := H
          have H' := Aside0.mk H
          clear H
          have p227 : 0 ≤ (x8_1 : Int) := of_decide_eq_true (by first | (with_reducible assumption) | assumption)
          have q227 : x8_1 < (l0.length : Int) := of_decide_eq_true (by first | (with_reducible assumption) | assumption)
          obtain ⟨ad227, A227_0, c227_0, e227, hx227_0, hx227_1, hx227_2, hx227_3, hx227_4, hx227_5, hl227_0, hi227_0⟩ := at_T45 HR0.out x8_1 p227 q227
          cases e227
          replace hx227_0 := (HB.out.cell (World.block_lt_of_cell? w _ hx227_0)).trans hx227_0
          replace hx227_1 := (HB.out.cell (World.block_lt_of_cell? w _ hx227_1)).trans hx227_1
          replace hx227_2 := (HB.out.cell (World.block_lt_of_cell? w _ hx227_2)).trans hx227_2
          replace hx227_3 := (HB.out.cell (World.block_lt_of_cell? w _ hx227_3)).trans hx227_3
          replace hx227_4 := (HB.out.cell (World.block_lt_of_cell? w _ hx227_4)).trans hx227_4
          replace hx227_5 := (HB.out.cell (World.block_lt_of_cell? w _ hx227_5)).trans hx227_5
          have HR227_0 := Aside0.mk hi227_0
          have HC227_0 := Aside0.mk hl227_0
          clear hi227_0 hl227_0
          replace p227 := eq_true p227
          replace q227 := eq_true q227
          go_wp2_with (first | ((with_reducible refine gC 37 ?_); refine cL (some 22) Try.func37 #[.agg #[.slice A227_0 ((rd_T45 l0 x8_1).f0).length c227_0, .int .i64 ((rd_T45 l0 x8_1).f1), .int .i64 ((rd_T45 l0 x8_1).f2.f0), .int .i64 ((rd_T45 l0 x8_1).f2.f1), .int .i64 ((rd_T45 l0 x8_1).f2.f2), .int .i64 ((rd_T45 l0 x8_1).f2.f3)], .int .i64 a1, .int .i64 a2] ?_; (with_reducible refine (spec_PaintTime.calls k1 _ _ ((rd_T45 l0 x8_1).f0) ((rd_T45 l0 x8_1).f1) ((rd_T45 l0 x8_1).f2.f0) ((rd_T45 l0 x8_1).f2.f1) ((rd_T45 l0 x8_1).f2.f2) ((rd_T45 l0 x8_1).f2.f3) a1 a2 t228 _ ?side1 ?side2 A6.out).mono ?_); (case side1 => exact cS (Kd.C_below HR227_0.out HB.out)); (case side2 => exact HC227_0.out); rintro e w7 ⟨rfl, hb⟩; refine ⟨_, rfl, ?_⟩; replace HB := hB hb; (try clear hb); (try clear hb2); (try clear hk); (try clear hi)))
          go_roundg k1
          case measure => have := HK1.out; omega
          case rel => exact ⟨(wrap64 (x7_1 + t228)), (wrap64 (x8_1 + 1)), (by first | rfl | (simp; done) | (simp [*]; done)), (by first | rfl | (simp; done) | (simp [*]; done)), H', ⟨by have := HK1.out; omega⟩, ⟨bS⟩⟩
        · rw [if_neg c5] at H
          exact absurd H (by simp)
      · rw [if_neg c4] at H
        have c4b0 : decide (x8_1 < (l0.length : Int)) = false := decide_eq_false c4
        clear c4
        obtain rfl := Option.some.inj H
        go_wp2
        go_ret
        exact ⟨eS, bS⟩

/-! ### laws_toPoint: function 150 -/
def laws_toPoint.f (a0_0 : Int) (a0_1 : Int) : Option (Int × Int) := some (a0_0, a0_1)
theorem laws_toPoint.calls (a0_0 : Int) (a0_1 : Int) (r1 : Int) (r2 : Int) (w : World) (h : laws_toPoint.f a0_0 a0_1 = some (r1, r2)) :
    Calls Try.prog 150 #[.agg #[.int .i64 a0_0, .int .i64 a0_1]] w fun e w' => e = .returned (.agg #[.int .i64 r1, .int .i64 r2]) ∧ Below w.heap.size w w' := by
  have hu173 := Try.underlying173
  have hu171 := Try.underlying171
  have HB := Aside0.mk (Below.refl w.heap.size w)
  have H : (some (a0_0, a0_1)) = some (r1, r2) := h
  clear h
  simp only [Option.some.injEq, Prod.mk.injEq] at H
  obtain ⟨rfl, rfl⟩ := H
  go_enter Try.func150, Try.ntmps150
  go_wp2_with (first | ((with_reducible refine gD 1 ?_); refine bxE #[.int .i64 a0_0, .int .i64 a0_1] 173 ?_; intro gb229 hg w2 BK229 hb; have GW229 := gE hg; have GE229 := gE hg; replace HB := hB hb; clear hb hg) | ((with_reducible refine gD 2 ?_); refine bxE #[.int .i64 0, .int .i64 0] 171 ?_; intro gb230 hg w3 BK230 hb; have GW230 := gE hg; have GE230 := gE hg; have NB229_230 := nL (g := gb229) hg; have NB230_229 := nG (g := gb229) hg; replace BK229 := kB (g := gb229) hb; replace HB := hB hb; clear hb hg) | ((with_reducible refine gD 3 ?_); refine bxE #[.int .i64 0, .int .i64 0] 171 ?_; intro gb231 hg w4 BK231 hb; have GW231 := gE hg; have GE231 := gE hg; have NB229_231 := nL (g := gb229) hg; have NB231_229 := nG (g := gb229) hg; have NB230_231 := nL (g := gb230) hg; have NB231_230 := nG (g := gb230) hg; replace BK229 := kB (g := gb229) hb; replace BK230 := kB (g := gb230) hb; replace HB := hB hb; clear hb hg; have hnb5 := NB229_230.out; have hnc5 := NB230_229.out; have hnb6 := NB229_231.out; have hnc6 := NB231_229.out; have hz7 := cz2 BK229; have hnb8 := NB231_230.out; have hnc8 := NB230_231.out; have hz9 := cz2 BK231; have hz10 := cz2 BK230))
  refine bodyPost_ret (results_cell_row rfl _ _ gb230 171 #[.int .i64 a0_0, .int .i64 a0_1] (0, 0) _ rfl kS Try.underlying171 rfl (by kernel_rfl)) rfl ?_
  exact ⟨eS, bS⟩

end Go.Proofs.Ytigodjcnkgebaaa.QFnExactBandTime
