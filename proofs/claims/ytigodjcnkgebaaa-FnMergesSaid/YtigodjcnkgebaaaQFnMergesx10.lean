-- Made out of the translation by a program of this session (a changed copy of the print). Not trusted: Lean checks it.
import Derived.Test.YtigodjcnkgebaaaQFnMergesx0
import Derived.Test.YtigodjcnkgebaaaQFnMergesx5
import Derived.Test.YtigodjcnkgebaaaQFnMergesx8
import Derived.Test.YtigodjcnkgebaaaQFnMergesx9
namespace Go.Proofs.Ytigodjcnkgebaaa.QFnMerges
open Go.RowKit Go.Proofs.YtigodjcnkgebaaaW.PrintWords Go.Proofs.YtigodjcnkgebaaaW.PrintLast Go.Proofs.YtigodjcnkgebaaaW.PrintMore
attribute [local go_sem] max2_int min2_int max_two min_two max_three min_three max_four min_four   -- for this text's walks alone
set_option linter.unusedVariables false
set_option linter.unusedSimpArgs false
set_option maxHeartbeats 8000000
set_option maxRecDepth 100000

/-! ### spec_ObjectRow: function 24 -/
def spec_ObjectRow.j0 : Nat → Int → Bool → List (S171) → Int → Int → Int → Int → Int → Int → Int → Int → Int → Option ((List (S124)))
 | 0, _, _, _, _, _, _, _, _, _, _, _, _ => none
 | k + 1, x1, x22, x461000, x461001, x461002, x461003, x461004, x461005, x466000, x466001, x466002, x466003 => if x22 = true then (some (([] : List (S124)))) else ((spec_SpansAt.f k x461000 x1).bind fun t470 => ((spec_MeetSpans.f k t470 x466000 x466002).bind fun t473 => (some t473)))
def spec_ObjectRow.f (k : Nat) (l0_0 : List (S171)) (a0_1 : Int) (a0_2 : Int) (a0_3 : Int) (a0_4 : Int) (a0_5 : Int) (a1 : Int) : Option ((List (S124))) := (spec_ObjectBox.f k l0_0 a0_1 a0_2 a0_3 a0_4 a0_5).bind fun bt461 => ((spec_CountDots.f bt461.1 bt461.2.1 bt461.2.2.1 bt461.2.2.2).bind fun t466 => (if t466 = 0 then (spec_ObjectRow.j0 k a1 true l0_0 a0_1 a0_2 a0_3 a0_4 a0_5 bt461.1 bt461.2.1 bt461.2.2.1 bt461.2.2.2) else (if a1 < bt461.2.1 then (spec_ObjectRow.j0 k a1 true l0_0 a0_1 a0_2 a0_3 a0_4 a0_5 bt461.1 bt461.2.1 bt461.2.2.1 bt461.2.2.2) else (spec_ObjectRow.j0 k a1 (decide (a1 ≥ bt461.2.2.2)) l0_0 a0_1 a0_2 a0_3 a0_4 a0_5 bt461.1 bt461.2.1 bt461.2.2.1 bt461.2.2.2))))
def spec_ObjectRow.T4 : Bool × List (List Nat × List Nat) := (true, [([], []), ([0], [0]), ([], []), ([1, 2], [1, 2]), ([], []), ([4], [4]), ([], []), ([6], [6]), ([3, 5, 7, 3], [3, 5, 7]), ([8, 8, 0, 1, 2, 3, 4, 5, 6, 7, 8], [8])])
def spec_ObjectRow.B4 : List Nat := [0, 1, 0, 7, 0, 16, 0, 64, 255, 511]
theorem spec_ObjectRow.tab4 : rtab .any (opsOf Try.f24 4) = spec_ObjectRow.T4 := by kernel_rfl
theorem spec_ObjectRow.bits4 : waitsOk spec_ObjectRow.T4.2 spec_ObjectRow.B4 = true := by kernel_rfl
theorem spec_ObjectRow.calls (k : Nat) (A0_0 : Option Addr) (c0_0 : Nat) (l0_0 : List (S171)) (a0_1 : Int) (a0_2 : Int) (a0_3 : Int) (a0_4 : Int) (a0_5 : Int) (a1 : Int) (r : List (S124)) (w : World) (hr0_0 : Kd.C k171 w A0_0 l0_0.length l0_0) (hc0_0 : l0_0.length ≤ c0_0) (h : spec_ObjectRow.f k l0_0 a0_1 a0_2 a0_3 a0_4 a0_5 a1 = some r) :
  Calls Try.prog 24 #[.agg #[.slice A0_0 l0_0.length c0_0, .int .i64 a0_1, .int .i64 a0_2, .int .i64 a0_3, .int .i64 a0_4, .int .i64 a0_5], .int .i64 a1] w fun e w' => ∃ v0_ : Value, e = .returned (v0_) ∧ Kd.R k124 124 w' w.heap.size (fun _ => True) v0_ r ∧ Below w.heap.size w w' := by
 have hu45 := Try.underlying45
 have hu43 := Try.underlying43
 have HR0_0 := Aside0.mk hr0_0
 have HC0_0 := Aside0.mk hc0_0
 clear hr0_0 hc0_0
 have HB := Aside0.mk (Below.refl w.heap.size w)
 have H : ((spec_ObjectBox.f k l0_0 a0_1 a0_2 a0_3 a0_4 a0_5).bind fun bt461 => ((spec_CountDots.f bt461.1 bt461.2.1 bt461.2.2.1 bt461.2.2.2).bind fun t466 => (if t466 = 0 then (spec_ObjectRow.j0 k a1 true l0_0 a0_1 a0_2 a0_3 a0_4 a0_5 bt461.1 bt461.2.1 bt461.2.2.1 bt461.2.2.2) else (if a1 < bt461.2.1 then (spec_ObjectRow.j0 k a1 true l0_0 a0_1 a0_2 a0_3 a0_4 a0_5 bt461.1 bt461.2.1 bt461.2.2.1 bt461.2.2.2) else (spec_ObjectRow.j0 k a1 (decide (a1 ≥ bt461.2.2.2)) l0_0 a0_1 a0_2 a0_3 a0_4 a0_5 bt461.1 bt461.2.1 bt461.2.2.1 bt461.2.2.2))))) = some r := h
 clear h
 replace H := bN H
 obtain ⟨⟨t461, t462, t463, t464⟩, A3, H⟩ := H
 have HC4 := Aside0.mk H
 clear H
 go_enter Try.func24, Try.ntmps24
 go_upto_region 2 with (first | ((with_reducible refine gD 2 ?_); refine bxE #[.slice A0_0 l0_0.length c0_0, .int .i64 a0_1, .int .i64 a0_2, .int .i64 a0_3, .int .i64 a0_4, .int .i64 a0_5] 45 ?_; intro gb460 hg w5 BK460 hb; have GW460 := gE hg; have GE460 := gE hg; replace HB := hB hb; clear hb hg; have hcz6_0 : w5.cell? ⟨gb460, 0, none⟩ = some (.slice A0_0 l0_0.length c0_0) := (blk_cell BK460.out 0).trans rfl; have hcz6_1 : w5.cell? ⟨gb460, 1, none⟩ = some (.int .i64 a0_1) := (blk_cell BK460.out 1).trans rfl; have hcz6_2 : w5.cell? ⟨gb460, 2, none⟩ = some (.int .i64 a0_2) := (blk_cell BK460.out 2).trans rfl; have hcz6_3 : w5.cell? ⟨gb460, 3, none⟩ = some (.int .i64 a0_3) := (blk_cell BK460.out 3).trans rfl; have hcz6_4 : w5.cell? ⟨gb460, 4, none⟩ = some (.int .i64 a0_4) := (blk_cell BK460.out 4).trans rfl; have hcz6_5 : w5.cell? ⟨gb460, 5, none⟩ = some (.int .i64 a0_5) := (blk_cell BK460.out 5).trans rfl; have hfz6_0 := blk_frozen BK460.out 0; have hfz6_1 := blk_frozen BK460.out 1; have hfz6_2 := blk_frozen BK460.out 2; have hfz6_3 := blk_frozen BK460.out 3; have hfz6_4 := blk_frozen BK460.out 4; have hfz6_5 := blk_frozen BK460.out 5) | ((with_reducible refine gC 81 ?_); refine cL (some 7) Try.func81 #[.agg #[.slice A0_0 l0_0.length c0_0, .int .i64 a0_1, .int .i64 a0_2, .int .i64 a0_3, .int .i64 a0_4, .int .i64 a0_5]] ?_; (with_reducible refine (spec_ObjectBox.calls k _ _ l0_0 a0_1 a0_2 a0_3 a0_4 a0_5 t461 t462 t463 t464 _ (cS (Kd.C_below HR0_0.out HB.out)) HC0_0.out A3.out).mono ?_); rintro e w7 ⟨rfl, hb⟩; refine ⟨_, rfl, ?_⟩; replace BK460 := kB (g := gb460) hb; replace HB := hB hb; (try clear hb); (try clear hb2); (try clear hk); (try clear hi)) | ((with_reducible refine gD 5 ?_); refine bxE #[.int .i64 0, .int .i64 0, .int .i64 0, .int .i64 0] 43 ?_; intro gb465 hg w8 BK465 hb; have GW465 := gE hg; have GE465 := gE hg; have NB460_465 := nL (g := gb460) hg; have NB465_460 := nG (g := gb460) hg; replace BK460 := kB (g := gb460) hb; replace HB := hB hb; clear hb hg; have hnb9 := NB465_460.out; have hnc9 := NB460_465.out; have hcz10_0 : w8.cell? ⟨gb465, 0, none⟩ = some (.int .i64 0) := (blk_cell BK465.out 0).trans rfl; have hcz10_1 : w8.cell? ⟨gb465, 1, none⟩ = some (.int .i64 0) := (blk_cell BK465.out 1).trans rfl; have hcz10_2 : w8.cell? ⟨gb465, 2, none⟩ = some (.int .i64 0) := (blk_cell BK465.out 2).trans rfl; have hcz10_3 : w8.cell? ⟨gb465, 3, none⟩ = some (.int .i64 0) := (blk_cell BK465.out 3).trans rfl; have hfz10_0 := blk_frozen BK465.out 0; have hfz10_1 := blk_frozen BK465.out 1; have hfz10_2 := blk_frozen BK465.out 2; have hfz10_3 := blk_frozen BK465.out 3))
 (try simp only [Act.put, List.setIfInBounds_toArray, List.set_cons_zero, List.set_cons_succ])
 go_cut [22] (fun v22 wc => ∃ (kq : Nat) (x22_3 : Bool), v22 = .bool x22_3 ∧ Aside0 (spec_ObjectRow.j0 kq a1 x22_3 l0_0 a0_1 a0_2 a0_3 a0_4 a0_5 t461 t462 t463 t464 = some r) ∧ Aside0 (kq ≤ k) ∧ Aside0 (wc.heap[gb460]? = some (.cells #[(.slice A0_0 l0_0.length c0_0), .int .i64 a0_1, .int .i64 a0_2, .int .i64 a0_3, .int .i64 a0_4, .int .i64 a0_5] 45 (0, 0))) ∧ Aside0 (wc.heap[gb465]? = some (.cells #[.int .i64 t461, .int .i64 t462, .int .i64 t463, .int .i64 t464] 43 (0, 0))) ∧ Aside0 (Below w.heap.size w wc))
 case first =>
  have H := HC4.out
  clear HC4
  replace H := bN H
  obtain ⟨t466, A11, H⟩ := H
  by_cases c12 : t466 = 0
  ·rw [if_pos c12] at H
   have c12b0 : (t466 == 0) = true := beq_iff_eq.mpr c12
   have c12b1 : (t466 != 0) = false := bne_eq_false_iff_eq.mpr c12
   clear c12
   (first | rw [c12b0] | (simp only [i64_w, i32_w]; rw [c12b0]) | skip)
   have H' := Aside0.mk H
   clear H
   have hnb13 := NB465_460.out
   have hnc13 := NB460_465.out
   have hcz14_0 : w8.cell? ⟨gb465, 0, none⟩ = some (.int .i64 0) := (blk_cell BK465.out 0).trans rfl
   have hcz14_1 : w8.cell? ⟨gb465, 1, none⟩ = some (.int .i64 0) := (blk_cell BK465.out 1).trans rfl
   have hcz14_2 : w8.cell? ⟨gb465, 2, none⟩ = some (.int .i64 0) := (blk_cell BK465.out 2).trans rfl
   have hcz14_3 : w8.cell? ⟨gb465, 3, none⟩ = some (.int .i64 0) := (blk_cell BK465.out 3).trans rfl
   have hfz14_0 := blk_frozen BK465.out 0
   have hfz14_1 := blk_frozen BK465.out 1
   have hfz14_2 := blk_frozen BK465.out 2
   have hfz14_3 := blk_frozen BK465.out 3
   go_wp2_with (first | ((with_reducible refine gC 82 ?_); refine cL (some 9) Try.func82 #[.agg #[.int .i64 t461, .int .i64 t462, .int .i64 t463, .int .i64 t464]] ?_; (with_reducible refine (spec_CountDots.calls t461 t462 t463 t464 t466 _ A11.out).mono ?_); rintro e w15 ⟨rfl, hb⟩; refine ⟨_, rfl, ?_⟩; replace BK460 := kB (g := gb460) hb; replace BK465 := Aside0.mk (blk_below (g := gb465) (o := .cells #[.int .i64 t461, .int .i64 t462, .int .i64 t463, .int .i64 t464] 43 (0, 0)) kS hb); replace HB := hB hb; (try clear hb); (try clear hb2); (try clear hk); (try clear hi)))
   go_meet
   case rel => exact ⟨_, (true), fS, H', ⟨by first | omega | exact Nat.le_refl _⟩, ⟨kS⟩, ⟨kS⟩, ⟨bS⟩⟩
  ·rw [if_neg c12] at H
   have c12b0 : (t466 == 0) = false := beq_eq_false_iff_ne.mpr c12
   have c12b1 : (t466 != 0) = true := bne_iff_ne.mpr c12
   (first | rw [c12b0] | (simp only [i64_w, i32_w]; rw [c12b0]) | skip)
   rcases iD H with ⟨c16b0, H⟩ | ⟨c16b0, H⟩
   ·have H' := Aside0.mk H
    clear H
    have hnb17 := NB465_460.out
    have hnc17 := NB460_465.out
    have hcz18_0 : w8.cell? ⟨gb465, 0, none⟩ = some (.int .i64 0) := (blk_cell BK465.out 0).trans rfl
    have hcz18_1 : w8.cell? ⟨gb465, 1, none⟩ = some (.int .i64 0) := (blk_cell BK465.out 1).trans rfl
    have hcz18_2 : w8.cell? ⟨gb465, 2, none⟩ = some (.int .i64 0) := (blk_cell BK465.out 2).trans rfl
    have hcz18_3 : w8.cell? ⟨gb465, 3, none⟩ = some (.int .i64 0) := (blk_cell BK465.out 3).trans rfl
    have hfz18_0 := blk_frozen BK465.out 0
    have hfz18_1 := blk_frozen BK465.out 1
    have hfz18_2 := blk_frozen BK465.out 2
    have hfz18_3 := blk_frozen BK465.out 3
    go_wp2_with (first | ((with_reducible refine gC 82 ?_); refine cL (some 9) Try.func82 #[.agg #[.int .i64 t461, .int .i64 t462, .int .i64 t463, .int .i64 t464]] ?_; (with_reducible refine (spec_CountDots.calls t461 t462 t463 t464 t466 _ A11.out).mono ?_); rintro e w19 ⟨rfl, hb⟩; refine ⟨_, rfl, ?_⟩; replace BK460 := kB (g := gb460) hb; replace BK465 := Aside0.mk (blk_below (g := gb465) (o := .cells #[.int .i64 t461, .int .i64 t462, .int .i64 t463, .int .i64 t464] 43 (0, 0)) kS hb); replace HB := hB hb; (try clear hb); (try clear hb2); (try clear hk); (try clear hi); have hcz20_0 : w19.cell? ⟨gb465, 0, none⟩ = some (.int .i64 t461) := (blk_cell BK465.out 0).trans rfl; have hcz20_1 : w19.cell? ⟨gb465, 1, none⟩ = some (.int .i64 t462) := (blk_cell BK465.out 1).trans rfl; have hcz20_2 : w19.cell? ⟨gb465, 2, none⟩ = some (.int .i64 t463) := (blk_cell BK465.out 2).trans rfl; have hcz20_3 : w19.cell? ⟨gb465, 3, none⟩ = some (.int .i64 t464) := (blk_cell BK465.out 3).trans rfl; have hfz20_0 := blk_frozen BK465.out 0; have hfz20_1 := blk_frozen BK465.out 1; have hfz20_2 := blk_frozen BK465.out 2; have hfz20_3 := blk_frozen BK465.out 3))
    go_meet
    case rel => exact ⟨_, (true), fS, H', ⟨by first | omega | exact Nat.le_refl _⟩, ⟨kS⟩, ⟨kS⟩, ⟨bS⟩⟩
   ·have H' := Aside0.mk H
    clear H
    have hnb21 := NB465_460.out
    have hnc21 := NB460_465.out
    have hcz22_0 : w8.cell? ⟨gb465, 0, none⟩ = some (.int .i64 0) := (blk_cell BK465.out 0).trans rfl
    have hcz22_1 : w8.cell? ⟨gb465, 1, none⟩ = some (.int .i64 0) := (blk_cell BK465.out 1).trans rfl
    have hcz22_2 : w8.cell? ⟨gb465, 2, none⟩ = some (.int .i64 0) := (blk_cell BK465.out 2).trans rfl
    have hcz22_3 : w8.cell? ⟨gb465, 3, none⟩ = some (.int .i64 0) := (blk_cell BK465.out 3).trans rfl
    have hfz22_0 := blk_frozen BK465.out 0
    have hfz22_1 := blk_frozen BK465.out 1
    have hfz22_2 := blk_frozen BK465.out 2
    have hfz22_3 := blk_frozen BK465.out 3
    go_wp2_with (first | ((with_reducible refine gC 82 ?_); refine cL (some 9) Try.func82 #[.agg #[.int .i64 t461, .int .i64 t462, .int .i64 t463, .int .i64 t464]] ?_; (with_reducible refine (spec_CountDots.calls t461 t462 t463 t464 t466 _ A11.out).mono ?_); rintro e w23 ⟨rfl, hb⟩; refine ⟨_, rfl, ?_⟩; replace BK460 := kB (g := gb460) hb; replace BK465 := Aside0.mk (blk_below (g := gb465) (o := .cells #[.int .i64 t461, .int .i64 t462, .int .i64 t463, .int .i64 t464] 43 (0, 0)) kS hb); replace HB := hB hb; (try clear hb); (try clear hb2); (try clear hk); (try clear hi); have hcz24_0 : w23.cell? ⟨gb465, 0, none⟩ = some (.int .i64 t461) := (blk_cell BK465.out 0).trans rfl; have hcz24_1 : w23.cell? ⟨gb465, 1, none⟩ = some (.int .i64 t462) := (blk_cell BK465.out 1).trans rfl; have hcz24_2 : w23.cell? ⟨gb465, 2, none⟩ = some (.int .i64 t463) := (blk_cell BK465.out 2).trans rfl; have hcz24_3 : w23.cell? ⟨gb465, 3, none⟩ = some (.int .i64 t464) := (blk_cell BK465.out 3).trans rfl; have hfz24_0 := blk_frozen BK465.out 0; have hfz24_1 := blk_frozen BK465.out 1; have hfz24_2 := blk_frozen BK465.out 2; have hfz24_3 := blk_frozen BK465.out 3))
    go_meet
    case rel => exact ⟨_, (decide (a1 ≥ t464)), fS, H', ⟨by first | omega | exact Nat.le_refl _⟩, ⟨kS⟩, ⟨kS⟩, ⟨bS⟩⟩
 case rest =>
  clear HC4
  try clear c1
  try clear c2
  try clear p2
  try clear c8
  try clear c9
  try clear c12
  try clear c12b0
  try clear c12b1
  try clear c13
  try clear c16
  try clear c16b0
  try clear c17
  try clear c21
  try clear c24
  try clear hcz10_0
  try clear hcz10_1
  try clear hcz10_2
  try clear hcz10_3
  try clear hcz14_0
  try clear hcz14_1
  try clear hcz14_2
  try clear hcz14_3
  try clear hcz18_0
  try clear hcz18_1
  try clear hcz18_2
  try clear hcz18_3
  try clear hcz20_0
  try clear hcz20_1
  try clear hcz20_2
  try clear hcz20_3
  try clear hcz22_0
  try clear hcz22_1
  try clear hcz22_2
  try clear hcz22_3
  try clear hcz24_0
  try clear hcz24_1
  try clear hcz24_2
  try clear hcz24_3
  try clear hcz6_0
  try clear hcz6_1
  try clear hcz6_2
  try clear hcz6_3
  try clear hcz6_4
  try clear hcz6_5
  try clear hfz10_0
  try clear hfz10_1
  try clear hfz10_2
  try clear hfz10_3
  try clear hfz14_0
  try clear hfz14_1
  try clear hfz14_2
  try clear hfz14_3
  try clear hfz18_0
  try clear hfz18_1
  try clear hfz18_2
  try clear hfz18_3
  try clear hfz20_0
  try clear hfz20_1
  try clear hfz20_2
  try clear hfz20_3
  try clear hfz22_0
  try clear hfz22_1
  try clear hfz22_2
  try clear hfz22_3
  try clear hfz24_0
  try clear hfz24_1
  try clear hfz24_2
  try clear hfz24_3
  try clear hfz6_0
  try clear hfz6_1
  try clear hfz6_2
  try clear hfz6_3
  try clear hfz6_4
  try clear hfz6_5
  obtain ⟨kq, x22_3, rfl, HA, HJ3, BK460, BK465, HB⟩ := hcut
  cases kq with
  | zero => exact absurd HA.out (by simp [spec_ObjectRow.j0])
  | succ kj3 =>
   have H := HA.out
   clear HA
   simp only [spec_ObjectRow.j0] at H
   by_cases c25 : x22_3 = true
   ·subst c25
    rw [if_pos rfl] at H
    obtain ⟨y467, hy467⟩ : ∃ y_ : List (S124), y_ = (([] : List (S124))) := ⟨_, rfl⟩
    replace H : (some y467) = some r := by first | (rw [hy467]; with_reducible exact H) | (have H2_ := (Option.bind_some _ _).symm.trans H; rw [hy467]; with_reducible exact H2_) | (have H2_ := (Option.bind_some _ _).symm.trans H; with_reducible exact H2_) | with_reducible exact H | (rw [hy467]; exact H) | exact H
    have Ny467 := Aside0.mk hy467
    clear hy467
    obtain rfl := Option.some.inj H
    go_wp2_with (first | ((with_reducible refine gate_dst (N := 23) rfl ?_); refine Kd.R_lit k124 _ 124 ?hg (N := 23) ?hd (xs := ([] : List (S124))) (inner := []) (ok := fun _ => True) (okp := fun _ => True) ?hr ?hp (fun _ hk => hk) trivial (Below.refl _ _) (Nat.le_refl _) (by simp) ?_; (case hd => rfl); (case hg => rfl); (case hr => first | (go_simp; done) | (go_simp; rfl)); (case hp => exact (Reps.none _ _)); intro v468 w26 ho27 hb hg_ hnew_; clear hg_ hnew_; (first | rw [← Ny467.out] at ho27 | (simp only [Int.reduceToNat] at ho27; rw [← Ny467.out] at ho27)); have HO469 := Aside0.mk (Kd.R_lower ho27 (below_size bS)); replace BK460 := kB (g := gb460) hb; replace BK465 := kB (g := gb465) hb; replace HB := hB hb; clear hb ho27))
    go_ret
    exact ⟨_, eS, rS HO469, bS⟩
   ·obtain rfl := Bool.eq_false_iff.mpr c25
    rw [if_neg nF] at H
    replace H := bN H
    obtain ⟨t470, A28, H⟩ := H
    replace H := bN H
    obtain ⟨t473, A29, H⟩ := H
    obtain rfl := Option.some.inj H
    try go_wp2
    replace BK460 := Aside0.mk (blk_drew BK460.out)
    replace BK465 := Aside0.mk (blk_drew BK465.out)
    replace HB := Aside0.mk (below_drew1 HB.out)
    refine start_ (n := 10) (S := fun w' => w'.cell? ⟨gb460, 0, none⟩ = some (.slice A0_0 l0_0.length c0_0) ∧ w'.cell? ⟨gb460, 1, none⟩ = some (.int .i64 a0_1) ∧ w'.cell? ⟨gb460, 2, none⟩ = some (.int .i64 a0_2) ∧ w'.cell? ⟨gb460, 3, none⟩ = some (.int .i64 a0_3) ∧ w'.cell? ⟨gb460, 4, none⟩ = some (.int .i64 a0_4) ∧ w'.cell? ⟨gb460, 5, none⟩ = some (.int .i64 a0_5) ∧ w'.cell? ⟨gb465, 0, none⟩ = some (.int .i64 t461) ∧ w'.cell? ⟨gb465, 1, none⟩ = some (.int .i64 t462) ∧ w'.cell? ⟨gb465, 2, none⟩ = some (.int .i64 t463) ∧ w'.cell? ⟨gb465, 3, none⟩ = some (.int .i64 t464)) (ds := []) #[false, false, false, false, false, false, false, false, false, false] (by kernel_rfl) rfl rfl ⟨(blk_cell BK460.out 0).trans rfl, (blk_cell BK460.out 1).trans rfl, (blk_cell BK460.out 2).trans rfl, (blk_cell BK460.out 3).trans rfl, (blk_cell BK460.out 4).trans rfl, (blk_cell BK460.out 5).trans rfl, (blk_cell BK465.out 0).trans rfl, (blk_cell BK465.out 1).trans rfl, (blk_cell BK465.out 2).trans rfl, (blk_cell BK465.out 3).trans rfl⟩ (fun hHeld => ?_); refine with_tabW spec_ObjectRow.tab4 spec_ObjectRow.bits4 (fun HT_ HW_ => ?_)
    generalize wc.drew = w30 at BK460 BK465 HB hHeld ⊢
    refine pU 0 (some 24) #[true, false, false, false, false, false, false, false, false, false] ?_
    refine pU 2 (some 26) #[true, false, true, false, false, false, false, false, false, false] ?_
    refine pU 4 (some 28) #[true, false, true, false, true, false, false, false, false, false] ?_
    refine pU 6 (some 30) #[true, false, true, false, true, false, true, false, false, false] ?_
    refine tK 1 (some 25) #[true, true, true, false, true, false, true, false, false, false] ?_
    refine tK 5 (some 29) #[true, true, true, false, true, true, true, false, false, false] ?_
    refine tK 7 (some 31) #[true, true, true, false, true, true, true, true, false, false] ?_
    refine one_ (i := 3) (N := some 27) #[true, true, true, true, true, true, true, true, false, false] rfl rfl (one_of HT_.out (by kernel_rfl)) (by decide) (fun K hK => ?_)
    refine goes_ Try.func84 (by kernel_rfl) rfl #[.slice A0_0 l0_0.length c0_0, .int .i64 a1] (by rfl) rfl rfl (by (try simp only [List.map_toArray, List.map_cons, List.map_nil]); first | done | rfl | (simp only [List.length_drop, List.length_take]; rfl)) ?_
    with_reducible refine (spec_SpansAt.calls kj3 _ _ l0_0 a1 t470 _ ?side1 ?side2 A28.out).mono ?_
    (case side1 => exact cS (Kd.C_below HR0_0.out HB.out))
    (case side2 => exact HC0_0.out)
    rintro e w31 ⟨v471, rfl, ho0, hb⟩
    refine ⟨_, rfl, ?_⟩
    have HO472 := Aside0.mk (Kd.R_lower ho0 (below_size bS))
    replace BK460 := kB (g := gb460) hb
    replace BK465 := kB (g := gb465) hb
    replace HB := hB hb
    (try clear hb)
    (try clear hb2)
    (try clear hk)
    (try clear hi)
    (try clear ho0)
    obtain ⟨Ao32, co32, eo32⟩ := Kd.R_slice HO472.out
    (first | subst eo32 | (injection eo32 with f1_ f2_ f3_; have f4_ := f1_.symm; have f5_ := f3_.symm; clear f1_ f2_ f3_; subst f4_; subst f5_))
    refine hK.out _ _ ⟨(blk_cell BK460.out 0).trans rfl, (blk_cell BK460.out 1).trans rfl, (blk_cell BK460.out 2).trans rfl, (blk_cell BK460.out 3).trans rfl, (blk_cell BK460.out 4).trans rfl, (blk_cell BK460.out 5).trans rfl, (blk_cell BK465.out 0).trans rfl, (blk_cell BK465.out 1).trans rfl, (blk_cell BK465.out 2).trans rfl, (blk_cell BK465.out 3).trans rfl⟩ (fun hHeld => ?_)
    clear hK K
    refine norm_ (a' := ?_) ?_ ?_
    rotate_left
    ·show Act.put _ (some 27) _ = _
     simp only [Act.put, List.setIfInBounds_toArray, List.set_cons_zero, List.set_cons_succ, i64_w, i32_w]
     rfl
    refine one_ (i := 8) (N := some 32) #[true, true, true, true, true, true, true, true, true, false] rfl rfl (one_of HT_.out (by kernel_rfl)) (by decide) (fun K hK => ?_)
    refine goes_ Try.func83 (by kernel_rfl) rfl #[.slice Ao32 t470.length co32, .int .i64 t461, .int .i64 t463] (by rfl) rfl rfl (by (try simp only [List.map_toArray, List.map_cons, List.map_nil]); first | done | rfl | (simp only [List.length_drop, List.length_take]; rfl)) ?_
    with_reducible refine (spec_MeetSpans.calls kj3 _ _ t470 t461 t463 t473 _ ?side1 ?side2 A29.out).mono ?_
    (case side1 => exact cS (Kd.R_reads' HO472.out).2.2)
    (case side2 => exact (Kd.R_reads' HO472.out).2.1)
    rintro e w33 ⟨v474, rfl, ho0, hb⟩
    refine ⟨_, rfl, ?_⟩
    have HO475 := Aside0.mk (Kd.R_lower (Kd.R_new' ho0 (Kd.R_lt (rS HO472))) (below_size bS))
    replace HO472 := Aside0.mk (Kd.R_elder' (rS HO472) (Kd.R_base ho0) hb)
    replace BK460 := kB (g := gb460) hb
    replace BK465 := kB (g := gb465) hb
    replace HB := hB hb
    (try clear hb)
    (try clear hb2)
    (try clear hk)
    (try clear hi)
    (try clear ho0)
    refine hK.out _ _ ⟨(blk_cell BK460.out 0).trans rfl, (blk_cell BK460.out 1).trans rfl, (blk_cell BK460.out 2).trans rfl, (blk_cell BK460.out 3).trans rfl, (blk_cell BK460.out 4).trans rfl, (blk_cell BK460.out 5).trans rfl, (blk_cell BK465.out 0).trans rfl, (blk_cell BK465.out 1).trans rfl, (blk_cell BK465.out 2).trans rfl, (blk_cell BK465.out 3).trans rfl⟩ (fun hHeld => ?_)
    clear hK K
    refine norm_ (a' := ?_) ?_ ?_
    rotate_left
    ·show Act.put _ (some 32) _ = _
     simp only [Act.put, List.setIfInBounds_toArray, List.set_cons_zero, List.set_cons_succ, i64_w, i32_w]
     rfl
    refine pU 9 (some 4) #[true, true, true, true, true, true, true, true, true, true] ?_
    refine done_ (done_of HT_.out (by kernel_rfl)) ?_
    try go_wp2
    go_ret
    exact ⟨_, eS, by exact rT (Kd.R_mono HO475.out (fun _ hk => trivial)), bS⟩

end Go.Proofs.Ytigodjcnkgebaaa.QFnMerges
