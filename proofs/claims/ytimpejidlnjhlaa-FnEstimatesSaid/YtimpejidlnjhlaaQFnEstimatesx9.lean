-- Made out of the translation by a program of this session (a changed copy of the print). Not trusted: Lean checks it.
import Derived.Test.YtimpejidlnjhlaaQFnEstimatesx0
import Derived.Test.YtimpejidlnjhlaaQFnEstimatesx1
import Derived.Test.YtimpejidlnjhlaaQFnEstimatesx2
import Derived.Test.YtimpejidlnjhlaaQFnEstimatesx5
import Derived.Test.YtimpejidlnjhlaaQFnEstimatesx7
import Derived.Test.YtimpejidlnjhlaaQFnEstimatesx8
namespace Go.Proofs.Ytimpejidlnjhlaa.QFnEstimates
open Go.RowKit Go.Proofs.YtimpejidlnjhlaaW.PrintWords Go.Proofs.YtimpejidlnjhlaaW.PrintLast Go.Proofs.YtimpejidlnjhlaaW.PrintMore
attribute [local go_sem] max2_int min2_int max_two min_two max_three min_three max_four min_four   -- for this text's walks alone
set_option linter.unusedVariables false
set_option linter.unusedSimpArgs false
set_option maxHeartbeats 8000000
set_option maxRecDepth 100000

/-! ### laws_FnEstimates: function 4 -/
mutual
def laws_FnEstimates.l0 : Nat → Int → List (S41) → Int → Int → List (S166) → Int → Int → Int → Int → Int → Option (Bool)
 | 0, _, _, _, _, _, _, _, _, _, _ => none
 | k + 1, x4, x5, x6, x7, x427000, x427001, x427002, x427003, x427004, x427005 => if x7 < x6 then ((impl_PaintTime.f k x427000 x427001 x427002 x427003 x427004 x427005 x4 x7).bind fun t433 => ((impl_EstimateTime.f k x427000 x427001 x427002 x427003 x427004 x427005 x4 x7).bind fun t434 => (if t433 > t434 then (some false) else ((impl_TouchesBand.f k x427000 x427001 x427002 x427003 x427004 x427005 x4 x7).bind fun t435 => (if ((t433 == 0) == t435) = true then (some false) else ((impl_BandTime.f k x5 x4 x7).bind fun t436 => ((impl_BandEstimate.f k x5 x4 x7).bind fun t437 => (if t436 > t437 then (some false) else (laws_FnEstimates.l0 k x4 x5 x6 (wrap64 (x7 + 1)) x427000 x427001 x427002 x427003 x427004 x427005))))))))) else ((impl_SlowBands.f k x5 x4 20).bind fun t438 => (laws_FnEstimates.l1 k x4 x5 t438 0))
def laws_FnEstimates.l1 : Nat → Int → List (S41) → List Int → Int → Option (Bool)
 | 0, _, _, _, _ => none
 | k + 1, x4, x5, x9, x10 => if x10 < (x9.length : Int) then (if 0 ≤ x10 then ((impl_BandEstimate.f k x5 x4 (rd x9 x10)).bind fun t442 => (if t442 ≤ 20 then (some false) else (if x10 > 0 then (if 0 ≤ (wrap64 (x10 - 1)) then (if (wrap64 (x10 - 1)) < (x9.length : Int) then (if (rd x9 x10) ≤ (rd x9 (wrap64 (x10 - 1))) then (some false) else (laws_FnEstimates.l1 k x4 x5 x9 (wrap64 (x10 + 1)))) else (none)) else (none)) else (laws_FnEstimates.l1 k x4 x5 x9 (wrap64 (x10 + 1)))))) else (none)) else (some true)
end
def laws_FnEstimates.f (k : Nat) (l0 : List Int) : Option (Bool) := (laws_big.f l0).bind fun t417 => (if t417 = true then (some true) else ((spec_DrawObject.f k l0).bind fun bt418 => ((spec_DrawHeight.f k l0).bind fun t427 => ((spec_DrawList.f k l0).bind fun t428 => ((spec_CountBands.f t427).bind fun t431 => ((impl_CountBands.f t427).bind fun t432 => (if t432 = t431 then (laws_FnEstimates.l0 k t427 t428 t431 0 bt418.1 bt418.2.1 bt418.2.2.1 bt418.2.2.2.1 bt418.2.2.2.2.1 bt418.2.2.2.2.2) else (some false))))))))
def laws_FnEstimates.T19 : Bool × List (List Nat × List Nat) := (true, [([], []), ([], []), ([], []), ([], []), ([2, 3], [2, 3]), ([4], [4]), ([0, 1, 5], [0, 1, 5]), ([6], [6]), ([7, 6], [7]), ([8], [8]), ([9, 8], [8, 9]), ([10, 8, 8], [8, 10]), ([11], [11]), ([11], [11]), ([12, 13, 11], [11, 12, 13]), ([14, 11], [11, 14]), ([11], [11]), ([11], [11]), ([17, 11], [11, 17]), ([16, 18, 11], [11, 16, 18]), ([19, 11], [11, 19]), ([15, 20, 11], [11, 15, 20]), ([11, 21, 8], [8, 11, 21]), ([8, 22], [8, 22])])
def laws_FnEstimates.B19 : List Nat := [0, 0, 0, 0, 12, 28, 63, 127, 255, 511, 1023, 2047, 4095, 4095, 16383, 32767, 4095, 4095, 135167, 462847, 987135, 2097151, 4194303, 8388607]
theorem laws_FnEstimates.tab19 : rtab .any (opsOf Try.f4 19) = laws_FnEstimates.T19 := by kernel_rfl
theorem laws_FnEstimates.bits19 : waitsOk laws_FnEstimates.T19.2 laws_FnEstimates.B19 = true := by kernel_rfl
theorem laws_FnEstimates.calls (k : Nat) (A0 : Option Addr) (c0 : Nat) (l0 : List Int) (r : Bool) (w : World) (hr0 : Kd.C (Kd.int .u8) w A0 l0.length l0) (hc0 : l0.length ≤ c0) (h : laws_FnEstimates.f k l0 = some r) (hT : r = true) :
  Calls Try.prog 4 #[.slice A0 l0.length c0] w fun e w' => e = .returned (.bool r) ∧ Below w.heap.size w w' := by
 have hu41 := Try.underlying41
 have HR0 := Aside0.mk hr0
 have HC0 := Aside0.mk hc0
 clear hr0 hc0
 have HB := Aside0.mk (Below.refl w.heap.size w)
 have H : ((laws_big.f l0).bind fun t417 => (if t417 = true then (some true) else ((spec_DrawObject.f k l0).bind fun bt418 => ((spec_DrawHeight.f k l0).bind fun t427 => ((spec_DrawList.f k l0).bind fun t428 => ((spec_CountBands.f t427).bind fun t431 => ((impl_CountBands.f t427).bind fun t432 => (if t432 = t431 then (laws_FnEstimates.l0 k t427 t428 t431 0 bt418.1 bt418.2.1 bt418.2.2.1 bt418.2.2.2.1 bt418.2.2.2.2.1 bt418.2.2.2.2.2) else (some false))))))))) = some r := h
 clear h
 replace H := bN H
 obtain ⟨t417, A2, H⟩ := H
 by_cases c3 : t417 = true
 ·subst c3
  rw [if_pos rfl] at H
  obtain rfl := Option.some.inj H
  (try clear hT)
  go_enter Try.func4, Try.ntmps4
  go_wp2_with (first | ((with_reducible refine gC 24 ?_); refine cL (some 12) Try.func24 #[.slice A0 l0.length c0] ?_; (with_reducible refine (laws_big.calls _ _ l0 _ _ ?side1 ?side2 A2.out).mono ?_); (case side1 => repeat (first | exact HR0.out | (with_reducible refine Kd.C_alloc ?_ _) | (with_reducible refine Kd.C_drewN ?_ _) | (with_reducible refine Kd.C_drew ?_))); (case side2 => exact HC0.out); rintro e w' ⟨rfl, ⟨nd, rfl⟩⟩; refine ⟨_, rfl, ?_⟩))
  go_ret
  exact ⟨eS, bS⟩
 ·obtain rfl := Bool.eq_false_iff.mpr c3
  rw [if_neg nF] at H
  replace H := bN H
  obtain ⟨⟨t418, t421, t422, t423, t424, t425⟩, A4, H⟩ := H
  replace H := bN H
  obtain ⟨t427, A5, H⟩ := H
  replace H := bN H
  obtain ⟨t428, A6, H⟩ := H
  replace H := bN H
  obtain ⟨t431, A7, H⟩ := H
  replace H := bN H
  obtain ⟨t432, A8, H⟩ := H
  by_cases c9 : t432 = t431
  ·rw [if_pos c9] at H
   have c9b0 : (t432 == t431) = true := beq_iff_eq.mpr c9
   have c9b1 : (t432 != t431) = false := bne_eq_false_iff_eq.mpr c9
   clear c9
   have H' := Aside0.mk H
   clear H
   go_enter Try.func4, Try.ntmps4
   go_wp2_with (first | ((with_reducible refine gC 24 ?_); refine cL (some 12) Try.func24 #[.slice A0 l0.length c0] ?_; (with_reducible refine (laws_big.calls _ _ l0 _ _ ?side1 ?side2 A2.out).mono ?_); (case side1 => repeat (first | exact HR0.out | (with_reducible refine Kd.C_alloc ?_ _) | (with_reducible refine Kd.C_drewN ?_ _) | (with_reducible refine Kd.C_drew ?_))); (case side2 => exact HC0.out); rintro e w' ⟨rfl, ⟨nd, rfl⟩⟩; refine ⟨_, rfl, ?_⟩) | ((with_reducible refine gC 25 ?_); refine cL (some 14) Try.func25 #[.slice A0 l0.length c0] ?_; (with_reducible refine (spec_DrawObject.calls k _ _ l0 t418 t421 t422 t423 t424 t425 _ ?side1 ?side2 A4.out).mono ?_); (case side1 => repeat (first | exact HR0.out | (with_reducible refine Kd.C_alloc ?_ _) | (with_reducible refine Kd.C_drewN ?_ _) | (with_reducible refine Kd.C_drew ?_))); (case side2 => exact HC0.out); rintro e w10 ⟨v419, rfl, ho0, hb⟩; refine ⟨_, rfl, ?_⟩; have HO420 := Aside0.mk (Kd.R_lower ho0 (below_size bS)); replace HB := hB hb; (try clear hb); (try clear hb2); (try clear hk); (try clear hi); (try clear ho0)) | ((with_reducible refine gD 3 ?_); refine bxE #[.slice none 0 0, .int .i64 0, .int .i64 0, .int .i64 0, .int .i64 0, .int .i64 0] 41 ?_; intro gb426 hg w11 BK426 hb; have GW426 := gE hg; have GE426 := gE hg; replace HO420 := Aside0.mk (Kd.R_below (rS HO420) hb); replace HB := hB hb; clear hb hg; obtain ⟨Ao12, co12, eo12⟩ := Kd.R_slice HO420.out; subst eo12; have hcz13_0 : w11.cell? ⟨gb426, 0, none⟩ = some (.slice none 0 0) := (blk_cell BK426.out 0).trans rfl; have hcz13_1 : w11.cell? ⟨gb426, 1, none⟩ = some (.int .i64 0) := (blk_cell BK426.out 1).trans rfl; have hcz13_2 : w11.cell? ⟨gb426, 2, none⟩ = some (.int .i64 0) := (blk_cell BK426.out 2).trans rfl; have hcz13_3 : w11.cell? ⟨gb426, 3, none⟩ = some (.int .i64 0) := (blk_cell BK426.out 3).trans rfl; have hcz13_4 : w11.cell? ⟨gb426, 4, none⟩ = some (.int .i64 0) := (blk_cell BK426.out 4).trans rfl; have hcz13_5 : w11.cell? ⟨gb426, 5, none⟩ = some (.int .i64 0) := (blk_cell BK426.out 5).trans rfl; have hfz13_0 := blk_frozen BK426.out 0; have hfz13_1 := blk_frozen BK426.out 1; have hfz13_2 := blk_frozen BK426.out 2; have hfz13_3 := blk_frozen BK426.out 3; have hfz13_4 := blk_frozen BK426.out 4; have hfz13_5 := blk_frozen BK426.out 5) | ((with_reducible refine gC 26 ?_); refine cL (some 16) Try.func26 #[.slice A0 l0.length c0] ?_; (with_reducible refine (spec_DrawHeight.calls k _ _ l0 t427 _ ?side1 ?side2 A5.out).mono ?_); (case side1 => exact Kd.C_below HR0.out bS); (case side2 => exact HC0.out); rintro e w14 ⟨rfl, hb⟩; refine ⟨_, rfl, ?_⟩; replace HO420 := Aside0.mk (Kd.R_below (by (with_reducible repeat (first | apply Kd.R_alloc | apply Kd.R_drewN | apply Kd.R_drew)); exact (Kd.R_mono (Kd.R_far (p := ⟨gb426, 5, none⟩) (Kd.R_far (p := ⟨gb426, 4, none⟩) (Kd.R_far (p := ⟨gb426, 3, none⟩) (Kd.R_far (p := ⟨gb426, 2, none⟩) (Kd.R_far (p := ⟨gb426, 1, none⟩) (Kd.R_far (p := ⟨gb426, 0, none⟩) (Kd.R_types HO420.out BK426.out (by decide)) (fun _ hk => hk.2) (.slice Ao12 t418.length co12)) (fun _ hk => hk.2) (.int .i64 t421)) (fun _ hk => hk.2) (.int .i64 t422)) (fun _ hk => hk.2) (.int .i64 t423)) (fun _ hk => hk.2) (.int .i64 t424)) (fun _ hk => hk.2) (.int .i64 t425)) (fun _ h_ => h_.1))) hb); replace BK426 := Aside0.mk (blk_below (g := gb426) (o := .cells #[.slice Ao12 t418.length co12, .int .i64 t421, .int .i64 t422, .int .i64 t423, .int .i64 t424, .int .i64 t425] 41 (0, 0)) kS hb); replace HB := hB hb; (try clear hb); (try clear hb2); (try clear hk); (try clear hi)) | ((with_reducible refine gC 27 ?_); refine cL (some 18) Try.func27 #[.slice A0 l0.length c0] ?_; (with_reducible refine (spec_DrawList.calls k _ _ l0 t428 _ ?side1 ?side2 A6.out).mono ?_); (case side1 => exact cS (Kd.C_below HR0.out HB.out)); (case side2 => exact HC0.out); rintro e w15 ⟨v429, rfl, ho0, hb⟩; refine ⟨_, rfl, ?_⟩; have HO430 := Aside0.mk (Kd.S_lower (Kd.S_newB (Kd.S_new' ho0 (Kd.R_lt (rS HO420))) (g := gb426) kS) (below_size bS)); replace HO420 := Aside0.mk (Kd.R_below (rS HO420) hb); replace BK426 := kB (g := gb426) hb; replace HB := hB hb; (try clear hb); (try clear hb2); (try clear hk); (try clear hi); (try clear ho0)) | ((with_reducible refine gC 28 ?_); refine cL (some 20) Try.func28 #[.int .i64 t427] ?_; (with_reducible refine (spec_CountBands.calls t427 t431 _ A7.out).mono ?_); rintro e w' ⟨rfl, ⟨nd, rfl⟩⟩; refine ⟨_, rfl, ?_⟩) | ((with_reducible refine gC 29 ?_); refine cL (some 22) Try.func29 #[.int .i64 t427] ?_; (with_reducible refine (impl_CountBands.calls t427 t432 _ A8.out).mono ?_); rintro e w' ⟨rfl, ⟨nd, rfl⟩⟩; refine ⟨_, rfl, ?_⟩))
   go_loopg [7] k (fun kq v7 w' => ∃ (x7_1 : Int), v7 = .int .i64 x7_1 ∧ Aside0 (laws_FnEstimates.l0 kq t427 t428 t431 x7_1 t418 t421 t422 t423 t424 t425 = some r) ∧ Aside0 (kq ≤ k) ∧ Aside0 (Kd.S k41 41 w' w.heap.size (fun k_ => some k_ ≠ ((.slice Ao12 t418.length co12) : Value).ownBlock ∧ k_ ≠ gb426) v429 t428) ∧ Aside0 (Kd.R k166 166 w' w.heap.size (fun _ => True) (.slice Ao12 t418.length co12) t418) ∧ Aside0 (w'.heap[gb426]? = some (.cells #[(.slice Ao12 t418.length co12), .int .i64 t421, .int .i64 t422, .int .i64 t423, .int .i64 t424, .int .i64 t425] 41 (0, 0))) ∧ Aside0 (Below w.heap.size w w'))
   case atStart => exact ⟨(0), (by first | rfl | (simp; done) | (simp [*]; done)), H', ⟨Nat.le_refl _⟩, ⟨by (with_reducible repeat (first | apply Kd.S_alloc | apply Kd.S_drewN | apply Kd.S_drew)); exact Kd.S_mono HO430.out (fun _ hk => ⟨hk.1.2, hk.2⟩)⟩, ⟨by (with_reducible repeat (first | apply Kd.R_alloc | apply Kd.R_drewN | apply Kd.R_drew)); exact HO420.out⟩, ⟨kS⟩, ⟨bS⟩⟩
   case round =>
    clear H'
    try clear c2
    try clear p2
    try clear c3
    try clear c4
    try clear c9
    try clear c9b0
    try clear c9b1
    try clear hcz13_0
    try clear hcz13_1
    try clear hcz13_2
    try clear hcz13_3
    try clear hcz13_4
    try clear hcz13_5
    try clear hfz13_0
    try clear hfz13_1
    try clear hfz13_2
    try clear hfz13_3
    try clear hfz13_4
    try clear hfz13_5
    obtain ⟨x7_1, rfl, HA, HK1, HO_5, HO_427000, BK426, HB⟩ := hrel
    cases gk with
    | zero => exact absurd HA.out (by simp [laws_FnEstimates.l0])
    | succ k1 =>
     have H := HA.out
     clear HA
     simp only [laws_FnEstimates.l0] at H
     by_cases c16 : x7_1 < t431
     ·rw [if_pos c16] at H
      have c16b0 : decide (x7_1 < t431) = true := decide_eq_true c16
      clear c16
      replace H := bN H
      obtain ⟨t433, A17, H⟩ := H
      replace H := bN H
      obtain ⟨t434, A18, H⟩ := H
      by_cases c19 : t433 > t434
      ·rw [if_pos c19] at H; exact absurd ((Option.some.inj H).trans hT) (by decide)
      ·rw [if_neg c19] at H
       have c19b0 : decide (t434 < t433) = false := decide_eq_false c19
       clear c19
       replace H := bN H
       obtain ⟨t435, A20, H⟩ := H
       by_cases c21 : ((t433 == 0) == t435) = true
       ·rw [if_pos c21] at H; exact absurd ((Option.some.inj H).trans hT) (by decide)
       ·rw [if_neg c21] at H
        have c21b0 : ((t433 == 0) == t435) = false := by simpa using c21
        (try (have c21b1 : decide ((t433 == 0) = t435) = false := by simpa using c21))
        (try (have c21b2 : ((t433 == 0) == t435) = false := by simpa using c21))
        (try (have c21b3 : ¬ ((t433 == 0) = t435) := by simpa using c21))
        clear c21
        replace H := bN H
        obtain ⟨t436, A22, H⟩ := H
        replace H := bN H
        obtain ⟨t437, A23, H⟩ := H
        by_cases c24 : t436 > t437
        ·rw [if_pos c24] at H; exact absurd ((Option.some.inj H).trans hT) (by decide)
        ·rw [if_neg c24] at H
         have c24b0 : decide (t437 < t436) = false := decide_eq_false c24
         clear c24
         have H' := Aside0.mk H
         clear H
         have hcz25_0 : wr.cell? ⟨gb426, 0, none⟩ = some (.slice Ao12 t418.length co12) := (blk_cell BK426.out 0).trans rfl
         have hcz25_1 : wr.cell? ⟨gb426, 1, none⟩ = some (.int .i64 t421) := (blk_cell BK426.out 1).trans rfl
         have hcz25_2 : wr.cell? ⟨gb426, 2, none⟩ = some (.int .i64 t422) := (blk_cell BK426.out 2).trans rfl
         have hcz25_3 : wr.cell? ⟨gb426, 3, none⟩ = some (.int .i64 t423) := (blk_cell BK426.out 3).trans rfl
         have hcz25_4 : wr.cell? ⟨gb426, 4, none⟩ = some (.int .i64 t424) := (blk_cell BK426.out 4).trans rfl
         have hcz25_5 : wr.cell? ⟨gb426, 5, none⟩ = some (.int .i64 t425) := (blk_cell BK426.out 5).trans rfl
         have hfz25_0 := blk_frozen BK426.out 0
         have hfz25_1 := blk_frozen BK426.out 1
         have hfz25_2 := blk_frozen BK426.out 2
         have hfz25_3 := blk_frozen BK426.out 3
         have hfz25_4 := blk_frozen BK426.out 4
         have hfz25_5 := blk_frozen BK426.out 5
         go_wp2_with (first | ((with_reducible refine gC 30 ?_); refine cL (some 33) Try.func30 #[.agg #[.slice Ao12 t418.length co12, .int .i64 t421, .int .i64 t422, .int .i64 t423, .int .i64 t424, .int .i64 t425], .int .i64 t427, .int .i64 x7_1] ?_; (with_reducible refine (impl_PaintTime.calls k1 _ _ t418 t421 t422 t423 t424 t425 t427 x7_1 t433 _ ?side1 ?side2 A17.out).mono ?_); (case side1 => exact cS (Kd.R_reads' HO_427000.out).2.2); (case side2 => exact (Kd.R_reads' HO_427000.out).2.1); rintro e w26 ⟨rfl, hb⟩; refine ⟨_, rfl, ?_⟩; replace HO_5 := Aside0.mk (Kd.S_below (by (with_reducible repeat (first | apply Kd.S_alloc | apply Kd.S_drewN | apply Kd.S_drew)); exact HO_5.out) hb); replace HO_427000 := Aside0.mk (Kd.R_below (rS HO_427000) hb); replace BK426 := kB (g := gb426) hb; replace HB := hB hb; (try clear hb); (try clear hb2); (try clear hk); (try clear hi); have hcz27_0 : w26.cell? ⟨gb426, 0, none⟩ = some (.slice Ao12 t418.length co12) := (blk_cell BK426.out 0).trans rfl; have hcz27_1 : w26.cell? ⟨gb426, 1, none⟩ = some (.int .i64 t421) := (blk_cell BK426.out 1).trans rfl; have hcz27_2 : w26.cell? ⟨gb426, 2, none⟩ = some (.int .i64 t422) := (blk_cell BK426.out 2).trans rfl; have hcz27_3 : w26.cell? ⟨gb426, 3, none⟩ = some (.int .i64 t423) := (blk_cell BK426.out 3).trans rfl; have hcz27_4 : w26.cell? ⟨gb426, 4, none⟩ = some (.int .i64 t424) := (blk_cell BK426.out 4).trans rfl; have hcz27_5 : w26.cell? ⟨gb426, 5, none⟩ = some (.int .i64 t425) := (blk_cell BK426.out 5).trans rfl; have hfz27_0 := blk_frozen BK426.out 0; have hfz27_1 := blk_frozen BK426.out 1; have hfz27_2 := blk_frozen BK426.out 2; have hfz27_3 := blk_frozen BK426.out 3; have hfz27_4 := blk_frozen BK426.out 4; have hfz27_5 := blk_frozen BK426.out 5) | ((with_reducible refine gC 31 ?_); refine cL (some 38) Try.func31 #[.agg #[.slice Ao12 t418.length co12, .int .i64 t421, .int .i64 t422, .int .i64 t423, .int .i64 t424, .int .i64 t425], .int .i64 t427, .int .i64 x7_1] ?_; (with_reducible refine (impl_EstimateTime.calls k1 _ _ t418 t421 t422 t423 t424 t425 t427 x7_1 t434 _ ?side1 ?side2 A18.out).mono ?_); (case side1 => exact cS (Kd.R_reads' HO_427000.out).2.2); (case side2 => exact (Kd.R_reads' HO_427000.out).2.1); rintro e w28 ⟨rfl, hb⟩; refine ⟨_, rfl, ?_⟩; replace HO_5 := Aside0.mk (Kd.S_below (by (with_reducible repeat (first | apply Kd.S_alloc | apply Kd.S_drewN | apply Kd.S_drew)); exact HO_5.out) hb); replace HO_427000 := Aside0.mk (Kd.R_below (rS HO_427000) hb); replace BK426 := kB (g := gb426) hb; replace HB := hB hb; (try clear hb); (try clear hb2); (try clear hk); (try clear hi); have hcz29_0 : w28.cell? ⟨gb426, 0, none⟩ = some (.slice Ao12 t418.length co12) := (blk_cell BK426.out 0).trans rfl; have hcz29_1 : w28.cell? ⟨gb426, 1, none⟩ = some (.int .i64 t421) := (blk_cell BK426.out 1).trans rfl; have hcz29_2 : w28.cell? ⟨gb426, 2, none⟩ = some (.int .i64 t422) := (blk_cell BK426.out 2).trans rfl; have hcz29_3 : w28.cell? ⟨gb426, 3, none⟩ = some (.int .i64 t423) := (blk_cell BK426.out 3).trans rfl; have hcz29_4 : w28.cell? ⟨gb426, 4, none⟩ = some (.int .i64 t424) := (blk_cell BK426.out 4).trans rfl; have hcz29_5 : w28.cell? ⟨gb426, 5, none⟩ = some (.int .i64 t425) := (blk_cell BK426.out 5).trans rfl; have hfz29_0 := blk_frozen BK426.out 0; have hfz29_1 := blk_frozen BK426.out 1; have hfz29_2 := blk_frozen BK426.out 2; have hfz29_3 := blk_frozen BK426.out 3; have hfz29_4 := blk_frozen BK426.out 4; have hfz29_5 := blk_frozen BK426.out 5) | (go_at_call 32; (with_reducible refine (impl_TouchesBand.calls k1 _ _ t418 t421 t422 t423 t424 t425 t427 x7_1 t435 _ ?side1 ?side2 A20.out).mono ?_); (case side1 => exact cS (Kd.R_reads' HO_427000.out).2.2); (case side2 => exact (Kd.R_reads' HO_427000.out).2.1); rintro e w30 ⟨rfl, hb⟩; replace HO_5 := Aside0.mk (Kd.S_below (by (with_reducible repeat (first | apply Kd.S_alloc | apply Kd.S_drewN | apply Kd.S_drew)); exact HO_5.out) hb); replace HO_427000 := Aside0.mk (Kd.R_below (rS HO_427000) hb); replace BK426 := kB (g := gb426) hb; replace HB := hB hb; (try clear hb); (try clear hb2); (try clear hk); (try clear hi); obtain ⟨Ao31, co31, eo31⟩ := Kd.S_slice HO_5.out; subst eo31) | (go_at_call 33; (with_reducible refine (impl_BandTime.calls k1 _ _ t428 t427 x7_1 t436 _ ?side1 ?side2 A22.out).mono ?_); (case side1 => exact cS (Kd.S_reads' HO_5.out).2.2); (case side2 => exact (Kd.S_reads' HO_5.out).2.1); rintro e w32 ⟨rfl, hb⟩; replace HO_5 := Aside0.mk (Kd.S_below (by (with_reducible repeat (first | apply Kd.S_alloc | apply Kd.S_drewN | apply Kd.S_drew)); exact HO_5.out) hb); replace HO_427000 := Aside0.mk (Kd.R_below (rS HO_427000) hb); replace BK426 := kB (g := gb426) hb; replace HB := hB hb; (try clear hb); (try clear hb2); (try clear hk); (try clear hi)) | (go_at_call 34; (with_reducible refine (impl_BandEstimate.calls k1 _ _ t428 t427 x7_1 t437 _ ?side1 ?side2 A23.out).mono ?_); (case side1 => exact cS (Kd.S_reads' HO_5.out).2.2); (case side2 => exact (Kd.S_reads' HO_5.out).2.1); rintro e w33 ⟨rfl, hb⟩; replace HO_5 := Aside0.mk (Kd.S_below (by (with_reducible repeat (first | apply Kd.S_alloc | apply Kd.S_drewN | apply Kd.S_drew)); exact HO_5.out) hb); replace HO_427000 := Aside0.mk (Kd.R_below (rS HO_427000) hb); replace BK426 := kB (g := gb426) hb; replace HB := hB hb; (try clear hb); (try clear hb2); (try clear hk); (try clear hi)))
         go_roundg k1
         case measure => have := HK1.out; omega
         case rel => exact ⟨(wrap64 (x7_1 + 1)), (by first | rfl | (simp; done) | (simp [*]; done)), H', ⟨by have := HK1.out; omega⟩, ⟨by (with_reducible repeat (first | apply Kd.S_alloc | apply Kd.S_drewN | apply Kd.S_drew)); exact HO_5.out⟩, ⟨by (with_reducible repeat (first | apply Kd.R_alloc | apply Kd.R_drewN | apply Kd.R_drew)); exact HO_427000.out⟩, ⟨kS⟩, ⟨bS⟩⟩
     ·rw [if_neg c16] at H
      have c16b0 : decide (x7_1 < t431) = false := decide_eq_false c16
      clear c16
      replace H := bN H
      obtain ⟨t438, A34, H⟩ := H
      have H' := Aside0.mk H
      clear H
      obtain ⟨Ao35, co35, eo35⟩ := Kd.S_slice HO_5.out
      subst eo35
      go_wp2_with (first | ((with_reducible refine gC 35 ?_); refine cL (some 62) Try.func35 #[.slice Ao35 t428.length co35, .int .i64 t427, .int .i64 20] ?_; (with_reducible refine (impl_SlowBands.calls k1 _ _ t428 t427 20 t438 _ ?side1 ?side2 A34.out).mono ?_); (case side1 => exact cS (Kd.S_reads' HO_5.out).2.2); (case side2 => exact (Kd.S_reads' HO_5.out).2.1); rintro e w36 ⟨v439, rfl, ho0, hb⟩; refine ⟨_, rfl, ?_⟩; have HO440 := Aside0.mk (Kd.R_lower ho0 (below_size bS)); replace HO_5 := Aside0.mk (Kd.S_below (by (with_reducible repeat (first | apply Kd.S_alloc | apply Kd.S_drewN | apply Kd.S_drew)); exact HO_5.out) hb); replace HO_427000 := Aside0.mk (Kd.R_below (rS HO_427000) hb); replace BK426 := kB (g := gb426) hb; replace HB := hB hb; (try clear hb); (try clear hb2); (try clear hk); (try clear hi); (try clear ho0)))
      go_loopg [10] k1 (fun kq v10 w' => ∃ (x10_2 : Int), v10 = .int .i64 x10_2 ∧ Aside0 (laws_FnEstimates.l1 kq t427 t428 t438 x10_2 = some r) ∧ Aside0 (kq ≤ k1) ∧ Aside0 (Kd.S k41 41 w' w.heap.size (fun k_ => some k_ ≠ ((.slice Ao12 t418.length co12) : Value).ownBlock ∧ k_ ≠ gb426) (.slice Ao35 t428.length co35) t428) ∧ Aside0 (Kd.R (Kd.int .i64) 3 w' w.heap.size (fun _ => True) v439 t438) ∧ Aside0 (Kd.R k166 166 w' w.heap.size (fun _ => True) (.slice Ao12 t418.length co12) t418) ∧ Aside0 (w'.heap[gb426]? = some (.cells #[(.slice Ao12 t418.length co12), .int .i64 t421, .int .i64 t422, .int .i64 t423, .int .i64 t424, .int .i64 t425] 41 (0, 0))) ∧ Aside0 (Below w.heap.size w w'))
      case atStart => exact ⟨(0), (by first | rfl | (simp; done) | (simp [*]; done)), H', ⟨Nat.le_refl _⟩, ⟨by (with_reducible repeat (first | apply Kd.S_alloc | apply Kd.S_drewN | apply Kd.S_drew)); exact HO_5.out⟩, ⟨by (with_reducible repeat (first | apply Kd.R_alloc | apply Kd.R_drewN | apply Kd.R_drew)); exact HO440.out⟩, ⟨by (with_reducible repeat (first | apply Kd.R_alloc | apply Kd.R_drewN | apply Kd.R_drew)); exact HO_427000.out⟩, ⟨kS⟩, ⟨bS⟩⟩
      case round =>
       clear H'
       try clear c1
       try clear c2
       try clear p2
       try clear c3
       try clear c4
       try clear p6
       try clear c9
       try clear c9b0
       try clear c9b1
       try clear c16
       try clear c16b0
       try clear c19
       try clear c19b0
       try clear c21
       try clear c21b0
       try clear c21b1
       try clear c21b2
       try clear c24
       try clear c24b0
       try clear c25
       try clear c26
       try clear c27
       try clear c28
       try clear c29
       try clear c30
       try clear c31
       try clear c35
       try clear hcz13_0
       try clear hcz13_1
       try clear hcz13_2
       try clear hcz13_3
       try clear hcz13_4
       try clear hcz13_5
       try clear hcz25_0
       try clear hcz25_1
       try clear hcz25_2
       try clear hcz25_3
       try clear hcz25_4
       try clear hcz25_5
       try clear hcz27_0
       try clear hcz27_1
       try clear hcz27_2
       try clear hcz27_3
       try clear hcz27_4
       try clear hcz27_5
       try clear hcz29_0
       try clear hcz29_1
       try clear hcz29_2
       try clear hcz29_3
       try clear hcz29_4
       try clear hcz29_5
       try clear hfz13_0
       try clear hfz13_1
       try clear hfz13_2
       try clear hfz13_3
       try clear hfz13_4
       try clear hfz13_5
       try clear hfz25_0
       try clear hfz25_1
       try clear hfz25_2
       try clear hfz25_3
       try clear hfz25_4
       try clear hfz25_5
       try clear hfz27_0
       try clear hfz27_1
       try clear hfz27_2
       try clear hfz27_3
       try clear hfz27_4
       try clear hfz27_5
       try clear hfz29_0
       try clear hfz29_1
       try clear hfz29_2
       try clear hfz29_3
       try clear hfz29_4
       try clear hfz29_5
       try clear p2
       obtain ⟨x10_2, rfl, HA, HK2, HO_5, HO_9, HO_427000, BK426, HB⟩ := hrel
       cases gk with
       | zero => exact absurd HA.out (by simp [laws_FnEstimates.l1])
       | succ k2 =>
        have H := HA.out
        clear HA
        simp only [laws_FnEstimates.l1] at H
        by_cases c37 : x10_2 < (t438.length : Int)
        ·rw [if_pos c37] at H
         have c37b0 : decide (x10_2 < (t438.length : Int)) = true := decide_eq_true c37
         clear c37
         by_cases c38 : 0 ≤ x10_2
         ·rw [if_pos c38] at H
          have c38b0 : decide (0 ≤ x10_2) = true := decide_eq_true c38
          clear c38
          replace H := bN H
          obtain ⟨t442, A39, H⟩ := H
          by_cases c40 : t442 ≤ 20
          ·rw [if_pos c40] at H; exact absurd ((Option.some.inj H).trans hT) (by decide)
          ·rw [if_neg c40] at H
           have c40b0 : decide (t442 ≤ 20) = false := decide_eq_false c40
           clear c40
           by_cases c41 : x10_2 > 0
           ·rw [if_pos c41] at H
            have c41b0 : decide (0 < x10_2) = true := decide_eq_true c41
            clear c41
            obtain ⟨ji42, hji42⟩ : ∃ j_ : Int, (wrap64 (x10_2 - 1)) = j_ := ⟨_, rfl⟩
            replace H : (if 0 ≤ (ji42) then (if (ji42) < (t438.length : Int) then (if (rd t438 x10_2) ≤ (rd t438 (ji42)) then (some false) else (laws_FnEstimates.l1 k2 t427 t428 t438 (wrap64 (x10_2 + 1)))) else (none)) else (none)) = some r := by first | (rw [hji42] at H; exact H) | (simp only [hji42] at H ⊢; exact H)
            (try rw [hji42] at A39)
            have hji42w : (IntKind.i64.wrap (x10_2 - 1)) = ji42 := (i64_w _).trans hji42
            by_cases c43 : 0 ≤ (ji42)
            ·rw [if_pos c43] at H
             have c43b0 : decide (0 ≤ (ji42)) = true := decide_eq_true c43
             clear c43
             by_cases c44 : (ji42) < (t438.length : Int)
             ·rw [if_pos c44] at H
              have c44b0 : decide ((ji42) < (t438.length : Int)) = true := decide_eq_true c44
              clear c44
              by_cases c45 : (rd t438 x10_2) ≤ (rd t438 (ji42))
              ·rw [if_pos c45] at H; exact absurd ((Option.some.inj H).trans hT) (by decide)
              ·rw [if_neg c45] at H
               have c45b0 : decide ((rd t438 x10_2) ≤ (rd t438 (ji42))) = false := decide_eq_false c45
               clear c45
               have H' := Aside0.mk H
               clear H
               obtain ⟨Ao46, co46, eo46⟩ := Kd.R_slice HO_9.out
               subst eo46
               try go_wp2
               replace HO_5 := Aside0.mk (Kd.S_drew HO_5.out)
               replace HO_9 := Aside0.mk (Kd.R_drew HO_9.out)
               replace HO_427000 := Aside0.mk (Kd.R_drew HO_427000.out)
               replace BK426 := Aside0.mk (blk_drew BK426.out)
               replace HB := Aside0.mk (below_drew1 HB.out)
               have p441 : 0 ≤ (x10_2 : Int) := of_decide_eq_true (by first | (with_reducible assumption) | assumption)
               have q441 : x10_2 < (t438.length : Int) := of_decide_eq_true (by first | (with_reducible assumption) | assumption)
               obtain ⟨ad441, e441, hx441_0⟩ := Kd.at_int (Kd.R_reads' HO_9.out).2.2 x10_2 p441 q441
               cases e441
               replace p441 := eq_true p441
               replace q441 := eq_true q441
               have p443 : 0 ≤ (x10_2 : Int) := of_decide_eq_true (by first | (with_reducible assumption) | assumption)
               have q443 : x10_2 < (t438.length : Int) := of_decide_eq_true (by first | (with_reducible assumption) | assumption)
               obtain ⟨ad443, e443, hx443_0⟩ := Kd.at_int (Kd.R_reads' HO_9.out).2.2 x10_2 p443 q443
               obtain rfl : ad441 = ad443 := (by injection e443)
               replace p443 := eq_true p443
               replace q443 := eq_true q443
               have p444 : 0 ≤ ((ji42) : Int) := of_decide_eq_true (by first | (with_reducible assumption) | assumption)
               have q444 : (ji42) < (t438.length : Int) := of_decide_eq_true (by first | (with_reducible assumption) | assumption)
               obtain ⟨ad444, e444, hx444_0⟩ := Kd.at_int (Kd.R_reads' HO_9.out).2.2 (ji42) p444 q444
               obtain rfl : ad441 = ad444 := (by injection e444)
               replace p444 := eq_true p444
               replace q444 := eq_true q444
               refine start_ (n := 24) (S := fun w' => w'.cell? (ad441.add (x10_2).toNat) = some (.int .i64 (rd t438 x10_2)) ∧ w'.cell? (ad441.add (x10_2).toNat) = some (.int .i64 (rd t438 x10_2)) ∧ w'.cell? (ad441.add ((ji42)).toNat) = some (.int .i64 (rd t438 (ji42)))) (ds := []) #[false, false, false, false, false, false, false, false, false, false, false, false, false, false, false, false, false, false, false, false, false, false, false, false] (by kernel_rfl) rfl rfl ⟨hx441_0, hx443_0, hx444_0⟩ (fun hHeld => ?_); refine with_tabW laws_FnEstimates.tab19 laws_FnEstimates.bits19 (fun HT_ HW_ => ?_)
               generalize wr.drew = w47 at HO_5 HO_9 HO_427000 BK426 HB hx441_0 hx443_0 hx444_0 hHeld ⊢
               refine pU 0 (some 69) #[true, false, false, false, false, false, false, false, false, false, false, false, false, false, false, false, false, false, false, false, false, false, false, false] ?_
               refine pU 1 (some 70) #[true, true, false, false, false, false, false, false, false, false, false, false, false, false, false, false, false, false, false, false, false, false, false, false] ?_
               refine pU 2 (some 71) #[true, true, true, false, false, false, false, false, false, false, false, false, false, false, false, false, false, false, false, false, false, false, false, false] ?_
               refine pU 3 (some 72) #[true, true, true, true, false, false, false, false, false, false, false, false, false, false, false, false, false, false, false, false, false, false, false, false] ?_
               refine pU 4 (some 73) #[true, true, true, true, true, false, false, false, false, false, false, false, false, false, false, false, false, false, false, false, false, false, false, false] ?_
               refine tK 5 (some 74) #[true, true, true, true, true, true, false, false, false, false, false, false, false, false, false, false, false, false, false, false, false, false, false, false] ?_
               refine one_ (i := 6) (N := some 75) #[true, true, true, true, true, true, true, false, false, false, false, false, false, false, false, false, false, false, false, false, false, false, false, false] rfl rfl (one_of HT_.out (by kernel_rfl)) (by decide) (fun K hK => ?_)
               refine goes_ Try.func34 (by kernel_rfl) rfl #[.slice Ao35 t428.length co35, .int .i64 t427, .int .i64 (rd t438 x10_2)] (by rfl) rfl rfl (by (try simp only [List.map_toArray, List.map_cons, List.map_nil]); first | done | rfl | (simp only [List.length_drop, List.length_take]; rfl)) ?_
               with_reducible refine (impl_BandEstimate.calls k2 _ _ t428 t427 (rd t438 x10_2) t442 _ ?side1 ?side2 A39.out).mono ?_
               (case side1 => exact cS (Kd.S_reads' HO_5.out).2.2)
               (case side2 => exact (Kd.S_reads' HO_5.out).2.1)
               rintro e w48 ⟨rfl, hb⟩
               have HS0_ := (hb.cell (World.block_lt_of_cell? _ _ (hHeld.1))).trans (hHeld.1)
               have HS1_ := (hb.cell (World.block_lt_of_cell? _ _ (hHeld.2.1))).trans (hHeld.2.1)
               have HS2_ := (hb.cell (World.block_lt_of_cell? _ _ (hHeld.2.2))).trans (hHeld.2.2)
               refine ⟨_, rfl, ?_⟩
               replace HO_5 := Aside0.mk (Kd.S_below (by (with_reducible repeat (first | apply Kd.S_alloc | apply Kd.S_drewN | apply Kd.S_drew)); exact HO_5.out) hb)
               replace HO_9 := Aside0.mk (Kd.R_below (rS HO_9) hb)
               replace HO_427000 := Aside0.mk (Kd.R_below (rS HO_427000) hb)
               replace BK426 := kB (g := gb426) hb
               replace HB := hB hb
               (try clear hb)
               (try clear hb2)
               (try clear hk)
               (try clear hi)
               refine hK.out _ _ ⟨HS0_, HS1_, HS2_⟩ (fun hHeld => ?_)
               clear hK K
               refine norm_ (a' := ?_) ?_ ?_
               rotate_left
               ·show Act.put _ (some 75) _ = _
                simp only [Act.put, List.setIfInBounds_toArray, List.set_cons_zero, List.set_cons_succ, i64_w, i32_w]
                rfl
               refine pU 7 (some 76) #[true, true, true, true, true, true, true, true, false, false, false, false, false, false, false, false, false, false, false, false, false, false, false, false] ?_
               refine pU 8 (some 77) #[true, true, true, true, true, true, true, true, true, false, false, false, false, false, false, false, false, false, false, false, false, false, false, false] ?_
               refine pU 9 (some 78) #[true, true, true, true, true, true, true, true, true, true, false, false, false, false, false, false, false, false, false, false, false, false, false, false] ?_
               refine pU 10 (some 79) #[true, true, true, true, true, true, true, true, true, true, true, false, false, false, false, false, false, false, false, false, false, false, false, false] ?_
               refine pU 11 (some 80) #[true, true, true, true, true, true, true, true, true, true, true, true, false, false, false, false, false, false, false, false, false, false, false, false] ?_
               refine pU 12 (some 81) #[true, true, true, true, true, true, true, true, true, true, true, true, true, false, false, false, false, false, false, false, false, false, false, false] ?_
               refine pU 13 (some 82) #[true, true, true, true, true, true, true, true, true, true, true, true, true, true, false, false, false, false, false, false, false, false, false, false] ?_
               refine pU 14 (some 83) #[true, true, true, true, true, true, true, true, true, true, true, true, true, true, true, false, false, false, false, false, false, false, false, false] ?_
               refine pU 16 (some 85) #[true, true, true, true, true, true, true, true, true, true, true, true, true, true, true, false, true, false, false, false, false, false, false, false] ?_
               refine pU 17 (some 86) #[true, true, true, true, true, true, true, true, true, true, true, true, true, true, true, false, true, true, false, false, false, false, false, false] ?_
               refine pU 18 (some 87) #[true, true, true, true, true, true, true, true, true, true, true, true, true, true, true, false, true, true, true, false, false, false, false, false] ?_
               refine pU 19 (some 88) #[true, true, true, true, true, true, true, true, true, true, true, true, true, true, true, false, true, true, true, true, false, false, false, false] ?_
               refine tK 15 (some 84) #[true, true, true, true, true, true, true, true, true, true, true, true, true, true, true, true, true, true, true, true, false, false, false, false] ?_
               refine tK 20 (some 89) #[true, true, true, true, true, true, true, true, true, true, true, true, true, true, true, true, true, true, true, true, true, false, false, false] ?_
               refine pU 21 (some 90) #[true, true, true, true, true, true, true, true, true, true, true, true, true, true, true, true, true, true, true, true, true, true, false, false] ?_
               refine pU 22 (some 91) #[true, true, true, true, true, true, true, true, true, true, true, true, true, true, true, true, true, true, true, true, true, true, true, false] ?_
               refine pU 23 (some 92) #[true, true, true, true, true, true, true, true, true, true, true, true, true, true, true, true, true, true, true, true, true, true, true, true] ?_
               refine done_ (done_of HT_.out (by kernel_rfl)) ?_
               try go_wp2
               go_roundg k2
               case measure => have := HK1.out; have := HK2.out; omega
               case rel => exact ⟨(wrap64 (x10_2 + 1)), (by first | rfl | (simp; done) | (simp [*]; done)), H', ⟨by have := HK1.out; have := HK2.out; omega⟩, ⟨by (with_reducible repeat (first | apply Kd.S_alloc | apply Kd.S_drewN | apply Kd.S_drew)); exact HO_5.out⟩, ⟨by (with_reducible repeat (first | apply Kd.R_alloc | apply Kd.R_drewN | apply Kd.R_drew)); exact HO_9.out⟩, ⟨by (with_reducible repeat (first | apply Kd.R_alloc | apply Kd.R_drewN | apply Kd.R_drew)); exact HO_427000.out⟩, ⟨kS⟩, ⟨bS⟩⟩
             ·rw [if_neg c44] at H
              exact absurd H (by simp)
            ·rw [if_neg c43] at H
             exact absurd H (by simp)
           ·rw [if_neg c41] at H
            have c41b0 : decide (0 < x10_2) = false := decide_eq_false c41
            clear c41
            have H' := Aside0.mk H
            clear H
            obtain ⟨Ao49, co49, eo49⟩ := Kd.R_slice HO_9.out
            subst eo49
            try go_wp2
            replace HO_5 := Aside0.mk (Kd.S_drew HO_5.out)
            replace HO_9 := Aside0.mk (Kd.R_drew HO_9.out)
            replace HO_427000 := Aside0.mk (Kd.R_drew HO_427000.out)
            replace BK426 := Aside0.mk (blk_drew BK426.out)
            replace HB := Aside0.mk (below_drew1 HB.out)
            have p441 : 0 ≤ (x10_2 : Int) := of_decide_eq_true (by first | (with_reducible assumption) | assumption)
            have q441 : x10_2 < (t438.length : Int) := of_decide_eq_true (by first | (with_reducible assumption) | assumption)
            obtain ⟨ad441, e441, hx441_0⟩ := Kd.at_int (Kd.R_reads' HO_9.out).2.2 x10_2 p441 q441
            cases e441
            replace p441 := eq_true p441
            replace q441 := eq_true q441
            refine start_ (n := 24) (S := fun w' => w'.cell? (ad441.add (x10_2).toNat) = some (.int .i64 (rd t438 x10_2))) (ds := []) #[false, false, false, false, false, false, false, false, false, false, false, false, false, false, false, false, false, false, false, false, false, false, false, false] (by kernel_rfl) rfl rfl (hx441_0) (fun hHeld => ?_); refine with_tabW laws_FnEstimates.tab19 laws_FnEstimates.bits19 (fun HT_ HW_ => ?_)
            generalize wr.drew = w50 at HO_5 HO_9 HO_427000 BK426 HB hx441_0 hHeld ⊢
            refine pU 0 (some 69) #[true, false, false, false, false, false, false, false, false, false, false, false, false, false, false, false, false, false, false, false, false, false, false, false] ?_
            refine pU 1 (some 70) #[true, true, false, false, false, false, false, false, false, false, false, false, false, false, false, false, false, false, false, false, false, false, false, false] ?_
            refine pU 2 (some 71) #[true, true, true, false, false, false, false, false, false, false, false, false, false, false, false, false, false, false, false, false, false, false, false, false] ?_
            refine pU 3 (some 72) #[true, true, true, true, false, false, false, false, false, false, false, false, false, false, false, false, false, false, false, false, false, false, false, false] ?_
            refine pU 4 (some 73) #[true, true, true, true, true, false, false, false, false, false, false, false, false, false, false, false, false, false, false, false, false, false, false, false] ?_
            refine tK 5 (some 74) #[true, true, true, true, true, true, false, false, false, false, false, false, false, false, false, false, false, false, false, false, false, false, false, false] ?_
            refine one_ (i := 6) (N := some 75) #[true, true, true, true, true, true, true, false, false, false, false, false, false, false, false, false, false, false, false, false, false, false, false, false] rfl rfl (one_of HT_.out (by kernel_rfl)) (by decide) (fun K hK => ?_)
            refine goes_ Try.func34 (by kernel_rfl) rfl #[.slice Ao35 t428.length co35, .int .i64 t427, .int .i64 (rd t438 x10_2)] (by rfl) rfl rfl (by (try simp only [List.map_toArray, List.map_cons, List.map_nil]); first | done | rfl | (simp only [List.length_drop, List.length_take]; rfl)) ?_
            with_reducible refine (impl_BandEstimate.calls k2 _ _ t428 t427 (rd t438 x10_2) t442 _ ?side1 ?side2 A39.out).mono ?_
            (case side1 => exact cS (Kd.S_reads' HO_5.out).2.2)
            (case side2 => exact (Kd.S_reads' HO_5.out).2.1)
            rintro e w51 ⟨rfl, hb⟩
            have HS0_ := (hb.cell (World.block_lt_of_cell? _ _ (hHeld))).trans (hHeld)
            refine ⟨_, rfl, ?_⟩
            replace HO_5 := Aside0.mk (Kd.S_below (by (with_reducible repeat (first | apply Kd.S_alloc | apply Kd.S_drewN | apply Kd.S_drew)); exact HO_5.out) hb)
            replace HO_9 := Aside0.mk (Kd.R_below (rS HO_9) hb)
            replace HO_427000 := Aside0.mk (Kd.R_below (rS HO_427000) hb)
            replace BK426 := kB (g := gb426) hb
            replace HB := hB hb
            (try clear hb)
            (try clear hb2)
            (try clear hk)
            (try clear hi)
            refine hK.out _ _ (HS0_) (fun hHeld => ?_)
            clear hK K
            refine norm_ (a' := ?_) ?_ ?_
            rotate_left
            ·show Act.put _ (some 75) _ = _
             simp only [Act.put, List.setIfInBounds_toArray, List.set_cons_zero, List.set_cons_succ, i64_w, i32_w]
             rfl
            refine pU 7 (some 76) #[true, true, true, true, true, true, true, true, false, false, false, false, false, false, false, false, false, false, false, false, false, false, false, false] ?_
            refine pU 8 (some 77) #[true, true, true, true, true, true, true, true, true, false, false, false, false, false, false, false, false, false, false, false, false, false, false, false] ?_
            refine pU 9 (some 78) #[true, true, true, true, true, true, true, true, true, true, false, false, false, false, false, false, false, false, false, false, false, false, false, false] ?_
            refine pU 10 (some 79) #[true, true, true, true, true, true, true, true, true, true, true, false, false, false, false, false, false, false, false, false, false, false, false, false] ?_
            refine pU 11 (some 80) #[true, true, true, true, true, true, true, true, true, true, true, true, false, false, false, false, false, false, false, false, false, false, false, false] ?_
            refine pure_ (i := 12) (N := some 81) (v := undef) (a' := ?_) #[true, true, true, true, true, true, true, true, true, true, true, true, true, false, false, false, false, false, false, false, false, false, false, false] rfl rfl (any_of HT_.out (by kernel_rfl)) (fun _ _ _ h => h) (Or.inr ⟨by rfl, rfl⟩) ?_ ?_
            rotate_left
            ·simp only [Act.put, List.setIfInBounds_toArray, List.set_cons_zero, List.set_cons_succ, i64_w, i32_w]
             rfl
            refine pure_ (i := 13) (N := some 82) (v := undef) (a' := ?_) #[true, true, true, true, true, true, true, true, true, true, true, true, true, true, false, false, false, false, false, false, false, false, false, false] rfl rfl (any_of HT_.out (by kernel_rfl)) (fun _ _ _ h => h) (Or.inr ⟨by rfl, rfl⟩) ?_ ?_
            rotate_left
            ·simp only [Act.put, List.setIfInBounds_toArray, List.set_cons_zero, List.set_cons_succ, i64_w, i32_w]
             rfl
            refine pure_ (i := 14) (N := some 83) (v := undef) (a' := ?_) #[true, true, true, true, true, true, true, true, true, true, true, true, true, true, true, false, false, false, false, false, false, false, false, false] rfl rfl (any_of HT_.out (by kernel_rfl)) (fun _ _ _ h => h) (Or.inr ⟨by rfl, rfl⟩) ?_ ?_
            rotate_left
            ·simp only [Act.put, List.setIfInBounds_toArray, List.set_cons_zero, List.set_cons_succ, i64_w, i32_w]
             rfl
            refine pure_ (i := 15) (N := some 84) (v := undef) (a' := ?_) #[true, true, true, true, true, true, true, true, true, true, true, true, true, true, true, true, false, false, false, false, false, false, false, false] rfl rfl (any_of HT_.out (by kernel_rfl)) (fun _ _ _ h => h) (Or.inr ⟨by rfl, rfl⟩) ?_ ?_
            rotate_left
            ·simp only [Act.put, List.setIfInBounds_toArray, List.set_cons_zero, List.set_cons_succ, i64_w, i32_w]
             rfl
            refine pure_ (i := 16) (N := some 85) (v := undef) (a' := ?_) #[true, true, true, true, true, true, true, true, true, true, true, true, true, true, true, true, true, false, false, false, false, false, false, false] rfl rfl (any_of HT_.out (by kernel_rfl)) (fun _ _ _ h => h) (Or.inr ⟨by rfl, rfl⟩) ?_ ?_
            rotate_left
            ·simp only [Act.put, List.setIfInBounds_toArray, List.set_cons_zero, List.set_cons_succ, i64_w, i32_w]
             rfl
            refine pure_ (i := 17) (N := some 86) (v := undef) (a' := ?_) #[true, true, true, true, true, true, true, true, true, true, true, true, true, true, true, true, true, true, false, false, false, false, false, false] rfl rfl (any_of HT_.out (by kernel_rfl)) (fun _ _ _ h => h) (Or.inr ⟨by rfl, rfl⟩) ?_ ?_
            rotate_left
            ·simp only [Act.put, List.setIfInBounds_toArray, List.set_cons_zero, List.set_cons_succ, i64_w, i32_w]
             rfl
            refine pure_ (i := 18) (N := some 87) (v := undef) (a' := ?_) #[true, true, true, true, true, true, true, true, true, true, true, true, true, true, true, true, true, true, true, false, false, false, false, false] rfl rfl (any_of HT_.out (by kernel_rfl)) (fun _ _ _ h => h) (Or.inr ⟨by rfl, rfl⟩) ?_ ?_
            rotate_left
            ·simp only [Act.put, List.setIfInBounds_toArray, List.set_cons_zero, List.set_cons_succ, i64_w, i32_w]
             rfl
            refine pure_ (i := 19) (N := some 88) (v := undef) (a' := ?_) #[true, true, true, true, true, true, true, true, true, true, true, true, true, true, true, true, true, true, true, true, false, false, false, false] rfl rfl (any_of HT_.out (by kernel_rfl)) (fun _ _ _ h => h) (Or.inr ⟨by rfl, rfl⟩) ?_ ?_
            rotate_left
            ·simp only [Act.put, List.setIfInBounds_toArray, List.set_cons_zero, List.set_cons_succ, i64_w, i32_w]
             rfl
            refine pure_ (i := 20) (N := some 89) (v := undef) (a' := ?_) #[true, true, true, true, true, true, true, true, true, true, true, true, true, true, true, true, true, true, true, true, true, false, false, false] rfl rfl (any_of HT_.out (by kernel_rfl)) (fun _ _ _ h => h) (Or.inr ⟨by rfl, rfl⟩) ?_ ?_
            rotate_left
            ·simp only [Act.put, List.setIfInBounds_toArray, List.set_cons_zero, List.set_cons_succ, i64_w, i32_w]
             rfl
            refine pure_ (i := 21) (N := some 90) (v := undef) (a' := ?_) #[true, true, true, true, true, true, true, true, true, true, true, true, true, true, true, true, true, true, true, true, true, true, false, false] rfl rfl (any_of HT_.out (by kernel_rfl)) (fun _ _ _ h => h) (Or.inr ⟨by rfl, rfl⟩) ?_ ?_
            rotate_left
            ·simp only [Act.put, List.setIfInBounds_toArray, List.set_cons_zero, List.set_cons_succ, i64_w, i32_w]
             rfl
            refine pU 22 (some 91) #[true, true, true, true, true, true, true, true, true, true, true, true, true, true, true, true, true, true, true, true, true, true, true, false] ?_
            refine pU 23 (some 92) #[true, true, true, true, true, true, true, true, true, true, true, true, true, true, true, true, true, true, true, true, true, true, true, true] ?_
            refine done_ (done_of HT_.out (by kernel_rfl)) ?_
            try go_wp2
            go_roundg k2
            case measure => have := HK1.out; have := HK2.out; omega
            case rel => exact ⟨(wrap64 (x10_2 + 1)), (by first | rfl | (simp; done) | (simp [*]; done)), H', ⟨by have := HK1.out; have := HK2.out; omega⟩, ⟨by (with_reducible repeat (first | apply Kd.S_alloc | apply Kd.S_drewN | apply Kd.S_drew)); exact HO_5.out⟩, ⟨by (with_reducible repeat (first | apply Kd.R_alloc | apply Kd.R_drewN | apply Kd.R_drew)); exact HO_9.out⟩, ⟨by (with_reducible repeat (first | apply Kd.R_alloc | apply Kd.R_drewN | apply Kd.R_drew)); exact HO_427000.out⟩, ⟨kS⟩, ⟨bS⟩⟩
         ·rw [if_neg c38] at H
          exact absurd H (by simp)
        ·rw [if_neg c37] at H
         have c37b0 : decide (x10_2 < (t438.length : Int)) = false := decide_eq_false c37
         clear c37
         obtain rfl := Option.some.inj H
         (try clear hT)
         obtain ⟨Ao52, co52, eo52⟩ := Kd.R_slice HO_9.out
         subst eo52
         go_wp2
         go_ret
         exact ⟨eS, bS⟩
  ·rw [if_neg c9] at H; exact absurd ((Option.some.inj H).trans hT) (by decide)

end Go.Proofs.Ytimpejidlnjhlaa.QFnEstimates
