-- Made out of the translation by a program of this session (a changed copy of the print). Not trusted: Lean checks it.
import Derived.Test.YtimpejidlnjhlaaQFnPaintsx0
import Derived.Test.YtimpejidlnjhlaaQFnPaintsx1
import Derived.Test.YtimpejidlnjhlaaQFnPaintsx2
import Derived.Test.YtimpejidlnjhlaaQFnPaintsx7
import Derived.Test.YtimpejidlnjhlaaQFnPaintsx8
namespace Go.Proofs.Ytimpejidlnjhlaa.QFnPaints
open Go.RowKit Go.Proofs.YtimpejidlnjhlaaW.PrintWords Go.Proofs.YtimpejidlnjhlaaW.PrintLast Go.Proofs.YtimpejidlnjhlaaW.PrintMore
attribute [local go_sem] max2_int min2_int max_two min_two max_three min_three max_four min_four   -- for this text's walks alone
set_option linter.unusedVariables false
set_option linter.unusedSimpArgs false
set_option maxHeartbeats 8000000
set_option maxRecDepth 100000

/-! ### laws_FnPaints: function 6 -/
mutual
def laws_FnPaints.j0 : Nat → List (List Int) → Int → List (List Int) → Bool → List (S166) → Int → Int → Int → Int → Int → Option (Bool)
  | 0, _, _, _, _, _, _, _, _, _, _ => none
  | k + 1, x3, x6, x7, x64, x444000, x444001, x444002, x444003, x444004, x444005 => if x64 = true then (some false) else (laws_FnPaints.l0 k x3 x6 x7 0 x444000 x444001 x444002 x444003 x444004 x444005)
def laws_FnPaints.l0 : Nat → List (List Int) → Int → List (List Int) → Int → List (S166) → Int → Int → Int → Int → Int → Option (Bool)
  | 0, _, _, _, _, _, _, _, _, _, _ => none
  | k + 1, x3, x6, x7, x11, x444000, x444001, x444002, x444003, x444004, x444005 => if x11 < (x3.length : Int) then ((impl_ObjectRow.f k x444000 x444001 x444002 x444003 x444004 x444005 (wrap64 (x6 + x11))).bind fun t458 => (laws_FnPaints.l1 k x3 x6 x7 x11 t458 0 x444000 x444001 x444002 x444003 x444004 x444005)) else (some true)
def laws_FnPaints.l1 : Nat → List (List Int) → Int → List (List Int) → Int → List (S140) → Int → List (S166) → Int → Int → Int → Int → Int → Option (Bool)
  | 0, _, _, _, _, _, _, _, _, _, _, _, _ => none
  | k + 1, x3, x6, x7, x11, x12, x13, x444000, x444001, x444002, x444003, x444004, x444005 => if x13 < 32 then (if 0 ≤ x11 then (if x11 < (x3.length : Int) then (if 0 ≤ x13 then (if x13 < ((rd_L3 x3 x11).length : Int) then ((impl_InSpans.f k x12 x13).bind fun t463 => (if t463 = true then (if x11 < (x7.length : Int) then (if x13 < ((rd_L3 x7 x11).length : Int) then (if (rd (rd_L3 x7 x11) x13) = x444001 then (laws_FnPaints.l1 k x3 x6 x7 x11 x12 (wrap64 (x13 + 1)) x444000 x444001 x444002 x444003 x444004 x444005) else (some false)) else (none)) else (none)) else (if x11 < (x7.length : Int) then (if x13 < ((rd_L3 x7 x11).length : Int) then (if (rd (rd_L3 x7 x11) x13) = (rd (rd_L3 x3 x11) x13) then (laws_FnPaints.l1 k x3 x6 x7 x11 x12 (wrap64 (x13 + 1)) x444000 x444001 x444002 x444003 x444004 x444005) else (some false)) else (none)) else (none)))) else (none)) else (none)) else (none)) else (none)) else (laws_FnPaints.l0 k x3 x6 x7 (wrap64 (x11 + 1)) x444000 x444001 x444002 x444003 x444004 x444005)
end
def laws_FnPaints.f (k : Nat) (l0 : List Int) : Option (Bool) := (laws_big.f l0).bind fun t431 => (if t431 = true then (some true) else ((spec_DrawRows.f k l0).bind fun t432 => ((spec_DrawObject.f k l0).bind fun bt435 => ((spec_DrawPlaces.f k l0).bind fun t444 => (if 0 < (t444.length : Int) then ((impl_PaintObject.f k t432 (Int.tmod (rd t444 0) 33) bt435.1 bt435.2.1 bt435.2.2.1 bt435.2.2.2.1 bt435.2.2.2.2.1 bt435.2.2.2.2.2).bind fun bt448 => ((impl_PaintObject.f k bt448.1 (Int.tmod (rd t444 0) 33) bt435.1 bt435.2.1 bt435.2.2.1 bt435.2.2.2.1 bt435.2.2.2.2.1 bt435.2.2.2.2.2).bind fun bt452 => (if bt448.2 = true then (if bt452.2 = true then ((impl_SameRows.f k bt448.1 bt452.1).bind fun t456 => (if t456 = true then ((impl_RowsOk.f k bt448.1).bind fun t457 => (if t457 = true then (laws_FnPaints.j0 k t432 (Int.tmod (rd t444 0) 33) bt448.1 ((bt448.1.length : Int) != (t432.length : Int)) bt435.1 bt435.2.1 bt435.2.2.1 bt435.2.2.2.1 bt435.2.2.2.2.1 bt435.2.2.2.2.2) else (laws_FnPaints.j0 k t432 (Int.tmod (rd t444 0) 33) bt448.1 true bt435.1 bt435.2.1 bt435.2.2.1 bt435.2.2.2.1 bt435.2.2.2.2.1 bt435.2.2.2.2.2))) else (laws_FnPaints.j0 k t432 (Int.tmod (rd t444 0) 33) bt448.1 true bt435.1 bt435.2.1 bt435.2.2.1 bt435.2.2.2.1 bt435.2.2.2.2.1 bt435.2.2.2.2.2))) else (laws_FnPaints.j0 k t432 (Int.tmod (rd t444 0) 33) bt448.1 true bt435.1 bt435.2.1 bt435.2.2.1 bt435.2.2.2.1 bt435.2.2.2.2.1 bt435.2.2.2.2.2)) else (laws_FnPaints.j0 k t432 (Int.tmod (rd t444 0) 33) bt448.1 true bt435.1 bt435.2.1 bt435.2.2.1 bt435.2.2.2.1 bt435.2.2.2.2.1 bt435.2.2.2.2.2)))) else (none))))))
theorem laws_FnPaints.calls (k : Nat) (A0 : Option Addr) (c0 : Nat) (l0 : List Int) (r : Bool) (w : World) (hr0 : Kd.C (Kd.int .u8) w A0 l0.length l0) (hc0 : l0.length ≤ c0) (h : laws_FnPaints.f k l0 = some r) :
    Calls Try.prog 6 #[.slice A0 l0.length c0] w fun e w' => e = .returned (.bool r) ∧ Below w.heap.size w w' := by
  have hu41 := Try.underlying41
  have HR0 := Aside0.mk hr0
  have HC0 := Aside0.mk hc0
  clear hr0 hc0
  have HB := Aside0.mk (Below.refl w.heap.size w)
  have H : ((laws_big.f l0).bind fun t431 => (if t431 = true then (some true) else ((spec_DrawRows.f k l0).bind fun t432 => ((spec_DrawObject.f k l0).bind fun bt435 => ((spec_DrawPlaces.f k l0).bind fun t444 => (if 0 < (t444.length : Int) then ((impl_PaintObject.f k t432 (Int.tmod (rd t444 0) 33) bt435.1 bt435.2.1 bt435.2.2.1 bt435.2.2.2.1 bt435.2.2.2.2.1 bt435.2.2.2.2.2).bind fun bt448 => ((impl_PaintObject.f k bt448.1 (Int.tmod (rd t444 0) 33) bt435.1 bt435.2.1 bt435.2.2.1 bt435.2.2.2.1 bt435.2.2.2.2.1 bt435.2.2.2.2.2).bind fun bt452 => (if bt448.2 = true then (if bt452.2 = true then ((impl_SameRows.f k bt448.1 bt452.1).bind fun t456 => (if t456 = true then ((impl_RowsOk.f k bt448.1).bind fun t457 => (if t457 = true then (laws_FnPaints.j0 k t432 (Int.tmod (rd t444 0) 33) bt448.1 ((bt448.1.length : Int) != (t432.length : Int)) bt435.1 bt435.2.1 bt435.2.2.1 bt435.2.2.2.1 bt435.2.2.2.2.1 bt435.2.2.2.2.2) else (laws_FnPaints.j0 k t432 (Int.tmod (rd t444 0) 33) bt448.1 true bt435.1 bt435.2.1 bt435.2.2.1 bt435.2.2.2.1 bt435.2.2.2.2.1 bt435.2.2.2.2.2))) else (laws_FnPaints.j0 k t432 (Int.tmod (rd t444 0) 33) bt448.1 true bt435.1 bt435.2.1 bt435.2.2.1 bt435.2.2.2.1 bt435.2.2.2.2.1 bt435.2.2.2.2.2))) else (laws_FnPaints.j0 k t432 (Int.tmod (rd t444 0) 33) bt448.1 true bt435.1 bt435.2.1 bt435.2.2.1 bt435.2.2.2.1 bt435.2.2.2.2.1 bt435.2.2.2.2.2)) else (laws_FnPaints.j0 k t432 (Int.tmod (rd t444 0) 33) bt448.1 true bt435.1 bt435.2.1 bt435.2.2.1 bt435.2.2.2.1 bt435.2.2.2.2.1 bt435.2.2.2.2.2)))) else (none))))))) = some r := h
  clear h
  replace H := bN H
  obtain ⟨t431, A2, H⟩ := H
  by_cases c3 : t431 = true
  · subst c3
    rw [if_pos rfl] at H
    obtain rfl := Option.some.inj H
    go_enter Try.func6, Try.ntmps6
    go_wp2_with (first | ((with_reducible refine gC 24 ?_); refine cL (some 16) Try.func24 #[.slice A0 l0.length c0] ?_; (with_reducible refine (laws_big.calls _ _ l0 _ _ ?side1 ?side2 A2.out).mono ?_); (case side1 => repeat (first | exact HR0.out | (with_reducible refine Kd.C_alloc ?_ _) | (with_reducible refine Kd.C_drewN ?_ _) | (with_reducible refine Kd.C_drew ?_))); (case side2 => exact HC0.out); rintro e w' ⟨rfl, ⟨nd, rfl⟩⟩; refine ⟨_, rfl, ?_⟩))
    go_ret
    exact ⟨eS, bS⟩
  · obtain rfl := Bool.eq_false_iff.mpr c3
    rw [if_neg nF] at H
    replace H := bN H
    obtain ⟨t432, A4, H⟩ := H
    replace H := bN H
    obtain ⟨⟨t435, t438, t439, t440, t441, t442⟩, A5, H⟩ := H
    replace H := bN H
    obtain ⟨t444, A6, H⟩ := H
    by_cases c7 : 0 < (t444.length : Int)
    · rw [if_pos c7] at H
      have c7b0 : decide (0 < (t444.length : Int)) = true := decide_eq_true c7
      have c7b1 : decide (0 < t444.length) = true := decide_eq_true (by omega)
      clear c7
      replace H := bN H
      obtain ⟨⟨t448, t451⟩, A8, H⟩ := H
      replace H := bN H
      obtain ⟨⟨t452, t455⟩, A9, H⟩ := H
      have HC10 := Aside0.mk H
      clear H
      go_enter Try.func6, Try.ntmps6
      go_upto_region 9 with (first | ((with_reducible refine gC 24 ?_); refine cL (some 16) Try.func24 #[.slice A0 l0.length c0] ?_; (with_reducible refine (laws_big.calls _ _ l0 _ _ ?side1 ?side2 A2.out).mono ?_); (case side1 => repeat (first | exact HR0.out | (with_reducible refine Kd.C_alloc ?_ _) | (with_reducible refine Kd.C_drewN ?_ _) | (with_reducible refine Kd.C_drew ?_))); (case side2 => exact HC0.out); rintro e w' ⟨rfl, ⟨nd, rfl⟩⟩; refine ⟨_, rfl, ?_⟩) | ((with_reducible refine gC 40 ?_); refine cL (some 18) Try.func40 #[.slice A0 l0.length c0] ?_; (with_reducible refine (spec_DrawRows.calls k _ _ l0 t432 _ ?side1 ?side2 A4.out).mono ?_); (case side1 => repeat (first | exact HR0.out | (with_reducible refine Kd.C_alloc ?_ _) | (with_reducible refine Kd.C_drewN ?_ _) | (with_reducible refine Kd.C_drew ?_))); (case side2 => exact HC0.out); rintro e w11 ⟨v433, rfl, ho0, hb⟩; refine ⟨_, rfl, ?_⟩; have HO434 := Aside0.mk (Kd.S_lower ho0 (below_size bS)); replace HB := hB hb; (try clear hb); (try clear hb2); (try clear hk); (try clear hi); (try clear ho0)) | ((with_reducible refine gC 25 ?_); refine cL (some 20) Try.func25 #[.slice A0 l0.length c0] ?_; (with_reducible refine (spec_DrawObject.calls k _ _ l0 t435 t438 t439 t440 t441 t442 _ ?side1 ?side2 A5.out).mono ?_); (case side1 => exact cS (Kd.C_below HR0.out HB.out)); (case side2 => exact HC0.out); rintro e w12 ⟨v436, rfl, ho0, hb⟩; refine ⟨_, rfl, ?_⟩; have HO437 := Aside0.mk (Kd.R_lower ho0 (below_size bS)); replace HO434 := Aside0.mk (Kd.S_below (by (with_reducible repeat (first | apply Kd.S_alloc | apply Kd.S_drewN | apply Kd.S_drew)); exact HO434.out) hb); replace HB := hB hb; (try clear hb); (try clear hb2); (try clear hk); (try clear hi); (try clear ho0)) | ((with_reducible refine gD 4 ?_); refine bxE #[.slice none 0 0, .int .i64 0, .int .i64 0, .int .i64 0, .int .i64 0, .int .i64 0] 41 ?_; intro gb443 hg w13 BK443 hb; have GW443 := gE hg; have GE443 := gE hg; replace HO434 := Aside0.mk (Kd.S_below (by (with_reducible repeat (first | apply Kd.S_alloc | apply Kd.S_drewN | apply Kd.S_drew)); exact HO434.out) hb); replace HO437 := Aside0.mk (Kd.R_below (rS HO437) hb); replace HB := hB hb; clear hb hg; obtain ⟨Ao14, co14, eo14⟩ := Kd.R_slice HO437.out; subst eo14; have hcz15_0 : w13.cell? ⟨gb443, 0, none⟩ = some (.slice none 0 0) := (blk_cell BK443.out 0).trans rfl; have hcz15_1 : w13.cell? ⟨gb443, 1, none⟩ = some (.int .i64 0) := (blk_cell BK443.out 1).trans rfl; have hcz15_2 : w13.cell? ⟨gb443, 2, none⟩ = some (.int .i64 0) := (blk_cell BK443.out 2).trans rfl; have hcz15_3 : w13.cell? ⟨gb443, 3, none⟩ = some (.int .i64 0) := (blk_cell BK443.out 3).trans rfl; have hcz15_4 : w13.cell? ⟨gb443, 4, none⟩ = some (.int .i64 0) := (blk_cell BK443.out 4).trans rfl; have hcz15_5 : w13.cell? ⟨gb443, 5, none⟩ = some (.int .i64 0) := (blk_cell BK443.out 5).trans rfl; have hfz15_0 := blk_frozen BK443.out 0; have hfz15_1 := blk_frozen BK443.out 1; have hfz15_2 := blk_frozen BK443.out 2; have hfz15_3 := blk_frozen BK443.out 3; have hfz15_4 := blk_frozen BK443.out 4; have hfz15_5 := blk_frozen BK443.out 5) | ((with_reducible refine gC 41 ?_); refine cL (some 22) Try.func41 #[.slice A0 l0.length c0] ?_; (with_reducible refine (spec_DrawPlaces.calls k _ _ l0 t444 _ ?side1 ?side2 A6.out).mono ?_); (case side1 => exact Kd.C_below HR0.out bS); (case side2 => exact HC0.out); rintro e w16 ⟨v445, rfl, ho0, hb⟩; refine ⟨_, rfl, ?_⟩; have HO446 := Aside0.mk (Kd.R_lower ho0 (below_size bS)); replace HO434 := Aside0.mk (Kd.S_elder' (by (with_reducible repeat (first | apply Kd.S_alloc | apply Kd.S_drewN | apply Kd.S_drew)); exact (Kd.S_mono (Kd.S_far (p := ⟨gb443, 5, none⟩) (Kd.S_far (p := ⟨gb443, 4, none⟩) (Kd.S_far (p := ⟨gb443, 3, none⟩) (Kd.S_far (p := ⟨gb443, 2, none⟩) (Kd.S_far (p := ⟨gb443, 1, none⟩) (Kd.S_far (p := ⟨gb443, 0, none⟩) (Kd.S_types HO434.out BK443.out (by decide)) (fun _ hk => hk.2) (.slice Ao14 t435.length co14)) (fun _ hk => hk.2) (.int .i64 t438)) (fun _ hk => hk.2) (.int .i64 t439)) (fun _ hk => hk.2) (.int .i64 t440)) (fun _ hk => hk.2) (.int .i64 t441)) (fun _ hk => hk.2) (.int .i64 t442)) (fun _ h_ => h_.1))) (Kd.R_base ho0) hb); replace HO437 := Aside0.mk (Kd.R_below (by (with_reducible repeat (first | apply Kd.R_alloc | apply Kd.R_drewN | apply Kd.R_drew)); exact (Kd.R_mono (Kd.R_far (p := ⟨gb443, 5, none⟩) (Kd.R_far (p := ⟨gb443, 4, none⟩) (Kd.R_far (p := ⟨gb443, 3, none⟩) (Kd.R_far (p := ⟨gb443, 2, none⟩) (Kd.R_far (p := ⟨gb443, 1, none⟩) (Kd.R_far (p := ⟨gb443, 0, none⟩) (Kd.R_types HO437.out BK443.out (by decide)) (fun _ hk => hk.2) (.slice Ao14 t435.length co14)) (fun _ hk => hk.2) (.int .i64 t438)) (fun _ hk => hk.2) (.int .i64 t439)) (fun _ hk => hk.2) (.int .i64 t440)) (fun _ hk => hk.2) (.int .i64 t441)) (fun _ hk => hk.2) (.int .i64 t442)) (fun _ h_ => h_.1))) hb); replace BK443 := Aside0.mk (blk_below (g := gb443) (o := .cells #[.slice Ao14 t435.length co14, .int .i64 t438, .int .i64 t439, .int .i64 t440, .int .i64 t441, .int .i64 t442] 41 (0, 0)) kS hb); replace HB := hB hb; (try clear hb); (try clear hb2); (try clear hk); (try clear hi); (try clear ho0); obtain ⟨Ao17, co17, eo17⟩ := Kd.R_slice HO446.out; subst eo17; have p447 : 0 ≤ (0 : Int) := (by omega); have q447 : 0 < (t444.length : Int) := of_decide_eq_true (by first | (with_reducible assumption) | assumption); obtain ⟨ad447, e447, hx447_0⟩ := Kd.at_int (Kd.R_reads' HO446.out).2.2 0 p447 q447; cases e447; have qi447 : (0 < t444.length) = True := eq_true (by omega); (try rw [show ((0 : Int)).toNat = 0 from rfl] at hx447_0); (try rw [Addr.add_zero'] at hx447_0); replace p447 := eq_true p447; replace q447 := eq_true q447; have hcz18_0 : w16.cell? ⟨gb443, 0, none⟩ = some (.slice Ao14 t435.length co14) := (blk_cell BK443.out 0).trans rfl; have hcz18_1 : w16.cell? ⟨gb443, 1, none⟩ = some (.int .i64 t438) := (blk_cell BK443.out 1).trans rfl; have hcz18_2 : w16.cell? ⟨gb443, 2, none⟩ = some (.int .i64 t439) := (blk_cell BK443.out 2).trans rfl; have hcz18_3 : w16.cell? ⟨gb443, 3, none⟩ = some (.int .i64 t440) := (blk_cell BK443.out 3).trans rfl; have hcz18_4 : w16.cell? ⟨gb443, 4, none⟩ = some (.int .i64 t441) := (blk_cell BK443.out 4).trans rfl; have hcz18_5 : w16.cell? ⟨gb443, 5, none⟩ = some (.int .i64 t442) := (blk_cell BK443.out 5).trans rfl; have hfz18_0 := blk_frozen BK443.out 0; have hfz18_1 := blk_frozen BK443.out 1; have hfz18_2 := blk_frozen BK443.out 2; have hfz18_3 := blk_frozen BK443.out 3; have hfz18_4 := blk_frozen BK443.out 4; have hfz18_5 := blk_frozen BK443.out 5; obtain ⟨Ao19, co19, eo19⟩ := Kd.S_slice HO434.out; subst eo19) | ((with_reducible refine gC 42 ?_); refine cL (some 31) Try.func42 #[.slice Ao19 t432.length co19, .int .i64 (Int.tmod (rd t444 0) 33), .agg #[.slice Ao14 t435.length co14, .int .i64 t438, .int .i64 t439, .int .i64 t440, .int .i64 t441, .int .i64 t442]] ?_; (with_reducible refine (impl_PaintObject.calls k _ _ t432 (Int.tmod (rd t444 0) 33) _ _ t435 t438 t439 t440 t441 t442 t448 t451 _ ?side1 ?side2 ?side3 ?side4 A8.out).mono ?_); (case side1 => exact cS (Kd.S_reads' HO434.out).2.2); (case side2 => exact (Kd.S_reads' HO434.out).2.1); (case side3 => exact cS (Kd.R_reads' HO437.out).2.2); (case side4 => exact (Kd.R_reads' HO437.out).2.1); rintro e w20 ⟨v449, rfl, ho0, hb⟩; refine ⟨_, rfl, ?_⟩; have HO450 := Aside0.mk (Kd.S_lower (Kd.S_new' (Kd.S_new' ho0 (Kd.S_lt (by (with_reducible repeat (first | apply Kd.S_alloc | apply Kd.S_drewN | apply Kd.S_drew)); exact HO434.out))) (Kd.R_lt (rS HO446))) (below_size bS)); replace HO434 := Aside0.mk (Kd.S_elder' (by (with_reducible repeat (first | apply Kd.S_alloc | apply Kd.S_drewN | apply Kd.S_drew)); exact HO434.out) (Kd.S_base ho0) hb); replace HO437 := Aside0.mk (Kd.R_below (rS HO437) hb); replace HO446 := Aside0.mk (Kd.R_below (rS HO446) hb); replace BK443 := kB (g := gb443) hb; replace HB := hB hb; (try clear hb); (try clear hb2); (try clear hk); (try clear hi); (try clear ho0); have hcz21_0 : w20.cell? ⟨gb443, 0, none⟩ = some (.slice Ao14 t435.length co14) := (blk_cell BK443.out 0).trans rfl; have hcz21_1 : w20.cell? ⟨gb443, 1, none⟩ = some (.int .i64 t438) := (blk_cell BK443.out 1).trans rfl; have hcz21_2 : w20.cell? ⟨gb443, 2, none⟩ = some (.int .i64 t439) := (blk_cell BK443.out 2).trans rfl; have hcz21_3 : w20.cell? ⟨gb443, 3, none⟩ = some (.int .i64 t440) := (blk_cell BK443.out 3).trans rfl; have hcz21_4 : w20.cell? ⟨gb443, 4, none⟩ = some (.int .i64 t441) := (blk_cell BK443.out 4).trans rfl; have hcz21_5 : w20.cell? ⟨gb443, 5, none⟩ = some (.int .i64 t442) := (blk_cell BK443.out 5).trans rfl; have hfz21_0 := blk_frozen BK443.out 0; have hfz21_1 := blk_frozen BK443.out 1; have hfz21_2 := blk_frozen BK443.out 2; have hfz21_3 := blk_frozen BK443.out 3; have hfz21_4 := blk_frozen BK443.out 4; have hfz21_5 := blk_frozen BK443.out 5; obtain ⟨Ao22, co22, eo22⟩ := Kd.S_slice HO450.out; subst eo22) | ((with_reducible refine gC 42 ?_); refine cL (some 38) Try.func42 #[.slice Ao22 t448.length co22, .int .i64 (Int.tmod (rd t444 0) 33), .agg #[.slice Ao14 t435.length co14, .int .i64 t438, .int .i64 t439, .int .i64 t440, .int .i64 t441, .int .i64 t442]] ?_; (with_reducible refine (impl_PaintObject.calls k _ _ t448 (Int.tmod (rd t444 0) 33) _ _ t435 t438 t439 t440 t441 t442 t452 t455 _ ?side1 ?side2 ?side3 ?side4 A9.out).mono ?_); (case side1 => exact cS (Kd.S_reads' HO450.out).2.2); (case side2 => exact (Kd.S_reads' HO450.out).2.1); (case side3 => exact cS (Kd.R_reads' HO437.out).2.2); (case side4 => exact (Kd.R_reads' HO437.out).2.1); rintro e w23 ⟨v453, rfl, ho0, hb⟩; refine ⟨_, rfl, ?_⟩; have HO454 := Aside0.mk (Kd.S_lower (Kd.S_new' (Kd.S_new' (Kd.S_new' ho0 (Kd.S_lt (by (with_reducible repeat (first | apply Kd.S_alloc | apply Kd.S_drewN | apply Kd.S_drew)); exact HO434.out))) (Kd.R_lt (rS HO446))) (Kd.S_lt (by (with_reducible repeat (first | apply Kd.S_alloc | apply Kd.S_drewN | apply Kd.S_drew)); exact HO450.out))) (below_size bS)); replace HO434 := Aside0.mk (Kd.S_elder' (by (with_reducible repeat (first | apply Kd.S_alloc | apply Kd.S_drewN | apply Kd.S_drew)); exact HO434.out) (Kd.S_base ho0) hb); replace HO437 := Aside0.mk (Kd.R_below (rS HO437) hb); replace HO446 := Aside0.mk (Kd.R_below (rS HO446) hb); replace HO450 := Aside0.mk (Kd.S_elder' (by (with_reducible repeat (first | apply Kd.S_alloc | apply Kd.S_drewN | apply Kd.S_drew)); exact HO450.out) (Kd.S_base ho0) hb); replace BK443 := kB (g := gb443) hb; replace HB := hB hb; (try clear hb); (try clear hb2); (try clear hk); (try clear hi); (try clear ho0)))
      (try simp only [Act.put, List.setIfInBounds_toArray, List.set_cons_zero, List.set_cons_succ])
      go_cut [64] (fun v64 wc => ∃ (kq : Nat) (x64_9 : Bool), v64 = .bool x64_9 ∧ Aside0 (laws_FnPaints.j0 kq t432 (Int.tmod (rd t444 0) 33) t448 x64_9 t435 t438 t439 t440 t441 t442 = some r) ∧ Aside0 (kq ≤ k) ∧ Aside0 (Kd.S (Kd.slice 3 (Kd.int .i64)) 22 wc w.heap.size (fun k_ => some k_ ≠ ((.slice Ao22 t448.length co22) : Value).ownBlock) (.slice Ao19 t432.length co19) t432) ∧ Aside0 (Kd.S (Kd.slice 3 (Kd.int .i64)) 22 wc w.heap.size (fun k_ => some k_ ≠ ((.slice Ao19 t432.length co19) : Value).ownBlock) (.slice Ao22 t448.length co22) t448) ∧ Aside0 (Kd.R k166 166 wc w.heap.size (fun _ => True) (.slice Ao14 t435.length co14) t435) ∧ Aside0 (wc.heap[gb443]? = some (.cells #[(.slice Ao14 t435.length co14), .int .i64 t438, .int .i64 t439, .int .i64 t440, .int .i64 t441, .int .i64 t442] 41 (0, 0))) ∧ Aside0 (Below w.heap.size w wc))
      case first =>
        have H := HC10.out
        clear HC10
        by_cases c24 : t451 = true
        · subst c24
          rw [if_pos rfl] at H
          by_cases c25 : t455 = true
          · subst c25
            rw [if_pos rfl] at H
            replace H := bN H
            obtain ⟨t456, A26, H⟩ := H
            by_cases c27 : t456 = true
            · subst c27
              rw [if_pos rfl] at H
              replace H := bN H
              obtain ⟨t457, A28, H⟩ := H
              by_cases c29 : t457 = true
              · subst c29
                rw [if_pos rfl] at H
                have H' := Aside0.mk H
                clear H
                obtain ⟨Ao30, co30, eo30⟩ := Kd.S_slice HO454.out
                subst eo30
                go_wp2_with (first | (go_at_call 43; (with_reducible refine (impl_SameRows.calls k _ _ t448 _ _ t452 _ _ ?side1 ?side2 ?side3 ?side4 A26.out).mono ?_); (case side1 => exact cS (Kd.S_reads' HO450.out).2.2); (case side2 => exact (Kd.S_reads' HO450.out).2.1); (case side3 => exact cS (Kd.S_reads' HO454.out).2.2); (case side4 => exact (Kd.S_reads' HO454.out).2.1); rintro e w' ⟨rfl, ⟨nd, rfl⟩⟩) | (go_at_call 44; (with_reducible refine (impl_RowsOk.calls k _ _ t448 _ _ ?side1 ?side2 A28.out).mono ?_); (case side1 => exact cS (Kd.S_reads' HO450.out).2.2); (case side2 => exact (Kd.S_reads' HO450.out).2.1); rintro e w' ⟨rfl, ⟨nd, rfl⟩⟩))
                go_meet
                case rel => exact ⟨_, (((t448.length : Int) != (t432.length : Int))), (by first | rfl | (simp; done) | (simp [*]; done)), H', ⟨by first | omega | exact Nat.le_refl _⟩, ⟨by (with_reducible repeat (first | apply Kd.S_alloc | apply Kd.S_drewN | apply Kd.S_drew)); exact Kd.S_mono HO434.out (fun _ hk => hk.1.2)⟩, ⟨by (with_reducible repeat (first | apply Kd.S_alloc | apply Kd.S_drewN | apply Kd.S_drew)); exact Kd.S_mono HO450.out (fun _ hk => hk.1.1.2)⟩, ⟨by (with_reducible repeat (first | apply Kd.R_alloc | apply Kd.R_drewN | apply Kd.R_drew)); exact HO437.out⟩, ⟨kS⟩, ⟨bS⟩⟩
              · obtain rfl := Bool.eq_false_iff.mpr c29
                rw [if_neg nF] at H
                have H' := Aside0.mk H
                clear H
                obtain ⟨Ao31, co31, eo31⟩ := Kd.S_slice HO454.out
                subst eo31
                go_wp2_with (first | (go_at_call 43; (with_reducible refine (impl_SameRows.calls k _ _ t448 _ _ t452 _ _ ?side1 ?side2 ?side3 ?side4 A26.out).mono ?_); (case side1 => exact cS (Kd.S_reads' HO450.out).2.2); (case side2 => exact (Kd.S_reads' HO450.out).2.1); (case side3 => exact cS (Kd.S_reads' HO454.out).2.2); (case side4 => exact (Kd.S_reads' HO454.out).2.1); rintro e w' ⟨rfl, ⟨nd, rfl⟩⟩) | (go_at_call 44; (with_reducible refine (impl_RowsOk.calls k _ _ t448 _ _ ?side1 ?side2 A28.out).mono ?_); (case side1 => exact cS (Kd.S_reads' HO450.out).2.2); (case side2 => exact (Kd.S_reads' HO450.out).2.1); rintro e w' ⟨rfl, ⟨nd, rfl⟩⟩))
                go_meet
                case rel => exact ⟨_, (true), (by first | rfl | (simp; done) | (simp [*]; done)), H', ⟨by first | omega | exact Nat.le_refl _⟩, ⟨by (with_reducible repeat (first | apply Kd.S_alloc | apply Kd.S_drewN | apply Kd.S_drew)); exact Kd.S_mono HO434.out (fun _ hk => hk.1.2)⟩, ⟨by (with_reducible repeat (first | apply Kd.S_alloc | apply Kd.S_drewN | apply Kd.S_drew)); exact Kd.S_mono HO450.out (fun _ hk => hk.1.1.2)⟩, ⟨by (with_reducible repeat (first | apply Kd.R_alloc | apply Kd.R_drewN | apply Kd.R_drew)); exact HO437.out⟩, ⟨kS⟩, ⟨bS⟩⟩
            · obtain rfl := Bool.eq_false_iff.mpr c27
              rw [if_neg nF] at H
              have H' := Aside0.mk H
              clear H
              obtain ⟨Ao32, co32, eo32⟩ := Kd.S_slice HO454.out
              subst eo32
              go_wp2_with (first | (go_at_call 43; (with_reducible refine (impl_SameRows.calls k _ _ t448 _ _ t452 _ _ ?side1 ?side2 ?side3 ?side4 A26.out).mono ?_); (case side1 => exact cS (Kd.S_reads' HO450.out).2.2); (case side2 => exact (Kd.S_reads' HO450.out).2.1); (case side3 => exact cS (Kd.S_reads' HO454.out).2.2); (case side4 => exact (Kd.S_reads' HO454.out).2.1); rintro e w' ⟨rfl, ⟨nd, rfl⟩⟩))
              go_meet
              case rel => exact ⟨_, (true), (by first | rfl | (simp; done) | (simp [*]; done)), H', ⟨by first | omega | exact Nat.le_refl _⟩, ⟨by (with_reducible repeat (first | apply Kd.S_alloc | apply Kd.S_drewN | apply Kd.S_drew)); exact Kd.S_mono HO434.out (fun _ hk => hk.1.2)⟩, ⟨by (with_reducible repeat (first | apply Kd.S_alloc | apply Kd.S_drewN | apply Kd.S_drew)); exact Kd.S_mono HO450.out (fun _ hk => hk.1.1.2)⟩, ⟨by (with_reducible repeat (first | apply Kd.R_alloc | apply Kd.R_drewN | apply Kd.R_drew)); exact HO437.out⟩, ⟨kS⟩, ⟨bS⟩⟩
          · obtain rfl := Bool.eq_false_iff.mpr c25
            rw [if_neg nF] at H
            have H' := Aside0.mk H
            clear H
            go_wp2
            go_meet
            case rel => exact ⟨_, (true), (by first | rfl | (simp; done) | (simp [*]; done)), H', ⟨by first | omega | exact Nat.le_refl _⟩, ⟨by (with_reducible repeat (first | apply Kd.S_alloc | apply Kd.S_drewN | apply Kd.S_drew)); exact Kd.S_mono HO434.out (fun _ hk => hk.1.2)⟩, ⟨by (with_reducible repeat (first | apply Kd.S_alloc | apply Kd.S_drewN | apply Kd.S_drew)); exact Kd.S_mono HO450.out (fun _ hk => hk.1.1.2)⟩, ⟨by (with_reducible repeat (first | apply Kd.R_alloc | apply Kd.R_drewN | apply Kd.R_drew)); exact HO437.out⟩, ⟨kS⟩, ⟨bS⟩⟩
        · obtain rfl := Bool.eq_false_iff.mpr c24
          rw [if_neg nF] at H
          have H' := Aside0.mk H
          clear H
          go_wp2
          go_meet
          case rel => exact ⟨_, (true), (by first | rfl | (simp; done) | (simp [*]; done)), H', ⟨by first | omega | exact Nat.le_refl _⟩, ⟨by (with_reducible repeat (first | apply Kd.S_alloc | apply Kd.S_drewN | apply Kd.S_drew)); exact Kd.S_mono HO434.out (fun _ hk => hk.1.2)⟩, ⟨by (with_reducible repeat (first | apply Kd.S_alloc | apply Kd.S_drewN | apply Kd.S_drew)); exact Kd.S_mono HO450.out (fun _ hk => hk.1.1.2)⟩, ⟨by (with_reducible repeat (first | apply Kd.R_alloc | apply Kd.R_drewN | apply Kd.R_drew)); exact HO437.out⟩, ⟨kS⟩, ⟨bS⟩⟩
      case rest =>
        clear HC10
        try clear c2
        try clear p2
        try clear c3
        try clear c4
        try clear p4
        try clear q4
        try clear hx4
        try clear qi4
        try clear c6
        try clear c7
        try clear c7b0
        try clear c7b1
        try clear c24
        try clear c25
        try clear c27
        try clear c29
        try clear hcz15_0
        try clear hcz15_1
        try clear hcz15_2
        try clear hcz15_3
        try clear hcz15_4
        try clear hcz15_5
        try clear hcz18_0
        try clear hcz18_1
        try clear hcz18_2
        try clear hcz18_3
        try clear hcz18_4
        try clear hcz18_5
        try clear hcz21_0
        try clear hcz21_1
        try clear hcz21_2
        try clear hcz21_3
        try clear hcz21_4
        try clear hcz21_5
        try clear hfz15_0
        try clear hfz15_1
        try clear hfz15_2
        try clear hfz15_3
        try clear hfz15_4
        try clear hfz15_5
        try clear hfz18_0
        try clear hfz18_1
        try clear hfz18_2
        try clear hfz18_3
        try clear hfz18_4
        try clear hfz18_5
        try clear hfz21_0
        try clear hfz21_1
        try clear hfz21_2
        try clear hfz21_3
        try clear hfz21_4
        try clear hfz21_5
        try clear hx447_0
        try clear p447
        try clear q447
        obtain ⟨kq, x64_9, rfl, HA, HJ9, HO_3, HO_7, HO_444000, BK443, HB⟩ := hcut
        cases kq with
        | zero => exact absurd HA.out (by simp [laws_FnPaints.j0])
        | succ kj9 =>
          have H := HA.out
          clear HA
          simp only [laws_FnPaints.j0] at H
          by_cases c33 : x64_9 = true
          · subst c33
            rw [if_pos rfl] at H
            obtain rfl := Option.some.inj H
            go_wp2
            go_ret
            exact ⟨eS, bS⟩
          · obtain rfl := Bool.eq_false_iff.mpr c33
            rw [if_neg nF] at H
            have H' := Aside0.mk H
            clear H
            go_wp2
            go_loopg [11] kj9 (fun kq v11 w' => ∃ (x11_2 : Int), v11 = .int .i64 x11_2 ∧ Aside0 (laws_FnPaints.l0 kq t432 (Int.tmod (rd t444 0) 33) t448 x11_2 t435 t438 t439 t440 t441 t442 = some r) ∧ Aside0 (kq ≤ kj9) ∧ Aside0 (Kd.S (Kd.slice 3 (Kd.int .i64)) 22 w' w.heap.size (fun k_ => some k_ ≠ ((.slice Ao22 t448.length co22) : Value).ownBlock) (.slice Ao19 t432.length co19) t432) ∧ Aside0 (Kd.S (Kd.slice 3 (Kd.int .i64)) 22 w' w.heap.size (fun k_ => some k_ ≠ ((.slice Ao19 t432.length co19) : Value).ownBlock) (.slice Ao22 t448.length co22) t448) ∧ Aside0 (Kd.R k166 166 w' w.heap.size (fun _ => True) (.slice Ao14 t435.length co14) t435) ∧ Aside0 (w'.heap[gb443]? = some (.cells #[(.slice Ao14 t435.length co14), .int .i64 t438, .int .i64 t439, .int .i64 t440, .int .i64 t441, .int .i64 t442] 41 (0, 0))) ∧ Aside0 (Below w.heap.size w w'))
            case atStart => exact ⟨(0), (by first | rfl | (simp; done) | (simp [*]; done)), H', ⟨Nat.le_refl _⟩, ⟨by (with_reducible repeat (first | apply Kd.S_alloc | apply Kd.S_drewN | apply Kd.S_drew)); exact HO_3.out⟩, ⟨by (with_reducible repeat (first | apply Kd.S_alloc | apply Kd.S_drewN | apply Kd.S_drew)); exact HO_7.out⟩, ⟨by (with_reducible repeat (first | apply Kd.R_alloc | apply Kd.R_drewN | apply Kd.R_drew)); exact HO_444000.out⟩, ⟨kS⟩, ⟨bS⟩⟩
            case round =>
              clear H'
              try clear c2
              try clear p2
              try clear c3
              try clear c4
              try clear p4
              try clear q4
              try clear hx4
              try clear qi4
              try clear c6
              try clear c7
              try clear c7b0
              try clear c7b1
              try clear c24
              try clear c25
              try clear c27
              try clear c29
              try clear c33
              try clear hcz15_0
              try clear hcz15_1
              try clear hcz15_2
              try clear hcz15_3
              try clear hcz15_4
              try clear hcz15_5
              try clear hcz18_0
              try clear hcz18_1
              try clear hcz18_2
              try clear hcz18_3
              try clear hcz18_4
              try clear hcz18_5
              try clear hcz21_0
              try clear hcz21_1
              try clear hcz21_2
              try clear hcz21_3
              try clear hcz21_4
              try clear hcz21_5
              try clear hfz15_0
              try clear hfz15_1
              try clear hfz15_2
              try clear hfz15_3
              try clear hfz15_4
              try clear hfz15_5
              try clear hfz18_0
              try clear hfz18_1
              try clear hfz18_2
              try clear hfz18_3
              try clear hfz18_4
              try clear hfz18_5
              try clear hfz21_0
              try clear hfz21_1
              try clear hfz21_2
              try clear hfz21_3
              try clear hfz21_4
              try clear hfz21_5
              try clear hx447_0
              try clear p2
              try clear p4
              try clear p447
              try clear q4
              try clear q447
              obtain ⟨x11_2, rfl, HA, HK2, HO_3, HO_7, HO_444000, BK443, HB⟩ := hrel
              cases gk with
              | zero => exact absurd HA.out (by simp [laws_FnPaints.l0])
              | succ k2 =>
                have H := HA.out
                clear HA
                simp only [laws_FnPaints.l0] at H
                by_cases c34 : x11_2 < (t432.length : Int)
                · rw [if_pos c34] at H
                  have c34b0 : decide (x11_2 < (t432.length : Int)) = true := decide_eq_true c34
                  clear c34
                  replace H := bN H
                  obtain ⟨t458, A35, H⟩ := H
                  have H' := Aside0.mk H
                  clear H
                  have hcz36_0 : wr.cell? ⟨gb443, 0, none⟩ = some (.slice Ao14 t435.length co14) := (blk_cell BK443.out 0).trans rfl
                  have hcz36_1 : wr.cell? ⟨gb443, 1, none⟩ = some (.int .i64 t438) := (blk_cell BK443.out 1).trans rfl
                  have hcz36_2 : wr.cell? ⟨gb443, 2, none⟩ = some (.int .i64 t439) := (blk_cell BK443.out 2).trans rfl
                  have hcz36_3 : wr.cell? ⟨gb443, 3, none⟩ = some (.int .i64 t440) := (blk_cell BK443.out 3).trans rfl
                  have hcz36_4 : wr.cell? ⟨gb443, 4, none⟩ = some (.int .i64 t441) := (blk_cell BK443.out 4).trans rfl
                  have hcz36_5 : wr.cell? ⟨gb443, 5, none⟩ = some (.int .i64 t442) := (blk_cell BK443.out 5).trans rfl
                  have hfz36_0 := blk_frozen BK443.out 0
                  have hfz36_1 := blk_frozen BK443.out 1
                  have hfz36_2 := blk_frozen BK443.out 2
                  have hfz36_3 := blk_frozen BK443.out 3
                  have hfz36_4 := blk_frozen BK443.out 4
                  have hfz36_5 := blk_frozen BK443.out 5
                  go_wp2_with (first | ((with_reducible refine gC 45 ?_); refine cL (some 75) Try.func45 #[.agg #[.slice Ao14 t435.length co14, .int .i64 t438, .int .i64 t439, .int .i64 t440, .int .i64 t441, .int .i64 t442], .int .i64 (wrap64 ((Int.tmod (rd t444 0) 33) + x11_2))] ?_; (with_reducible refine (impl_ObjectRow.calls k2 _ _ t435 t438 t439 t440 t441 t442 (wrap64 ((Int.tmod (rd t444 0) 33) + x11_2)) t458 _ ?side1 ?side2 A35.out).mono ?_); (case side1 => exact cS (Kd.R_reads' HO_444000.out).2.2); (case side2 => exact (Kd.R_reads' HO_444000.out).2.1); rintro e w37 ⟨v459, rfl, ho0, hb⟩; refine ⟨_, rfl, ?_⟩; have HO460 := Aside0.mk (Kd.R_lower ho0 (below_size bS)); replace HO_3 := Aside0.mk (Kd.S_below (by (with_reducible repeat (first | apply Kd.S_alloc | apply Kd.S_drewN | apply Kd.S_drew)); exact HO_3.out) hb); replace HO_7 := Aside0.mk (Kd.S_below (by (with_reducible repeat (first | apply Kd.S_alloc | apply Kd.S_drewN | apply Kd.S_drew)); exact HO_7.out) hb); replace HO_444000 := Aside0.mk (Kd.R_below (rS HO_444000) hb); replace BK443 := kB (g := gb443) hb; replace HB := hB hb; (try clear hb); (try clear hb2); (try clear hk); (try clear hi); (try clear ho0)))
                  go_loopg [13] k2 (fun kq v13 w' => ∃ (x13_3 : Int), v13 = .int .i64 x13_3 ∧ Aside0 (laws_FnPaints.l1 kq t432 (Int.tmod (rd t444 0) 33) t448 x11_2 t458 x13_3 t435 t438 t439 t440 t441 t442 = some r) ∧ Aside0 (kq ≤ k2) ∧ Aside0 (Kd.S (Kd.slice 3 (Kd.int .i64)) 22 w' w.heap.size (fun k_ => some k_ ≠ ((.slice Ao22 t448.length co22) : Value).ownBlock) (.slice Ao19 t432.length co19) t432) ∧ Aside0 (Kd.S (Kd.slice 3 (Kd.int .i64)) 22 w' w.heap.size (fun k_ => some k_ ≠ ((.slice Ao19 t432.length co19) : Value).ownBlock) (.slice Ao22 t448.length co22) t448) ∧ Aside0 (Kd.R k140 140 w' w.heap.size (fun _ => True) v459 t458) ∧ Aside0 (Kd.R k166 166 w' w.heap.size (fun _ => True) (.slice Ao14 t435.length co14) t435) ∧ Aside0 (w'.heap[gb443]? = some (.cells #[(.slice Ao14 t435.length co14), .int .i64 t438, .int .i64 t439, .int .i64 t440, .int .i64 t441, .int .i64 t442] 41 (0, 0))) ∧ Aside0 (Below w.heap.size w w'))
                  case atStart => exact ⟨(0), (by first | rfl | (simp; done) | (simp [*]; done)), H', ⟨Nat.le_refl _⟩, ⟨by (with_reducible repeat (first | apply Kd.S_alloc | apply Kd.S_drewN | apply Kd.S_drew)); exact HO_3.out⟩, ⟨by (with_reducible repeat (first | apply Kd.S_alloc | apply Kd.S_drewN | apply Kd.S_drew)); exact HO_7.out⟩, ⟨by (with_reducible repeat (first | apply Kd.R_alloc | apply Kd.R_drewN | apply Kd.R_drew)); exact HO460.out⟩, ⟨by (with_reducible repeat (first | apply Kd.R_alloc | apply Kd.R_drewN | apply Kd.R_drew)); exact HO_444000.out⟩, ⟨kS⟩, ⟨bS⟩⟩
                  case round =>
                    clear H'
                    try clear c2
                    try clear p2
                    try clear c3
                    try clear c4
                    try clear p4
                    try clear q4
                    try clear hx4
                    try clear qi4
                    try clear c6
                    try clear p6
                    try clear c7
                    try clear c7b0
                    try clear c7b1
                    try clear c24
                    try clear c25
                    try clear c27
                    try clear c29
                    try clear c33
                    try clear c34
                    try clear c34b0
                    try clear hcz15_0
                    try clear hcz15_1
                    try clear hcz15_2
                    try clear hcz15_3
                    try clear hcz15_4
                    try clear hcz15_5
                    try clear hcz18_0
                    try clear hcz18_1
                    try clear hcz18_2
                    try clear hcz18_3
                    try clear hcz18_4
                    try clear hcz18_5
                    try clear hcz21_0
                    try clear hcz21_1
                    try clear hcz21_2
                    try clear hcz21_3
                    try clear hcz21_4
                    try clear hcz21_5
                    try clear hcz36_0
                    try clear hcz36_1
                    try clear hcz36_2
                    try clear hcz36_3
                    try clear hcz36_4
                    try clear hcz36_5
                    try clear hfz15_0
                    try clear hfz15_1
                    try clear hfz15_2
                    try clear hfz15_3
                    try clear hfz15_4
                    try clear hfz15_5
                    try clear hfz18_0
                    try clear hfz18_1
                    try clear hfz18_2
                    try clear hfz18_3
                    try clear hfz18_4
                    try clear hfz18_5
                    try clear hfz21_0
                    try clear hfz21_1
                    try clear hfz21_2
                    try clear hfz21_3
                    try clear hfz21_4
                    try clear hfz21_5
                    try clear hfz36_0
                    try clear hfz36_1
                    try clear hfz36_2
                    try clear hfz36_3
                    try clear hfz36_4
                    try clear hfz36_5
                    try clear hx447_0
                    try clear p2
                    try clear p4
                    try clear p447
                    try clear q4
                    try clear q447
                    obtain ⟨x13_3, rfl, HA, HK3, HO_3, HO_7, HO_12, HO_444000, BK443, HB⟩ := hrel
                    cases gk with
                    | zero => exact absurd HA.out (by simp [laws_FnPaints.l1])
                    | succ k3 =>
                      have H := HA.out
                      clear HA
                      simp only [laws_FnPaints.l1] at H
                      by_cases c38 : x13_3 < 32
                      · rw [if_pos c38] at H
                        have c38b0 : decide (x13_3 < 32) = true := decide_eq_true c38
                        clear c38
                        by_cases c39 : 0 ≤ x11_2
                        · rw [if_pos c39] at H
                          have c39b0 : decide (0 ≤ x11_2) = true := decide_eq_true c39
                          clear c39
                          by_cases c40 : x11_2 < (t432.length : Int)
                          · rw [if_pos c40] at H
                            have c40b0 : decide (x11_2 < (t432.length : Int)) = true := decide_eq_true c40
                            clear c40
                            by_cases c41 : 0 ≤ x13_3
                            · rw [if_pos c41] at H
                              have c41b0 : decide (0 ≤ x13_3) = true := decide_eq_true c41
                              clear c41
                              by_cases c42 : x13_3 < ((rd_L3 t432 x11_2).length : Int)
                              · rw [if_pos c42] at H
                                have c42b0 : decide (x13_3 < ((rd_L3 t432 x11_2).length : Int)) = true := decide_eq_true c42
                                clear c42
                                replace H := bN H
                                obtain ⟨t463, A43, H⟩ := H
                                by_cases c44 : t463 = true
                                · subst c44
                                  rw [if_pos rfl] at H
                                  by_cases c45 : x11_2 < (t448.length : Int)
                                  · rw [if_pos c45] at H
                                    have c45b0 : decide (x11_2 < (t448.length : Int)) = true := decide_eq_true c45
                                    clear c45
                                    by_cases c46 : x13_3 < ((rd_L3 t448 x11_2).length : Int)
                                    · rw [if_pos c46] at H
                                      have c46b0 : decide (x13_3 < ((rd_L3 t448 x11_2).length : Int)) = true := decide_eq_true c46
                                      clear c46
                                      by_cases c47 : (rd (rd_L3 t448 x11_2) x13_3) = t438
                                      · rw [if_pos c47] at H
                                        have c47b0 : ((rd (rd_L3 t448 x11_2) x13_3) == t438) = true := beq_iff_eq.mpr c47
                                        have c47b1 : ((rd (rd_L3 t448 x11_2) x13_3) != t438) = false := bne_eq_false_iff_eq.mpr c47
                                        clear c47
                                        have H' := Aside0.mk H
                                        clear H
                                        have p461 : 0 ≤ (x11_2 : Int) := of_decide_eq_true (by first | (with_reducible assumption) | assumption)
                                        have q461 : x11_2 < (t432.length : Int) := of_decide_eq_true (by first | (with_reducible assumption) | assumption)
                                        obtain ⟨ad461, A461_0, c461_0, e461, hx461_0, hl461_0, hi461_0⟩ := at_L3 (Kd.S_reads' HO_3.out).2.2 x11_2 p461 q461
                                        cases e461
                                        obtain ⟨ce461, hce461, hMe461, hcc461⟩ := Kd.S_get HO_3.out [] x11_2 p461 (by first | exact q461 | exact of_decide_eq_true (by first | (with_reducible assumption) | assumption) | (have e_ := (Kd.S_reads' HO_3.out).1; omega))
                                        obtain ⟨ve461_0, rfl, ge461_0⟩ := hMe461
                                        have hv461_0 := hcc461 0 _ rfl
                                        rw [Nat.add_zero, show ((Kd.slice 3 (Kd.int .i64))).sz = 1 from rfl, Nat.mul_one] at hv461_0
                                        replace hv461_0 := Option.some.inj (hv461_0.symm.trans hx461_0)
                                        rw [hv461_0] at ge461_0
                                        have HL461_0 := Aside0.mk (show Kd.R (Kd.int .i64) 3 _ _ _ _ (rd_L3 t432 x11_2) from ge461_0)
                                        clear hv461_0 ge461_0
                                        clear hcc461 hce461
                                        have HR461_0 := Aside0.mk hi461_0
                                        have HC461_0 := Aside0.mk hl461_0
                                        clear hi461_0 hl461_0
                                        replace p461 := eq_true p461
                                        replace q461 := eq_true q461
                                        have p462 : 0 ≤ (x13_3 : Int) := of_decide_eq_true (by first | (with_reducible assumption) | assumption)
                                        have q462 : x13_3 < ((rd_L3 t432 x11_2).length : Int) := of_decide_eq_true (by first | (with_reducible assumption) | assumption)
                                        obtain ⟨ad462, e462, hx462_0⟩ := Kd.at_int (by repeat (first | (with_reducible exact HR461_0.out) | (with_reducible refine Kd.C_alloc ?_ _) | (with_reducible refine Kd.C_drewN ?_ _) | (with_reducible refine Kd.C_drew ?_) | exact HR461_0.out)) x13_3 p462 q462
                                        cases e462
                                        replace p462 := eq_true p462
                                        replace q462 := eq_true q462
                                        obtain ⟨Ao48, co48, eo48⟩ := Kd.R_slice HO_12.out
                                        subst eo48
                                        go_wp2_with (first | ((with_reducible refine gC 46 ?_); refine cL (some 89) Try.func46 #[.slice Ao48 t458.length co48, .int .i64 x13_3] ?_; (with_reducible refine (impl_InSpans.calls k3 _ _ t458 x13_3 _ _ ?side1 ?side2 A43.out).mono ?_); (case side1 => exact cS (Kd.R_reads' HO_12.out).2.2); (case side2 => exact (Kd.R_reads' HO_12.out).2.1); rintro e w49 ⟨rfl, hb⟩; refine ⟨_, rfl, ?_⟩; replace HO_3 := Aside0.mk (Kd.S_below (by (with_reducible repeat (first | apply Kd.S_alloc | apply Kd.S_drewN | apply Kd.S_drew)); exact HO_3.out) hb); replace HO_7 := Aside0.mk (Kd.S_below (by (with_reducible repeat (first | apply Kd.S_alloc | apply Kd.S_drewN | apply Kd.S_drew)); exact HO_7.out) hb); replace HO_12 := Aside0.mk (Kd.R_below (rS HO_12) hb); replace HO_444000 := Aside0.mk (Kd.R_below (rS HO_444000) hb); replace HL461_0 := Aside0.mk (Kd.R_below (rS HL461_0) hb); replace BK443 := kB (g := gb443) hb; replace HR461_0 := Aside0.mk (Kd.C_below (by repeat (first | (with_reducible exact HR461_0.out) | (with_reducible refine Kd.C_alloc ?_ _) | (with_reducible refine Kd.C_drewN ?_ _) | (with_reducible refine Kd.C_drew ?_) | exact HR461_0.out)) hb); replace HB := hB hb; (try clear hb); (try clear hb2); (try clear hk); (try clear hi); have hz50 := cz6 BK443; have p464 : 0 ≤ (x11_2 : Int) := of_decide_eq_true (by first | (with_reducible assumption) | assumption); have q464 : x11_2 < (t448.length : Int) := of_decide_eq_true (by first | (with_reducible assumption) | assumption); obtain ⟨ad464, A464_0, c464_0, e464, hx464_0, hl464_0, hi464_0⟩ := at_L3 (Kd.S_reads' HO_7.out).2.2 x11_2 p464 q464; cases e464; obtain ⟨ce464, hce464, hMe464, hcc464⟩ := Kd.S_get HO_7.out [] x11_2 p464 (by first | exact q464 | exact of_decide_eq_true (by first | (with_reducible assumption) | assumption) | (have e_ := (Kd.S_reads' HO_7.out).1; omega)); obtain ⟨ve464_0, rfl, ge464_0⟩ := hMe464; have hv464_0 := hcc464 0 _ rfl; rw [Nat.add_zero, show ((Kd.slice 3 (Kd.int .i64))).sz = 1 from rfl, Nat.mul_one] at hv464_0; replace hv464_0 := Option.some.inj (hv464_0.symm.trans hx464_0); rw [hv464_0] at ge464_0; have HL464_0 := Aside0.mk (show Kd.R (Kd.int .i64) 3 _ _ _ _ (rd_L3 t448 x11_2) from ge464_0); clear hv464_0 ge464_0; clear hcc464 hce464; have HR464_0 := Aside0.mk hi464_0; have HC464_0 := Aside0.mk hl464_0; clear hi464_0 hl464_0; replace p464 := eq_true p464; replace q464 := eq_true q464; have p465 : 0 ≤ (x13_3 : Int) := of_decide_eq_true (by first | (with_reducible assumption) | assumption); have q465 : x13_3 < ((rd_L3 t448 x11_2).length : Int) := of_decide_eq_true (by first | (with_reducible assumption) | assumption); obtain ⟨ad465, e465, hx465_0⟩ := Kd.at_int (by repeat (first | (with_reducible exact HR464_0.out) | (with_reducible refine Kd.C_alloc ?_ _) | (with_reducible refine Kd.C_drewN ?_ _) | (with_reducible refine Kd.C_drew ?_) | exact HR464_0.out)) x13_3 p465 q465; cases e465; replace p465 := eq_true p465; replace q465 := eq_true q465))
                                        go_roundg k3
                                        case measure => have := HJ9.out; have := HK2.out; have := HK3.out; omega
                                        case rel => exact ⟨(wrap64 (x13_3 + 1)), (by first | rfl | (simp; done) | (simp [*]; done)), H', ⟨by have := HJ9.out; have := HK2.out; have := HK3.out; omega⟩, ⟨by (with_reducible repeat (first | apply Kd.S_alloc | apply Kd.S_drewN | apply Kd.S_drew)); exact HO_3.out⟩, ⟨by (with_reducible repeat (first | apply Kd.S_alloc | apply Kd.S_drewN | apply Kd.S_drew)); exact HO_7.out⟩, ⟨by (with_reducible repeat (first | apply Kd.R_alloc | apply Kd.R_drewN | apply Kd.R_drew)); exact HO_12.out⟩, ⟨by (with_reducible repeat (first | apply Kd.R_alloc | apply Kd.R_drewN | apply Kd.R_drew)); exact HO_444000.out⟩, ⟨kS⟩, ⟨bS⟩⟩
                                      · rw [if_neg c47] at H
                                        have c47b0 : ((rd (rd_L3 t448 x11_2) x13_3) == t438) = false := beq_eq_false_iff_ne.mpr c47
                                        have c47b1 : ((rd (rd_L3 t448 x11_2) x13_3) != t438) = true := bne_iff_ne.mpr c47
                                        obtain rfl := Option.some.inj H
                                        have p461 : 0 ≤ (x11_2 : Int) := of_decide_eq_true (by first | (with_reducible assumption) | assumption)
                                        have q461 : x11_2 < (t432.length : Int) := of_decide_eq_true (by first | (with_reducible assumption) | assumption)
                                        obtain ⟨ad461, A461_0, c461_0, e461, hx461_0, hl461_0, hi461_0⟩ := at_L3 (Kd.S_reads' HO_3.out).2.2 x11_2 p461 q461
                                        cases e461
                                        obtain ⟨ce461, hce461, hMe461, hcc461⟩ := Kd.S_get HO_3.out [] x11_2 p461 (by first | exact q461 | exact of_decide_eq_true (by first | (with_reducible assumption) | assumption) | (have e_ := (Kd.S_reads' HO_3.out).1; omega))
                                        obtain ⟨ve461_0, rfl, ge461_0⟩ := hMe461
                                        have hv461_0 := hcc461 0 _ rfl
                                        rw [Nat.add_zero, show ((Kd.slice 3 (Kd.int .i64))).sz = 1 from rfl, Nat.mul_one] at hv461_0
                                        replace hv461_0 := Option.some.inj (hv461_0.symm.trans hx461_0)
                                        rw [hv461_0] at ge461_0
                                        have HL461_0 := Aside0.mk (show Kd.R (Kd.int .i64) 3 _ _ _ _ (rd_L3 t432 x11_2) from ge461_0)
                                        clear hv461_0 ge461_0
                                        clear hcc461 hce461
                                        have HR461_0 := Aside0.mk hi461_0
                                        have HC461_0 := Aside0.mk hl461_0
                                        clear hi461_0 hl461_0
                                        replace p461 := eq_true p461
                                        replace q461 := eq_true q461
                                        have p462 : 0 ≤ (x13_3 : Int) := of_decide_eq_true (by first | (with_reducible assumption) | assumption)
                                        have q462 : x13_3 < ((rd_L3 t432 x11_2).length : Int) := of_decide_eq_true (by first | (with_reducible assumption) | assumption)
                                        obtain ⟨ad462, e462, hx462_0⟩ := Kd.at_int (by repeat (first | (with_reducible exact HR461_0.out) | (with_reducible refine Kd.C_alloc ?_ _) | (with_reducible refine Kd.C_drewN ?_ _) | (with_reducible refine Kd.C_drew ?_) | exact HR461_0.out)) x13_3 p462 q462
                                        cases e462
                                        replace p462 := eq_true p462
                                        replace q462 := eq_true q462
                                        obtain ⟨Ao51, co51, eo51⟩ := Kd.R_slice HO_12.out
                                        subst eo51
                                        go_wp2_with (first | ((with_reducible refine gC 46 ?_); refine cL (some 89) Try.func46 #[.slice Ao51 t458.length co51, .int .i64 x13_3] ?_; (with_reducible refine (impl_InSpans.calls k3 _ _ t458 x13_3 _ _ ?side1 ?side2 A43.out).mono ?_); (case side1 => exact cS (Kd.R_reads' HO_12.out).2.2); (case side2 => exact (Kd.R_reads' HO_12.out).2.1); rintro e w52 ⟨rfl, hb⟩; refine ⟨_, rfl, ?_⟩; replace HO_3 := Aside0.mk (Kd.S_below (by (with_reducible repeat (first | apply Kd.S_alloc | apply Kd.S_drewN | apply Kd.S_drew)); exact HO_3.out) hb); replace HO_7 := Aside0.mk (Kd.S_below (by (with_reducible repeat (first | apply Kd.S_alloc | apply Kd.S_drewN | apply Kd.S_drew)); exact HO_7.out) hb); replace HO_12 := Aside0.mk (Kd.R_below (rS HO_12) hb); replace HO_444000 := Aside0.mk (Kd.R_below (rS HO_444000) hb); replace HL461_0 := Aside0.mk (Kd.R_below (rS HL461_0) hb); replace BK443 := kB (g := gb443) hb; replace HR461_0 := Aside0.mk (Kd.C_below (by repeat (first | (with_reducible exact HR461_0.out) | (with_reducible refine Kd.C_alloc ?_ _) | (with_reducible refine Kd.C_drewN ?_ _) | (with_reducible refine Kd.C_drew ?_) | exact HR461_0.out)) hb); replace HB := hB hb; (try clear hb); (try clear hb2); (try clear hk); (try clear hi); have hz53 := cz6 BK443; have p464 : 0 ≤ (x11_2 : Int) := of_decide_eq_true (by first | (with_reducible assumption) | assumption); have q464 : x11_2 < (t448.length : Int) := of_decide_eq_true (by first | (with_reducible assumption) | assumption); obtain ⟨ad464, A464_0, c464_0, e464, hx464_0, hl464_0, hi464_0⟩ := at_L3 (Kd.S_reads' HO_7.out).2.2 x11_2 p464 q464; cases e464; obtain ⟨ce464, hce464, hMe464, hcc464⟩ := Kd.S_get HO_7.out [] x11_2 p464 (by first | exact q464 | exact of_decide_eq_true (by first | (with_reducible assumption) | assumption) | (have e_ := (Kd.S_reads' HO_7.out).1; omega)); obtain ⟨ve464_0, rfl, ge464_0⟩ := hMe464; have hv464_0 := hcc464 0 _ rfl; rw [Nat.add_zero, show ((Kd.slice 3 (Kd.int .i64))).sz = 1 from rfl, Nat.mul_one] at hv464_0; replace hv464_0 := Option.some.inj (hv464_0.symm.trans hx464_0); rw [hv464_0] at ge464_0; have HL464_0 := Aside0.mk (show Kd.R (Kd.int .i64) 3 _ _ _ _ (rd_L3 t448 x11_2) from ge464_0); clear hv464_0 ge464_0; clear hcc464 hce464; have HR464_0 := Aside0.mk hi464_0; have HC464_0 := Aside0.mk hl464_0; clear hi464_0 hl464_0; replace p464 := eq_true p464; replace q464 := eq_true q464; have p465 : 0 ≤ (x13_3 : Int) := of_decide_eq_true (by first | (with_reducible assumption) | assumption); have q465 : x13_3 < ((rd_L3 t448 x11_2).length : Int) := of_decide_eq_true (by first | (with_reducible assumption) | assumption); obtain ⟨ad465, e465, hx465_0⟩ := Kd.at_int (by repeat (first | (with_reducible exact HR464_0.out) | (with_reducible refine Kd.C_alloc ?_ _) | (with_reducible refine Kd.C_drewN ?_ _) | (with_reducible refine Kd.C_drew ?_) | exact HR464_0.out)) x13_3 p465 q465; cases e465; replace p465 := eq_true p465; replace q465 := eq_true q465))
                                        go_ret
                                        exact ⟨eS, bS⟩
                                    · rw [if_neg c46] at H
                                      exact absurd H (by simp)
                                  · rw [if_neg c45] at H
                                    exact absurd H (by simp)
                                · obtain rfl := Bool.eq_false_iff.mpr c44
                                  rw [if_neg nF] at H
                                  by_cases c54 : x11_2 < (t448.length : Int)
                                  · rw [if_pos c54] at H
                                    have c54b0 : decide (x11_2 < (t448.length : Int)) = true := decide_eq_true c54
                                    clear c54
                                    by_cases c55 : x13_3 < ((rd_L3 t448 x11_2).length : Int)
                                    · rw [if_pos c55] at H
                                      have c55b0 : decide (x13_3 < ((rd_L3 t448 x11_2).length : Int)) = true := decide_eq_true c55
                                      clear c55
                                      by_cases c56 : (rd (rd_L3 t448 x11_2) x13_3) = (rd (rd_L3 t432 x11_2) x13_3)
                                      · rw [if_pos c56] at H
                                        have c56b0 : ((rd (rd_L3 t448 x11_2) x13_3) == (rd (rd_L3 t432 x11_2) x13_3)) = true := beq_iff_eq.mpr c56
                                        have c56b1 : ((rd (rd_L3 t448 x11_2) x13_3) != (rd (rd_L3 t432 x11_2) x13_3)) = false := bne_eq_false_iff_eq.mpr c56
                                        clear c56
                                        have H' := Aside0.mk H
                                        clear H
                                        have p461 : 0 ≤ (x11_2 : Int) := of_decide_eq_true (by first | (with_reducible assumption) | assumption)
                                        have q461 : x11_2 < (t432.length : Int) := of_decide_eq_true (by first | (with_reducible assumption) | assumption)
                                        obtain ⟨ad461, A461_0, c461_0, e461, hx461_0, hl461_0, hi461_0⟩ := at_L3 (Kd.S_reads' HO_3.out).2.2 x11_2 p461 q461
                                        cases e461
                                        obtain ⟨ce461, hce461, hMe461, hcc461⟩ := Kd.S_get HO_3.out [] x11_2 p461 (by first | exact q461 | exact of_decide_eq_true (by first | (with_reducible assumption) | assumption) | (have e_ := (Kd.S_reads' HO_3.out).1; omega))
                                        obtain ⟨ve461_0, rfl, ge461_0⟩ := hMe461
                                        have hv461_0 := hcc461 0 _ rfl
                                        rw [Nat.add_zero, show ((Kd.slice 3 (Kd.int .i64))).sz = 1 from rfl, Nat.mul_one] at hv461_0
                                        replace hv461_0 := Option.some.inj (hv461_0.symm.trans hx461_0)
                                        rw [hv461_0] at ge461_0
                                        have HL461_0 := Aside0.mk (show Kd.R (Kd.int .i64) 3 _ _ _ _ (rd_L3 t432 x11_2) from ge461_0)
                                        clear hv461_0 ge461_0
                                        clear hcc461 hce461
                                        have HR461_0 := Aside0.mk hi461_0
                                        have HC461_0 := Aside0.mk hl461_0
                                        clear hi461_0 hl461_0
                                        replace p461 := eq_true p461
                                        replace q461 := eq_true q461
                                        have p462 : 0 ≤ (x13_3 : Int) := of_decide_eq_true (by first | (with_reducible assumption) | assumption)
                                        have q462 : x13_3 < ((rd_L3 t432 x11_2).length : Int) := of_decide_eq_true (by first | (with_reducible assumption) | assumption)
                                        obtain ⟨ad462, e462, hx462_0⟩ := Kd.at_int (by repeat (first | (with_reducible exact HR461_0.out) | (with_reducible refine Kd.C_alloc ?_ _) | (with_reducible refine Kd.C_drewN ?_ _) | (with_reducible refine Kd.C_drew ?_) | exact HR461_0.out)) x13_3 p462 q462
                                        cases e462
                                        replace p462 := eq_true p462
                                        replace q462 := eq_true q462
                                        obtain ⟨Ao57, co57, eo57⟩ := Kd.R_slice HO_12.out
                                        subst eo57
                                        go_wp2_with (first | ((with_reducible refine gC 46 ?_); refine cL (some 89) Try.func46 #[.slice Ao57 t458.length co57, .int .i64 x13_3] ?_; (with_reducible refine (impl_InSpans.calls k3 _ _ t458 x13_3 _ _ ?side1 ?side2 A43.out).mono ?_); (case side1 => exact cS (Kd.R_reads' HO_12.out).2.2); (case side2 => exact (Kd.R_reads' HO_12.out).2.1); rintro e w58 ⟨rfl, hb⟩; refine ⟨_, rfl, ?_⟩; replace HO_3 := Aside0.mk (Kd.S_below (by (with_reducible repeat (first | apply Kd.S_alloc | apply Kd.S_drewN | apply Kd.S_drew)); exact HO_3.out) hb); replace HO_7 := Aside0.mk (Kd.S_below (by (with_reducible repeat (first | apply Kd.S_alloc | apply Kd.S_drewN | apply Kd.S_drew)); exact HO_7.out) hb); replace HO_12 := Aside0.mk (Kd.R_below (rS HO_12) hb); replace HO_444000 := Aside0.mk (Kd.R_below (rS HO_444000) hb); replace HL461_0 := Aside0.mk (Kd.R_below (rS HL461_0) hb); replace BK443 := kB (g := gb443) hb; replace HR461_0 := Aside0.mk (Kd.C_below (by repeat (first | (with_reducible exact HR461_0.out) | (with_reducible refine Kd.C_alloc ?_ _) | (with_reducible refine Kd.C_drewN ?_ _) | (with_reducible refine Kd.C_drew ?_) | exact HR461_0.out)) hb); replace HB := hB hb; (try clear hb); (try clear hb2); (try clear hk); (try clear hi); have p466 : 0 ≤ (x11_2 : Int) := of_decide_eq_true (by first | (with_reducible assumption) | assumption); have q466 : x11_2 < (t448.length : Int) := of_decide_eq_true (by first | (with_reducible assumption) | assumption); obtain ⟨ad466, A466_0, c466_0, e466, hx466_0, hl466_0, hi466_0⟩ := at_L3 (Kd.S_reads' HO_7.out).2.2 x11_2 p466 q466; cases e466; obtain ⟨ce466, hce466, hMe466, hcc466⟩ := Kd.S_get HO_7.out [] x11_2 p466 (by first | exact q466 | exact of_decide_eq_true (by first | (with_reducible assumption) | assumption) | (have e_ := (Kd.S_reads' HO_7.out).1; omega)); obtain ⟨ve466_0, rfl, ge466_0⟩ := hMe466; have hv466_0 := hcc466 0 _ rfl; rw [Nat.add_zero, show ((Kd.slice 3 (Kd.int .i64))).sz = 1 from rfl, Nat.mul_one] at hv466_0; replace hv466_0 := Option.some.inj (hv466_0.symm.trans hx466_0); rw [hv466_0] at ge466_0; have HL466_0 := Aside0.mk (show Kd.R (Kd.int .i64) 3 _ _ _ _ (rd_L3 t448 x11_2) from ge466_0); clear hv466_0 ge466_0; clear hcc466 hce466; have HR466_0 := Aside0.mk hi466_0; have HC466_0 := Aside0.mk hl466_0; clear hi466_0 hl466_0; replace p466 := eq_true p466; replace q466 := eq_true q466; have p467 : 0 ≤ (x13_3 : Int) := of_decide_eq_true (by first | (with_reducible assumption) | assumption); have q467 : x13_3 < ((rd_L3 t448 x11_2).length : Int) := of_decide_eq_true (by first | (with_reducible assumption) | assumption); obtain ⟨ad467, e467, hx467_0⟩ := Kd.at_int (by repeat (first | (with_reducible exact HR466_0.out) | (with_reducible refine Kd.C_alloc ?_ _) | (with_reducible refine Kd.C_drewN ?_ _) | (with_reducible refine Kd.C_drew ?_) | exact HR466_0.out)) x13_3 p467 q467; cases e467; replace p467 := eq_true p467; replace q467 := eq_true q467))
                                        go_roundg k3
                                        case measure => have := HJ9.out; have := HK2.out; have := HK3.out; omega
                                        case rel => exact ⟨(wrap64 (x13_3 + 1)), (by first | rfl | (simp; done) | (simp [*]; done)), H', ⟨by have := HJ9.out; have := HK2.out; have := HK3.out; omega⟩, ⟨by (with_reducible repeat (first | apply Kd.S_alloc | apply Kd.S_drewN | apply Kd.S_drew)); exact HO_3.out⟩, ⟨by (with_reducible repeat (first | apply Kd.S_alloc | apply Kd.S_drewN | apply Kd.S_drew)); exact HO_7.out⟩, ⟨by (with_reducible repeat (first | apply Kd.R_alloc | apply Kd.R_drewN | apply Kd.R_drew)); exact HO_12.out⟩, ⟨by (with_reducible repeat (first | apply Kd.R_alloc | apply Kd.R_drewN | apply Kd.R_drew)); exact HO_444000.out⟩, ⟨kS⟩, ⟨bS⟩⟩
                                      · rw [if_neg c56] at H
                                        have c56b0 : ((rd (rd_L3 t448 x11_2) x13_3) == (rd (rd_L3 t432 x11_2) x13_3)) = false := beq_eq_false_iff_ne.mpr c56
                                        have c56b1 : ((rd (rd_L3 t448 x11_2) x13_3) != (rd (rd_L3 t432 x11_2) x13_3)) = true := bne_iff_ne.mpr c56
                                        obtain rfl := Option.some.inj H
                                        have p461 : 0 ≤ (x11_2 : Int) := of_decide_eq_true (by first | (with_reducible assumption) | assumption)
                                        have q461 : x11_2 < (t432.length : Int) := of_decide_eq_true (by first | (with_reducible assumption) | assumption)
                                        obtain ⟨ad461, A461_0, c461_0, e461, hx461_0, hl461_0, hi461_0⟩ := at_L3 (Kd.S_reads' HO_3.out).2.2 x11_2 p461 q461
                                        cases e461
                                        obtain ⟨ce461, hce461, hMe461, hcc461⟩ := Kd.S_get HO_3.out [] x11_2 p461 (by first | exact q461 | exact of_decide_eq_true (by first | (with_reducible assumption) | assumption) | (have e_ := (Kd.S_reads' HO_3.out).1; omega))
                                        obtain ⟨ve461_0, rfl, ge461_0⟩ := hMe461
                                        have hv461_0 := hcc461 0 _ rfl
                                        rw [Nat.add_zero, show ((Kd.slice 3 (Kd.int .i64))).sz = 1 from rfl, Nat.mul_one] at hv461_0
                                        replace hv461_0 := Option.some.inj (hv461_0.symm.trans hx461_0)
                                        rw [hv461_0] at ge461_0
                                        have HL461_0 := Aside0.mk (show Kd.R (Kd.int .i64) 3 _ _ _ _ (rd_L3 t432 x11_2) from ge461_0)
                                        clear hv461_0 ge461_0
                                        clear hcc461 hce461
                                        have HR461_0 := Aside0.mk hi461_0
                                        have HC461_0 := Aside0.mk hl461_0
                                        clear hi461_0 hl461_0
                                        replace p461 := eq_true p461
                                        replace q461 := eq_true q461
                                        have p462 : 0 ≤ (x13_3 : Int) := of_decide_eq_true (by first | (with_reducible assumption) | assumption)
                                        have q462 : x13_3 < ((rd_L3 t432 x11_2).length : Int) := of_decide_eq_true (by first | (with_reducible assumption) | assumption)
                                        obtain ⟨ad462, e462, hx462_0⟩ := Kd.at_int (by repeat (first | (with_reducible exact HR461_0.out) | (with_reducible refine Kd.C_alloc ?_ _) | (with_reducible refine Kd.C_drewN ?_ _) | (with_reducible refine Kd.C_drew ?_) | exact HR461_0.out)) x13_3 p462 q462
                                        cases e462
                                        replace p462 := eq_true p462
                                        replace q462 := eq_true q462
                                        obtain ⟨Ao59, co59, eo59⟩ := Kd.R_slice HO_12.out
                                        subst eo59
                                        go_wp2_with (first | ((with_reducible refine gC 46 ?_); refine cL (some 89) Try.func46 #[.slice Ao59 t458.length co59, .int .i64 x13_3] ?_; (with_reducible refine (impl_InSpans.calls k3 _ _ t458 x13_3 _ _ ?side1 ?side2 A43.out).mono ?_); (case side1 => exact cS (Kd.R_reads' HO_12.out).2.2); (case side2 => exact (Kd.R_reads' HO_12.out).2.1); rintro e w60 ⟨rfl, hb⟩; refine ⟨_, rfl, ?_⟩; replace HO_3 := Aside0.mk (Kd.S_below (by (with_reducible repeat (first | apply Kd.S_alloc | apply Kd.S_drewN | apply Kd.S_drew)); exact HO_3.out) hb); replace HO_7 := Aside0.mk (Kd.S_below (by (with_reducible repeat (first | apply Kd.S_alloc | apply Kd.S_drewN | apply Kd.S_drew)); exact HO_7.out) hb); replace HO_12 := Aside0.mk (Kd.R_below (rS HO_12) hb); replace HO_444000 := Aside0.mk (Kd.R_below (rS HO_444000) hb); replace HL461_0 := Aside0.mk (Kd.R_below (rS HL461_0) hb); replace BK443 := kB (g := gb443) hb; replace HR461_0 := Aside0.mk (Kd.C_below (by repeat (first | (with_reducible exact HR461_0.out) | (with_reducible refine Kd.C_alloc ?_ _) | (with_reducible refine Kd.C_drewN ?_ _) | (with_reducible refine Kd.C_drew ?_) | exact HR461_0.out)) hb); replace HB := hB hb; (try clear hb); (try clear hb2); (try clear hk); (try clear hi); have p466 : 0 ≤ (x11_2 : Int) := of_decide_eq_true (by first | (with_reducible assumption) | assumption); have q466 : x11_2 < (t448.length : Int) := of_decide_eq_true (by first | (with_reducible assumption) | assumption); obtain ⟨ad466, A466_0, c466_0, e466, hx466_0, hl466_0, hi466_0⟩ := at_L3 (Kd.S_reads' HO_7.out).2.2 x11_2 p466 q466; cases e466; obtain ⟨ce466, hce466, hMe466, hcc466⟩ := Kd.S_get HO_7.out [] x11_2 p466 (by first | exact q466 | exact of_decide_eq_true (by first | (with_reducible assumption) | assumption) | (have e_ := (Kd.S_reads' HO_7.out).1; omega)); obtain ⟨ve466_0, rfl, ge466_0⟩ := hMe466; have hv466_0 := hcc466 0 _ rfl; rw [Nat.add_zero, show ((Kd.slice 3 (Kd.int .i64))).sz = 1 from rfl, Nat.mul_one] at hv466_0; replace hv466_0 := Option.some.inj (hv466_0.symm.trans hx466_0); rw [hv466_0] at ge466_0; have HL466_0 := Aside0.mk (show Kd.R (Kd.int .i64) 3 _ _ _ _ (rd_L3 t448 x11_2) from ge466_0); clear hv466_0 ge466_0; clear hcc466 hce466; have HR466_0 := Aside0.mk hi466_0; have HC466_0 := Aside0.mk hl466_0; clear hi466_0 hl466_0; replace p466 := eq_true p466; replace q466 := eq_true q466; have p467 : 0 ≤ (x13_3 : Int) := of_decide_eq_true (by first | (with_reducible assumption) | assumption); have q467 : x13_3 < ((rd_L3 t448 x11_2).length : Int) := of_decide_eq_true (by first | (with_reducible assumption) | assumption); obtain ⟨ad467, e467, hx467_0⟩ := Kd.at_int (by repeat (first | (with_reducible exact HR466_0.out) | (with_reducible refine Kd.C_alloc ?_ _) | (with_reducible refine Kd.C_drewN ?_ _) | (with_reducible refine Kd.C_drew ?_) | exact HR466_0.out)) x13_3 p467 q467; cases e467; replace p467 := eq_true p467; replace q467 := eq_true q467))
                                        go_ret
                                        exact ⟨eS, bS⟩
                                    · rw [if_neg c55] at H
                                      exact absurd H (by simp)
                                  · rw [if_neg c54] at H
                                    exact absurd H (by simp)
                              · rw [if_neg c42] at H
                                exact absurd H (by simp)
                            · rw [if_neg c41] at H
                              exact absurd H (by simp)
                          · rw [if_neg c40] at H
                            exact absurd H (by simp)
                        · rw [if_neg c39] at H
                          exact absurd H (by simp)
                      · rw [if_neg c38] at H
                        have c38b0 : decide (x13_3 < 32) = false := decide_eq_false c38
                        clear c38
                        have H' := Aside0.mk H
                        clear H
                        go_wp2
                        go_roundg k3
                        case measure => have := HJ9.out; have := HK2.out; have := HK3.out; omega
                        case rel => exact ⟨(wrap64 (x11_2 + 1)), (by first | rfl | (simp; done) | (simp [*]; done)), H', ⟨by have := HJ9.out; have := HK2.out; have := HK3.out; omega⟩, ⟨by (with_reducible repeat (first | apply Kd.S_alloc | apply Kd.S_drewN | apply Kd.S_drew)); exact HO_3.out⟩, ⟨by (with_reducible repeat (first | apply Kd.S_alloc | apply Kd.S_drewN | apply Kd.S_drew)); exact HO_7.out⟩, ⟨by (with_reducible repeat (first | apply Kd.R_alloc | apply Kd.R_drewN | apply Kd.R_drew)); exact HO_444000.out⟩, ⟨kS⟩, ⟨bS⟩⟩
                · rw [if_neg c34] at H
                  have c34b0 : decide (x11_2 < (t432.length : Int)) = false := decide_eq_false c34
                  clear c34
                  obtain rfl := Option.some.inj H
                  go_wp2
                  go_ret
                  exact ⟨eS, bS⟩
    · rw [if_neg c7] at H
      exact absurd H (by simp)

end Go.Proofs.Ytimpejidlnjhlaa.QFnPaints
