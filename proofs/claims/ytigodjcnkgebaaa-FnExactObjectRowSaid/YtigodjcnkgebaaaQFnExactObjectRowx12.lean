-- Made out of the translation by a program of this session (a changed copy of the print). Not trusted: Lean checks it.
import Derived.Test.YtigodjcnkgebaaaQFnExactObjectRowx0
import Derived.Test.YtigodjcnkgebaaaQFnExactObjectRowx1
import Derived.Test.YtigodjcnkgebaaaQFnExactObjectRowx5
import Derived.Test.YtigodjcnkgebaaaQFnExactObjectRowx10
import Derived.Test.YtigodjcnkgebaaaQFnExactObjectRowx11
namespace Go.Proofs.Ytigodjcnkgebaaa.QFnExactObjectRow
open Go.RowKit Go.Proofs.YtigodjcnkgebaaaW.PrintWords Go.Proofs.YtigodjcnkgebaaaW.PrintLast Go.Proofs.YtigodjcnkgebaaaW.PrintMore
attribute [local go_sem] max2_int min2_int max_two min_two max_three min_three max_four min_four   -- for this text's walks alone
set_option linter.unusedVariables false
set_option linter.unusedSimpArgs false
set_option maxHeartbeats 8000000
set_option maxRecDepth 100000

/-! ### laws_FnExactObjectRow: function 4 -/
def laws_FnExactObjectRow.j0 : Nat → Int → List (S124) → List (S124) → Bool → List (S173) → Int → Int → Int → Int → Int → Option (Bool)
  | 0, _, _, _, _, _, _, _, _, _, _ => none
  | k + 1, x1, x6, x8, x46, x351000, x351001, x351002, x351003, x351004, x351005 => if x46 = true then (some false) else ((laws_markSpanS.f k x8 1).bind fun bt388 => ((laws_heldSpanS.f k bt388.2 1).bind fun t390 => (if t390 < 0 then (some false) else (if t390 = bt388.1 then ((laws_toObject.f k x351000 x351001 x351002 x351003 x351004 x351005).bind fun bt391 => ((impl_ObjectRow.f k bt391.1 bt391.2.1 bt391.2.2.1 bt391.2.2.2.1 bt391.2.2.2.2.1 bt391.2.2.2.2.2 x1).bind fun t399 => ((laws_eqSpanS.f k t399 x6).bind fun t402 => (if t402 = true then ((laws_heldSpanS.f k bt388.2 1).bind fun t403 => (if t403 < 0 then (some false) else (if t403 = bt388.1 then (some true) else (some false)))) else (some false))))) else (some false)))))
def laws_FnExactObjectRow.f (k : Nat) (l0_0 : List (S173)) (a0_1 : Int) (a0_2 : Int) (a0_3 : Int) (a0_4 : Int) (a0_5 : Int) (a1 : Int) : Option (Bool) := (laws_szObject.f l0_0 a0_1 a0_2 a0_3 a0_4 a0_5 1048576).bind fun t351 => (if t351 < 0 then (some true) else ((laws_toObject.f k l0_0 a0_1 a0_2 a0_3 a0_4 a0_5).bind fun bt352 => ((spec_ObjectRow.f k bt352.1 bt352.2.1 bt352.2.2.1 bt352.2.2.2.1 bt352.2.2.2.2.1 bt352.2.2.2.2.2 a1).bind fun t360 => ((laws_toObject.f k l0_0 a0_1 a0_2 a0_3 a0_4 a0_5).bind fun bt363 => ((impl_ObjectRow.f k bt363.1 bt363.2.1 bt363.2.2.1 bt363.2.2.2.1 bt363.2.2.2.2.1 bt363.2.2.2.2.2 a1).bind fun t372 => ((laws_eqSpanS.f k t372 t360).bind fun t375 => (if t375 = true then ((laws_toObject.f k l0_0 a0_1 a0_2 a0_3 a0_4 a0_5).bind fun bt376 => ((laws_eqObject.f k bt363.1 bt363.2.1 bt363.2.2.1 bt363.2.2.2.1 bt363.2.2.2.2.1 bt363.2.2.2.2.2 bt376.1 bt376.2.1 bt376.2.2.1 bt376.2.2.2.1 bt376.2.2.2.2.1 bt376.2.2.2.2.2).bind fun t384 => (if t384 = true then ((laws_markObject.f k bt363.1 bt363.2.1 bt363.2.2.1 bt363.2.2.2.1 bt363.2.2.2.2.1 bt363.2.2.2.2.2 1).bind fun bt385 => (if bt385.1 < 0 then (laws_FnExactObjectRow.j0 k a1 t360 t372 true l0_0 a0_1 a0_2 a0_3 a0_4 a0_5) else ((laws_eqSpanS.f k t372 t360).bind fun t387 => (laws_FnExactObjectRow.j0 k a1 t360 t372 (!t387) l0_0 a0_1 a0_2 a0_3 a0_4 a0_5)))) else (some false)))) else (some false))))))))
theorem laws_FnExactObjectRow.calls (k : Nat) (A0_0 : Option Addr) (c0_0 : Nat) (l0_0 : List (S173)) (a0_1 : Int) (a0_2 : Int) (a0_3 : Int) (a0_4 : Int) (a0_5 : Int) (a1 : Int) (r : Bool) (w : World) (hr0_0 : Kd.C k173 w A0_0 l0_0.length l0_0) (hc0_0 : l0_0.length ≤ c0_0) (h : laws_FnExactObjectRow.f k l0_0 a0_1 a0_2 a0_3 a0_4 a0_5 a1 = some r) :
    Calls Try.prog 4 #[.agg #[.slice A0_0 l0_0.length c0_0, .int .i64 a0_1, .int .i64 a0_2, .int .i64 a0_3, .int .i64 a0_4, .int .i64 a0_5], .int .i64 a1] w fun e w' => e = .returned (.bool r) ∧ Below w.heap.size w w' := by
  have hu38 := Try.underlying38
  have hu45 := Try.underlying45
  have HR0_0 := Aside0.mk hr0_0
  have HC0_0 := Aside0.mk hc0_0
  clear hr0_0 hc0_0
  have HB := Aside0.mk (Below.refl w.heap.size w)
  have H : ((laws_szObject.f l0_0 a0_1 a0_2 a0_3 a0_4 a0_5 1048576).bind fun t351 => (if t351 < 0 then (some true) else ((laws_toObject.f k l0_0 a0_1 a0_2 a0_3 a0_4 a0_5).bind fun bt352 => ((spec_ObjectRow.f k bt352.1 bt352.2.1 bt352.2.2.1 bt352.2.2.2.1 bt352.2.2.2.2.1 bt352.2.2.2.2.2 a1).bind fun t360 => ((laws_toObject.f k l0_0 a0_1 a0_2 a0_3 a0_4 a0_5).bind fun bt363 => ((impl_ObjectRow.f k bt363.1 bt363.2.1 bt363.2.2.1 bt363.2.2.2.1 bt363.2.2.2.2.1 bt363.2.2.2.2.2 a1).bind fun t372 => ((laws_eqSpanS.f k t372 t360).bind fun t375 => (if t375 = true then ((laws_toObject.f k l0_0 a0_1 a0_2 a0_3 a0_4 a0_5).bind fun bt376 => ((laws_eqObject.f k bt363.1 bt363.2.1 bt363.2.2.1 bt363.2.2.2.1 bt363.2.2.2.2.1 bt363.2.2.2.2.2 bt376.1 bt376.2.1 bt376.2.2.1 bt376.2.2.2.1 bt376.2.2.2.2.1 bt376.2.2.2.2.2).bind fun t384 => (if t384 = true then ((laws_markObject.f k bt363.1 bt363.2.1 bt363.2.2.1 bt363.2.2.2.1 bt363.2.2.2.2.1 bt363.2.2.2.2.2 1).bind fun bt385 => (if bt385.1 < 0 then (laws_FnExactObjectRow.j0 k a1 t360 t372 true l0_0 a0_1 a0_2 a0_3 a0_4 a0_5) else ((laws_eqSpanS.f k t372 t360).bind fun t387 => (laws_FnExactObjectRow.j0 k a1 t360 t372 (!t387) l0_0 a0_1 a0_2 a0_3 a0_4 a0_5)))) else (some false)))) else (some false))))))))) = some r := h
  clear h
  replace H := bN H
  obtain ⟨t351, A3, H⟩ := H
  by_cases c4 : t351 < 0
  · rw [if_pos c4] at H
    have c4b0 : decide (t351 < 0) = true := decide_eq_true c4
    clear c4
    obtain rfl := Option.some.inj H
    go_enter Try.func4, Try.ntmps4
    go_wp2_with (first | ((with_reducible refine gD 2 ?_); refine bxE #[.slice A0_0 l0_0.length c0_0, .int .i64 a0_1, .int .i64 a0_2, .int .i64 a0_3, .int .i64 a0_4, .int .i64 a0_5] 38 ?_; intro gb350 hg w5 BK350 hb; have GW350 := gE hg; have GE350 := gE hg; replace HB := hB hb; clear hb hg; have hcz6_0 : w5.cell? ⟨gb350, 0, none⟩ = some (.slice A0_0 l0_0.length c0_0) := (blk_cell BK350.out 0).trans rfl; have hcz6_1 : w5.cell? ⟨gb350, 1, none⟩ = some (.int .i64 a0_1) := (blk_cell BK350.out 1).trans rfl; have hcz6_2 : w5.cell? ⟨gb350, 2, none⟩ = some (.int .i64 a0_2) := (blk_cell BK350.out 2).trans rfl; have hcz6_3 : w5.cell? ⟨gb350, 3, none⟩ = some (.int .i64 a0_3) := (blk_cell BK350.out 3).trans rfl; have hcz6_4 : w5.cell? ⟨gb350, 4, none⟩ = some (.int .i64 a0_4) := (blk_cell BK350.out 4).trans rfl; have hcz6_5 : w5.cell? ⟨gb350, 5, none⟩ = some (.int .i64 a0_5) := (blk_cell BK350.out 5).trans rfl; have hfz6_0 := blk_frozen BK350.out 0; have hfz6_1 := blk_frozen BK350.out 1; have hfz6_2 := blk_frozen BK350.out 2; have hfz6_3 := blk_frozen BK350.out 3; have hfz6_4 := blk_frozen BK350.out 4; have hfz6_5 := blk_frozen BK350.out 5) | ((with_reducible refine gC 23 ?_); refine cL (some 15) Try.func23 #[.agg #[.slice A0_0 l0_0.length c0_0, .int .i64 a0_1, .int .i64 a0_2, .int .i64 a0_3, .int .i64 a0_4, .int .i64 a0_5], .int .i64 1048576] ?_; (with_reducible refine (laws_szObject.calls _ _ l0_0 a0_1 a0_2 a0_3 a0_4 a0_5 1048576 t351 _ ?side1 ?side2 A3.out).mono ?_); (case side1 => exact cS (Kd.C_below HR0_0.out HB.out)); (case side2 => exact HC0_0.out); rintro e w7 ⟨rfl, hb⟩; refine ⟨_, rfl, ?_⟩; replace BK350 := kB (g := gb350) hb; replace HB := hB hb; (try clear hb); (try clear hb2); (try clear hk); (try clear hi)))
    go_ret
    exact ⟨eS, bS⟩
  · rw [if_neg c4] at H
    have c4b0 : decide (t351 < 0) = false := decide_eq_false c4
    clear c4
    replace H := bN H
    obtain ⟨⟨t352, t355, t356, t357, t358, t359⟩, A8, H⟩ := H
    replace H := bN H
    obtain ⟨t360, A9, H⟩ := H
    replace H := bN H
    obtain ⟨⟨t363, t366, t367, t368, t369, t370⟩, A10, H⟩ := H
    replace H := bN H
    obtain ⟨t372, A11, H⟩ := H
    replace H := bN H
    obtain ⟨t375, A12, H⟩ := H
    by_cases c13 : t375 = true
    · subst c13
      rw [if_pos rfl] at H
      replace H := bN H
      obtain ⟨⟨t376, t379, t380, t381, t382, t383⟩, A14, H⟩ := H
      replace H := bN H
      obtain ⟨t384, A15, H⟩ := H
      by_cases c16 : t384 = true
      · subst c16
        rw [if_pos rfl] at H
        replace H := bN H
        obtain ⟨⟨t385, t386⟩, A17, H⟩ := H
        have HC18 := Aside0.mk H
        clear H
        go_enter Try.func4, Try.ntmps4
        try go_wp2_with (first | ((with_reducible refine gD 2 ?_); refine bxE #[.slice A0_0 l0_0.length c0_0, .int .i64 a0_1, .int .i64 a0_2, .int .i64 a0_3, .int .i64 a0_4, .int .i64 a0_5] 38 ?_; intro gb350 hg w19 BK350 hb; have GW350 := gE hg; have GE350 := gE hg; replace HB := hB hb; clear hb hg; have hcz20_0 : w19.cell? ⟨gb350, 0, none⟩ = some (.slice A0_0 l0_0.length c0_0) := (blk_cell BK350.out 0).trans rfl; have hcz20_1 : w19.cell? ⟨gb350, 1, none⟩ = some (.int .i64 a0_1) := (blk_cell BK350.out 1).trans rfl; have hcz20_2 : w19.cell? ⟨gb350, 2, none⟩ = some (.int .i64 a0_2) := (blk_cell BK350.out 2).trans rfl; have hcz20_3 : w19.cell? ⟨gb350, 3, none⟩ = some (.int .i64 a0_3) := (blk_cell BK350.out 3).trans rfl; have hcz20_4 : w19.cell? ⟨gb350, 4, none⟩ = some (.int .i64 a0_4) := (blk_cell BK350.out 4).trans rfl; have hcz20_5 : w19.cell? ⟨gb350, 5, none⟩ = some (.int .i64 a0_5) := (blk_cell BK350.out 5).trans rfl; have hfz20_0 := blk_frozen BK350.out 0; have hfz20_1 := blk_frozen BK350.out 1; have hfz20_2 := blk_frozen BK350.out 2; have hfz20_3 := blk_frozen BK350.out 3; have hfz20_4 := blk_frozen BK350.out 4; have hfz20_5 := blk_frozen BK350.out 5) | ((with_reducible refine gC 23 ?_); refine cL (some 15) Try.func23 #[.agg #[.slice A0_0 l0_0.length c0_0, .int .i64 a0_1, .int .i64 a0_2, .int .i64 a0_3, .int .i64 a0_4, .int .i64 a0_5], .int .i64 1048576] ?_; (with_reducible refine (laws_szObject.calls _ _ l0_0 a0_1 a0_2 a0_3 a0_4 a0_5 1048576 t351 _ ?side1 ?side2 A3.out).mono ?_); (case side1 => exact cS (Kd.C_below HR0_0.out HB.out)); (case side2 => exact HC0_0.out); rintro e w21 ⟨rfl, hb⟩; refine ⟨_, rfl, ?_⟩; replace BK350 := kB (g := gb350) hb; replace HB := hB hb; (try clear hb); (try clear hb2); (try clear hk); (try clear hi); have hcz22_0 : w21.cell? ⟨gb350, 0, none⟩ = some (.slice A0_0 l0_0.length c0_0) := (blk_cell BK350.out 0).trans rfl; have hcz22_1 : w21.cell? ⟨gb350, 1, none⟩ = some (.int .i64 a0_1) := (blk_cell BK350.out 1).trans rfl; have hcz22_2 : w21.cell? ⟨gb350, 2, none⟩ = some (.int .i64 a0_2) := (blk_cell BK350.out 2).trans rfl; have hcz22_3 : w21.cell? ⟨gb350, 3, none⟩ = some (.int .i64 a0_3) := (blk_cell BK350.out 3).trans rfl; have hcz22_4 : w21.cell? ⟨gb350, 4, none⟩ = some (.int .i64 a0_4) := (blk_cell BK350.out 4).trans rfl; have hcz22_5 : w21.cell? ⟨gb350, 5, none⟩ = some (.int .i64 a0_5) := (blk_cell BK350.out 5).trans rfl; have hfz22_0 := blk_frozen BK350.out 0; have hfz22_1 := blk_frozen BK350.out 1; have hfz22_2 := blk_frozen BK350.out 2; have hfz22_3 := blk_frozen BK350.out 3; have hfz22_4 := blk_frozen BK350.out 4; have hfz22_5 := blk_frozen BK350.out 5) | ((with_reducible refine gC 25 ?_); refine cL (some 19) Try.func25 #[.agg #[.slice A0_0 l0_0.length c0_0, .int .i64 a0_1, .int .i64 a0_2, .int .i64 a0_3, .int .i64 a0_4, .int .i64 a0_5]] ?_; (with_reducible refine (laws_toObject.calls k _ _ l0_0 a0_1 a0_2 a0_3 a0_4 a0_5 t352 t355 t356 t357 t358 t359 _ ?side1 ?side2 A8.out).mono ?_); (case side1 => exact cS (Kd.C_below HR0_0.out HB.out)); (case side2 => exact HC0_0.out); rintro e w23 ⟨v353, rfl, ho0, hb⟩; refine ⟨_, rfl, ?_⟩; have HO354 := Aside0.mk (Kd.R_lower ho0 (below_size bS)); replace BK350 := kB (g := gb350) hb; replace HB := hB hb; (try clear hb); (try clear hb2); (try clear hk); (try clear hi); (try clear ho0); obtain ⟨Ao24, co24, eo24⟩ := Kd.R_slice HO354.out; subst eo24) | ((with_reducible refine gC 24 ?_); refine cL (some 21) Try.func24 #[.agg #[.slice Ao24 t352.length co24, .int .i64 t355, .int .i64 t356, .int .i64 t357, .int .i64 t358, .int .i64 t359], .int .i64 a1] ?_; (with_reducible refine (spec_ObjectRow.calls k _ _ t352 t355 t356 t357 t358 t359 a1 t360 _ ?side1 ?side2 A9.out).mono ?_); (case side1 => exact cS (Kd.R_reads' HO354.out).2.2); (case side2 => exact (Kd.R_reads' HO354.out).2.1); rintro e w25 ⟨v361, rfl, ho0, hb⟩; refine ⟨_, rfl, ?_⟩; have HO362 := Aside0.mk (Kd.R_lower ho0 (below_size bS)); replace HO354 := Aside0.mk (Kd.R_below (rS HO354) hb); replace BK350 := kB (g := gb350) hb; replace HB := hB hb; (try clear hb); (try clear hb2); (try clear hk); (try clear hi); (try clear ho0); have hcz26_0 : w25.cell? ⟨gb350, 0, none⟩ = some (.slice A0_0 l0_0.length c0_0) := (blk_cell BK350.out 0).trans rfl; have hcz26_1 : w25.cell? ⟨gb350, 1, none⟩ = some (.int .i64 a0_1) := (blk_cell BK350.out 1).trans rfl; have hcz26_2 : w25.cell? ⟨gb350, 2, none⟩ = some (.int .i64 a0_2) := (blk_cell BK350.out 2).trans rfl; have hcz26_3 : w25.cell? ⟨gb350, 3, none⟩ = some (.int .i64 a0_3) := (blk_cell BK350.out 3).trans rfl; have hcz26_4 : w25.cell? ⟨gb350, 4, none⟩ = some (.int .i64 a0_4) := (blk_cell BK350.out 4).trans rfl; have hcz26_5 : w25.cell? ⟨gb350, 5, none⟩ = some (.int .i64 a0_5) := (blk_cell BK350.out 5).trans rfl; have hfz26_0 := blk_frozen BK350.out 0; have hfz26_1 := blk_frozen BK350.out 1; have hfz26_2 := blk_frozen BK350.out 2; have hfz26_3 := blk_frozen BK350.out 3; have hfz26_4 := blk_frozen BK350.out 4; have hfz26_5 := blk_frozen BK350.out 5) | ((with_reducible refine gC 25 ?_); refine cL (some 23) Try.func25 #[.agg #[.slice A0_0 l0_0.length c0_0, .int .i64 a0_1, .int .i64 a0_2, .int .i64 a0_3, .int .i64 a0_4, .int .i64 a0_5]] ?_; (with_reducible refine (laws_toObject.calls k _ _ l0_0 a0_1 a0_2 a0_3 a0_4 a0_5 t363 t366 t367 t368 t369 t370 _ ?side1 ?side2 A10.out).mono ?_); (case side1 => exact cS (Kd.C_below HR0_0.out HB.out)); (case side2 => exact HC0_0.out); rintro e w27 ⟨v364, rfl, ho0, hb⟩; refine ⟨_, rfl, ?_⟩; have HO365 := Aside0.mk (Kd.R_lower (Kd.R_new' ho0 (Kd.R_lt (rS HO354))) (below_size bS)); replace HO354 := Aside0.mk (Kd.R_elder' (rS HO354) (Kd.R_base ho0) hb); replace HO362 := Aside0.mk (Kd.R_below (rS HO362) hb); replace BK350 := kB (g := gb350) hb; replace HB := hB hb; (try clear hb); (try clear hb2); (try clear hk); (try clear hi); (try clear ho0)) | ((with_reducible refine gD 7 ?_); refine bxE #[.slice none 0 0, .int .i64 0, .int .i64 0, .int .i64 0, .int .i64 0, .int .i64 0] 45 ?_; intro gb371 hg w28 BK371 hb; have GW371 := gE hg; have GE371 := gE hg; have NB350_371 := nL (g := gb350) hg; have NB371_350 := nG (g := gb350) hg; replace HO354 := Aside0.mk (Kd.R_below (rS HO354) hb); replace HO362 := Aside0.mk (Kd.R_below (rS HO362) hb); replace HO365 := Aside0.mk (Kd.R_below (rS HO365) hb); replace BK350 := kB (g := gb350) hb; replace HB := hB hb; clear hb hg; obtain ⟨Ao29, co29, eo29⟩ := Kd.R_slice HO365.out; subst eo29; have hnb30 := NB371_350.out; have hnc30 := NB350_371.out; have hcz31_0 : w28.cell? ⟨gb371, 0, none⟩ = some (.slice none 0 0) := (blk_cell BK371.out 0).trans rfl; have hcz31_1 : w28.cell? ⟨gb371, 1, none⟩ = some (.int .i64 0) := (blk_cell BK371.out 1).trans rfl; have hcz31_2 : w28.cell? ⟨gb371, 2, none⟩ = some (.int .i64 0) := (blk_cell BK371.out 2).trans rfl; have hcz31_3 : w28.cell? ⟨gb371, 3, none⟩ = some (.int .i64 0) := (blk_cell BK371.out 3).trans rfl; have hcz31_4 : w28.cell? ⟨gb371, 4, none⟩ = some (.int .i64 0) := (blk_cell BK371.out 4).trans rfl; have hcz31_5 : w28.cell? ⟨gb371, 5, none⟩ = some (.int .i64 0) := (blk_cell BK371.out 5).trans rfl; have hfz31_0 := blk_frozen BK371.out 0; have hfz31_1 := blk_frozen BK371.out 1; have hfz31_2 := blk_frozen BK371.out 2; have hfz31_3 := blk_frozen BK371.out 3; have hfz31_4 := blk_frozen BK371.out 4; have hfz31_5 := blk_frozen BK371.out 5) | ((with_reducible refine gC 26 ?_); refine cL (some 26) Try.func26 #[.agg #[.slice Ao29 t363.length co29, .int .i64 t366, .int .i64 t367, .int .i64 t368, .int .i64 t369, .int .i64 t370], .int .i64 a1] ?_; (with_reducible refine (impl_ObjectRow.calls k _ _ t363 t366 t367 t368 t369 t370 a1 t372 _ ?side1 ?side2 A11.out).mono ?_); (case side1 => refine (Kd.R_reads' (e := 171) (base := w.heap.size) (ok := fun k_ => (True ∧ some k_ ≠ (.slice Ao24 t352.length co24 : Value).ownBlock)) (n := t363.length) (c := co29) ?_).2.2; exact (by (with_reducible repeat (first | apply Kd.R_alloc | apply Kd.R_drewN | apply Kd.R_drew)); exact (Kd.R_mono (Kd.R_far (p := ⟨gb371, 5, none⟩) (Kd.R_far (p := ⟨gb371, 4, none⟩) (Kd.R_far (p := ⟨gb371, 3, none⟩) (Kd.R_far (p := ⟨gb371, 2, none⟩) (Kd.R_far (p := ⟨gb371, 1, none⟩) (Kd.R_far (p := ⟨gb371, 0, none⟩) (Kd.R_types HO365.out BK371.out (by decide)) (fun _ hk => hk.2) (.slice Ao29 t363.length co29)) (fun _ hk => hk.2) (.int .i64 t366)) (fun _ hk => hk.2) (.int .i64 t367)) (fun _ hk => hk.2) (.int .i64 t368)) (fun _ hk => hk.2) (.int .i64 t369)) (fun _ hk => hk.2) (.int .i64 t370)) (fun _ h_ => h_.1)))); (case side2 => exact (Kd.R_reads' HO365.out).2.1); rintro e w32 ⟨v373, rfl, ho0, hb⟩; refine ⟨_, rfl, ?_⟩; have HO374 := Aside0.mk (Kd.R_lower (Kd.R_new' ho0 (Kd.R_lt (by (with_reducible repeat (first | apply Kd.R_alloc | apply Kd.R_drewN | apply Kd.R_drew)); exact (Kd.R_mono (Kd.R_far (p := ⟨gb371, 5, none⟩) (Kd.R_far (p := ⟨gb371, 4, none⟩) (Kd.R_far (p := ⟨gb371, 3, none⟩) (Kd.R_far (p := ⟨gb371, 2, none⟩) (Kd.R_far (p := ⟨gb371, 1, none⟩) (Kd.R_far (p := ⟨gb371, 0, none⟩) (Kd.R_types HO362.out BK371.out (by decide)) (fun _ hk => hk.2) (.slice Ao29 t363.length co29)) (fun _ hk => hk.2) (.int .i64 t366)) (fun _ hk => hk.2) (.int .i64 t367)) (fun _ hk => hk.2) (.int .i64 t368)) (fun _ hk => hk.2) (.int .i64 t369)) (fun _ hk => hk.2) (.int .i64 t370)) (fun _ h_ => h_.1))))) (below_size bS)); replace HO354 := Aside0.mk (Kd.R_below (by (with_reducible repeat (first | apply Kd.R_alloc | apply Kd.R_drewN | apply Kd.R_drew)); exact (Kd.R_mono (Kd.R_far (p := ⟨gb371, 5, none⟩) (Kd.R_far (p := ⟨gb371, 4, none⟩) (Kd.R_far (p := ⟨gb371, 3, none⟩) (Kd.R_far (p := ⟨gb371, 2, none⟩) (Kd.R_far (p := ⟨gb371, 1, none⟩) (Kd.R_far (p := ⟨gb371, 0, none⟩) (Kd.R_types HO354.out BK371.out (by decide)) (fun _ hk => hk.2) (.slice Ao29 t363.length co29)) (fun _ hk => hk.2) (.int .i64 t366)) (fun _ hk => hk.2) (.int .i64 t367)) (fun _ hk => hk.2) (.int .i64 t368)) (fun _ hk => hk.2) (.int .i64 t369)) (fun _ hk => hk.2) (.int .i64 t370)) (fun _ h_ => h_.1))) hb); replace HO362 := Aside0.mk (Kd.R_elder' (by (with_reducible repeat (first | apply Kd.R_alloc | apply Kd.R_drewN | apply Kd.R_drew)); exact (Kd.R_mono (Kd.R_far (p := ⟨gb371, 5, none⟩) (Kd.R_far (p := ⟨gb371, 4, none⟩) (Kd.R_far (p := ⟨gb371, 3, none⟩) (Kd.R_far (p := ⟨gb371, 2, none⟩) (Kd.R_far (p := ⟨gb371, 1, none⟩) (Kd.R_far (p := ⟨gb371, 0, none⟩) (Kd.R_types HO362.out BK371.out (by decide)) (fun _ hk => hk.2) (.slice Ao29 t363.length co29)) (fun _ hk => hk.2) (.int .i64 t366)) (fun _ hk => hk.2) (.int .i64 t367)) (fun _ hk => hk.2) (.int .i64 t368)) (fun _ hk => hk.2) (.int .i64 t369)) (fun _ hk => hk.2) (.int .i64 t370)) (fun _ h_ => h_.1))) (Kd.R_base ho0) hb); replace HO365 := Aside0.mk (Kd.R_below (by (with_reducible repeat (first | apply Kd.R_alloc | apply Kd.R_drewN | apply Kd.R_drew)); exact (Kd.R_mono (Kd.R_far (p := ⟨gb371, 5, none⟩) (Kd.R_far (p := ⟨gb371, 4, none⟩) (Kd.R_far (p := ⟨gb371, 3, none⟩) (Kd.R_far (p := ⟨gb371, 2, none⟩) (Kd.R_far (p := ⟨gb371, 1, none⟩) (Kd.R_far (p := ⟨gb371, 0, none⟩) (Kd.R_types HO365.out BK371.out (by decide)) (fun _ hk => hk.2) (.slice Ao29 t363.length co29)) (fun _ hk => hk.2) (.int .i64 t366)) (fun _ hk => hk.2) (.int .i64 t367)) (fun _ hk => hk.2) (.int .i64 t368)) (fun _ hk => hk.2) (.int .i64 t369)) (fun _ hk => hk.2) (.int .i64 t370)) (fun _ h_ => h_.1))) hb); replace BK350 := kB (g := gb350) hb; replace BK371 := Aside0.mk (blk_below (g := gb371) (o := .cells #[.slice Ao29 t363.length co29, .int .i64 t366, .int .i64 t367, .int .i64 t368, .int .i64 t369, .int .i64 t370] 45 (0, 0)) kS hb); replace HB := hB hb; (try clear hb); (try clear hb2); (try clear hk); (try clear hi); (try clear ho0); obtain ⟨Ao33, co33, eo33⟩ := Kd.R_slice HO374.out; subst eo33; obtain ⟨Ao34, co34, eo34⟩ := Kd.R_slice HO362.out; subst eo34) | ((with_reducible refine gC 27 ?_); refine cL (some 29) Try.func27 #[.slice Ao33 t372.length co33, .slice Ao34 t360.length co34] ?_; (with_reducible refine (laws_eqSpanS.calls k _ _ t372 _ _ t360 true _ ?side1 ?side2 ?side3 ?side4 A12.out).mono ?_); (case side1 => exact cS (Kd.R_reads' HO374.out).2.2); (case side2 => exact (Kd.R_reads' HO374.out).2.1); (case side3 => exact cS (Kd.R_reads' HO362.out).2.2); (case side4 => exact (Kd.R_reads' HO362.out).2.1); rintro e w35 ⟨rfl, hb⟩; refine ⟨_, rfl, ?_⟩; replace HO354 := Aside0.mk (Kd.R_below (rS HO354) hb); replace HO362 := Aside0.mk (Kd.R_below (rS HO362) hb); replace HO365 := Aside0.mk (Kd.R_below (rS HO365) hb); replace HO374 := Aside0.mk (Kd.R_below (rS HO374) hb); replace BK350 := kB (g := gb350) hb; replace BK371 := kB (g := gb371) hb; replace HB := hB hb; (try clear hb); (try clear hb2); (try clear hk); (try clear hi)))
        replace HO354 := Aside0.mk (Kd.R_drew HO354.out)
        replace HO362 := Aside0.mk (Kd.R_drew HO362.out)
        replace HO365 := Aside0.mk (Kd.R_drew HO365.out)
        replace HO374 := Aside0.mk (Kd.R_drew HO374.out)
        replace BK350 := Aside0.mk (blk_drew BK350.out)
        replace BK371 := Aside0.mk (blk_drew BK371.out)
        replace HB := Aside0.mk (below_drew1 HB.out)
        refine start_ (n := 5) (S := fun w' => w'.cell? ⟨gb371, 0, none⟩ = some (.slice Ao29 t363.length co29) ∧ w'.cell? ⟨gb371, 1, none⟩ = some (.int .i64 t366) ∧ w'.cell? ⟨gb371, 2, none⟩ = some (.int .i64 t367) ∧ w'.cell? ⟨gb371, 3, none⟩ = some (.int .i64 t368) ∧ w'.cell? ⟨gb371, 4, none⟩ = some (.int .i64 t369) ∧ w'.cell? ⟨gb371, 5, none⟩ = some (.int .i64 t370) ∧ w'.cell? ⟨gb350, 0, none⟩ = some (.slice A0_0 l0_0.length c0_0) ∧ w'.cell? ⟨gb350, 1, none⟩ = some (.int .i64 a0_1) ∧ w'.cell? ⟨gb350, 2, none⟩ = some (.int .i64 a0_2) ∧ w'.cell? ⟨gb350, 3, none⟩ = some (.int .i64 a0_3) ∧ w'.cell? ⟨gb350, 4, none⟩ = some (.int .i64 a0_4) ∧ w'.cell? ⟨gb350, 5, none⟩ = some (.int .i64 a0_5)) (ds := []) #[false, false, false, false, false] (by kernel_rfl) rfl rfl ⟨(blk_cell BK371.out 0).trans rfl, (blk_cell BK371.out 1).trans rfl, (blk_cell BK371.out 2).trans rfl, (blk_cell BK371.out 3).trans rfl, (blk_cell BK371.out 4).trans rfl, (blk_cell BK371.out 5).trans rfl, (blk_cell BK350.out 0).trans rfl, (blk_cell BK350.out 1).trans rfl, (blk_cell BK350.out 2).trans rfl, (blk_cell BK350.out 3).trans rfl, (blk_cell BK350.out 4).trans rfl, (blk_cell BK350.out 5).trans rfl⟩ (fun hHeld => ?_)
        generalize w35.drew = w36 at HO354 HO362 HO365 HO374 BK350 BK371 HB hHeld ⊢
        refine take_ (i := 0) (N := some 31) (v := ?_) (a' := ?_) #[true, false, false, false, false] rfl rfl (by kernel_rfl) (fun _ _ _ h => h) (Or.inl ⟨by rfl, ?_⟩) hHeld ?_ ?_
        rotate_left
        · rintro w' ⟨s0, s1, s2, s3, s4, s5, s6, s7, s8, s9, s10, s11⟩
          go_simp
          with_reducible rfl
        rotate_left
        · simp only [Act.put, List.setIfInBounds_toArray, List.set_cons_zero, List.set_cons_succ, i64_w, i32_w]
          rfl
        refine take_ (i := 1) (N := some 32) (v := ?_) (a' := ?_) #[true, true, false, false, false] rfl rfl (by kernel_rfl) (fun _ _ _ h => h) (Or.inl ⟨by rfl, ?_⟩) hHeld ?_ ?_
        rotate_left
        · rintro w' ⟨s0, s1, s2, s3, s4, s5, s6, s7, s8, s9, s10, s11⟩
          go_simp
          with_reducible rfl
        rotate_left
        · simp only [Act.put, List.setIfInBounds_toArray, List.set_cons_zero, List.set_cons_succ, i64_w, i32_w]
          rfl
        refine one_ (i := 2) (N := some 33) #[true, true, true, false, false] rfl rfl (by kernel_rfl) (by decide) (fun K hK => ?_)
        refine goes_ Try.func25 (by kernel_rfl) rfl #[.agg #[.slice A0_0 l0_0.length c0_0, .int .i64 a0_1, .int .i64 a0_2, .int .i64 a0_3, .int .i64 a0_4, .int .i64 a0_5]] (by rfl) rfl rfl (by (try simp only [List.map_toArray, List.map_cons, List.map_nil]); first | done | rfl | (simp only [List.length_drop, List.length_take]; rfl)) ?_
        with_reducible refine (laws_toObject.calls k _ _ l0_0 a0_1 a0_2 a0_3 a0_4 a0_5 t376 t379 t380 t381 t382 t383 _ ?side1 ?side2 A14.out).mono ?_
        (case side1 => exact cS (Kd.C_below HR0_0.out HB.out))
        (case side2 => exact HC0_0.out)
        rintro e w37 ⟨v377, rfl, ho0, hb⟩
        refine ⟨_, rfl, ?_⟩
        have HO378 := Aside0.mk (Kd.R_lower (Kd.R_new' (Kd.R_new' ho0 (Kd.R_lt (rS HO354))) (Kd.R_lt (rS HO365))) (below_size bS))
        replace HO354 := Aside0.mk (Kd.R_elder' (rS HO354) (Kd.R_base ho0) hb)
        replace HO362 := Aside0.mk (Kd.R_below (rS HO362) hb)
        replace HO365 := Aside0.mk (Kd.R_elder' (rS HO365) (Kd.R_base ho0) hb)
        replace HO374 := Aside0.mk (Kd.R_below (rS HO374) hb)
        replace BK350 := kB (g := gb350) hb
        replace BK371 := kB (g := gb371) hb
        replace HB := hB hb
        (try clear hb)
        (try clear hb2)
        (try clear hk)
        (try clear hi)
        (try clear ho0)
        obtain ⟨Ao38, co38, eo38⟩ := Kd.R_slice HO378.out
        (first | subst eo38 | (injection eo38 with f1_ f2_ f3_; have f4_ := f1_.symm; have f5_ := f3_.symm; clear f1_ f2_ f3_; subst f4_; subst f5_))
        refine hK.out _ _ ⟨(blk_cell BK371.out 0).trans rfl, (blk_cell BK371.out 1).trans rfl, (blk_cell BK371.out 2).trans rfl, (blk_cell BK371.out 3).trans rfl, (blk_cell BK371.out 4).trans rfl, (blk_cell BK371.out 5).trans rfl, (blk_cell BK350.out 0).trans rfl, (blk_cell BK350.out 1).trans rfl, (blk_cell BK350.out 2).trans rfl, (blk_cell BK350.out 3).trans rfl, (blk_cell BK350.out 4).trans rfl, (blk_cell BK350.out 5).trans rfl⟩ (fun hHeld => ?_)
        clear hK K
        refine norm_ (a' := ?_) ?_ ?_
        rotate_left
        · show Act.put _ (some 33) _ = _
          simp only [Act.put, List.setIfInBounds_toArray, List.set_cons_zero, List.set_cons_succ, i64_w, i32_w]
          rfl
        refine one_ (i := 3) (N := some 34) #[true, true, true, true, false] rfl rfl (by kernel_rfl) (by decide) (fun K hK => ?_)
        refine goes_ Try.func28 (by kernel_rfl) rfl #[.agg #[.slice Ao29 t363.length co29, .int .i64 t366, .int .i64 t367, .int .i64 t368, .int .i64 t369, .int .i64 t370], .agg #[.slice Ao38 t376.length co38, .int .i64 t379, .int .i64 t380, .int .i64 t381, .int .i64 t382, .int .i64 t383]] (by rfl) rfl rfl (by (try simp only [List.map_toArray, List.map_cons, List.map_nil]); first | done | rfl | (simp only [List.length_drop, List.length_take]; rfl)) ?_
        with_reducible refine (laws_eqObject.calls k _ _ t363 t366 t367 t368 t369 t370 _ _ t376 t379 t380 t381 t382 t383 true _ ?side1 ?side2 ?side3 ?side4 A15.out).mono ?_
        (case side1 => exact cS (Kd.R_reads' HO365.out).2.2)
        (case side2 => exact (Kd.R_reads' HO365.out).2.1)
        (case side3 => exact cS (Kd.R_reads' HO378.out).2.2)
        (case side4 => exact (Kd.R_reads' HO378.out).2.1)
        rintro e w39 ⟨rfl, hb⟩
        refine ⟨_, rfl, ?_⟩
        replace HO354 := Aside0.mk (Kd.R_below (rS HO354) hb)
        replace HO362 := Aside0.mk (Kd.R_below (rS HO362) hb)
        replace HO365 := Aside0.mk (Kd.R_below (rS HO365) hb)
        replace HO374 := Aside0.mk (Kd.R_below (rS HO374) hb)
        replace HO378 := Aside0.mk (Kd.R_below (rS HO378) hb)
        replace BK350 := kB (g := gb350) hb
        replace BK371 := kB (g := gb371) hb
        replace HB := hB hb
        (try clear hb)
        (try clear hb2)
        (try clear hk)
        (try clear hi)
        refine hK.out _ _ ⟨(blk_cell BK371.out 0).trans rfl, (blk_cell BK371.out 1).trans rfl, (blk_cell BK371.out 2).trans rfl, (blk_cell BK371.out 3).trans rfl, (blk_cell BK371.out 4).trans rfl, (blk_cell BK371.out 5).trans rfl, (blk_cell BK350.out 0).trans rfl, (blk_cell BK350.out 1).trans rfl, (blk_cell BK350.out 2).trans rfl, (blk_cell BK350.out 3).trans rfl, (blk_cell BK350.out 4).trans rfl, (blk_cell BK350.out 5).trans rfl⟩ (fun hHeld => ?_)
        clear hK K
        refine norm_ (a' := ?_) ?_ ?_
        rotate_left
        · show Act.put _ (some 34) _ = _
          simp only [Act.put, List.setIfInBounds_toArray, List.set_cons_zero, List.set_cons_succ, i64_w, i32_w]
          rfl
        refine pure_ (i := 4) (N := some 35) (v := ?_) (a' := ?_) #[true, true, true, true, true] rfl rfl (by kernel_rfl) (fun _ _ _ h => h) (Or.inl ⟨by rfl, ?_⟩) ?_ ?_
        rotate_left
        · intro w'
          go_simp
          with_reducible rfl
        rotate_left
        · simp only [Act.put, List.setIfInBounds_toArray, List.set_cons_zero, List.set_cons_succ, i64_w, i32_w]
          rfl
        refine done_ (by kernel_rfl) ?_
        have hcz40_0 : w39.cell? ⟨gb371, 0, none⟩ = some (.slice Ao29 t363.length co29) := (blk_cell BK371.out 0).trans rfl
        have hcz40_1 : w39.cell? ⟨gb371, 1, none⟩ = some (.int .i64 t366) := (blk_cell BK371.out 1).trans rfl
        have hcz40_2 : w39.cell? ⟨gb371, 2, none⟩ = some (.int .i64 t367) := (blk_cell BK371.out 2).trans rfl
        have hcz40_3 : w39.cell? ⟨gb371, 3, none⟩ = some (.int .i64 t368) := (blk_cell BK371.out 3).trans rfl
        have hcz40_4 : w39.cell? ⟨gb371, 4, none⟩ = some (.int .i64 t369) := (blk_cell BK371.out 4).trans rfl
        have hcz40_5 : w39.cell? ⟨gb371, 5, none⟩ = some (.int .i64 t370) := (blk_cell BK371.out 5).trans rfl
        have hfz40_0 := blk_frozen BK371.out 0
        have hfz40_1 := blk_frozen BK371.out 1
        have hfz40_2 := blk_frozen BK371.out 2
        have hfz40_3 := blk_frozen BK371.out 3
        have hfz40_4 := blk_frozen BK371.out 4
        have hfz40_5 := blk_frozen BK371.out 5
        go_upto_region 14 with (first | ((with_reducible refine gC 29 ?_); refine cL (some 38) Try.func29 #[.agg #[.slice Ao29 t363.length co29, .int .i64 t366, .int .i64 t367, .int .i64 t368, .int .i64 t369, .int .i64 t370], .int .i64 1] ?_; (with_reducible refine (laws_markObject.calls k (fun k_ => some k_ = (.slice Ao29 t363.length co29 : Value).ownBlock) (.slice Ao29 t363.length co29) t363 t366 t367 t368 t369 t370 1 t385 t386 w _ ?side1 ?side2 A17.out).mono ?_); (case side1 => repeat (first | (with_reducible first | exact HB.out | apply below_alloc | apply pw_below_drewN | apply below_drew1 | refine below_set ?_ GE350.out | refine below_set ?_ GE371.out) | exact HB.out)); (case side2 => exact Kd.R_tight rfl HO365.out); rintro e w41 ⟨rfl, hy0, hb, hkp⟩; refine ⟨_, rfl, ?_⟩; replace BK350 := Aside0.mk (blk_kept kS hkp (fun hs_ => (fun e_ => (Kd.R_ne HO365.out BK350.out (by decide)) e_) hs_)); replace HO354 := Aside0.mk (Kd.R_mono (ok' := fun k_ => some k_ ≠ (.slice Ao29 t363.length co29 : Value).ownBlock ∧ some k_ ≠ (.slice Ao38 t376.length co38 : Value).ownBlock) (Kd.R_keptB (HO354.out) hkp (fun k_ hk_ hs_ => (hk_.1.2) hs_)) (fun k_ hk_ => ⟨hk_.1.1.2, hk_.1.2⟩)); replace HO362 := Aside0.mk (Kd.R_mono (ok' := fun k_ => some k_ ≠ (.slice Ao33 t372.length co33 : Value).ownBlock) (Kd.R_keptB ((Kd.R_apart' HO362.out (Kd.R_typed HO365.out) (by decide))) hkp (fun k_ hk_ hs_ => (hk_.2) hs_)) (fun k_ hk_ => hk_.1.1.2)); replace BK371 := Aside0.mk (blk_kept kS hkp (fun hs_ => (fun e_ => (Kd.R_ne HO365.out BK371.out (by decide)) e_) hs_)); replace HO374 := Aside0.mk (Kd.R_mono (ok' := fun k_ => some k_ ≠ (.slice Ao34 t360.length co34 : Value).ownBlock) (Kd.R_keptB ((Kd.R_apart' HO374.out (Kd.R_typed HO365.out) (by decide))) hkp (fun k_ hk_ hs_ => (hk_.2) hs_)) (fun k_ hk_ => hk_.1.1.2)); replace HO365 := Aside0.mk (Kd.R_reok rfl hy0 (fun k_ e_ => HO365.out.1 k_ e_)); replace HO378 := Aside0.mk (Kd.R_mono (ok' := fun k_ => some k_ ≠ (.slice Ao24 t352.length co24 : Value).ownBlock ∧ some k_ ≠ (.slice Ao29 t363.length co29 : Value).ownBlock) (Kd.R_keptB (HO378.out) hkp (fun k_ hk_ hs_ => (hk_.2) hs_)) (fun k_ hk_ => ⟨hk_.1.1.2, hk_.1.2⟩)); replace HB := Aside0.mk (hb); (try clear hb); (try clear hkp); (try clear hy0)))
        (try simp only [Act.put, List.setIfInBounds_toArray, List.set_cons_zero, List.set_cons_succ])
        go_cut [46] (fun v46 wc => ∃ (kq : Nat) (x46_17 : Bool), v46 = .bool x46_17 ∧ Aside0 (laws_FnExactObjectRow.j0 kq a1 t360 t372 x46_17 l0_0 a0_1 a0_2 a0_3 a0_4 a0_5 = some r) ∧ Aside0 (kq ≤ k) ∧ Aside0 (Kd.R k124 124 wc w.heap.size (fun k_ => some k_ ≠ ((.slice Ao33 t372.length co33) : Value).ownBlock) (.slice Ao34 t360.length co34) t360) ∧ Aside0 (Kd.R k124 124 wc w.heap.size (fun k_ => some k_ ≠ ((.slice Ao34 t360.length co34) : Value).ownBlock) (.slice Ao33 t372.length co33) t372) ∧ Aside0 (Kd.R k171 171 wc w.heap.size (fun _ => True) (.slice Ao29 t363.length co29) t386) ∧ Aside0 (wc.heap[gb350]? = some (.cells #[(.slice A0_0 l0_0.length c0_0), .int .i64 a0_1, .int .i64 a0_2, .int .i64 a0_3, .int .i64 a0_4, .int .i64 a0_5] 38 (0, 0))) ∧ Aside0 (wc.heap[gb371]? = some (.cells #[(.slice Ao29 t363.length co29), .int .i64 t366, .int .i64 t367, .int .i64 t368, .int .i64 t369, .int .i64 t370] 45 (0, 0))) ∧ Aside0 (Below w.heap.size w wc))
        case first =>
          have H := HC18.out
          clear HC18
          by_cases c42 : t385 < 0
          · rw [if_pos c42] at H
            have c42b0 : decide (t385 < 0) = true := decide_eq_true c42
            clear c42
            (first | rw [c42b0] | (simp only [i64_w, i32_w]; rw [c42b0]) | skip)
            have H' := Aside0.mk H
            clear H
            go_wp2
            go_meet
            case rel => exact ⟨_, (true), (by first | rfl | (simp; done) | (simp [*]; done)), H', ⟨by first | omega | exact Nat.le_refl _⟩, ⟨by (with_reducible repeat (first | apply Kd.R_alloc | apply Kd.R_drewN | apply Kd.R_drew)); exact HO362.out⟩, ⟨by (with_reducible repeat (first | apply Kd.R_alloc | apply Kd.R_drewN | apply Kd.R_drew)); exact HO374.out⟩, ⟨by (with_reducible repeat (first | apply Kd.R_alloc | apply Kd.R_drewN | apply Kd.R_drew)); exact Kd.R_mono HO365.out (fun _ hk => trivial)⟩, ⟨kS⟩, ⟨kS⟩, ⟨bS⟩⟩
          · rw [if_neg c42] at H
            have c42b0 : decide (t385 < 0) = false := decide_eq_false c42
            clear c42
            (first | rw [c42b0] | (simp only [i64_w, i32_w]; rw [c42b0]) | skip)
            replace H := bN H
            obtain ⟨t387, A43, H⟩ := H
            have H' := Aside0.mk H
            clear H
            go_wp2_with (first | (go_at_call 27; (with_reducible refine (laws_eqSpanS.calls k _ _ t372 _ _ t360 t387 _ ?side1 ?side2 ?side3 ?side4 A43.out).mono ?_); (case side1 => exact cS (Kd.R_reads' HO374.out).2.2); (case side2 => exact (Kd.R_reads' HO374.out).2.1); (case side3 => exact cS (Kd.R_reads' HO362.out).2.2); (case side4 => exact (Kd.R_reads' HO362.out).2.1); rintro e w44 ⟨rfl, hb⟩; replace HO354 := Aside0.mk (Kd.R_below (rS HO354) hb); replace HO362 := Aside0.mk (Kd.R_below (rS HO362) hb); replace HO365 := Aside0.mk (Kd.R_below (rS HO365) hb); replace HO374 := Aside0.mk (Kd.R_below (rS HO374) hb); replace HO378 := Aside0.mk (Kd.R_below (rS HO378) hb); replace BK350 := kB (g := gb350) hb; replace BK371 := kB (g := gb371) hb; replace HB := hB hb; (try clear hb); (try clear hb2); (try clear hk); (try clear hi)))
            go_meet
            case rel => exact ⟨_, (!t387), (by first | rfl | (simp; done) | (simp [*]; done)), H', ⟨by first | omega | exact Nat.le_refl _⟩, ⟨by (with_reducible repeat (first | apply Kd.R_alloc | apply Kd.R_drewN | apply Kd.R_drew)); exact HO362.out⟩, ⟨by (with_reducible repeat (first | apply Kd.R_alloc | apply Kd.R_drewN | apply Kd.R_drew)); exact HO374.out⟩, ⟨by (with_reducible repeat (first | apply Kd.R_alloc | apply Kd.R_drewN | apply Kd.R_drew)); exact Kd.R_mono HO365.out (fun _ hk => trivial)⟩, ⟨kS⟩, ⟨kS⟩, ⟨bS⟩⟩
        case rest =>
          clear HC18
          try clear c1
          try clear c2
          try clear p2
          try clear c3
          try clear c4
          try clear c4b0
          try clear c13
          try clear c16
          try clear c23
          try clear c24
          try clear c25
          try clear c26
          try clear c27
          try clear c28
          try clear c29
          try clear c30
          try clear c42
          try clear c42b0
          try clear hcz20_0
          try clear hcz20_1
          try clear hcz20_2
          try clear hcz20_3
          try clear hcz20_4
          try clear hcz20_5
          try clear hcz22_0
          try clear hcz22_1
          try clear hcz22_2
          try clear hcz22_3
          try clear hcz22_4
          try clear hcz22_5
          try clear hcz26_0
          try clear hcz26_1
          try clear hcz26_2
          try clear hcz26_3
          try clear hcz26_4
          try clear hcz26_5
          try clear hcz31_0
          try clear hcz31_1
          try clear hcz31_2
          try clear hcz31_3
          try clear hcz31_4
          try clear hcz31_5
          try clear hcz40_0
          try clear hcz40_1
          try clear hcz40_2
          try clear hcz40_3
          try clear hcz40_4
          try clear hcz40_5
          try clear hcz6_0
          try clear hcz6_1
          try clear hcz6_2
          try clear hcz6_3
          try clear hcz6_4
          try clear hcz6_5
          try clear hfz20_0
          try clear hfz20_1
          try clear hfz20_2
          try clear hfz20_3
          try clear hfz20_4
          try clear hfz20_5
          try clear hfz22_0
          try clear hfz22_1
          try clear hfz22_2
          try clear hfz22_3
          try clear hfz22_4
          try clear hfz22_5
          try clear hfz26_0
          try clear hfz26_1
          try clear hfz26_2
          try clear hfz26_3
          try clear hfz26_4
          try clear hfz26_5
          try clear hfz31_0
          try clear hfz31_1
          try clear hfz31_2
          try clear hfz31_3
          try clear hfz31_4
          try clear hfz31_5
          try clear hfz40_0
          try clear hfz40_1
          try clear hfz40_2
          try clear hfz40_3
          try clear hfz40_4
          try clear hfz40_5
          try clear hfz6_0
          try clear hfz6_1
          try clear hfz6_2
          try clear hfz6_3
          try clear hfz6_4
          try clear hfz6_5
          obtain ⟨kq, x46_17, rfl, HA, HJ17, HO_6, HO_8, HO_372000, BK350, BK371, HB⟩ := hcut
          have hl372000_17 := (Kd.R_reads' HO_372000.out).1
          rw [hl372000_17] at HO_372000
          (try simp only [hl372000_17])
          (try simp only [hl372000_17] at BK350)
          (try simp only [hl372000_17] at BK371)
          (try simp only [hl372000_17] at HO_6)
          (try simp only [hl372000_17] at HO_8)
          cases kq with
          | zero => exact absurd HA.out (by simp [laws_FnExactObjectRow.j0])
          | succ kj17 =>
            have H := HA.out
            clear HA
            simp only [laws_FnExactObjectRow.j0] at H
            by_cases c45 : x46_17 = true
            · subst c45
              rw [if_pos rfl] at H
              obtain rfl := Option.some.inj H
              go_wp2
              go_ret
              exact ⟨eS, bS⟩
            · obtain rfl := Bool.eq_false_iff.mpr c45
              rw [if_neg nF] at H
              replace H := bN H
              obtain ⟨⟨t388, t389⟩, A46, H⟩ := H
              replace H := bN H
              obtain ⟨t390, A47, H⟩ := H
              by_cases c48 : t390 < 0
              · rw [if_pos c48] at H
                have c48b0 : decide (t390 < 0) = true := decide_eq_true c48
                clear c48
                obtain rfl := Option.some.inj H
                go_wp2_with (first | ((with_reducible refine gC 30 ?_); refine cL (some 49) Try.func30 #[.slice Ao33 t372.length co33, .int .i64 1] ?_; (with_reducible refine (laws_markSpanS.calls kj17 (fun k_ => some k_ = (.slice Ao33 t372.length co33 : Value).ownBlock) (.slice Ao33 t372.length co33) t372 1 t388 t389 w _ ?side1 ?side2 A46.out).mono ?_); (case side1 => repeat (first | (with_reducible first | exact HB.out | apply below_alloc | apply pw_below_drewN | apply below_drew1 | refine below_set ?_ GE350.out | refine below_set ?_ GE371.out) | exact HB.out)); (case side2 => exact Kd.R_tight rfl HO_8.out); rintro e w49 ⟨rfl, hy0, hb, hkp⟩; refine ⟨_, rfl, ?_⟩; replace HO_6 := Aside0.mk (Kd.R_mono (ok' := fun k_ => some k_ ≠ (.slice Ao33 t372.length co33 : Value).ownBlock) (Kd.R_keptB (HO_6.out) hkp (fun k_ hk_ hs_ => (hk_) hs_)) (fun k_ hk_ => hk_.1)); replace HO_372000 := Aside0.mk (Kd.R_mono (ok' := fun k_ => True) (Kd.R_keptB ((Kd.R_apart' HO_372000.out (Kd.R_typed HO_8.out) (by decide))) hkp (fun k_ hk_ hs_ => (hk_.2) hs_)) (fun k_ hk_ => trivial)); replace BK350 := Aside0.mk (blk_kept kS hkp (fun hs_ => (fun e_ => (Kd.R_ne HO_8.out BK350.out (by decide)) e_) hs_)); replace BK371 := Aside0.mk (blk_kept kS hkp (fun hs_ => (fun e_ => (Kd.R_ne HO_8.out BK371.out (by decide)) e_) hs_)); replace HO_8 := Aside0.mk (Kd.R_reok rfl hy0 (fun k_ e_ => HO_8.out.1 k_ e_)); replace HB := Aside0.mk (hb); (try clear hb); (try clear hkp); (try clear hy0)) | ((with_reducible refine gC 31 ?_); refine goesL_ (some 52) rfl rfl Try.func31 (by kernel_rfl) rfl #[.slice Ao33 t389.length co33, .int .i64 1] rfl (by (try simp only [List.map_toArray, List.map_cons, List.map_nil]); first | done | (rw [show t389.length = t372.length from (Kd.R_reads' HO_8.out).1.symm] <;> rfl) | rfl | (simp only [List.length_drop, List.length_take]; rfl)) ?_; (with_reducible refine (laws_heldSpanS.calls kj17 _ _ t389 1 t390 _ ?side1 ?side2 A47.out).mono ?_); (case side1 => exact cS (Kd.R_reads' HO_8.out).2.2); (case side2 => rw [show t389.length = t372.length from (Kd.R_reads' HO_8.out).1.symm]; exact (Kd.R_reads' HO_8.out).2.1); rintro e w' ⟨rfl, ⟨nd, rfl⟩⟩; refine ⟨_, rfl, ?_⟩))
                go_ret
                exact ⟨eS, bS⟩
              · rw [if_neg c48] at H
                have c48b0 : decide (t390 < 0) = false := decide_eq_false c48
                clear c48
                by_cases c50 : t390 = t388
                · rw [if_pos c50] at H
                  have c50b0 : (t390 == t388) = true := beq_iff_eq.mpr c50
                  have c50b1 : (t390 != t388) = false := bne_eq_false_iff_eq.mpr c50
                  clear c50
                  replace H := bN H
                  obtain ⟨⟨t391, t394, t395, t396, t397, t398⟩, A51, H⟩ := H
                  replace H := bN H
                  obtain ⟨t399, A52, H⟩ := H
                  replace H := bN H
                  obtain ⟨t402, A53, H⟩ := H
                  by_cases c54 : t402 = true
                  · subst c54
                    rw [if_pos rfl] at H
                    replace H := bN H
                    obtain ⟨t403, A55, H⟩ := H
                    by_cases c56 : t403 < 0
                    · rw [if_pos c56] at H
                      have c56b0 : decide (t403 < 0) = true := decide_eq_true c56
                      clear c56
                      obtain rfl := Option.some.inj H
                      go_wp2_with (first | ((with_reducible refine gC 30 ?_); refine cL (some 49) Try.func30 #[.slice Ao33 t372.length co33, .int .i64 1] ?_; (with_reducible refine (laws_markSpanS.calls kj17 (fun k_ => some k_ = (.slice Ao33 t372.length co33 : Value).ownBlock) (.slice Ao33 t372.length co33) t372 1 t388 t389 w _ ?side1 ?side2 A46.out).mono ?_); (case side1 => repeat (first | (with_reducible first | exact HB.out | apply below_alloc | apply pw_below_drewN | apply below_drew1 | refine below_set ?_ GE350.out | refine below_set ?_ GE371.out) | exact HB.out)); (case side2 => exact Kd.R_tight rfl HO_8.out); rintro e w57 ⟨rfl, hy0, hb, hkp⟩; refine ⟨_, rfl, ?_⟩; replace HO_6 := Aside0.mk (Kd.R_mono (ok' := fun k_ => some k_ ≠ (.slice Ao33 t372.length co33 : Value).ownBlock) (Kd.R_keptB (HO_6.out) hkp (fun k_ hk_ hs_ => (hk_) hs_)) (fun k_ hk_ => hk_.1)); replace HO_372000 := Aside0.mk (Kd.R_mono (ok' := fun k_ => True) (Kd.R_keptB ((Kd.R_apart' HO_372000.out (Kd.R_typed HO_8.out) (by decide))) hkp (fun k_ hk_ hs_ => (hk_.2) hs_)) (fun k_ hk_ => trivial)); replace BK350 := Aside0.mk (blk_kept kS hkp (fun hs_ => (fun e_ => (Kd.R_ne HO_8.out BK350.out (by decide)) e_) hs_)); replace BK371 := Aside0.mk (blk_kept kS hkp (fun hs_ => (fun e_ => (Kd.R_ne HO_8.out BK371.out (by decide)) e_) hs_)); replace HO_8 := Aside0.mk (Kd.R_reok rfl hy0 (fun k_ e_ => HO_8.out.1 k_ e_)); replace HB := Aside0.mk (hb); (try clear hb); (try clear hkp); (try clear hy0)) | ((with_reducible refine gC 31 ?_); refine goesL_ (some 52) rfl rfl Try.func31 (by kernel_rfl) rfl #[.slice Ao33 t389.length co33, .int .i64 1] rfl (by (try simp only [List.map_toArray, List.map_cons, List.map_nil]); first | done | (rw [show t389.length = t372.length from (Kd.R_reads' HO_8.out).1.symm] <;> rfl) | rfl | (simp only [List.length_drop, List.length_take]; rfl)) ?_; (with_reducible refine (laws_heldSpanS.calls kj17 _ _ t389 1 t390 _ ?side1 ?side2 A47.out).mono ?_); (case side1 => exact cS (Kd.R_reads' HO_8.out).2.2); (case side2 => rw [show t389.length = t372.length from (Kd.R_reads' HO_8.out).1.symm]; exact (Kd.R_reads' HO_8.out).2.1); rintro e w' ⟨rfl, ⟨nd, rfl⟩⟩; refine ⟨_, rfl, ?_⟩; have hnb58 := NB350_371.out; have hnc58 := NB371_350.out; have hz59 := cz6 BK350) | ((with_reducible refine gC 25 ?_); refine cL (some 59) Try.func25 #[.agg #[.slice A0_0 l0_0.length c0_0, .int .i64 a0_1, .int .i64 a0_2, .int .i64 a0_3, .int .i64 a0_4, .int .i64 a0_5]] ?_; (with_reducible refine (laws_toObject.calls kj17 _ _ l0_0 a0_1 a0_2 a0_3 a0_4 a0_5 t391 t394 t395 t396 t397 t398 _ ?side1 ?side2 A51.out).mono ?_); (case side1 => exact cS (Kd.C_below HR0_0.out bS)); (case side2 => exact HC0_0.out); rintro e w60 ⟨v392, rfl, ho0, hb⟩; refine ⟨_, rfl, ?_⟩; have HO393 := Aside0.mk (Kd.R_lower (Kd.R_new' ho0 (Kd.R_lt (rS HO_372000))) (below_size bS)); replace HO_6 := Aside0.mk (Kd.R_below (rS HO_6) hb); replace HO_8 := Aside0.mk (Kd.R_below (rS HO_8) hb); replace HO_372000 := Aside0.mk (Kd.R_elder' (rS HO_372000) (Kd.R_base ho0) hb); replace BK350 := kB (g := gb350) hb; replace BK371 := kB (g := gb371) hb; replace HB := hB hb; (try clear hb); (try clear hb2); (try clear hk); (try clear hi); (try clear ho0); obtain ⟨Ao61, co61, eo61⟩ := Kd.R_slice HO393.out; subst eo61) | ((with_reducible refine gC 26 ?_); refine cL (some 61) Try.func26 #[.agg #[.slice Ao61 t391.length co61, .int .i64 t394, .int .i64 t395, .int .i64 t396, .int .i64 t397, .int .i64 t398], .int .i64 a1] ?_; (with_reducible refine (impl_ObjectRow.calls kj17 _ _ t391 t394 t395 t396 t397 t398 a1 t399 _ ?side1 ?side2 A52.out).mono ?_); (case side1 => exact cS (Kd.R_reads' HO393.out).2.2); (case side2 => exact (Kd.R_reads' HO393.out).2.1); rintro e w62 ⟨v400, rfl, ho0, hb⟩; refine ⟨_, rfl, ?_⟩; have HO401 := Aside0.mk (Kd.R_lower (Kd.R_new' (Kd.R_new' ho0 (Kd.R_lt (rS HO_6))) (Kd.R_lt (rS HO_8))) (below_size bS)); replace HO_6 := Aside0.mk (Kd.R_elder' (rS HO_6) (Kd.R_base ho0) hb); replace HO_8 := Aside0.mk (Kd.R_elder' (rS HO_8) (Kd.R_base ho0) hb); replace HO_372000 := Aside0.mk (Kd.R_below (rS HO_372000) hb); replace HO393 := Aside0.mk (Kd.R_below (rS HO393) hb); replace BK350 := kB (g := gb350) hb; replace BK371 := kB (g := gb371) hb; replace HB := hB hb; (try clear hb); (try clear hb2); (try clear hk); (try clear hi); (try clear ho0); obtain ⟨Ao63, co63, eo63⟩ := Kd.R_slice HO401.out; subst eo63) | ((with_reducible refine gC 27 ?_); refine cL (some 64) Try.func27 #[.slice Ao63 t399.length co63, .slice Ao34 t360.length co34] ?_; (with_reducible refine (laws_eqSpanS.calls kj17 _ _ t399 _ _ t360 true _ ?side1 ?side2 ?side3 ?side4 A53.out).mono ?_); (case side1 => exact cS (Kd.R_reads' HO401.out).2.2); (case side2 => exact (Kd.R_reads' HO401.out).2.1); (case side3 => exact cS (Kd.R_reads' HO_6.out).2.2); (case side4 => exact (Kd.R_reads' HO_6.out).2.1); rintro e w64 ⟨rfl, hb⟩; refine ⟨_, rfl, ?_⟩; replace HO_6 := Aside0.mk (Kd.R_below (rS HO_6) hb); replace HO_8 := Aside0.mk (Kd.R_below (rS HO_8) hb); replace HO_372000 := Aside0.mk (Kd.R_below (rS HO_372000) hb); replace HO393 := Aside0.mk (Kd.R_below (rS HO393) hb); replace HO401 := Aside0.mk (Kd.R_below (rS HO401) hb); replace BK350 := kB (g := gb350) hb; replace BK371 := kB (g := gb371) hb; replace HB := hB hb; (try clear hb); (try clear hb2); (try clear hk); (try clear hi)) | ((with_reducible refine gC 31 ?_); refine goesL_ (some 68) rfl rfl Try.func31 (by kernel_rfl) rfl #[.slice Ao33 t389.length co33, .int .i64 1] rfl (by (try simp only [List.map_toArray, List.map_cons, List.map_nil]); first | done | (rw [show t389.length = t372.length from (Kd.R_reads' HO_8.out).1.symm] <;> rfl) | rfl | (simp only [List.length_drop, List.length_take]; rfl)) ?_; (with_reducible refine (laws_heldSpanS.calls kj17 _ _ t389 1 t403 _ ?side1 ?side2 A55.out).mono ?_); (case side1 => exact cS (Kd.R_reads' HO_8.out).2.2); (case side2 => rw [show t389.length = t372.length from (Kd.R_reads' HO_8.out).1.symm]; exact (Kd.R_reads' HO_8.out).2.1); rintro e w' ⟨rfl, ⟨nd, rfl⟩⟩; refine ⟨_, rfl, ?_⟩))
                      go_ret
                      exact ⟨eS, bS⟩
                    · rw [if_neg c56] at H
                      have c56b0 : decide (t403 < 0) = false := decide_eq_false c56
                      clear c56
                      by_cases c65 : t403 = t388
                      · rw [if_pos c65] at H
                        have c65b0 : (t403 == t388) = true := beq_iff_eq.mpr c65
                        have c65b1 : (t403 != t388) = false := bne_eq_false_iff_eq.mpr c65
                        clear c65
                        obtain rfl := Option.some.inj H
                        go_wp2_with (first | ((with_reducible refine gC 30 ?_); refine cL (some 49) Try.func30 #[.slice Ao33 t372.length co33, .int .i64 1] ?_; (with_reducible refine (laws_markSpanS.calls kj17 (fun k_ => some k_ = (.slice Ao33 t372.length co33 : Value).ownBlock) (.slice Ao33 t372.length co33) t372 1 t388 t389 w _ ?side1 ?side2 A46.out).mono ?_); (case side1 => repeat (first | (with_reducible first | exact HB.out | apply below_alloc | apply pw_below_drewN | apply below_drew1 | refine below_set ?_ GE350.out | refine below_set ?_ GE371.out) | exact HB.out)); (case side2 => exact Kd.R_tight rfl HO_8.out); rintro e w66 ⟨rfl, hy0, hb, hkp⟩; refine ⟨_, rfl, ?_⟩; replace HO_6 := Aside0.mk (Kd.R_mono (ok' := fun k_ => some k_ ≠ (.slice Ao33 t372.length co33 : Value).ownBlock) (Kd.R_keptB (HO_6.out) hkp (fun k_ hk_ hs_ => (hk_) hs_)) (fun k_ hk_ => hk_.1)); replace HO_372000 := Aside0.mk (Kd.R_mono (ok' := fun k_ => True) (Kd.R_keptB ((Kd.R_apart' HO_372000.out (Kd.R_typed HO_8.out) (by decide))) hkp (fun k_ hk_ hs_ => (hk_.2) hs_)) (fun k_ hk_ => trivial)); replace BK350 := Aside0.mk (blk_kept kS hkp (fun hs_ => (fun e_ => (Kd.R_ne HO_8.out BK350.out (by decide)) e_) hs_)); replace BK371 := Aside0.mk (blk_kept kS hkp (fun hs_ => (fun e_ => (Kd.R_ne HO_8.out BK371.out (by decide)) e_) hs_)); replace HO_8 := Aside0.mk (Kd.R_reok rfl hy0 (fun k_ e_ => HO_8.out.1 k_ e_)); replace HB := Aside0.mk (hb); (try clear hb); (try clear hkp); (try clear hy0)) | ((with_reducible refine gC 31 ?_); refine goesL_ (some 52) rfl rfl Try.func31 (by kernel_rfl) rfl #[.slice Ao33 t389.length co33, .int .i64 1] rfl (by (try simp only [List.map_toArray, List.map_cons, List.map_nil]); first | done | (rw [show t389.length = t372.length from (Kd.R_reads' HO_8.out).1.symm] <;> rfl) | rfl | (simp only [List.length_drop, List.length_take]; rfl)) ?_; (with_reducible refine (laws_heldSpanS.calls kj17 _ _ t389 1 t390 _ ?side1 ?side2 A47.out).mono ?_); (case side1 => exact cS (Kd.R_reads' HO_8.out).2.2); (case side2 => rw [show t389.length = t372.length from (Kd.R_reads' HO_8.out).1.symm]; exact (Kd.R_reads' HO_8.out).2.1); rintro e w' ⟨rfl, ⟨nd, rfl⟩⟩; refine ⟨_, rfl, ?_⟩; have hnb67 := NB350_371.out; have hnc67 := NB371_350.out; have hz68 := cz6 BK350) | ((with_reducible refine gC 25 ?_); refine cL (some 59) Try.func25 #[.agg #[.slice A0_0 l0_0.length c0_0, .int .i64 a0_1, .int .i64 a0_2, .int .i64 a0_3, .int .i64 a0_4, .int .i64 a0_5]] ?_; (with_reducible refine (laws_toObject.calls kj17 _ _ l0_0 a0_1 a0_2 a0_3 a0_4 a0_5 t391 t394 t395 t396 t397 t398 _ ?side1 ?side2 A51.out).mono ?_); (case side1 => exact cS (Kd.C_below HR0_0.out bS)); (case side2 => exact HC0_0.out); rintro e w69 ⟨v392, rfl, ho0, hb⟩; refine ⟨_, rfl, ?_⟩; have HO393 := Aside0.mk (Kd.R_lower (Kd.R_new' ho0 (Kd.R_lt (rS HO_372000))) (below_size bS)); replace HO_6 := Aside0.mk (Kd.R_below (rS HO_6) hb); replace HO_8 := Aside0.mk (Kd.R_below (rS HO_8) hb); replace HO_372000 := Aside0.mk (Kd.R_elder' (rS HO_372000) (Kd.R_base ho0) hb); replace BK350 := kB (g := gb350) hb; replace BK371 := kB (g := gb371) hb; replace HB := hB hb; (try clear hb); (try clear hb2); (try clear hk); (try clear hi); (try clear ho0); obtain ⟨Ao70, co70, eo70⟩ := Kd.R_slice HO393.out; subst eo70) | ((with_reducible refine gC 26 ?_); refine cL (some 61) Try.func26 #[.agg #[.slice Ao70 t391.length co70, .int .i64 t394, .int .i64 t395, .int .i64 t396, .int .i64 t397, .int .i64 t398], .int .i64 a1] ?_; (with_reducible refine (impl_ObjectRow.calls kj17 _ _ t391 t394 t395 t396 t397 t398 a1 t399 _ ?side1 ?side2 A52.out).mono ?_); (case side1 => exact cS (Kd.R_reads' HO393.out).2.2); (case side2 => exact (Kd.R_reads' HO393.out).2.1); rintro e w71 ⟨v400, rfl, ho0, hb⟩; refine ⟨_, rfl, ?_⟩; have HO401 := Aside0.mk (Kd.R_lower (Kd.R_new' (Kd.R_new' ho0 (Kd.R_lt (rS HO_6))) (Kd.R_lt (rS HO_8))) (below_size bS)); replace HO_6 := Aside0.mk (Kd.R_elder' (rS HO_6) (Kd.R_base ho0) hb); replace HO_8 := Aside0.mk (Kd.R_elder' (rS HO_8) (Kd.R_base ho0) hb); replace HO_372000 := Aside0.mk (Kd.R_below (rS HO_372000) hb); replace HO393 := Aside0.mk (Kd.R_below (rS HO393) hb); replace BK350 := kB (g := gb350) hb; replace BK371 := kB (g := gb371) hb; replace HB := hB hb; (try clear hb); (try clear hb2); (try clear hk); (try clear hi); (try clear ho0); obtain ⟨Ao72, co72, eo72⟩ := Kd.R_slice HO401.out; subst eo72) | ((with_reducible refine gC 27 ?_); refine cL (some 64) Try.func27 #[.slice Ao72 t399.length co72, .slice Ao34 t360.length co34] ?_; (with_reducible refine (laws_eqSpanS.calls kj17 _ _ t399 _ _ t360 true _ ?side1 ?side2 ?side3 ?side4 A53.out).mono ?_); (case side1 => exact cS (Kd.R_reads' HO401.out).2.2); (case side2 => exact (Kd.R_reads' HO401.out).2.1); (case side3 => exact cS (Kd.R_reads' HO_6.out).2.2); (case side4 => exact (Kd.R_reads' HO_6.out).2.1); rintro e w73 ⟨rfl, hb⟩; refine ⟨_, rfl, ?_⟩; replace HO_6 := Aside0.mk (Kd.R_below (rS HO_6) hb); replace HO_8 := Aside0.mk (Kd.R_below (rS HO_8) hb); replace HO_372000 := Aside0.mk (Kd.R_below (rS HO_372000) hb); replace HO393 := Aside0.mk (Kd.R_below (rS HO393) hb); replace HO401 := Aside0.mk (Kd.R_below (rS HO401) hb); replace BK350 := kB (g := gb350) hb; replace BK371 := kB (g := gb371) hb; replace HB := hB hb; (try clear hb); (try clear hb2); (try clear hk); (try clear hi)) | ((with_reducible refine gC 31 ?_); refine goesL_ (some 68) rfl rfl Try.func31 (by kernel_rfl) rfl #[.slice Ao33 t389.length co33, .int .i64 1] rfl (by (try simp only [List.map_toArray, List.map_cons, List.map_nil]); first | done | (rw [show t389.length = t372.length from (Kd.R_reads' HO_8.out).1.symm] <;> rfl) | rfl | (simp only [List.length_drop, List.length_take]; rfl)) ?_; (with_reducible refine (laws_heldSpanS.calls kj17 _ _ t389 1 t403 _ ?side1 ?side2 A55.out).mono ?_); (case side1 => exact cS (Kd.R_reads' HO_8.out).2.2); (case side2 => rw [show t389.length = t372.length from (Kd.R_reads' HO_8.out).1.symm]; exact (Kd.R_reads' HO_8.out).2.1); rintro e w' ⟨rfl, ⟨nd, rfl⟩⟩; refine ⟨_, rfl, ?_⟩))
                        go_ret
                        exact ⟨eS, bS⟩
                      · rw [if_neg c65] at H
                        have c65b0 : (t403 == t388) = false := beq_eq_false_iff_ne.mpr c65
                        have c65b1 : (t403 != t388) = true := bne_iff_ne.mpr c65
                        obtain rfl := Option.some.inj H
                        go_wp2_with (first | ((with_reducible refine gC 30 ?_); refine cL (some 49) Try.func30 #[.slice Ao33 t372.length co33, .int .i64 1] ?_; (with_reducible refine (laws_markSpanS.calls kj17 (fun k_ => some k_ = (.slice Ao33 t372.length co33 : Value).ownBlock) (.slice Ao33 t372.length co33) t372 1 t388 t389 w _ ?side1 ?side2 A46.out).mono ?_); (case side1 => repeat (first | (with_reducible first | exact HB.out | apply below_alloc | apply pw_below_drewN | apply below_drew1 | refine below_set ?_ GE350.out | refine below_set ?_ GE371.out) | exact HB.out)); (case side2 => exact Kd.R_tight rfl HO_8.out); rintro e w74 ⟨rfl, hy0, hb, hkp⟩; refine ⟨_, rfl, ?_⟩; replace HO_6 := Aside0.mk (Kd.R_mono (ok' := fun k_ => some k_ ≠ (.slice Ao33 t372.length co33 : Value).ownBlock) (Kd.R_keptB (HO_6.out) hkp (fun k_ hk_ hs_ => (hk_) hs_)) (fun k_ hk_ => hk_.1)); replace HO_372000 := Aside0.mk (Kd.R_mono (ok' := fun k_ => True) (Kd.R_keptB ((Kd.R_apart' HO_372000.out (Kd.R_typed HO_8.out) (by decide))) hkp (fun k_ hk_ hs_ => (hk_.2) hs_)) (fun k_ hk_ => trivial)); replace BK350 := Aside0.mk (blk_kept kS hkp (fun hs_ => (fun e_ => (Kd.R_ne HO_8.out BK350.out (by decide)) e_) hs_)); replace BK371 := Aside0.mk (blk_kept kS hkp (fun hs_ => (fun e_ => (Kd.R_ne HO_8.out BK371.out (by decide)) e_) hs_)); replace HO_8 := Aside0.mk (Kd.R_reok rfl hy0 (fun k_ e_ => HO_8.out.1 k_ e_)); replace HB := Aside0.mk (hb); (try clear hb); (try clear hkp); (try clear hy0)) | ((with_reducible refine gC 31 ?_); refine goesL_ (some 52) rfl rfl Try.func31 (by kernel_rfl) rfl #[.slice Ao33 t389.length co33, .int .i64 1] rfl (by (try simp only [List.map_toArray, List.map_cons, List.map_nil]); first | done | (rw [show t389.length = t372.length from (Kd.R_reads' HO_8.out).1.symm] <;> rfl) | rfl | (simp only [List.length_drop, List.length_take]; rfl)) ?_; (with_reducible refine (laws_heldSpanS.calls kj17 _ _ t389 1 t390 _ ?side1 ?side2 A47.out).mono ?_); (case side1 => exact cS (Kd.R_reads' HO_8.out).2.2); (case side2 => rw [show t389.length = t372.length from (Kd.R_reads' HO_8.out).1.symm]; exact (Kd.R_reads' HO_8.out).2.1); rintro e w' ⟨rfl, ⟨nd, rfl⟩⟩; refine ⟨_, rfl, ?_⟩; have hnb75 := NB350_371.out; have hnc75 := NB371_350.out; have hz76 := cz6 BK350) | ((with_reducible refine gC 25 ?_); refine cL (some 59) Try.func25 #[.agg #[.slice A0_0 l0_0.length c0_0, .int .i64 a0_1, .int .i64 a0_2, .int .i64 a0_3, .int .i64 a0_4, .int .i64 a0_5]] ?_; (with_reducible refine (laws_toObject.calls kj17 _ _ l0_0 a0_1 a0_2 a0_3 a0_4 a0_5 t391 t394 t395 t396 t397 t398 _ ?side1 ?side2 A51.out).mono ?_); (case side1 => exact cS (Kd.C_below HR0_0.out bS)); (case side2 => exact HC0_0.out); rintro e w77 ⟨v392, rfl, ho0, hb⟩; refine ⟨_, rfl, ?_⟩; have HO393 := Aside0.mk (Kd.R_lower (Kd.R_new' ho0 (Kd.R_lt (rS HO_372000))) (below_size bS)); replace HO_6 := Aside0.mk (Kd.R_below (rS HO_6) hb); replace HO_8 := Aside0.mk (Kd.R_below (rS HO_8) hb); replace HO_372000 := Aside0.mk (Kd.R_elder' (rS HO_372000) (Kd.R_base ho0) hb); replace BK350 := kB (g := gb350) hb; replace BK371 := kB (g := gb371) hb; replace HB := hB hb; (try clear hb); (try clear hb2); (try clear hk); (try clear hi); (try clear ho0); obtain ⟨Ao78, co78, eo78⟩ := Kd.R_slice HO393.out; subst eo78) | ((with_reducible refine gC 26 ?_); refine cL (some 61) Try.func26 #[.agg #[.slice Ao78 t391.length co78, .int .i64 t394, .int .i64 t395, .int .i64 t396, .int .i64 t397, .int .i64 t398], .int .i64 a1] ?_; (with_reducible refine (impl_ObjectRow.calls kj17 _ _ t391 t394 t395 t396 t397 t398 a1 t399 _ ?side1 ?side2 A52.out).mono ?_); (case side1 => exact cS (Kd.R_reads' HO393.out).2.2); (case side2 => exact (Kd.R_reads' HO393.out).2.1); rintro e w79 ⟨v400, rfl, ho0, hb⟩; refine ⟨_, rfl, ?_⟩; have HO401 := Aside0.mk (Kd.R_lower (Kd.R_new' (Kd.R_new' ho0 (Kd.R_lt (rS HO_6))) (Kd.R_lt (rS HO_8))) (below_size bS)); replace HO_6 := Aside0.mk (Kd.R_elder' (rS HO_6) (Kd.R_base ho0) hb); replace HO_8 := Aside0.mk (Kd.R_elder' (rS HO_8) (Kd.R_base ho0) hb); replace HO_372000 := Aside0.mk (Kd.R_below (rS HO_372000) hb); replace HO393 := Aside0.mk (Kd.R_below (rS HO393) hb); replace BK350 := kB (g := gb350) hb; replace BK371 := kB (g := gb371) hb; replace HB := hB hb; (try clear hb); (try clear hb2); (try clear hk); (try clear hi); (try clear ho0); obtain ⟨Ao80, co80, eo80⟩ := Kd.R_slice HO401.out; subst eo80) | ((with_reducible refine gC 27 ?_); refine cL (some 64) Try.func27 #[.slice Ao80 t399.length co80, .slice Ao34 t360.length co34] ?_; (with_reducible refine (laws_eqSpanS.calls kj17 _ _ t399 _ _ t360 true _ ?side1 ?side2 ?side3 ?side4 A53.out).mono ?_); (case side1 => exact cS (Kd.R_reads' HO401.out).2.2); (case side2 => exact (Kd.R_reads' HO401.out).2.1); (case side3 => exact cS (Kd.R_reads' HO_6.out).2.2); (case side4 => exact (Kd.R_reads' HO_6.out).2.1); rintro e w81 ⟨rfl, hb⟩; refine ⟨_, rfl, ?_⟩; replace HO_6 := Aside0.mk (Kd.R_below (rS HO_6) hb); replace HO_8 := Aside0.mk (Kd.R_below (rS HO_8) hb); replace HO_372000 := Aside0.mk (Kd.R_below (rS HO_372000) hb); replace HO393 := Aside0.mk (Kd.R_below (rS HO393) hb); replace HO401 := Aside0.mk (Kd.R_below (rS HO401) hb); replace BK350 := kB (g := gb350) hb; replace BK371 := kB (g := gb371) hb; replace HB := hB hb; (try clear hb); (try clear hb2); (try clear hk); (try clear hi)) | ((with_reducible refine gC 31 ?_); refine goesL_ (some 68) rfl rfl Try.func31 (by kernel_rfl) rfl #[.slice Ao33 t389.length co33, .int .i64 1] rfl (by (try simp only [List.map_toArray, List.map_cons, List.map_nil]); first | done | (rw [show t389.length = t372.length from (Kd.R_reads' HO_8.out).1.symm] <;> rfl) | rfl | (simp only [List.length_drop, List.length_take]; rfl)) ?_; (with_reducible refine (laws_heldSpanS.calls kj17 _ _ t389 1 t403 _ ?side1 ?side2 A55.out).mono ?_); (case side1 => exact cS (Kd.R_reads' HO_8.out).2.2); (case side2 => rw [show t389.length = t372.length from (Kd.R_reads' HO_8.out).1.symm]; exact (Kd.R_reads' HO_8.out).2.1); rintro e w' ⟨rfl, ⟨nd, rfl⟩⟩; refine ⟨_, rfl, ?_⟩))
                        go_ret
                        exact ⟨eS, bS⟩
                  · obtain rfl := Bool.eq_false_iff.mpr c54
                    rw [if_neg nF] at H
                    obtain rfl := Option.some.inj H
                    go_wp2_with (first | ((with_reducible refine gC 30 ?_); refine cL (some 49) Try.func30 #[.slice Ao33 t372.length co33, .int .i64 1] ?_; (with_reducible refine (laws_markSpanS.calls kj17 (fun k_ => some k_ = (.slice Ao33 t372.length co33 : Value).ownBlock) (.slice Ao33 t372.length co33) t372 1 t388 t389 w _ ?side1 ?side2 A46.out).mono ?_); (case side1 => repeat (first | (with_reducible first | exact HB.out | apply below_alloc | apply pw_below_drewN | apply below_drew1 | refine below_set ?_ GE350.out | refine below_set ?_ GE371.out) | exact HB.out)); (case side2 => exact Kd.R_tight rfl HO_8.out); rintro e w82 ⟨rfl, hy0, hb, hkp⟩; refine ⟨_, rfl, ?_⟩; replace HO_6 := Aside0.mk (Kd.R_mono (ok' := fun k_ => some k_ ≠ (.slice Ao33 t372.length co33 : Value).ownBlock) (Kd.R_keptB (HO_6.out) hkp (fun k_ hk_ hs_ => (hk_) hs_)) (fun k_ hk_ => hk_.1)); replace HO_372000 := Aside0.mk (Kd.R_mono (ok' := fun k_ => True) (Kd.R_keptB ((Kd.R_apart' HO_372000.out (Kd.R_typed HO_8.out) (by decide))) hkp (fun k_ hk_ hs_ => (hk_.2) hs_)) (fun k_ hk_ => trivial)); replace BK350 := Aside0.mk (blk_kept kS hkp (fun hs_ => (fun e_ => (Kd.R_ne HO_8.out BK350.out (by decide)) e_) hs_)); replace BK371 := Aside0.mk (blk_kept kS hkp (fun hs_ => (fun e_ => (Kd.R_ne HO_8.out BK371.out (by decide)) e_) hs_)); replace HO_8 := Aside0.mk (Kd.R_reok rfl hy0 (fun k_ e_ => HO_8.out.1 k_ e_)); replace HB := Aside0.mk (hb); (try clear hb); (try clear hkp); (try clear hy0)) | ((with_reducible refine gC 31 ?_); refine goesL_ (some 52) rfl rfl Try.func31 (by kernel_rfl) rfl #[.slice Ao33 t389.length co33, .int .i64 1] rfl (by (try simp only [List.map_toArray, List.map_cons, List.map_nil]); first | done | (rw [show t389.length = t372.length from (Kd.R_reads' HO_8.out).1.symm] <;> rfl) | rfl | (simp only [List.length_drop, List.length_take]; rfl)) ?_; (with_reducible refine (laws_heldSpanS.calls kj17 _ _ t389 1 t390 _ ?side1 ?side2 A47.out).mono ?_); (case side1 => exact cS (Kd.R_reads' HO_8.out).2.2); (case side2 => rw [show t389.length = t372.length from (Kd.R_reads' HO_8.out).1.symm]; exact (Kd.R_reads' HO_8.out).2.1); rintro e w' ⟨rfl, ⟨nd, rfl⟩⟩; refine ⟨_, rfl, ?_⟩; have hnb83 := NB350_371.out; have hnc83 := NB371_350.out; have hz84 := cz6 BK350) | ((with_reducible refine gC 25 ?_); refine cL (some 59) Try.func25 #[.agg #[.slice A0_0 l0_0.length c0_0, .int .i64 a0_1, .int .i64 a0_2, .int .i64 a0_3, .int .i64 a0_4, .int .i64 a0_5]] ?_; (with_reducible refine (laws_toObject.calls kj17 _ _ l0_0 a0_1 a0_2 a0_3 a0_4 a0_5 t391 t394 t395 t396 t397 t398 _ ?side1 ?side2 A51.out).mono ?_); (case side1 => exact cS (Kd.C_below HR0_0.out bS)); (case side2 => exact HC0_0.out); rintro e w85 ⟨v392, rfl, ho0, hb⟩; refine ⟨_, rfl, ?_⟩; have HO393 := Aside0.mk (Kd.R_lower (Kd.R_new' ho0 (Kd.R_lt (rS HO_372000))) (below_size bS)); replace HO_6 := Aside0.mk (Kd.R_below (rS HO_6) hb); replace HO_8 := Aside0.mk (Kd.R_below (rS HO_8) hb); replace HO_372000 := Aside0.mk (Kd.R_elder' (rS HO_372000) (Kd.R_base ho0) hb); replace BK350 := kB (g := gb350) hb; replace BK371 := kB (g := gb371) hb; replace HB := hB hb; (try clear hb); (try clear hb2); (try clear hk); (try clear hi); (try clear ho0); obtain ⟨Ao86, co86, eo86⟩ := Kd.R_slice HO393.out; subst eo86) | ((with_reducible refine gC 26 ?_); refine cL (some 61) Try.func26 #[.agg #[.slice Ao86 t391.length co86, .int .i64 t394, .int .i64 t395, .int .i64 t396, .int .i64 t397, .int .i64 t398], .int .i64 a1] ?_; (with_reducible refine (impl_ObjectRow.calls kj17 _ _ t391 t394 t395 t396 t397 t398 a1 t399 _ ?side1 ?side2 A52.out).mono ?_); (case side1 => exact cS (Kd.R_reads' HO393.out).2.2); (case side2 => exact (Kd.R_reads' HO393.out).2.1); rintro e w87 ⟨v400, rfl, ho0, hb⟩; refine ⟨_, rfl, ?_⟩; have HO401 := Aside0.mk (Kd.R_lower (Kd.R_new' (Kd.R_new' ho0 (Kd.R_lt (rS HO_6))) (Kd.R_lt (rS HO_8))) (below_size bS)); replace HO_6 := Aside0.mk (Kd.R_elder' (rS HO_6) (Kd.R_base ho0) hb); replace HO_8 := Aside0.mk (Kd.R_elder' (rS HO_8) (Kd.R_base ho0) hb); replace HO_372000 := Aside0.mk (Kd.R_below (rS HO_372000) hb); replace HO393 := Aside0.mk (Kd.R_below (rS HO393) hb); replace BK350 := kB (g := gb350) hb; replace BK371 := kB (g := gb371) hb; replace HB := hB hb; (try clear hb); (try clear hb2); (try clear hk); (try clear hi); (try clear ho0); obtain ⟨Ao88, co88, eo88⟩ := Kd.R_slice HO401.out; subst eo88) | ((with_reducible refine gC 27 ?_); refine cL (some 64) Try.func27 #[.slice Ao88 t399.length co88, .slice Ao34 t360.length co34] ?_; (with_reducible refine (laws_eqSpanS.calls kj17 _ _ t399 _ _ t360 false _ ?side1 ?side2 ?side3 ?side4 A53.out).mono ?_); (case side1 => exact cS (Kd.R_reads' HO401.out).2.2); (case side2 => exact (Kd.R_reads' HO401.out).2.1); (case side3 => exact cS (Kd.R_reads' HO_6.out).2.2); (case side4 => exact (Kd.R_reads' HO_6.out).2.1); rintro e w89 ⟨rfl, hb⟩; refine ⟨_, rfl, ?_⟩; replace HO_6 := Aside0.mk (Kd.R_below (rS HO_6) hb); replace HO_8 := Aside0.mk (Kd.R_below (rS HO_8) hb); replace HO_372000 := Aside0.mk (Kd.R_below (rS HO_372000) hb); replace HO393 := Aside0.mk (Kd.R_below (rS HO393) hb); replace HO401 := Aside0.mk (Kd.R_below (rS HO401) hb); replace BK350 := kB (g := gb350) hb; replace BK371 := kB (g := gb371) hb; replace HB := hB hb; (try clear hb); (try clear hb2); (try clear hk); (try clear hi)))
                    go_ret
                    exact ⟨eS, bS⟩
                · rw [if_neg c50] at H
                  have c50b0 : (t390 == t388) = false := beq_eq_false_iff_ne.mpr c50
                  have c50b1 : (t390 != t388) = true := bne_iff_ne.mpr c50
                  obtain rfl := Option.some.inj H
                  go_wp2_with (first | ((with_reducible refine gC 30 ?_); refine cL (some 49) Try.func30 #[.slice Ao33 t372.length co33, .int .i64 1] ?_; (with_reducible refine (laws_markSpanS.calls kj17 (fun k_ => some k_ = (.slice Ao33 t372.length co33 : Value).ownBlock) (.slice Ao33 t372.length co33) t372 1 t388 t389 w _ ?side1 ?side2 A46.out).mono ?_); (case side1 => repeat (first | (with_reducible first | exact HB.out | apply below_alloc | apply pw_below_drewN | apply below_drew1 | refine below_set ?_ GE350.out | refine below_set ?_ GE371.out) | exact HB.out)); (case side2 => exact Kd.R_tight rfl HO_8.out); rintro e w90 ⟨rfl, hy0, hb, hkp⟩; refine ⟨_, rfl, ?_⟩; replace HO_6 := Aside0.mk (Kd.R_mono (ok' := fun k_ => some k_ ≠ (.slice Ao33 t372.length co33 : Value).ownBlock) (Kd.R_keptB (HO_6.out) hkp (fun k_ hk_ hs_ => (hk_) hs_)) (fun k_ hk_ => hk_.1)); replace HO_372000 := Aside0.mk (Kd.R_mono (ok' := fun k_ => True) (Kd.R_keptB ((Kd.R_apart' HO_372000.out (Kd.R_typed HO_8.out) (by decide))) hkp (fun k_ hk_ hs_ => (hk_.2) hs_)) (fun k_ hk_ => trivial)); replace BK350 := Aside0.mk (blk_kept kS hkp (fun hs_ => (fun e_ => (Kd.R_ne HO_8.out BK350.out (by decide)) e_) hs_)); replace BK371 := Aside0.mk (blk_kept kS hkp (fun hs_ => (fun e_ => (Kd.R_ne HO_8.out BK371.out (by decide)) e_) hs_)); replace HO_8 := Aside0.mk (Kd.R_reok rfl hy0 (fun k_ e_ => HO_8.out.1 k_ e_)); replace HB := Aside0.mk (hb); (try clear hb); (try clear hkp); (try clear hy0)) | ((with_reducible refine gC 31 ?_); refine goesL_ (some 52) rfl rfl Try.func31 (by kernel_rfl) rfl #[.slice Ao33 t389.length co33, .int .i64 1] rfl (by (try simp only [List.map_toArray, List.map_cons, List.map_nil]); first | done | (rw [show t389.length = t372.length from (Kd.R_reads' HO_8.out).1.symm] <;> rfl) | rfl | (simp only [List.length_drop, List.length_take]; rfl)) ?_; (with_reducible refine (laws_heldSpanS.calls kj17 _ _ t389 1 t390 _ ?side1 ?side2 A47.out).mono ?_); (case side1 => exact cS (Kd.R_reads' HO_8.out).2.2); (case side2 => rw [show t389.length = t372.length from (Kd.R_reads' HO_8.out).1.symm]; exact (Kd.R_reads' HO_8.out).2.1); rintro e w' ⟨rfl, ⟨nd, rfl⟩⟩; refine ⟨_, rfl, ?_⟩))
                  go_ret
                  exact ⟨eS, bS⟩
      · obtain rfl := Bool.eq_false_iff.mpr c16
        rw [if_neg nF] at H
        obtain rfl := Option.some.inj H
        go_enter Try.func4, Try.ntmps4
        try go_wp2_with (first | ((with_reducible refine gD 2 ?_); refine bxE #[.slice A0_0 l0_0.length c0_0, .int .i64 a0_1, .int .i64 a0_2, .int .i64 a0_3, .int .i64 a0_4, .int .i64 a0_5] 38 ?_; intro gb350 hg w91 BK350 hb; have GW350 := gE hg; have GE350 := gE hg; replace HB := hB hb; clear hb hg; have hz92 := cz6 BK350) | ((with_reducible refine gC 23 ?_); refine cL (some 15) Try.func23 #[.agg #[.slice A0_0 l0_0.length c0_0, .int .i64 a0_1, .int .i64 a0_2, .int .i64 a0_3, .int .i64 a0_4, .int .i64 a0_5], .int .i64 1048576] ?_; (with_reducible refine (laws_szObject.calls _ _ l0_0 a0_1 a0_2 a0_3 a0_4 a0_5 1048576 t351 _ ?side1 ?side2 A3.out).mono ?_); (case side1 => exact cS (Kd.C_below HR0_0.out HB.out)); (case side2 => exact HC0_0.out); rintro e w93 ⟨rfl, hb⟩; refine ⟨_, rfl, ?_⟩; replace BK350 := kB (g := gb350) hb; replace HB := hB hb; (try clear hb); (try clear hb2); (try clear hk); (try clear hi); have hz94 := cz6 BK350) | ((with_reducible refine gC 25 ?_); refine cL (some 19) Try.func25 #[.agg #[.slice A0_0 l0_0.length c0_0, .int .i64 a0_1, .int .i64 a0_2, .int .i64 a0_3, .int .i64 a0_4, .int .i64 a0_5]] ?_; (with_reducible refine (laws_toObject.calls k _ _ l0_0 a0_1 a0_2 a0_3 a0_4 a0_5 t352 t355 t356 t357 t358 t359 _ ?side1 ?side2 A8.out).mono ?_); (case side1 => exact cS (Kd.C_below HR0_0.out HB.out)); (case side2 => exact HC0_0.out); rintro e w95 ⟨v353, rfl, ho0, hb⟩; refine ⟨_, rfl, ?_⟩; have HO354 := Aside0.mk (Kd.R_lower ho0 (below_size bS)); replace BK350 := kB (g := gb350) hb; replace HB := hB hb; (try clear hb); (try clear hb2); (try clear hk); (try clear hi); (try clear ho0); obtain ⟨Ao96, co96, eo96⟩ := Kd.R_slice HO354.out; subst eo96) | ((with_reducible refine gC 24 ?_); refine cL (some 21) Try.func24 #[.agg #[.slice Ao96 t352.length co96, .int .i64 t355, .int .i64 t356, .int .i64 t357, .int .i64 t358, .int .i64 t359], .int .i64 a1] ?_; (with_reducible refine (spec_ObjectRow.calls k _ _ t352 t355 t356 t357 t358 t359 a1 t360 _ ?side1 ?side2 A9.out).mono ?_); (case side1 => exact cS (Kd.R_reads' HO354.out).2.2); (case side2 => exact (Kd.R_reads' HO354.out).2.1); rintro e w97 ⟨v361, rfl, ho0, hb⟩; refine ⟨_, rfl, ?_⟩; have HO362 := Aside0.mk (Kd.R_lower ho0 (below_size bS)); replace HO354 := Aside0.mk (Kd.R_below (rS HO354) hb); replace BK350 := kB (g := gb350) hb; replace HB := hB hb; (try clear hb); (try clear hb2); (try clear hk); (try clear hi); (try clear ho0); have hz98 := cz6 BK350) | ((with_reducible refine gC 25 ?_); refine cL (some 23) Try.func25 #[.agg #[.slice A0_0 l0_0.length c0_0, .int .i64 a0_1, .int .i64 a0_2, .int .i64 a0_3, .int .i64 a0_4, .int .i64 a0_5]] ?_; (with_reducible refine (laws_toObject.calls k _ _ l0_0 a0_1 a0_2 a0_3 a0_4 a0_5 t363 t366 t367 t368 t369 t370 _ ?side1 ?side2 A10.out).mono ?_); (case side1 => exact cS (Kd.C_below HR0_0.out HB.out)); (case side2 => exact HC0_0.out); rintro e w99 ⟨v364, rfl, ho0, hb⟩; refine ⟨_, rfl, ?_⟩; have HO365 := Aside0.mk (Kd.R_lower (Kd.R_new' ho0 (Kd.R_lt (rS HO354))) (below_size bS)); replace HO354 := Aside0.mk (Kd.R_elder' (rS HO354) (Kd.R_base ho0) hb); replace HO362 := Aside0.mk (Kd.R_below (rS HO362) hb); replace BK350 := kB (g := gb350) hb; replace HB := hB hb; (try clear hb); (try clear hb2); (try clear hk); (try clear hi); (try clear ho0)) | ((with_reducible refine gD 7 ?_); refine bxE #[.slice none 0 0, .int .i64 0, .int .i64 0, .int .i64 0, .int .i64 0, .int .i64 0] 45 ?_; intro gb371 hg w100 BK371 hb; have GW371 := gE hg; have GE371 := gE hg; have NB350_371 := nL (g := gb350) hg; have NB371_350 := nG (g := gb350) hg; replace HO354 := Aside0.mk (Kd.R_below (rS HO354) hb); replace HO362 := Aside0.mk (Kd.R_below (rS HO362) hb); replace HO365 := Aside0.mk (Kd.R_below (rS HO365) hb); replace BK350 := kB (g := gb350) hb; replace HB := hB hb; clear hb hg; obtain ⟨Ao101, co101, eo101⟩ := Kd.R_slice HO365.out; subst eo101; have hnb102 := NB371_350.out; have hnc102 := NB350_371.out; have hz103 := cz6 BK371) | ((with_reducible refine gC 26 ?_); refine cL (some 26) Try.func26 #[.agg #[.slice Ao101 t363.length co101, .int .i64 t366, .int .i64 t367, .int .i64 t368, .int .i64 t369, .int .i64 t370], .int .i64 a1] ?_; (with_reducible refine (impl_ObjectRow.calls k _ _ t363 t366 t367 t368 t369 t370 a1 t372 _ ?side1 ?side2 A11.out).mono ?_); (case side1 => refine (Kd.R_reads' (e := 171) (base := w.heap.size) (ok := fun k_ => (True ∧ some k_ ≠ (.slice Ao96 t352.length co96 : Value).ownBlock)) (n := t363.length) (c := co101) ?_).2.2; exact (by (with_reducible repeat (first | apply Kd.R_alloc | apply Kd.R_drewN | apply Kd.R_drew)); exact (Kd.R_mono (Kd.R_far (p := ⟨gb371, 5, none⟩) (Kd.R_far (p := ⟨gb371, 4, none⟩) (Kd.R_far (p := ⟨gb371, 3, none⟩) (Kd.R_far (p := ⟨gb371, 2, none⟩) (Kd.R_far (p := ⟨gb371, 1, none⟩) (Kd.R_far (p := ⟨gb371, 0, none⟩) (Kd.R_types HO365.out BK371.out (by decide)) (fun _ hk => hk.2) (.slice Ao101 t363.length co101)) (fun _ hk => hk.2) (.int .i64 t366)) (fun _ hk => hk.2) (.int .i64 t367)) (fun _ hk => hk.2) (.int .i64 t368)) (fun _ hk => hk.2) (.int .i64 t369)) (fun _ hk => hk.2) (.int .i64 t370)) (fun _ h_ => h_.1)))); (case side2 => exact (Kd.R_reads' HO365.out).2.1); rintro e w104 ⟨v373, rfl, ho0, hb⟩; refine ⟨_, rfl, ?_⟩; have HO374 := Aside0.mk (Kd.R_lower (Kd.R_new' ho0 (Kd.R_lt (by (with_reducible repeat (first | apply Kd.R_alloc | apply Kd.R_drewN | apply Kd.R_drew)); exact (Kd.R_mono (Kd.R_far (p := ⟨gb371, 5, none⟩) (Kd.R_far (p := ⟨gb371, 4, none⟩) (Kd.R_far (p := ⟨gb371, 3, none⟩) (Kd.R_far (p := ⟨gb371, 2, none⟩) (Kd.R_far (p := ⟨gb371, 1, none⟩) (Kd.R_far (p := ⟨gb371, 0, none⟩) (Kd.R_types HO362.out BK371.out (by decide)) (fun _ hk => hk.2) (.slice Ao101 t363.length co101)) (fun _ hk => hk.2) (.int .i64 t366)) (fun _ hk => hk.2) (.int .i64 t367)) (fun _ hk => hk.2) (.int .i64 t368)) (fun _ hk => hk.2) (.int .i64 t369)) (fun _ hk => hk.2) (.int .i64 t370)) (fun _ h_ => h_.1))))) (below_size bS)); replace HO354 := Aside0.mk (Kd.R_below (by (with_reducible repeat (first | apply Kd.R_alloc | apply Kd.R_drewN | apply Kd.R_drew)); exact (Kd.R_mono (Kd.R_far (p := ⟨gb371, 5, none⟩) (Kd.R_far (p := ⟨gb371, 4, none⟩) (Kd.R_far (p := ⟨gb371, 3, none⟩) (Kd.R_far (p := ⟨gb371, 2, none⟩) (Kd.R_far (p := ⟨gb371, 1, none⟩) (Kd.R_far (p := ⟨gb371, 0, none⟩) (Kd.R_types HO354.out BK371.out (by decide)) (fun _ hk => hk.2) (.slice Ao101 t363.length co101)) (fun _ hk => hk.2) (.int .i64 t366)) (fun _ hk => hk.2) (.int .i64 t367)) (fun _ hk => hk.2) (.int .i64 t368)) (fun _ hk => hk.2) (.int .i64 t369)) (fun _ hk => hk.2) (.int .i64 t370)) (fun _ h_ => h_.1))) hb); replace HO362 := Aside0.mk (Kd.R_elder' (by (with_reducible repeat (first | apply Kd.R_alloc | apply Kd.R_drewN | apply Kd.R_drew)); exact (Kd.R_mono (Kd.R_far (p := ⟨gb371, 5, none⟩) (Kd.R_far (p := ⟨gb371, 4, none⟩) (Kd.R_far (p := ⟨gb371, 3, none⟩) (Kd.R_far (p := ⟨gb371, 2, none⟩) (Kd.R_far (p := ⟨gb371, 1, none⟩) (Kd.R_far (p := ⟨gb371, 0, none⟩) (Kd.R_types HO362.out BK371.out (by decide)) (fun _ hk => hk.2) (.slice Ao101 t363.length co101)) (fun _ hk => hk.2) (.int .i64 t366)) (fun _ hk => hk.2) (.int .i64 t367)) (fun _ hk => hk.2) (.int .i64 t368)) (fun _ hk => hk.2) (.int .i64 t369)) (fun _ hk => hk.2) (.int .i64 t370)) (fun _ h_ => h_.1))) (Kd.R_base ho0) hb); replace HO365 := Aside0.mk (Kd.R_below (by (with_reducible repeat (first | apply Kd.R_alloc | apply Kd.R_drewN | apply Kd.R_drew)); exact (Kd.R_mono (Kd.R_far (p := ⟨gb371, 5, none⟩) (Kd.R_far (p := ⟨gb371, 4, none⟩) (Kd.R_far (p := ⟨gb371, 3, none⟩) (Kd.R_far (p := ⟨gb371, 2, none⟩) (Kd.R_far (p := ⟨gb371, 1, none⟩) (Kd.R_far (p := ⟨gb371, 0, none⟩) (Kd.R_types HO365.out BK371.out (by decide)) (fun _ hk => hk.2) (.slice Ao101 t363.length co101)) (fun _ hk => hk.2) (.int .i64 t366)) (fun _ hk => hk.2) (.int .i64 t367)) (fun _ hk => hk.2) (.int .i64 t368)) (fun _ hk => hk.2) (.int .i64 t369)) (fun _ hk => hk.2) (.int .i64 t370)) (fun _ h_ => h_.1))) hb); replace BK350 := kB (g := gb350) hb; replace BK371 := Aside0.mk (blk_below (g := gb371) (o := .cells #[.slice Ao101 t363.length co101, .int .i64 t366, .int .i64 t367, .int .i64 t368, .int .i64 t369, .int .i64 t370] 45 (0, 0)) kS hb); replace HB := hB hb; (try clear hb); (try clear hb2); (try clear hk); (try clear hi); (try clear ho0); obtain ⟨Ao105, co105, eo105⟩ := Kd.R_slice HO374.out; subst eo105; obtain ⟨Ao106, co106, eo106⟩ := Kd.R_slice HO362.out; subst eo106) | ((with_reducible refine gC 27 ?_); refine cL (some 29) Try.func27 #[.slice Ao105 t372.length co105, .slice Ao106 t360.length co106] ?_; (with_reducible refine (laws_eqSpanS.calls k _ _ t372 _ _ t360 true _ ?side1 ?side2 ?side3 ?side4 A12.out).mono ?_); (case side1 => exact cS (Kd.R_reads' HO374.out).2.2); (case side2 => exact (Kd.R_reads' HO374.out).2.1); (case side3 => exact cS (Kd.R_reads' HO362.out).2.2); (case side4 => exact (Kd.R_reads' HO362.out).2.1); rintro e w107 ⟨rfl, hb⟩; refine ⟨_, rfl, ?_⟩; replace HO354 := Aside0.mk (Kd.R_below (rS HO354) hb); replace HO362 := Aside0.mk (Kd.R_below (rS HO362) hb); replace HO365 := Aside0.mk (Kd.R_below (rS HO365) hb); replace HO374 := Aside0.mk (Kd.R_below (rS HO374) hb); replace BK350 := kB (g := gb350) hb; replace BK371 := kB (g := gb371) hb; replace HB := hB hb; (try clear hb); (try clear hb2); (try clear hk); (try clear hi)))
        replace HO354 := Aside0.mk (Kd.R_drew HO354.out)
        replace HO362 := Aside0.mk (Kd.R_drew HO362.out)
        replace HO365 := Aside0.mk (Kd.R_drew HO365.out)
        replace HO374 := Aside0.mk (Kd.R_drew HO374.out)
        replace BK350 := Aside0.mk (blk_drew BK350.out)
        replace BK371 := Aside0.mk (blk_drew BK371.out)
        replace HB := Aside0.mk (below_drew1 HB.out)
        refine start_ (n := 5) (S := fun w' => w'.cell? ⟨gb371, 0, none⟩ = some (.slice Ao101 t363.length co101) ∧ w'.cell? ⟨gb371, 1, none⟩ = some (.int .i64 t366) ∧ w'.cell? ⟨gb371, 2, none⟩ = some (.int .i64 t367) ∧ w'.cell? ⟨gb371, 3, none⟩ = some (.int .i64 t368) ∧ w'.cell? ⟨gb371, 4, none⟩ = some (.int .i64 t369) ∧ w'.cell? ⟨gb371, 5, none⟩ = some (.int .i64 t370) ∧ w'.cell? ⟨gb350, 0, none⟩ = some (.slice A0_0 l0_0.length c0_0) ∧ w'.cell? ⟨gb350, 1, none⟩ = some (.int .i64 a0_1) ∧ w'.cell? ⟨gb350, 2, none⟩ = some (.int .i64 a0_2) ∧ w'.cell? ⟨gb350, 3, none⟩ = some (.int .i64 a0_3) ∧ w'.cell? ⟨gb350, 4, none⟩ = some (.int .i64 a0_4) ∧ w'.cell? ⟨gb350, 5, none⟩ = some (.int .i64 a0_5)) (ds := []) #[false, false, false, false, false] (by kernel_rfl) rfl rfl ⟨(blk_cell BK371.out 0).trans rfl, (blk_cell BK371.out 1).trans rfl, (blk_cell BK371.out 2).trans rfl, (blk_cell BK371.out 3).trans rfl, (blk_cell BK371.out 4).trans rfl, (blk_cell BK371.out 5).trans rfl, (blk_cell BK350.out 0).trans rfl, (blk_cell BK350.out 1).trans rfl, (blk_cell BK350.out 2).trans rfl, (blk_cell BK350.out 3).trans rfl, (blk_cell BK350.out 4).trans rfl, (blk_cell BK350.out 5).trans rfl⟩ (fun hHeld => ?_)
        generalize w107.drew = w108 at HO354 HO362 HO365 HO374 BK350 BK371 HB hHeld ⊢
        refine take_ (i := 0) (N := some 31) (v := ?_) (a' := ?_) #[true, false, false, false, false] rfl rfl (by kernel_rfl) (fun _ _ _ h => h) (Or.inl ⟨by rfl, ?_⟩) hHeld ?_ ?_
        rotate_left
        · rintro w' ⟨s0, s1, s2, s3, s4, s5, s6, s7, s8, s9, s10, s11⟩
          go_simp
          with_reducible rfl
        rotate_left
        · simp only [Act.put, List.setIfInBounds_toArray, List.set_cons_zero, List.set_cons_succ, i64_w, i32_w]
          rfl
        refine take_ (i := 1) (N := some 32) (v := ?_) (a' := ?_) #[true, true, false, false, false] rfl rfl (by kernel_rfl) (fun _ _ _ h => h) (Or.inl ⟨by rfl, ?_⟩) hHeld ?_ ?_
        rotate_left
        · rintro w' ⟨s0, s1, s2, s3, s4, s5, s6, s7, s8, s9, s10, s11⟩
          go_simp
          with_reducible rfl
        rotate_left
        · simp only [Act.put, List.setIfInBounds_toArray, List.set_cons_zero, List.set_cons_succ, i64_w, i32_w]
          rfl
        refine one_ (i := 2) (N := some 33) #[true, true, true, false, false] rfl rfl (by kernel_rfl) (by decide) (fun K hK => ?_)
        refine goes_ Try.func25 (by kernel_rfl) rfl #[.agg #[.slice A0_0 l0_0.length c0_0, .int .i64 a0_1, .int .i64 a0_2, .int .i64 a0_3, .int .i64 a0_4, .int .i64 a0_5]] (by rfl) rfl rfl (by (try simp only [List.map_toArray, List.map_cons, List.map_nil]); first | done | rfl | (simp only [List.length_drop, List.length_take]; rfl)) ?_
        with_reducible refine (laws_toObject.calls k _ _ l0_0 a0_1 a0_2 a0_3 a0_4 a0_5 t376 t379 t380 t381 t382 t383 _ ?side1 ?side2 A14.out).mono ?_
        (case side1 => exact cS (Kd.C_below HR0_0.out HB.out))
        (case side2 => exact HC0_0.out)
        rintro e w109 ⟨v377, rfl, ho0, hb⟩
        refine ⟨_, rfl, ?_⟩
        have HO378 := Aside0.mk (Kd.R_lower (Kd.R_new' (Kd.R_new' ho0 (Kd.R_lt (rS HO354))) (Kd.R_lt (rS HO365))) (below_size bS))
        replace HO354 := Aside0.mk (Kd.R_elder' (rS HO354) (Kd.R_base ho0) hb)
        replace HO362 := Aside0.mk (Kd.R_below (rS HO362) hb)
        replace HO365 := Aside0.mk (Kd.R_elder' (rS HO365) (Kd.R_base ho0) hb)
        replace HO374 := Aside0.mk (Kd.R_below (rS HO374) hb)
        replace BK350 := kB (g := gb350) hb
        replace BK371 := kB (g := gb371) hb
        replace HB := hB hb
        (try clear hb)
        (try clear hb2)
        (try clear hk)
        (try clear hi)
        (try clear ho0)
        obtain ⟨Ao110, co110, eo110⟩ := Kd.R_slice HO378.out
        (first | subst eo110 | (injection eo110 with f1_ f2_ f3_; have f4_ := f1_.symm; have f5_ := f3_.symm; clear f1_ f2_ f3_; subst f4_; subst f5_))
        refine hK.out _ _ ⟨(blk_cell BK371.out 0).trans rfl, (blk_cell BK371.out 1).trans rfl, (blk_cell BK371.out 2).trans rfl, (blk_cell BK371.out 3).trans rfl, (blk_cell BK371.out 4).trans rfl, (blk_cell BK371.out 5).trans rfl, (blk_cell BK350.out 0).trans rfl, (blk_cell BK350.out 1).trans rfl, (blk_cell BK350.out 2).trans rfl, (blk_cell BK350.out 3).trans rfl, (blk_cell BK350.out 4).trans rfl, (blk_cell BK350.out 5).trans rfl⟩ (fun hHeld => ?_)
        clear hK K
        refine norm_ (a' := ?_) ?_ ?_
        rotate_left
        · show Act.put _ (some 33) _ = _
          simp only [Act.put, List.setIfInBounds_toArray, List.set_cons_zero, List.set_cons_succ, i64_w, i32_w]
          rfl
        refine one_ (i := 3) (N := some 34) #[true, true, true, true, false] rfl rfl (by kernel_rfl) (by decide) (fun K hK => ?_)
        refine goes_ Try.func28 (by kernel_rfl) rfl #[.agg #[.slice Ao101 t363.length co101, .int .i64 t366, .int .i64 t367, .int .i64 t368, .int .i64 t369, .int .i64 t370], .agg #[.slice Ao110 t376.length co110, .int .i64 t379, .int .i64 t380, .int .i64 t381, .int .i64 t382, .int .i64 t383]] (by rfl) rfl rfl (by (try simp only [List.map_toArray, List.map_cons, List.map_nil]); first | done | rfl | (simp only [List.length_drop, List.length_take]; rfl)) ?_
        with_reducible refine (laws_eqObject.calls k _ _ t363 t366 t367 t368 t369 t370 _ _ t376 t379 t380 t381 t382 t383 false _ ?side1 ?side2 ?side3 ?side4 A15.out).mono ?_
        (case side1 => exact cS (Kd.R_reads' HO365.out).2.2)
        (case side2 => exact (Kd.R_reads' HO365.out).2.1)
        (case side3 => exact cS (Kd.R_reads' HO378.out).2.2)
        (case side4 => exact (Kd.R_reads' HO378.out).2.1)
        rintro e w111 ⟨rfl, hb⟩
        refine ⟨_, rfl, ?_⟩
        replace HO354 := Aside0.mk (Kd.R_below (rS HO354) hb)
        replace HO362 := Aside0.mk (Kd.R_below (rS HO362) hb)
        replace HO365 := Aside0.mk (Kd.R_below (rS HO365) hb)
        replace HO374 := Aside0.mk (Kd.R_below (rS HO374) hb)
        replace HO378 := Aside0.mk (Kd.R_below (rS HO378) hb)
        replace BK350 := kB (g := gb350) hb
        replace BK371 := kB (g := gb371) hb
        replace HB := hB hb
        (try clear hb)
        (try clear hb2)
        (try clear hk)
        (try clear hi)
        refine hK.out _ _ ⟨(blk_cell BK371.out 0).trans rfl, (blk_cell BK371.out 1).trans rfl, (blk_cell BK371.out 2).trans rfl, (blk_cell BK371.out 3).trans rfl, (blk_cell BK371.out 4).trans rfl, (blk_cell BK371.out 5).trans rfl, (blk_cell BK350.out 0).trans rfl, (blk_cell BK350.out 1).trans rfl, (blk_cell BK350.out 2).trans rfl, (blk_cell BK350.out 3).trans rfl, (blk_cell BK350.out 4).trans rfl, (blk_cell BK350.out 5).trans rfl⟩ (fun hHeld => ?_)
        clear hK K
        refine norm_ (a' := ?_) ?_ ?_
        rotate_left
        · show Act.put _ (some 34) _ = _
          simp only [Act.put, List.setIfInBounds_toArray, List.set_cons_zero, List.set_cons_succ, i64_w, i32_w]
          rfl
        refine pure_ (i := 4) (N := some 35) (v := ?_) (a' := ?_) #[true, true, true, true, true] rfl rfl (by kernel_rfl) (fun _ _ _ h => h) (Or.inl ⟨by rfl, ?_⟩) ?_ ?_
        rotate_left
        · intro w'
          go_simp
          with_reducible rfl
        rotate_left
        · simp only [Act.put, List.setIfInBounds_toArray, List.set_cons_zero, List.set_cons_succ, i64_w, i32_w]
          rfl
        refine done_ (by kernel_rfl) ?_
        try go_wp2
        go_ret
        exact ⟨eS, bS⟩
    · obtain rfl := Bool.eq_false_iff.mpr c13
      rw [if_neg nF] at H
      obtain rfl := Option.some.inj H
      go_enter Try.func4, Try.ntmps4
      go_wp2_with (first | ((with_reducible refine gD 2 ?_); refine bxE #[.slice A0_0 l0_0.length c0_0, .int .i64 a0_1, .int .i64 a0_2, .int .i64 a0_3, .int .i64 a0_4, .int .i64 a0_5] 38 ?_; intro gb350 hg w112 BK350 hb; have GW350 := gE hg; have GE350 := gE hg; replace HB := hB hb; clear hb hg; have hz113 := cz6 BK350) | ((with_reducible refine gC 23 ?_); refine cL (some 15) Try.func23 #[.agg #[.slice A0_0 l0_0.length c0_0, .int .i64 a0_1, .int .i64 a0_2, .int .i64 a0_3, .int .i64 a0_4, .int .i64 a0_5], .int .i64 1048576] ?_; (with_reducible refine (laws_szObject.calls _ _ l0_0 a0_1 a0_2 a0_3 a0_4 a0_5 1048576 t351 _ ?side1 ?side2 A3.out).mono ?_); (case side1 => exact cS (Kd.C_below HR0_0.out HB.out)); (case side2 => exact HC0_0.out); rintro e w114 ⟨rfl, hb⟩; refine ⟨_, rfl, ?_⟩; replace BK350 := kB (g := gb350) hb; replace HB := hB hb; (try clear hb); (try clear hb2); (try clear hk); (try clear hi); have hz115 := cz6 BK350) | ((with_reducible refine gC 25 ?_); refine cL (some 19) Try.func25 #[.agg #[.slice A0_0 l0_0.length c0_0, .int .i64 a0_1, .int .i64 a0_2, .int .i64 a0_3, .int .i64 a0_4, .int .i64 a0_5]] ?_; (with_reducible refine (laws_toObject.calls k _ _ l0_0 a0_1 a0_2 a0_3 a0_4 a0_5 t352 t355 t356 t357 t358 t359 _ ?side1 ?side2 A8.out).mono ?_); (case side1 => exact cS (Kd.C_below HR0_0.out HB.out)); (case side2 => exact HC0_0.out); rintro e w116 ⟨v353, rfl, ho0, hb⟩; refine ⟨_, rfl, ?_⟩; have HO354 := Aside0.mk (Kd.R_lower ho0 (below_size bS)); replace BK350 := kB (g := gb350) hb; replace HB := hB hb; (try clear hb); (try clear hb2); (try clear hk); (try clear hi); (try clear ho0); obtain ⟨Ao117, co117, eo117⟩ := Kd.R_slice HO354.out; subst eo117) | ((with_reducible refine gC 24 ?_); refine cL (some 21) Try.func24 #[.agg #[.slice Ao117 t352.length co117, .int .i64 t355, .int .i64 t356, .int .i64 t357, .int .i64 t358, .int .i64 t359], .int .i64 a1] ?_; (with_reducible refine (spec_ObjectRow.calls k _ _ t352 t355 t356 t357 t358 t359 a1 t360 _ ?side1 ?side2 A9.out).mono ?_); (case side1 => exact cS (Kd.R_reads' HO354.out).2.2); (case side2 => exact (Kd.R_reads' HO354.out).2.1); rintro e w118 ⟨v361, rfl, ho0, hb⟩; refine ⟨_, rfl, ?_⟩; have HO362 := Aside0.mk (Kd.R_lower ho0 (below_size bS)); replace HO354 := Aside0.mk (Kd.R_below (rS HO354) hb); replace BK350 := kB (g := gb350) hb; replace HB := hB hb; (try clear hb); (try clear hb2); (try clear hk); (try clear hi); (try clear ho0); have hz119 := cz6 BK350) | ((with_reducible refine gC 25 ?_); refine cL (some 23) Try.func25 #[.agg #[.slice A0_0 l0_0.length c0_0, .int .i64 a0_1, .int .i64 a0_2, .int .i64 a0_3, .int .i64 a0_4, .int .i64 a0_5]] ?_; (with_reducible refine (laws_toObject.calls k _ _ l0_0 a0_1 a0_2 a0_3 a0_4 a0_5 t363 t366 t367 t368 t369 t370 _ ?side1 ?side2 A10.out).mono ?_); (case side1 => exact cS (Kd.C_below HR0_0.out HB.out)); (case side2 => exact HC0_0.out); rintro e w120 ⟨v364, rfl, ho0, hb⟩; refine ⟨_, rfl, ?_⟩; have HO365 := Aside0.mk (Kd.R_lower (Kd.R_new' ho0 (Kd.R_lt (rS HO354))) (below_size bS)); replace HO354 := Aside0.mk (Kd.R_elder' (rS HO354) (Kd.R_base ho0) hb); replace HO362 := Aside0.mk (Kd.R_below (rS HO362) hb); replace BK350 := kB (g := gb350) hb; replace HB := hB hb; (try clear hb); (try clear hb2); (try clear hk); (try clear hi); (try clear ho0)) | ((with_reducible refine gD 7 ?_); refine bxE #[.slice none 0 0, .int .i64 0, .int .i64 0, .int .i64 0, .int .i64 0, .int .i64 0] 45 ?_; intro gb371 hg w121 BK371 hb; have GW371 := gE hg; have GE371 := gE hg; have NB350_371 := nL (g := gb350) hg; have NB371_350 := nG (g := gb350) hg; replace HO354 := Aside0.mk (Kd.R_below (rS HO354) hb); replace HO362 := Aside0.mk (Kd.R_below (rS HO362) hb); replace HO365 := Aside0.mk (Kd.R_below (rS HO365) hb); replace BK350 := kB (g := gb350) hb; replace HB := hB hb; clear hb hg; obtain ⟨Ao122, co122, eo122⟩ := Kd.R_slice HO365.out; subst eo122; have hnb123 := NB371_350.out; have hnc123 := NB350_371.out; have hz124 := cz6 BK371) | ((with_reducible refine gC 26 ?_); refine cL (some 26) Try.func26 #[.agg #[.slice Ao122 t363.length co122, .int .i64 t366, .int .i64 t367, .int .i64 t368, .int .i64 t369, .int .i64 t370], .int .i64 a1] ?_; (with_reducible refine (impl_ObjectRow.calls k _ _ t363 t366 t367 t368 t369 t370 a1 t372 _ ?side1 ?side2 A11.out).mono ?_); (case side1 => refine (Kd.R_reads' (e := 171) (base := w.heap.size) (ok := fun k_ => (True ∧ some k_ ≠ (.slice Ao117 t352.length co117 : Value).ownBlock)) (n := t363.length) (c := co122) ?_).2.2; exact (by (with_reducible repeat (first | apply Kd.R_alloc | apply Kd.R_drewN | apply Kd.R_drew)); exact (Kd.R_mono (Kd.R_far (p := ⟨gb371, 5, none⟩) (Kd.R_far (p := ⟨gb371, 4, none⟩) (Kd.R_far (p := ⟨gb371, 3, none⟩) (Kd.R_far (p := ⟨gb371, 2, none⟩) (Kd.R_far (p := ⟨gb371, 1, none⟩) (Kd.R_far (p := ⟨gb371, 0, none⟩) (Kd.R_types HO365.out BK371.out (by decide)) (fun _ hk => hk.2) (.slice Ao122 t363.length co122)) (fun _ hk => hk.2) (.int .i64 t366)) (fun _ hk => hk.2) (.int .i64 t367)) (fun _ hk => hk.2) (.int .i64 t368)) (fun _ hk => hk.2) (.int .i64 t369)) (fun _ hk => hk.2) (.int .i64 t370)) (fun _ h_ => h_.1)))); (case side2 => exact (Kd.R_reads' HO365.out).2.1); rintro e w125 ⟨v373, rfl, ho0, hb⟩; refine ⟨_, rfl, ?_⟩; have HO374 := Aside0.mk (Kd.R_lower (Kd.R_new' ho0 (Kd.R_lt (by (with_reducible repeat (first | apply Kd.R_alloc | apply Kd.R_drewN | apply Kd.R_drew)); exact (Kd.R_mono (Kd.R_far (p := ⟨gb371, 5, none⟩) (Kd.R_far (p := ⟨gb371, 4, none⟩) (Kd.R_far (p := ⟨gb371, 3, none⟩) (Kd.R_far (p := ⟨gb371, 2, none⟩) (Kd.R_far (p := ⟨gb371, 1, none⟩) (Kd.R_far (p := ⟨gb371, 0, none⟩) (Kd.R_types HO362.out BK371.out (by decide)) (fun _ hk => hk.2) (.slice Ao122 t363.length co122)) (fun _ hk => hk.2) (.int .i64 t366)) (fun _ hk => hk.2) (.int .i64 t367)) (fun _ hk => hk.2) (.int .i64 t368)) (fun _ hk => hk.2) (.int .i64 t369)) (fun _ hk => hk.2) (.int .i64 t370)) (fun _ h_ => h_.1))))) (below_size bS)); replace HO354 := Aside0.mk (Kd.R_below (by (with_reducible repeat (first | apply Kd.R_alloc | apply Kd.R_drewN | apply Kd.R_drew)); exact (Kd.R_mono (Kd.R_far (p := ⟨gb371, 5, none⟩) (Kd.R_far (p := ⟨gb371, 4, none⟩) (Kd.R_far (p := ⟨gb371, 3, none⟩) (Kd.R_far (p := ⟨gb371, 2, none⟩) (Kd.R_far (p := ⟨gb371, 1, none⟩) (Kd.R_far (p := ⟨gb371, 0, none⟩) (Kd.R_types HO354.out BK371.out (by decide)) (fun _ hk => hk.2) (.slice Ao122 t363.length co122)) (fun _ hk => hk.2) (.int .i64 t366)) (fun _ hk => hk.2) (.int .i64 t367)) (fun _ hk => hk.2) (.int .i64 t368)) (fun _ hk => hk.2) (.int .i64 t369)) (fun _ hk => hk.2) (.int .i64 t370)) (fun _ h_ => h_.1))) hb); replace HO362 := Aside0.mk (Kd.R_elder' (by (with_reducible repeat (first | apply Kd.R_alloc | apply Kd.R_drewN | apply Kd.R_drew)); exact (Kd.R_mono (Kd.R_far (p := ⟨gb371, 5, none⟩) (Kd.R_far (p := ⟨gb371, 4, none⟩) (Kd.R_far (p := ⟨gb371, 3, none⟩) (Kd.R_far (p := ⟨gb371, 2, none⟩) (Kd.R_far (p := ⟨gb371, 1, none⟩) (Kd.R_far (p := ⟨gb371, 0, none⟩) (Kd.R_types HO362.out BK371.out (by decide)) (fun _ hk => hk.2) (.slice Ao122 t363.length co122)) (fun _ hk => hk.2) (.int .i64 t366)) (fun _ hk => hk.2) (.int .i64 t367)) (fun _ hk => hk.2) (.int .i64 t368)) (fun _ hk => hk.2) (.int .i64 t369)) (fun _ hk => hk.2) (.int .i64 t370)) (fun _ h_ => h_.1))) (Kd.R_base ho0) hb); replace HO365 := Aside0.mk (Kd.R_below (by (with_reducible repeat (first | apply Kd.R_alloc | apply Kd.R_drewN | apply Kd.R_drew)); exact (Kd.R_mono (Kd.R_far (p := ⟨gb371, 5, none⟩) (Kd.R_far (p := ⟨gb371, 4, none⟩) (Kd.R_far (p := ⟨gb371, 3, none⟩) (Kd.R_far (p := ⟨gb371, 2, none⟩) (Kd.R_far (p := ⟨gb371, 1, none⟩) (Kd.R_far (p := ⟨gb371, 0, none⟩) (Kd.R_types HO365.out BK371.out (by decide)) (fun _ hk => hk.2) (.slice Ao122 t363.length co122)) (fun _ hk => hk.2) (.int .i64 t366)) (fun _ hk => hk.2) (.int .i64 t367)) (fun _ hk => hk.2) (.int .i64 t368)) (fun _ hk => hk.2) (.int .i64 t369)) (fun _ hk => hk.2) (.int .i64 t370)) (fun _ h_ => h_.1))) hb); replace BK350 := kB (g := gb350) hb; replace BK371 := Aside0.mk (blk_below (g := gb371) (o := .cells #[.slice Ao122 t363.length co122, .int .i64 t366, .int .i64 t367, .int .i64 t368, .int .i64 t369, .int .i64 t370] 45 (0, 0)) kS hb); replace HB := hB hb; (try clear hb); (try clear hb2); (try clear hk); (try clear hi); (try clear ho0); obtain ⟨Ao126, co126, eo126⟩ := Kd.R_slice HO374.out; subst eo126; obtain ⟨Ao127, co127, eo127⟩ := Kd.R_slice HO362.out; subst eo127) | ((with_reducible refine gC 27 ?_); refine cL (some 29) Try.func27 #[.slice Ao126 t372.length co126, .slice Ao127 t360.length co127] ?_; (with_reducible refine (laws_eqSpanS.calls k _ _ t372 _ _ t360 false _ ?side1 ?side2 ?side3 ?side4 A12.out).mono ?_); (case side1 => exact cS (Kd.R_reads' HO374.out).2.2); (case side2 => exact (Kd.R_reads' HO374.out).2.1); (case side3 => exact cS (Kd.R_reads' HO362.out).2.2); (case side4 => exact (Kd.R_reads' HO362.out).2.1); rintro e w128 ⟨rfl, hb⟩; refine ⟨_, rfl, ?_⟩; replace HO354 := Aside0.mk (Kd.R_below (rS HO354) hb); replace HO362 := Aside0.mk (Kd.R_below (rS HO362) hb); replace HO365 := Aside0.mk (Kd.R_below (rS HO365) hb); replace HO374 := Aside0.mk (Kd.R_below (rS HO374) hb); replace BK350 := kB (g := gb350) hb; replace BK371 := kB (g := gb371) hb; replace HB := hB hb; (try clear hb); (try clear hb2); (try clear hk); (try clear hi)))
      go_ret
      exact ⟨eS, bS⟩

end Go.Proofs.Ytigodjcnkgebaaa.QFnExactObjectRow
