-- Made out of the translation by a program of this session (a changed copy of the print). Not trusted: Lean checks it.
import Derived.Test.YtigodjcnkgebaaaQFnMemoryx0
import Derived.Test.YtigodjcnkgebaaaQFnMemoryx1
import Derived.Test.YtigodjcnkgebaaaQFnMemoryx2
import Derived.Test.YtigodjcnkgebaaaQFnMemoryx3
import Derived.Test.YtigodjcnkgebaaaQFnMemoryx4
import Derived.Test.YtigodjcnkgebaaaQFnMemoryx6
import Derived.Test.YtigodjcnkgebaaaQFnMemoryx8
import Derived.Test.YtigodjcnkgebaaaQFnMemoryx9
namespace Go.Proofs.Ytigodjcnkgebaaa.QFnMemory
open Go.RowKit Go.Proofs.YtigodjcnkgebaaaW.PrintWords Go.Proofs.YtigodjcnkgebaaaW.PrintLast Go.Proofs.YtigodjcnkgebaaaW.PrintMore
attribute [local go_sem] max2_int min2_int max_two min_two max_three min_three max_four min_four   -- for this text's walks alone
set_option linter.unusedVariables false
set_option linter.unusedSimpArgs false
set_option maxHeartbeats 8000000
set_option maxRecDepth 100000

/-! ### impl_MergeBand: function 62 -/
def impl_MergeBand.l0 : Nat → List (S45) → Int → Int → Int → Int → List (List Int) → List (S45) → Option (Int × Int × (List (List Int)) × (List (S45)))
 | 0, _, _, _, _, _, _, _ => none
 | k + 1, x13, x14, x15, x487000, x487001, x487002, x487003 => if x15 < x14 then (if 0 ≤ x15 then (if x15 < (x13.length : Int) then ((impl_paint.f k x487002 (wrap64 (x487000 * x487001)) ((rd_T45 x13 x15).f0) ((rd_T45 x13 x15).f1) ((rd_T45 x13 x15).f2.f0) ((rd_T45 x13 x15).f2.f1) ((rd_T45 x13 x15).f2.f2) ((rd_T45 x13 x15).f2.f3)).bind fun t490 => (impl_MergeBand.l0 k x13 x14 (wrap64 (x15 + 1)) x487000 x487001 t490 x487003)) else (none)) else (none)) else (some (x487000, x487001, x487002, ([] : List (S45))))
def impl_MergeBand.f (k : Nat) (a0_0 : Int) (a0_1 : Int) (l0_2 : List (List Int)) (l0_3 : List (S45)) : Option (Int × Int × (List (List Int)) × (List (S45))) := (impl_copyBand.f k a0_0 a0_1 l0_2 l0_3).bind fun bt478 => ((impl_BandOk.f k a0_0 a0_1 l0_2 l0_3).bind fun t487 => (if t487 = true then (impl_MergeBand.l0 k bt478.2.2.2 (bt478.2.2.2.length : Int) 0 bt478.1 bt478.2.1 bt478.2.2.1 bt478.2.2.2) else (some (bt478.1, bt478.2.1, bt478.2.2.1, bt478.2.2.2))))
theorem impl_MergeBand.calls (k : Nat) (a0_0 : Int) (a0_1 : Int) (A0_2 : Option Addr) (c0_2 : Nat) (l0_2 : List (List Int)) (A0_3 : Option Addr) (c0_3 : Nat) (l0_3 : List (S45)) (r1 : Int) (r2 : Int) (r3 : List (List Int)) (r4 : List (S45)) (w : World) (hr0_2 : Kd.C (Kd.slice 3 (Kd.int .i64)) w A0_2 l0_2.length l0_2) (hc0_2 : l0_2.length ≤ c0_2) (hr0_3 : Kd.C k45 w A0_3 l0_3.length l0_3) (hc0_3 : l0_3.length ≤ c0_3) (h : impl_MergeBand.f k a0_0 a0_1 l0_2 l0_3 = some (r1, r2, r3, r4)) :
  Calls Try.prog 62 #[.agg #[.int .i64 a0_0, .int .i64 a0_1, .slice A0_2 l0_2.length c0_2, .slice A0_3 l0_3.length c0_3]] w fun e w' => ∃ v2_ v3_ : Value, e = .returned (.agg #[.int .i64 r1, .int .i64 r2, v2_, v3_]) ∧ Kd.S (Kd.slice 3 (Kd.int .i64)) 71 w' w.heap.size (fun _ => True) v2_ r3 ∧ Kd.S k45 45 w' w.heap.size (fun _ => True) v3_ r4 ∧ Below w.heap.size w w' := by
 have hu58 := Try.underlying58
 have hu45 := Try.underlying45
 have HR0_2 := Aside0.mk hr0_2
 have HC0_2 := Aside0.mk hc0_2
 clear hr0_2 hc0_2
 have HR0_3 := Aside0.mk hr0_3
 have HC0_3 := Aside0.mk hc0_3
 clear hr0_3 hc0_3
 have HB := Aside0.mk (Below.refl w.heap.size w)
 have H : ((impl_copyBand.f k a0_0 a0_1 l0_2 l0_3).bind fun bt478 => ((impl_BandOk.f k a0_0 a0_1 l0_2 l0_3).bind fun t487 => (if t487 = true then (impl_MergeBand.l0 k bt478.2.2.2 (bt478.2.2.2.length : Int) 0 bt478.1 bt478.2.1 bt478.2.2.1 bt478.2.2.2) else (some (bt478.1, bt478.2.1, bt478.2.2.1, bt478.2.2.2))))) = some (r1, r2, r3, r4) := h
 clear h
 replace H := bN H
 obtain ⟨⟨t478, t479, t480, t483⟩, A2, H⟩ := H
 replace H := bN H
 obtain ⟨t487, A3, H⟩ := H
 by_cases c4 : t487 = true
 ·subst c4
  rw [if_pos rfl] at H
  have H' := Aside0.mk H
  clear H
  go_enter Try.func62, Try.ntmps62
  go_wp2_with (first | ((with_reducible refine gD 1 ?_); refine bxE #[.int .i64 a0_0, .int .i64 a0_1, .slice A0_2 l0_2.length c0_2, .slice A0_3 l0_3.length c0_3] 58 ?_; intro gb476 hg w5 BK476 hb; have GW476 := gE hg; have GE476 := gE hg; replace HB := hB hb; clear hb hg) | ((with_reducible refine gD 2 ?_); refine bxE #[.int .i64 0, .int .i64 0, .slice none 0 0, .slice none 0 0] 58 ?_; intro gb477 hg w6 BK477 hb; have GW477 := gE hg; have GE477 := gE hg; have NB476_477 := nL (g := gb476) hg; have NB477_476 := nG (g := gb476) hg; replace BK476 := kB (g := gb476) hb; replace HB := hB hb; clear hb hg; have hnb7 := NB476_477.out; have hnc7 := NB477_476.out; have hcz8_0 : w6.cell? ⟨gb476, 0, none⟩ = some (.int .i64 a0_0) := (blk_cell BK476.out 0).trans rfl; have hcz8_1 : w6.cell? ⟨gb476, 1, none⟩ = some (.int .i64 a0_1) := (blk_cell BK476.out 1).trans rfl; have hcz8_2 : w6.cell? ⟨gb476, 2, none⟩ = some (.slice A0_2 l0_2.length c0_2) := (blk_cell BK476.out 2).trans rfl; have hcz8_3 : w6.cell? ⟨gb476, 3, none⟩ = some (.slice A0_3 l0_3.length c0_3) := (blk_cell BK476.out 3).trans rfl; have hfz8_0 := blk_frozen BK476.out 0; have hfz8_1 := blk_frozen BK476.out 1; have hfz8_2 := blk_frozen BK476.out 2; have hfz8_3 := blk_frozen BK476.out 3) | ((with_reducible refine gC 133 ?_); refine cL (some 7) Try.func133 #[.agg #[.int .i64 a0_0, .int .i64 a0_1, .slice A0_2 l0_2.length c0_2, .slice A0_3 l0_3.length c0_3]] ?_; (with_reducible refine (impl_copyBand.calls k a0_0 a0_1 _ _ l0_2 _ _ l0_3 t478 t479 t480 t483 _ ?side1 ?side2 ?side3 ?side4 A2.out).mono ?_); (case side1 => exact cS (Kd.C_below HR0_2.out HB.out)); (case side2 => exact HC0_2.out); (case side3 => exact cS (Kd.C_below HR0_3.out HB.out)); (case side4 => exact HC0_3.out); rintro e w9 ⟨v481, v484, rfl, ho0, ho1, hb⟩; refine ⟨_, rfl, ?_⟩; have HO482 := Aside0.mk (Kd.S_lower ho0 (below_size bS)); have HO485 := Aside0.mk (Kd.S_lower ho1 (below_size bS)); replace BK476 := kB (g := gb476) hb; replace BK477 := kB (g := gb477) hb; replace HB := hB hb; (try clear hb); (try clear hb2); (try clear hk); (try clear hi); (try clear ho0); (try clear ho1)) | ((with_reducible refine gD 3 ?_); refine bxE #[.int .i64 0, .int .i64 0, .slice none 0 0, .slice none 0 0] 58 ?_; intro gb486 hg w10 BK486 hb; have GW486 := gE hg; have GE486 := gE hg; have NB476_486 := nL (g := gb476) hg; have NB486_476 := nG (g := gb476) hg; have NB477_486 := nL (g := gb477) hg; have NB486_477 := nG (g := gb477) hg; replace HO482 := Aside0.mk (Kd.S_below (by (with_reducible repeat (first | apply Kd.S_alloc | apply Kd.S_drewN | apply Kd.S_drew)); exact HO482.out) hb); replace HO485 := Aside0.mk (Kd.S_below (by (with_reducible repeat (first | apply Kd.S_alloc | apply Kd.S_drewN | apply Kd.S_drew)); exact HO485.out) hb); replace BK476 := kB (g := gb476) hb; replace BK477 := kB (g := gb477) hb; replace HB := hB hb; clear hb hg; have hnb11 := NB486_476.out; have hnc11 := NB476_486.out; have hnb12 := NB486_477.out; have hnc12 := NB477_486.out; have hcz13_0 : w10.cell? ⟨gb486, 0, none⟩ = some (.int .i64 0) := (blk_cell BK486.out 0).trans rfl; have hcz13_1 : w10.cell? ⟨gb486, 1, none⟩ = some (.int .i64 0) := (blk_cell BK486.out 1).trans rfl; have hcz13_2 : w10.cell? ⟨gb486, 2, none⟩ = some (.slice none 0 0) := (blk_cell BK486.out 2).trans rfl; have hcz13_3 : w10.cell? ⟨gb486, 3, none⟩ = some (.slice none 0 0) := (blk_cell BK486.out 3).trans rfl; have hfz13_0 := blk_frozen BK486.out 0; have hfz13_1 := blk_frozen BK486.out 1; have hfz13_2 := blk_frozen BK486.out 2; have hfz13_3 := blk_frozen BK486.out 3; obtain ⟨Ao14, co14, eo14⟩ := Kd.S_slice HO482.out; subst eo14; obtain ⟨Ao15, co15, eo15⟩ := Kd.S_slice HO485.out; subst eo15; have hcz16_0 : w10.cell? ⟨gb476, 0, none⟩ = some (.int .i64 a0_0) := (blk_cell BK476.out 0).trans rfl; have hcz16_1 : w10.cell? ⟨gb476, 1, none⟩ = some (.int .i64 a0_1) := (blk_cell BK476.out 1).trans rfl; have hcz16_2 : w10.cell? ⟨gb476, 2, none⟩ = some (.slice A0_2 l0_2.length c0_2) := (blk_cell BK476.out 2).trans rfl; have hcz16_3 : w10.cell? ⟨gb476, 3, none⟩ = some (.slice A0_3 l0_3.length c0_3) := (blk_cell BK476.out 3).trans rfl; have hfz16_0 := blk_frozen BK476.out 0; have hfz16_1 := blk_frozen BK476.out 1; have hfz16_2 := blk_frozen BK476.out 2; have hfz16_3 := blk_frozen BK476.out 3) | ((with_reducible refine gC 35 ?_); refine cL (some 9) Try.func35 #[.agg #[.int .i64 a0_0, .int .i64 a0_1, .slice A0_2 l0_2.length c0_2, .slice A0_3 l0_3.length c0_3]] ?_; (with_reducible refine (impl_BandOk.calls k a0_0 a0_1 _ _ l0_2 _ _ l0_3 _ _ ?side1 ?side2 ?side3 ?side4 A3.out).mono ?_); (case side1 => exact Kd.C_below HR0_2.out bS); (case side2 => exact HC0_2.out); (case side3 => exact Kd.C_below HR0_3.out bS); (case side4 => exact HC0_3.out); rintro e w17 ⟨rfl, hb⟩; refine ⟨_, rfl, ?_⟩; replace HO482 := Aside0.mk (Kd.S_below (by (with_reducible repeat (first | apply Kd.S_alloc | apply Kd.S_drewN | apply Kd.S_drew)); exact (Kd.S_mono (Kd.S_far (p := ⟨gb486, 3, none⟩) (Kd.S_far (p := ⟨gb486, 2, none⟩) (Kd.S_far (p := ⟨gb486, 1, none⟩) (Kd.S_far (p := ⟨gb486, 0, none⟩) (Kd.S_types HO482.out BK486.out (by decide)) (fun _ hk => hk.2) (.int .i64 t478)) (fun _ hk => hk.2) (.int .i64 t479)) (fun _ hk => hk.2) (.slice Ao14 t480.length co14)) (fun _ hk => hk.2) (.slice Ao15 t483.length co15)) (fun _ h_ => h_.1))) hb); replace HO485 := Aside0.mk (Kd.S_below (by (with_reducible repeat (first | apply Kd.S_alloc | apply Kd.S_drewN | apply Kd.S_drew)); exact (Kd.S_mono (Kd.S_far (p := ⟨gb486, 3, none⟩) (Kd.S_far (p := ⟨gb486, 2, none⟩) (Kd.S_far (p := ⟨gb486, 1, none⟩) (Kd.S_far (p := ⟨gb486, 0, none⟩) (Kd.S_types HO485.out BK486.out (by decide)) (fun _ hk => hk.2) (.int .i64 t478)) (fun _ hk => hk.2) (.int .i64 t479)) (fun _ hk => hk.2) (.slice Ao14 t480.length co14)) (fun _ hk => hk.2) (.slice Ao15 t483.length co15)) (fun _ h_ => h_.1))) hb); replace BK476 := kB (g := gb476) hb; replace BK477 := kB (g := gb477) hb; replace BK486 := Aside0.mk (blk_below (g := gb486) (o := .cells #[.int .i64 t478, .int .i64 t479, .slice Ao14 t480.length co14, .slice Ao15 t483.length co15] 58 (0, 0)) kS hb); replace HB := hB hb; (try clear hb); (try clear hb2); (try clear hk); (try clear hi); have hcz18_0 : w17.cell? ⟨gb486, 0, none⟩ = some (.int .i64 t478) := (blk_cell BK486.out 0).trans rfl; have hcz18_1 : w17.cell? ⟨gb486, 1, none⟩ = some (.int .i64 t479) := (blk_cell BK486.out 1).trans rfl; have hcz18_2 : w17.cell? ⟨gb486, 2, none⟩ = some (.slice Ao14 t480.length co14) := (blk_cell BK486.out 2).trans rfl; have hcz18_3 : w17.cell? ⟨gb486, 3, none⟩ = some (.slice Ao15 t483.length co15) := (blk_cell BK486.out 3).trans rfl; have hfz18_0 := blk_frozen BK486.out 0; have hfz18_1 := blk_frozen BK486.out 1; have hfz18_2 := blk_frozen BK486.out 2; have hfz18_3 := blk_frozen BK486.out 3))
  go_loopg [15] k (fun kq v15 w' => ∃ (x15_1 : Int) (x487002_1 : List (List Int)) (u487002 : Value), v15 = .int .i64 x15_1 ∧ Aside0 (impl_MergeBand.l0 kq t483 (t483.length : Int) x15_1 t478 t479 x487002_1 t483 = some (r1, r2, r3, r4)) ∧ Aside0 (kq ≤ k) ∧ Aside0 (Kd.S k45 45 w' w.heap.size (fun _ => True) (.slice Ao15 t483.length co15) t483) ∧ Aside0 (Kd.S (Kd.slice 3 (Kd.int .i64)) 71 w' w.heap.size (fun _ => True) u487002 x487002_1) ∧ Aside0 (Kd.S k45 45 w' w.heap.size (fun _ => True) (.slice Ao15 t483.length co15) t483) ∧ Aside0 (w'.heap[gb476]? = some (.cells #[.int .i64 a0_0, .int .i64 a0_1, (.slice A0_2 l0_2.length c0_2), (.slice A0_3 l0_3.length c0_3)] 58 (0, 0))) ∧ Aside0 (w'.heap[gb477]? = some (.cells #[.int .i64 0, .int .i64 0, (.slice none 0 0), (.slice none 0 0)] 58 (0, 0))) ∧ Aside0 (w'.heap[gb486]? = some (.cells #[.int .i64 t478, .int .i64 t479, u487002, (.slice Ao15 t483.length co15)] 58 (0, 0))) ∧ Aside0 (Below w.heap.size w w'))
  case atStart => exact ⟨(0), (t480), (.slice Ao14 t480.length co14), (by first | rfl | (simp; done) | (simp [*]; done)), H', ⟨Nat.le_refl _⟩, ⟨by (with_reducible repeat (first | apply Kd.S_alloc | apply Kd.S_drewN | apply Kd.S_drew)); exact HO485.out⟩, ⟨by (with_reducible repeat (first | apply Kd.S_alloc | apply Kd.S_drewN | apply Kd.S_drew)); exact HO482.out⟩, ⟨by (with_reducible repeat (first | apply Kd.S_alloc | apply Kd.S_drewN | apply Kd.S_drew)); exact HO485.out⟩, ⟨kS⟩, ⟨kS⟩, ⟨kS⟩, ⟨bS⟩⟩
  case round =>
   clear H'
   try clear c1
   try clear p2
   try clear c3
   try clear c4
   try clear c6
   try clear c7
   try clear c11
   try clear c12
   try clear c13
   try clear hcz13_0
   try clear hcz13_1
   try clear hcz13_2
   try clear hcz13_3
   try clear hcz16_0
   try clear hcz16_1
   try clear hcz16_2
   try clear hcz16_3
   try clear hcz18_0
   try clear hcz18_1
   try clear hcz18_2
   try clear hcz18_3
   try clear hcz8_0
   try clear hcz8_1
   try clear hcz8_2
   try clear hcz8_3
   try clear hfz13_0
   try clear hfz13_1
   try clear hfz13_2
   try clear hfz13_3
   try clear hfz16_0
   try clear hfz16_1
   try clear hfz16_2
   try clear hfz16_3
   try clear hfz18_0
   try clear hfz18_1
   try clear hfz18_2
   try clear hfz18_3
   try clear hfz8_0
   try clear hfz8_1
   try clear hfz8_2
   try clear hfz8_3
   obtain ⟨x15_1, x487002_1, u487002, rfl, HA, HK1, HO_13, HO_487002, HO_487003, BK476, BK477, BK486, HB⟩ := hrel
   cases gk with
   | zero => exact absurd HA.out (by simp [impl_MergeBand.l0])
   | succ k1 =>
    have H := HA.out
    clear HA
    simp only [impl_MergeBand.l0] at H
    by_cases c19 : x15_1 < (t483.length : Int)
    ·rw [if_pos c19] at H
     have c19b0 : decide (x15_1 < (t483.length : Int)) = true := decide_eq_true c19
     clear c19
     by_cases c20 : 0 ≤ x15_1
     ·rw [if_pos c20] at H
      have c20b0 : decide (0 ≤ x15_1) = true := decide_eq_true c20
      clear c20
      by_cases c21 : x15_1 < (t483.length : Int)
      ·rw [if_pos c21] at H
       have c21b0 : decide (x15_1 < (t483.length : Int)) = true := decide_eq_true c21
       clear c21
       replace H := bN H
       obtain ⟨t490, A22, H⟩ := H
       have H' := Aside0.mk H
       clear H
       have p488 : 0 ≤ (x15_1 : Int) := of_decide_eq_true (by first | (with_reducible assumption) | assumption)
       have q488 : x15_1 < (t483.length : Int) := of_decide_eq_true (by first | (with_reducible assumption) | assumption)
       obtain ⟨ad488, A488_0, c488_0, e488, hx488_0, hx488_1, hx488_2, hx488_3, hx488_4, hx488_5, hl488_0, hi488_0⟩ := at_T45 (Kd.S_reads' HO_13.out).2.2 x15_1 p488 q488
       cases e488
       obtain ⟨ce488, hce488, hMe488, hcc488⟩ := Kd.S_get HO_13.out z45 x15_1 p488 (by first | exact q488 | exact of_decide_eq_true (by first | (with_reducible assumption) | assumption) | (have e_ := (Kd.S_reads' HO_13.out).1; omega))
       obtain ⟨ve488_0, rfl, ge488_0⟩ := k45_openM hMe488
       have hv488_0 := hcc488 0 _ rfl
       rw [Nat.add_zero] at hv488_0
       replace hv488_0 := Option.some.inj (hv488_0.symm.trans hx488_0)
       rw [hv488_0] at ge488_0
       have HL488_0 := Aside0.mk (show Kd.R k171 171 _ _ _ _ ((rd_T45 t483 x15_1).f0) from ge488_0)
       clear hv488_0 ge488_0
       clear hcc488 hce488
       have HR488_0 := Aside0.mk hi488_0
       have HC488_0 := Aside0.mk hl488_0
       clear hi488_0 hl488_0
       replace p488 := eq_true p488
       replace q488 := eq_true q488
       go_wp2_with (first | ((with_reducible refine gD 5 ?_); refine bxE #[.slice none 0 0, .int .i64 0, .int .i64 0, .int .i64 0, .int .i64 0, .int .i64 0] 45 ?_; intro gb489 hg w23 BK489 hb; have GW489 := gE hg; have GE489 := gE hg; have NB476_489 := nL (g := gb476) hg; have NB489_476 := nG (g := gb476) hg; have NB477_489 := nL (g := gb477) hg; have NB489_477 := nG (g := gb477) hg; have NB486_489 := nL (g := gb486) hg; have NB489_486 := nG (g := gb486) hg; replace HO_13 := Aside0.mk (Kd.S_below (Kd.S_elderB (by (with_reducible repeat (first | apply Kd.S_alloc | apply Kd.S_drewN | apply Kd.S_drew)); exact HO_13.out) gb489 (Nat.le_of_eq hg.symm)) hb); replace HO_487002 := Aside0.mk (Kd.S_below (by (with_reducible repeat (first | apply Kd.S_alloc | apply Kd.S_drewN | apply Kd.S_drew)); exact HO_487002.out) hb); replace HO_487003 := Aside0.mk (Kd.S_below (Kd.S_elderB (by (with_reducible repeat (first | apply Kd.S_alloc | apply Kd.S_drewN | apply Kd.S_drew)); exact HO_487003.out) gb489 (Nat.le_of_eq hg.symm)) hb); replace HL488_0 := Aside0.mk (Kd.R_below (rS HL488_0) hb); replace BK476 := kB (g := gb476) hb; replace BK477 := kB (g := gb477) hb; replace BK486 := kB (g := gb486) hb; replace HR488_0 := Aside0.mk (Kd.C_below (by repeat (first | (with_reducible exact HR488_0.out) | (with_reducible refine Kd.C_alloc ?_ _) | (with_reducible refine Kd.C_drewN ?_ _) | (with_reducible refine Kd.C_drew ?_) | exact HR488_0.out)) hb); replace HB := hB hb; clear hb hg; have hnb24 := NB489_476.out; have hnc24 := NB476_489.out; have hnb25 := NB489_477.out; have hnc25 := NB477_489.out; have hnb26 := NB489_486.out; have hnc26 := NB486_489.out; have hz27 := cz6 BK489) | ((with_reducible refine gate_store (t := 45) (p := 5) rfl ?_); refine store_event (t := 45) (p := 5) (v := ?vo_w28) (w1 := ((((((w23.setCell ⟨gb489, 0, none⟩ (.slice A488_0 ((rd_T45 t483 x15_1).f0).length c488_0)).setCell ⟨gb489, 1, none⟩ (.int .i64 ((rd_T45 t483 x15_1).f1))).setCell ⟨gb489, 2, none⟩ (.int .i64 ((rd_T45 t483 x15_1).f2.f0))).setCell ⟨gb489, 3, none⟩ (.int .i64 ((rd_T45 t483 x15_1).f2.f1))).setCell ⟨gb489, 4, none⟩ (.int .i64 ((rd_T45 t483 x15_1).f2.f2))).setCell ⟨gb489, 5, none⟩ (.int .i64 ((rd_T45 t483 x15_1).f2.f3)))) ?hg ?ho ?hn ?hr ?_; (case ho => rfl); (case hg => rfl); (case hn => rfl); (case hr => first | (go_simp; done) | (go_simp; rfl)); intro w28 hw; replace HO_13 : Aside0 (Kd.S k45 45 w28 w.heap.size (fun k_ => k_ ≠ gb489) (.slice (some ad488) t483.length co15) t483) := ⟨(by rw [hw]; exact (by (with_reducible repeat (first | apply Kd.S_alloc | apply Kd.S_drewN | apply Kd.S_drew)); exact Kd.S_mono (Kd.S_far (p := ⟨gb489, 5, none⟩) (Kd.S_far (p := ⟨gb489, 4, none⟩) (Kd.S_far (p := ⟨gb489, 3, none⟩) (Kd.S_far (p := ⟨gb489, 2, none⟩) (Kd.S_far (p := ⟨gb489, 1, none⟩) (Kd.S_far (p := ⟨gb489, 0, none⟩) (Kd.S_mono HO_13.out (fun k_ hk => (⟨hk, hk.2⟩ : _ ∧ k_ ≠ gb489))) (fun _ hk => hk.2) (.slice A488_0 ((rd_T45 t483 x15_1).f0).length c488_0)) (fun _ hk => hk.2) (.int .i64 ((rd_T45 t483 x15_1).f1))) (fun _ hk => hk.2) (.int .i64 ((rd_T45 t483 x15_1).f2.f0))) (fun _ hk => hk.2) (.int .i64 ((rd_T45 t483 x15_1).f2.f1))) (fun _ hk => hk.2) (.int .i64 ((rd_T45 t483 x15_1).f2.f2))) (fun _ hk => hk.2) (.int .i64 ((rd_T45 t483 x15_1).f2.f3))) (fun _ hk => hk.1.2)))⟩; replace HO_487002 : Aside0 (Kd.S (Kd.slice 3 (Kd.int .i64)) 71 w28 w.heap.size (fun _ => True) u487002 x487002_1) := ⟨(by rw [hw]; exact (by (with_reducible repeat (first | apply Kd.S_alloc | apply Kd.S_drewN | apply Kd.S_drew)); exact Kd.S_mono (Kd.S_far (p := ⟨gb489, 5, none⟩) (Kd.S_far (p := ⟨gb489, 4, none⟩) (Kd.S_far (p := ⟨gb489, 3, none⟩) (Kd.S_far (p := ⟨gb489, 2, none⟩) (Kd.S_far (p := ⟨gb489, 1, none⟩) (Kd.S_far (p := ⟨gb489, 0, none⟩) (Kd.S_types HO_487002.out BK489.out (by decide)) (fun _ hk => hk.2) (.slice A488_0 ((rd_T45 t483 x15_1).f0).length c488_0)) (fun _ hk => hk.2) (.int .i64 ((rd_T45 t483 x15_1).f1))) (fun _ hk => hk.2) (.int .i64 ((rd_T45 t483 x15_1).f2.f0))) (fun _ hk => hk.2) (.int .i64 ((rd_T45 t483 x15_1).f2.f1))) (fun _ hk => hk.2) (.int .i64 ((rd_T45 t483 x15_1).f2.f2))) (fun _ hk => hk.2) (.int .i64 ((rd_T45 t483 x15_1).f2.f3))) (fun _ hk => trivial)))⟩; replace HO_487003 : Aside0 (Kd.S k45 45 w28 w.heap.size (fun k_ => k_ ≠ gb489) (.slice (some ad488) t483.length co15) t483) := ⟨(by rw [hw]; exact (by (with_reducible repeat (first | apply Kd.S_alloc | apply Kd.S_drewN | apply Kd.S_drew)); exact Kd.S_mono (Kd.S_far (p := ⟨gb489, 5, none⟩) (Kd.S_far (p := ⟨gb489, 4, none⟩) (Kd.S_far (p := ⟨gb489, 3, none⟩) (Kd.S_far (p := ⟨gb489, 2, none⟩) (Kd.S_far (p := ⟨gb489, 1, none⟩) (Kd.S_far (p := ⟨gb489, 0, none⟩) (Kd.S_mono HO_487003.out (fun k_ hk => (⟨hk, hk.2⟩ : _ ∧ k_ ≠ gb489))) (fun _ hk => hk.2) (.slice A488_0 ((rd_T45 t483 x15_1).f0).length c488_0)) (fun _ hk => hk.2) (.int .i64 ((rd_T45 t483 x15_1).f1))) (fun _ hk => hk.2) (.int .i64 ((rd_T45 t483 x15_1).f2.f0))) (fun _ hk => hk.2) (.int .i64 ((rd_T45 t483 x15_1).f2.f1))) (fun _ hk => hk.2) (.int .i64 ((rd_T45 t483 x15_1).f2.f2))) (fun _ hk => hk.2) (.int .i64 ((rd_T45 t483 x15_1).f2.f3))) (fun _ hk => hk.1.2)))⟩; replace HL488_0 : Aside0 (Kd.R k171 171 w28 w.heap.size (fun k_ => some k_ ≠ (.slice (some ad488) t483.length co15 : Value).ownBlock) (.slice A488_0 ((rd_T45 t483 x15_1).f0).length c488_0) ((rd_T45 t483 x15_1).f0)) := ⟨(by rw [hw]; exact (by (with_reducible repeat (first | apply Kd.R_alloc | apply Kd.R_drewN | apply Kd.R_drew)); exact Kd.R_mono (Kd.R_far (p := ⟨gb489, 5, none⟩) (Kd.R_far (p := ⟨gb489, 4, none⟩) (Kd.R_far (p := ⟨gb489, 3, none⟩) (Kd.R_far (p := ⟨gb489, 2, none⟩) (Kd.R_far (p := ⟨gb489, 1, none⟩) (Kd.R_far (p := ⟨gb489, 0, none⟩) (Kd.R_types HL488_0.out BK489.out (by decide)) (fun _ hk => hk.2) (.slice A488_0 ((rd_T45 t483 x15_1).f0).length c488_0)) (fun _ hk => hk.2) (.int .i64 ((rd_T45 t483 x15_1).f1))) (fun _ hk => hk.2) (.int .i64 ((rd_T45 t483 x15_1).f2.f0))) (fun _ hk => hk.2) (.int .i64 ((rd_T45 t483 x15_1).f2.f1))) (fun _ hk => hk.2) (.int .i64 ((rd_T45 t483 x15_1).f2.f2))) (fun _ hk => hk.2) (.int .i64 ((rd_T45 t483 x15_1).f2.f3))) (fun _ hk => hk.1.2)))⟩; replace BK476 : Aside0 (w28.heap[gb476]? = some (.cells #[.int .i64 a0_0, .int .i64 a0_1, .slice A0_2 l0_2.length c0_2, .slice A0_3 l0_3.length c0_3] 58 (0, 0))) := ⟨(by rw [hw]; exact kS)⟩; replace BK477 : Aside0 (w28.heap[gb477]? = some (.cells #[.int .i64 0, .int .i64 0, .slice none 0 0, .slice none 0 0] 58 (0, 0))) := ⟨(by rw [hw]; exact kS)⟩; replace BK486 : Aside0 (w28.heap[gb486]? = some (.cells #[.int .i64 t478, .int .i64 t479, u487002, .slice (some ad488) t483.length co15] 58 (0, 0))) := ⟨(by rw [hw]; exact kS)⟩; replace BK489 : Aside0 (w28.heap[gb489]? = some (.cells #[.slice A488_0 ((rd_T45 t483 x15_1).f0).length c488_0, .int .i64 ((rd_T45 t483 x15_1).f1), .int .i64 ((rd_T45 t483 x15_1).f2.f0), .int .i64 ((rd_T45 t483 x15_1).f2.f1), .int .i64 ((rd_T45 t483 x15_1).f2.f2), .int .i64 ((rd_T45 t483 x15_1).f2.f3)] 45 (0, 0))) := ⟨(by rw [hw]; exact kS)⟩; replace HB : Aside0 (Below w.heap.size w w28) := ⟨(by rw [hw]; exact bS)⟩; clear hw; have hnb29 := NB486_476.out; have hnc29 := NB476_486.out; have hnb30 := NB486_477.out; have hnc30 := NB477_486.out; have hz31 := cz4 BK486; have hz32 := cz6 BK489; obtain ⟨Ao33, co33, eo33⟩ := Kd.S_slice HO_487002.out; subst eo33) | ((with_reducible refine gC 75 ?_); refine cL (some 27) Try.func75 #[.slice Ao33 x487002_1.length co33, .int .i64 (wrap64 (t478 * t479)), .agg #[.slice A488_0 ((rd_T45 t483 x15_1).f0).length c488_0, .int .i64 ((rd_T45 t483 x15_1).f1), .int .i64 ((rd_T45 t483 x15_1).f2.f0), .int .i64 ((rd_T45 t483 x15_1).f2.f1), .int .i64 ((rd_T45 t483 x15_1).f2.f2), .int .i64 ((rd_T45 t483 x15_1).f2.f3)]] ?_; (with_reducible refine (impl_paint.calls k1 (fun k_ => w.heap.size ≤ k_ ∧ ∃ q_, q_ ∈ 71 :: (Kd.slice 3 (Kd.int .i64)).E ∧ ∃ c_, w28.heap[k_]? = some (.cells c_ q_ (0, 0))) (.slice Ao33 x487002_1.length co33) x487002_1 (wrap64 (t478 * t479)) _ _ ((rd_T45 t483 x15_1).f0) ((rd_T45 t483 x15_1).f1) ((rd_T45 t483 x15_1).f2.f0) ((rd_T45 t483 x15_1).f2.f1) ((rd_T45 t483 x15_1).f2.f2) ((rd_T45 t483 x15_1).f2.f3) t490 w _ ?side1 ?side2 ?side3 ?side4 A22.out).mono ?_); (case side1 => repeat (first | (with_reducible first | exact HB.out | apply below_alloc | apply pw_below_drewN | apply below_drew1 | refine below_set ?_ GE476.out | refine below_set ?_ GE477.out | refine below_set ?_ GE486.out | refine below_set ?_ GE489.out) | exact HB.out)); (case side2 => (with_reducible repeat (first | apply Kd.S_alloc | apply Kd.S_drewN | apply Kd.S_drew)); exact Kd.S_mono (Kd.S_bound HO_487002.out) (fun k_ h_ => ⟨h_.2.1, h_.2.2.2⟩)); (case side3 => exact Kd.C_kept_own ((R_not (fun k_ => w.heap.size ≤ k_ ∧ ∃ q_, q_ ∈ 71 :: (Kd.slice 3 (Kd.int .i64)).E ∧ ∃ c_, w28.heap[k_]? = some (.cells c_ q_ (0, 0))) HL488_0.out (fun k_ h_ e_ => typed_two h_.2.2.2 e_.2 (by decide)))) (fun k_ hk_ hs_ => (hk_.2) hs_)); (case side4 => exact HC488_0.out); rintro e w34 ⟨rfl, hy0, hb, hkp⟩; refine ⟨_, rfl, ?_⟩; replace HO_13 := Aside0.mk (Kd.S_mono (ok' := fun k_ => k_ ≠ gb489) (Kd.S_keptB ((S_not (fun k_ => w.heap.size ≤ k_ ∧ ∃ q_, q_ ∈ 71 :: (Kd.slice 3 (Kd.int .i64)).E ∧ ∃ c_, w28.heap[k_]? = some (.cells c_ q_ (0, 0))) HO_13.out (fun k_ h_ e_ => typed_two h_.2.2.2 e_.2 (by decide)))) hkp (fun k_ hk_ hs_ => (hk_.2) hs_)) (fun k_ hk_ => hk_.1.1)); replace HO_487002 := Aside0.mk (Kd.S_mono hy0 (fun _ _ => trivial)); replace HO_487003 := Aside0.mk (Kd.S_mono (ok' := fun k_ => k_ ≠ gb489) (Kd.S_keptB ((S_not (fun k_ => w.heap.size ≤ k_ ∧ ∃ q_, q_ ∈ 71 :: (Kd.slice 3 (Kd.int .i64)).E ∧ ∃ c_, w28.heap[k_]? = some (.cells c_ q_ (0, 0))) HO_487003.out (fun k_ h_ e_ => typed_two h_.2.2.2 e_.2 (by decide)))) hkp (fun k_ hk_ hs_ => (hk_.2) hs_)) (fun k_ hk_ => hk_.1.1)); replace BK476 := Aside0.mk (blk_kept (g := gb476) kS hkp (fun hs_ => (fun e_ => typed_one (by exact BK476.out) e_.2 (by decide)) hs_)); replace BK477 := Aside0.mk (blk_kept (g := gb477) kS hkp (fun hs_ => (fun e_ => typed_one (by exact BK477.out) e_.2 (by decide)) hs_)); replace BK486 := Aside0.mk (blk_kept (g := gb486) kS hkp (fun hs_ => (fun e_ => typed_one (by exact BK486.out) e_.2 (by decide)) hs_)); replace BK489 := Aside0.mk (blk_kept (g := gb489) kS hkp (fun hs_ => (fun e_ => typed_one (by exact BK489.out) e_.2 (by decide)) hs_)); replace HB := Aside0.mk (hb); clear HL488_0; (try clear hb); (try clear hkp); (try clear hy0)))
       go_roundg k1
       case measure => have := HK1.out; omega
       case rel => exact ⟨(wrap64 (x15_1 + 1)), (t490), (.slice Ao33 x487002_1.length co33), (by first | rfl | (simp; done) | (simp [*]; done)), H', ⟨by have := HK1.out; omega⟩, ⟨by (with_reducible repeat (first | apply Kd.S_alloc | apply Kd.S_drewN | apply Kd.S_drew)); exact Kd.S_mono HO_13.out (fun _ hk => trivial)⟩, ⟨by (with_reducible repeat (first | apply Kd.S_alloc | apply Kd.S_drewN | apply Kd.S_drew)); exact HO_487002.out⟩, ⟨by (with_reducible repeat (first | apply Kd.S_alloc | apply Kd.S_drewN | apply Kd.S_drew)); exact Kd.S_mono HO_487003.out (fun _ hk => trivial)⟩, ⟨kS⟩, ⟨kS⟩, ⟨kS⟩, ⟨bS⟩⟩
      ·rw [if_neg c21] at H
       exact absurd H (by simp)
     ·rw [if_neg c20] at H
      exact absurd H (by simp)
    ·rw [if_neg c19] at H
     have c19b0 : decide (x15_1 < (t483.length : Int)) = false := decide_eq_false c19
     clear c19
     simp only [Option.some.injEq, Prod.mk.injEq] at H
     obtain ⟨rfl, rfl, rfl, rfl⟩ := H
     have hnb35 := NB486_476.out
     have hnc35 := NB476_486.out
     have hnb36 := NB486_477.out
     have hnc36 := NB477_486.out
     have hz37 := cz4 BK486
     have hnb38 := NB477_476.out
     have hnc38 := NB476_477.out
     have hz39 := cz4 BK477
     obtain ⟨Ao40, co40, eo40⟩ := Kd.S_slice HO_487002.out
     subst eo40
     go_wp2
     refine bodyPost_ret (results_cell_row rfl _ _ gb477 58 #[.int .i64 t478, .int .i64 t479, .slice Ao40 x487002_1.length co40, .slice none 0 0] (0, 0) _ rfl kS Try.underlying58 rfl (by kernel_rfl)) rfl ?_
     exact ⟨_, _, eS, by (with_reducible repeat (first | apply Kd.S_alloc | apply Kd.S_drewN | apply Kd.S_drew)); exact Kd.S_mono (Kd.S_far (p := ⟨gb477, 3, none⟩) (Kd.S_far (p := ⟨gb477, 2, none⟩) (Kd.S_far (p := ⟨gb477, 1, none⟩) (Kd.S_far (p := ⟨gb477, 0, none⟩) (Kd.S_far (p := ⟨gb486, 3, none⟩) (Kd.S_types (Kd.S_types HO_487002.out BK486.out (by decide)) BK477.out (by decide)) (fun _ hk => hk.1.2) (.slice none 0 0)) (fun _ hk => hk.2) (.int .i64 t478)) (fun _ hk => hk.2) (.int .i64 t479)) (fun _ hk => hk.2) (.slice Ao40 x487002_1.length co40)) (fun _ hk => hk.2) (.slice none 0 0)) (fun _ hk => trivial), by first | exact Kd.S_nil _ _ _ _ _ | exact Kd.N_nil _ _ _ _ _ | exact Kd.V_nil _ _ _ _ _ | exact Kd.Q_nil _ _ _ _ _ | exact Kd.R_nil _ _ _ _ _, bS⟩
 ·obtain rfl := Bool.eq_false_iff.mpr c4
  rw [if_neg nF] at H
  simp only [Option.some.injEq, Prod.mk.injEq] at H
  obtain ⟨rfl, rfl, rfl, rfl⟩ := H
  go_enter Try.func62, Try.ntmps62
  go_wp2_with (first | ((with_reducible refine gD 1 ?_); refine bxE #[.int .i64 a0_0, .int .i64 a0_1, .slice A0_2 l0_2.length c0_2, .slice A0_3 l0_3.length c0_3] 58 ?_; intro gb476 hg w41 BK476 hb; have GW476 := gE hg; have GE476 := gE hg; replace HB := hB hb; clear hb hg) | ((with_reducible refine gD 2 ?_); refine bxE #[.int .i64 0, .int .i64 0, .slice none 0 0, .slice none 0 0] 58 ?_; intro gb477 hg w42 BK477 hb; have GW477 := gE hg; have GE477 := gE hg; have NB476_477 := nL (g := gb476) hg; have NB477_476 := nG (g := gb476) hg; replace BK476 := kB (g := gb476) hb; replace HB := hB hb; clear hb hg; have hnb43 := NB476_477.out; have hnc43 := NB477_476.out; have hz44 := cz4 BK476) | ((with_reducible refine gC 133 ?_); refine cL (some 7) Try.func133 #[.agg #[.int .i64 a0_0, .int .i64 a0_1, .slice A0_2 l0_2.length c0_2, .slice A0_3 l0_3.length c0_3]] ?_; (with_reducible refine (impl_copyBand.calls k a0_0 a0_1 _ _ l0_2 _ _ l0_3 t478 t479 t480 t483 _ ?side1 ?side2 ?side3 ?side4 A2.out).mono ?_); (case side1 => exact cS (Kd.C_below HR0_2.out HB.out)); (case side2 => exact HC0_2.out); (case side3 => exact cS (Kd.C_below HR0_3.out HB.out)); (case side4 => exact HC0_3.out); rintro e w45 ⟨v481, v484, rfl, ho0, ho1, hb⟩; refine ⟨_, rfl, ?_⟩; have HO482 := Aside0.mk (Kd.S_lower ho0 (below_size bS)); have HO485 := Aside0.mk (Kd.S_lower ho1 (below_size bS)); replace BK476 := kB (g := gb476) hb; replace BK477 := kB (g := gb477) hb; replace HB := hB hb; (try clear hb); (try clear hb2); (try clear hk); (try clear hi); (try clear ho0); (try clear ho1)) | ((with_reducible refine gD 3 ?_); refine bxE #[.int .i64 0, .int .i64 0, .slice none 0 0, .slice none 0 0] 58 ?_; intro gb486 hg w46 BK486 hb; have GW486 := gE hg; have GE486 := gE hg; have NB476_486 := nL (g := gb476) hg; have NB486_476 := nG (g := gb476) hg; have NB477_486 := nL (g := gb477) hg; have NB486_477 := nG (g := gb477) hg; replace HO482 := Aside0.mk (Kd.S_below (by (with_reducible repeat (first | apply Kd.S_alloc | apply Kd.S_drewN | apply Kd.S_drew)); exact HO482.out) hb); replace HO485 := Aside0.mk (Kd.S_below (by (with_reducible repeat (first | apply Kd.S_alloc | apply Kd.S_drewN | apply Kd.S_drew)); exact HO485.out) hb); replace BK476 := kB (g := gb476) hb; replace BK477 := kB (g := gb477) hb; replace HB := hB hb; clear hb hg; have hnb47 := NB486_476.out; have hnc47 := NB476_486.out; have hnb48 := NB486_477.out; have hnc48 := NB477_486.out; have hz49 := cz4 BK486; obtain ⟨Ao50, co50, eo50⟩ := Kd.S_slice HO482.out; subst eo50; obtain ⟨Ao51, co51, eo51⟩ := Kd.S_slice HO485.out; subst eo51; have hz52 := cz4 BK476) | ((with_reducible refine gC 35 ?_); refine cL (some 9) Try.func35 #[.agg #[.int .i64 a0_0, .int .i64 a0_1, .slice A0_2 l0_2.length c0_2, .slice A0_3 l0_3.length c0_3]] ?_; (with_reducible refine (impl_BandOk.calls k a0_0 a0_1 _ _ l0_2 _ _ l0_3 _ _ ?side1 ?side2 ?side3 ?side4 A3.out).mono ?_); (case side1 => exact Kd.C_below HR0_2.out bS); (case side2 => exact HC0_2.out); (case side3 => exact Kd.C_below HR0_3.out bS); (case side4 => exact HC0_3.out); rintro e w53 ⟨rfl, hb⟩; refine ⟨_, rfl, ?_⟩; replace HO482 := Aside0.mk (Kd.S_below (by (with_reducible repeat (first | apply Kd.S_alloc | apply Kd.S_drewN | apply Kd.S_drew)); exact (Kd.S_mono (Kd.S_far (p := ⟨gb486, 3, none⟩) (Kd.S_far (p := ⟨gb486, 2, none⟩) (Kd.S_far (p := ⟨gb486, 1, none⟩) (Kd.S_far (p := ⟨gb486, 0, none⟩) (Kd.S_types HO482.out BK486.out (by decide)) (fun _ hk => hk.2) (.int .i64 t478)) (fun _ hk => hk.2) (.int .i64 t479)) (fun _ hk => hk.2) (.slice Ao50 t480.length co50)) (fun _ hk => hk.2) (.slice Ao51 t483.length co51)) (fun _ h_ => h_.1))) hb); replace HO485 := Aside0.mk (Kd.S_below (by (with_reducible repeat (first | apply Kd.S_alloc | apply Kd.S_drewN | apply Kd.S_drew)); exact (Kd.S_mono (Kd.S_far (p := ⟨gb486, 3, none⟩) (Kd.S_far (p := ⟨gb486, 2, none⟩) (Kd.S_far (p := ⟨gb486, 1, none⟩) (Kd.S_far (p := ⟨gb486, 0, none⟩) (Kd.S_types HO485.out BK486.out (by decide)) (fun _ hk => hk.2) (.int .i64 t478)) (fun _ hk => hk.2) (.int .i64 t479)) (fun _ hk => hk.2) (.slice Ao50 t480.length co50)) (fun _ hk => hk.2) (.slice Ao51 t483.length co51)) (fun _ h_ => h_.1))) hb); replace BK476 := kB (g := gb476) hb; replace BK477 := kB (g := gb477) hb; replace BK486 := Aside0.mk (blk_below (g := gb486) (o := .cells #[.int .i64 t478, .int .i64 t479, .slice Ao50 t480.length co50, .slice Ao51 t483.length co51] 58 (0, 0)) kS hb); replace HB := hB hb; (try clear hb); (try clear hb2); (try clear hk); (try clear hi); have hz54 := cz4 BK486; have hz55 := cz4 BK477))
  refine bodyPost_ret (results_cell_row rfl _ _ gb477 58 #[.int .i64 t478, .int .i64 t479, .slice Ao50 t480.length co50, .slice Ao51 t483.length co51] (0, 0) _ rfl kS Try.underlying58 rfl (by kernel_rfl)) rfl ?_
  exact ⟨_, _, eS, by (with_reducible repeat (first | apply Kd.S_alloc | apply Kd.S_drewN | apply Kd.S_drew)); exact Kd.S_mono (Kd.S_far (p := ⟨gb477, 3, none⟩) (Kd.S_far (p := ⟨gb477, 2, none⟩) (Kd.S_far (p := ⟨gb477, 1, none⟩) (Kd.S_far (p := ⟨gb477, 0, none⟩) (Kd.S_types HO482.out BK477.out (by decide)) (fun _ hk => hk.2) (.int .i64 t478)) (fun _ hk => hk.2) (.int .i64 t479)) (fun _ hk => hk.2) (.slice Ao50 t480.length co50)) (fun _ hk => hk.2) (.slice Ao51 t483.length co51)) (fun _ hk => trivial), by (with_reducible repeat (first | apply Kd.S_alloc | apply Kd.S_drewN | apply Kd.S_drew)); exact Kd.S_mono (Kd.S_far (p := ⟨gb477, 3, none⟩) (Kd.S_far (p := ⟨gb477, 2, none⟩) (Kd.S_far (p := ⟨gb477, 1, none⟩) (Kd.S_far (p := ⟨gb477, 0, none⟩) (Kd.S_types HO485.out BK477.out (by decide)) (fun _ hk => hk.2) (.int .i64 t478)) (fun _ hk => hk.2) (.int .i64 t479)) (fun _ hk => hk.2) (.slice Ao50 t480.length co50)) (fun _ hk => hk.2) (.slice Ao51 t483.length co51)) (fun _ hk => trivial), bS⟩

/-! ### impl_RowsOfBand: function 64 -/
def impl_RowsOfBand.f (k : Nat) (a0_0 : Int) (a0_1 : Int) (l0_2 : List (List Int)) (l0_3 : List (S45)) : Option ((List (List Int))) := (impl_BandOk.f k a0_0 a0_1 l0_2 l0_3).bind fun t492 => (if t492 = true then ((impl_MergeBand.f k a0_0 a0_1 l0_2 l0_3).bind fun bt493 => (some bt493.2.2.1)) else (some ([] : List (List Int))))
theorem impl_RowsOfBand.calls (k : Nat) (a0_0 : Int) (a0_1 : Int) (A0_2 : Option Addr) (c0_2 : Nat) (l0_2 : List (List Int)) (A0_3 : Option Addr) (c0_3 : Nat) (l0_3 : List (S45)) (r : List (List Int)) (w : World) (hr0_2 : Kd.C (Kd.slice 3 (Kd.int .i64)) w A0_2 l0_2.length l0_2) (hc0_2 : l0_2.length ≤ c0_2) (hr0_3 : Kd.C k45 w A0_3 l0_3.length l0_3) (hc0_3 : l0_3.length ≤ c0_3) (h : impl_RowsOfBand.f k a0_0 a0_1 l0_2 l0_3 = some r) :
  Calls Try.prog 64 #[.agg #[.int .i64 a0_0, .int .i64 a0_1, .slice A0_2 l0_2.length c0_2, .slice A0_3 l0_3.length c0_3]] w fun e w' => ∃ v0_ : Value, e = .returned (v0_) ∧ Kd.S (Kd.slice 3 (Kd.int .i64)) 71 w' w.heap.size (fun _ => True) v0_ r ∧ Below w.heap.size w w' := by
 have hu58 := Try.underlying58
 have hfd58_2 : ∀ (W : World) (v0_ v1_ v2_ v3_ : Value), (Instr.field 58 (.agg #[v0_, v1_, v2_, v3_]) 2).run Try.prog W = .ok v2_ W := fun _ _ _ _ _ => by first | rfl | kernel_rfl
 have HR0_2 := Aside0.mk hr0_2
 have HC0_2 := Aside0.mk hc0_2
 clear hr0_2 hc0_2
 have HR0_3 := Aside0.mk hr0_3
 have HC0_3 := Aside0.mk hc0_3
 clear hr0_3 hc0_3
 have HB := Aside0.mk (Below.refl w.heap.size w)
 have H : ((impl_BandOk.f k a0_0 a0_1 l0_2 l0_3).bind fun t492 => (if t492 = true then ((impl_MergeBand.f k a0_0 a0_1 l0_2 l0_3).bind fun bt493 => (some bt493.2.2.1)) else (some ([] : List (List Int))))) = some r := h
 clear h
 replace H := bN H
 obtain ⟨t492, A2, H⟩ := H
 by_cases c3 : t492 = true
 ·subst c3
  rw [if_pos rfl] at H
  replace H := bN H
  obtain ⟨⟨t493, t494, t495, t498⟩, A4, H⟩ := H
  obtain rfl := Option.some.inj H
  simp only [Option.some.injEq, Prod.mk.injEq] at H
  obtain ⟨rfl⟩ := H
  go_enter Try.func64, Try.ntmps64
  go_wp2_with (first | ((with_reducible refine gD 1 ?_); refine bxE #[.int .i64 a0_0, .int .i64 a0_1, .slice A0_2 l0_2.length c0_2, .slice A0_3 l0_3.length c0_3] 58 ?_; intro gb491 hg w5 BK491 hb; have GW491 := gE hg; have GE491 := gE hg; replace HB := hB hb; clear hb hg; have hz6 := cz4 BK491) | ((with_reducible refine gC 35 ?_); refine cL (some 4) Try.func35 #[.agg #[.int .i64 a0_0, .int .i64 a0_1, .slice A0_2 l0_2.length c0_2, .slice A0_3 l0_3.length c0_3]] ?_; (with_reducible refine (impl_BandOk.calls k a0_0 a0_1 _ _ l0_2 _ _ l0_3 _ _ ?side1 ?side2 ?side3 ?side4 A2.out).mono ?_); (case side1 => exact cS (Kd.C_below HR0_2.out HB.out)); (case side2 => exact HC0_2.out); (case side3 => exact cS (Kd.C_below HR0_3.out HB.out)); (case side4 => exact HC0_3.out); rintro e w7 ⟨rfl, hb⟩; refine ⟨_, rfl, ?_⟩; replace BK491 := kB (g := gb491) hb; replace HB := hB hb; (try clear hb); (try clear hb2); (try clear hk); (try clear hi); have hz8 := cz4 BK491) | ((with_reducible refine gC 62 ?_); refine cL (some 7) Try.func62 #[.agg #[.int .i64 a0_0, .int .i64 a0_1, .slice A0_2 l0_2.length c0_2, .slice A0_3 l0_3.length c0_3]] ?_; (with_reducible refine (impl_MergeBand.calls k a0_0 a0_1 _ _ l0_2 _ _ l0_3 t493 t494 t495 t498 _ ?side1 ?side2 ?side3 ?side4 A4.out).mono ?_); (case side1 => exact cS (Kd.C_below HR0_2.out HB.out)); (case side2 => exact HC0_2.out); (case side3 => exact cS (Kd.C_below HR0_3.out HB.out)); (case side4 => exact HC0_3.out); rintro e w9 ⟨v496, v499, rfl, ho0, ho1, hb⟩; refine ⟨_, rfl, ?_⟩; have HO497 := Aside0.mk (Kd.S_lower ho0 (below_size bS)); have HO500 := Aside0.mk (Kd.S_lower ho1 (below_size bS)); replace BK491 := kB (g := gb491) hb; replace HB := hB hb; (try clear hb); (try clear hb2); (try clear hk); (try clear hi); (try clear ho0); (try clear ho1)))
  go_ret
  exact ⟨_, eS, by (with_reducible repeat (first | apply Kd.S_alloc | apply Kd.S_drewN | apply Kd.S_drew)); exact HO497.out, bS⟩
 ·obtain rfl := Bool.eq_false_iff.mpr c3
  rw [if_neg nF] at H
  obtain rfl := Option.some.inj H
  simp only [Option.some.injEq, Prod.mk.injEq] at H
  obtain ⟨rfl⟩ := H
  go_enter Try.func64, Try.ntmps64
  go_wp2_with (first | ((with_reducible refine gD 1 ?_); refine bxE #[.int .i64 a0_0, .int .i64 a0_1, .slice A0_2 l0_2.length c0_2, .slice A0_3 l0_3.length c0_3] 58 ?_; intro gb491 hg w10 BK491 hb; have GW491 := gE hg; have GE491 := gE hg; replace HB := hB hb; clear hb hg; have hz11 := cz4 BK491) | ((with_reducible refine gC 35 ?_); refine cL (some 4) Try.func35 #[.agg #[.int .i64 a0_0, .int .i64 a0_1, .slice A0_2 l0_2.length c0_2, .slice A0_3 l0_3.length c0_3]] ?_; (with_reducible refine (impl_BandOk.calls k a0_0 a0_1 _ _ l0_2 _ _ l0_3 _ _ ?side1 ?side2 ?side3 ?side4 A2.out).mono ?_); (case side1 => exact cS (Kd.C_below HR0_2.out HB.out)); (case side2 => exact HC0_2.out); (case side3 => exact cS (Kd.C_below HR0_3.out HB.out)); (case side4 => exact HC0_3.out); rintro e w12 ⟨rfl, hb⟩; refine ⟨_, rfl, ?_⟩; replace BK491 := kB (g := gb491) hb; replace HB := hB hb; (try clear hb); (try clear hb2); (try clear hk); (try clear hi)))
  go_ret
  exact ⟨_, eS, by first | exact Kd.S_nil _ _ _ _ _ | exact Kd.N_nil _ _ _ _ _ | exact Kd.V_nil _ _ _ _ _ | exact Kd.Q_nil _ _ _ _ _ | exact Kd.R_nil _ _ _ _ _, bS⟩

/-! ### spec_DrawPlaces: function 66 -/
def spec_DrawPlaces.l0 : Nat → List Int → Int → List Int → Int → Int → Option (List Int)
 | 0, _, _, _, _, _ => none
 | k + 1, x4, x5, x505000, x505001, x505002 => if x5 < 12 then ((spec_l01Below.f x505000 x505001 x505002 10000).bind fun bt508 => (if x4.length < 17592186044416 then (spec_DrawPlaces.l0 k (x4 ++ [bt508.1]) (wrap64 (x5 + 1)) x505000 bt508.2.1 bt508.2.2) else (none))) else (some x4)
def spec_DrawPlaces.f (k : Nat) (l0 : List Int) : Option (List Int) := (spec_l01New.f k l0).bind fun bt501 => (spec_DrawPlaces.l0 k (([] : List Int)) 0 bt501.1 bt501.2.1 bt501.2.2)
theorem spec_DrawPlaces.calls (k : Nat) (A0 : Option Addr) (c0 : Nat) (l0 : List Int) (r : List Int) (w : World) (hr0 : Kd.C (Kd.int .u8) w A0 l0.length l0) (hc0 : l0.length ≤ c0) (h : spec_DrawPlaces.f k l0 = some r) :
  Calls Try.prog 66 #[.slice A0 l0.length c0] w fun e w' => ∃ v0_ : Value, e = .returned (v0_) ∧ Kd.R (Kd.int .i64) 3 w' w.heap.size (fun _ => True) v0_ r ∧ Below w.heap.size w w' := by
 have HR0 := Aside0.mk hr0
 have HC0 := Aside0.mk hc0
 clear hr0 hc0
 have HB := Aside0.mk (Below.refl w.heap.size w)
 have H : ((spec_l01New.f k l0).bind fun bt501 => (spec_DrawPlaces.l0 k (([] : List Int)) 0 bt501.1 bt501.2.1 bt501.2.2)) = some r := h
 clear h
 replace H := bN H
 obtain ⟨⟨t501, t502, t503⟩, A2, H⟩ := H
 obtain ⟨y505, hy505⟩ : ∃ y_ : List Int, y_ = (([] : List Int)) := ⟨_, rfl⟩
 replace H : (spec_DrawPlaces.l0 k y505 0 t501 t502 t503) = some r := by first | (rw [hy505]; with_reducible exact H) | (have H2_ := (Option.bind_some _ _).symm.trans H; rw [hy505]; with_reducible exact H2_) | (have H2_ := (Option.bind_some _ _).symm.trans H; with_reducible exact H2_) | with_reducible exact H | (rw [hy505]; exact H) | exact H
 have Ny505 := Aside0.mk hy505
 clear hy505
 have H' := Aside0.mk H
 clear H
 go_enter Try.func66, Try.ntmps66
 go_wp2_with (first | ((with_reducible refine gC 71 ?_); refine cL (some 7) Try.func71 #[.slice A0 l0.length c0] ?_; (with_reducible refine (spec_l01New.calls k _ _ l0 t501 t502 t503 w _ ?side1 ?side2 ?side3 A2.out).mono ?_); (case side1 => repeat (first | (with_reducible first | exact HB.out | apply below_alloc | apply pw_below_drewN | apply below_drew1) | exact HB.out)); (case side2 => exact HR0.out); (case side3 => exact HC0.out); rintro e w3 ⟨g504, rfl, hi, hb, hb2⟩; refine ⟨_, rfl, ?_⟩; have HI504 := Aside0.mk (hi); replace HB := Aside0.mk (hb); (try clear hb); (try clear hb2); (try clear hk); (try clear hi)) | ((with_reducible refine gate_dst (N := 8) rfl ?_); refine Kd.R_lit (Kd.int .i64) _ 3 ?hg (N := 8) ?hd (xs := ([] : List Int)) (inner := []) (ok := fun _ => True) (okp := fun _ => True) ?hr ?hp (fun _ hk => hk) trivial (Below.refl _ _) (Nat.le_refl _) (by simp) ?_; (case hd => rfl); (case hg => rfl); (case hr => first | (go_simp; done) | (go_simp; rfl)); (case hp => exact (Reps.none _ _)); intro v506 w4 ho5 hb hg_ hnew_; clear hg_ hnew_; (first | rw [← Ny505.out] at ho5 | (simp only [Int.reduceToNat] at ho5; rw [← Ny505.out] at ho5)); have HO507 := Aside0.mk (Kd.R_lower ho5 (below_size (by repeat (first | (with_reducible first | exact HB.out | apply below_alloc | apply pw_below_drewN | apply below_drew1 | refine below_set ?_ (IsS161.ge HI504.out)) | exact HB.out)))); replace HB := Aside0.mk (below_step (by repeat (first | (with_reducible first | exact HB.out | apply below_alloc | apply pw_below_drewN | apply below_drew1 | refine below_set ?_ (IsS161.ge HI504.out)) | exact HB.out)) hb); replace HI504 := Aside0.mk (IsS161.below (by repeat (first | (with_reducible first | exact HI504.out | apply IsS161.alloc | apply IsS161.drewN | apply IsS161.drew | apply IsS161.set_1 | apply IsS161.set_2) | exact HI504.out)) hb); clear hb ho5))
 go_loopg [4, 5] k (fun kq v4 v5 w' => ∃ (x4_1 : List Int) (x5_1 : Int) (x505001_1 : Int) (x505002_1 : Int), v5 = .int .i64 x5_1 ∧ Aside0 (spec_DrawPlaces.l0 kq x4_1 x5_1 t501 x505001_1 x505002_1 = some r) ∧ Aside0 (kq ≤ k) ∧ Aside0 (Kd.R (Kd.int .i64) 3 w' w.heap.size (fun _ => True) v4 x4_1) ∧ Aside0 (IsS161 w w' g504 t501 x505001_1 x505002_1) ∧ Aside0 (Below w.heap.size w w'))
 case atStart => exact ⟨(y505), (0), (t502), (t503), (by first | rfl | (simp; done) | (simp [*]; done)), H', ⟨Nat.le_refl _⟩, ⟨by (with_reducible repeat (first | apply Kd.R_alloc | apply Kd.R_drewN | apply Kd.R_drew)); exact HO507.out⟩, ⟨by repeat (first | (with_reducible first | exact HI504.out | apply IsS161.alloc | apply IsS161.drewN | apply IsS161.drew | apply IsS161.set_1 | apply IsS161.set_2) | exact HI504.out)⟩, ⟨by repeat (first | (with_reducible first | exact HB.out | apply below_alloc | apply pw_below_drewN | apply below_drew1 | refine below_set ?_ (IsS161.ge HI504.out)) | exact HB.out)⟩⟩
 case round =>
  clear H'
  try clear p2
  obtain ⟨x4_1, x5_1, x505001_1, x505002_1, rfl, HA, HK1, HO_4, HI504, HB⟩ := hrel
  cases gk with
  | zero => exact absurd HA.out (by simp [spec_DrawPlaces.l0])
  | succ k1 =>
   have H := HA.out
   clear HA
   simp only [spec_DrawPlaces.l0] at H
   by_cases c6 : x5_1 < 12
   ·rw [if_pos c6] at H
    have c6b0 : decide (x5_1 < 12) = true := decide_eq_true c6
    clear c6
    replace H := bN H
    obtain ⟨⟨t508, t509, t510⟩, A7, H⟩ := H
    by_cases c8 : x4_1.length < 17592186044416
    ·rw [if_pos c8] at H
     have LMc8 := Aside0.mk c8
     clear c8
     obtain ⟨y511, hy511⟩ : ∃ y_ : List Int, y_ = (x4_1 ++ [t508]) := ⟨_, rfl⟩
     replace H : (spec_DrawPlaces.l0 k1 y511 (wrap64 (x5_1 + 1)) t501 t509 t510) = some r := by first | (rw [hy511]; with_reducible exact H) | (have H2_ := (Option.bind_some _ _).symm.trans H; rw [hy511]; with_reducible exact H2_) | (have H2_ := (Option.bind_some _ _).symm.trans H; with_reducible exact H2_) | with_reducible exact H | (rw [hy511]; exact H) | exact H
     have Ny511 := Aside0.mk hy511
     clear hy511
     have H' := Aside0.mk H
     clear H
     go_wp2_with (first | ((with_reducible refine gC 136 ?_); refine cL (some 15) Try.func136 #[.pointer (some ⟨g504, 0, none⟩), .int .i64 10000] ?_; (with_reducible refine (spec_l01Below.calls g504 t501 x505001_1 x505002_1 10000 t508 t509 t510 w _ ?side1 ?side2 A7.out).mono ?_); (case side1 => repeat (first | (with_reducible first | exact HI504.out | apply IsS161.alloc | apply IsS161.drewN | apply IsS161.drew | apply IsS161.set_1 | apply IsS161.set_2) | exact HI504.out)); (case side2 => repeat (first | (with_reducible first | exact HB.out | apply below_alloc | apply pw_below_drewN | apply below_drew1 | refine below_set ?_ (IsS161.ge HI504.out)) | exact HB.out)); rintro e w9 ⟨rfl, hi, hb, hk⟩; refine ⟨_, rfl, ?_⟩; replace HO_4 := Aside0.mk (Kd.R_mono (Kd.R_keep (IsS161.apart (show IsS161 w _ g504 t501 x505001_1 x505002_1 from by repeat (first | (with_reducible first | exact HI504.out | apply IsS161.alloc | apply IsS161.drewN | apply IsS161.drew | apply IsS161.set_1 | apply IsS161.set_2) | exact HI504.out)) (rS HO_4) (by decide)) hk (fun _ h => h.2)) (fun _ h => h.1)); replace HB := Aside0.mk (hb); replace HI504 := Aside0.mk (hi); (try clear hb); (try clear hb2); (try clear hk); (try clear hi)) | ((with_reducible refine gate_builtin (b := .append) (xs := #[.tmp 13, .tmp 16]) rfl ?_); at_builtin; refine Kd.R_append (Kd.int .i64) (w0 := w) w.heap.size rfl (.tmp 13) (.tmp 16) 71 3 (.int .i64 0) 8 rfl Try.underlying71 info3 rfl (by decide) (by omega) u4 x4_1 t508 [.int .i64 t508] (fun _ => True) (fun _ => False) rfl rfl ?aP (fun _ hk => hk.elim) ?aF ?aO ?aB ?aS ?aL ?_; (case aP => exact rfl); (case aB => exact (by repeat (first | (with_reducible first | exact HB.out | apply below_alloc | apply pw_below_drewN | apply below_drew1 | refine below_set ?_ (IsS161.ge HI504.out)) | exact HB.out))); (case aF => exact (fun _ _ => trivial)); (case aO => exact (rS HO_4)); (case aS => exact (below_size (by repeat (first | (with_reducible first | exact HB.out | apply below_alloc | apply pw_below_drewN | apply below_drew1 | refine below_set ?_ (IsS161.ge HI504.out)) | exact HB.out)))); (case aL => have := LMc8.out; omega); intro v512 w10 ho hb hg hat; rw [← Ny511.out] at ho; have HO513 := Aside0.mk (ho); replace HI504 := Aside0.mk (IsS161.grown (show IsS161 w _ g504 t501 t509 t510 from by repeat (first | (with_reducible first | exact HI504.out | apply IsS161.alloc | apply IsS161.drewN | apply IsS161.drew | apply IsS161.set_1 | apply IsS161.set_2) | exact HI504.out)) hg (IsS161.own_ne HI504.out HO_4.out (by decide))); replace HB := Aside0.mk (hb); clear HO_4; clear ho hb hg hat))
     go_roundg k1
     case measure => have := HK1.out; omega
     case rel => exact ⟨(y511), (wrap64 (x5_1 + 1)), (t509), (t510), (by first | rfl | (simp; done) | (simp [*]; done)), H', ⟨by have := HK1.out; omega⟩, ⟨by (with_reducible repeat (first | apply Kd.R_alloc | apply Kd.R_drewN | apply Kd.R_drew)); exact HO513.out⟩, ⟨by repeat (first | (with_reducible first | exact HI504.out | apply IsS161.alloc | apply IsS161.drewN | apply IsS161.drew | apply IsS161.set_1 | apply IsS161.set_2) | exact HI504.out)⟩, ⟨by repeat (first | (with_reducible first | exact HB.out | apply below_alloc | apply pw_below_drewN | apply below_drew1 | refine below_set ?_ (IsS161.ge HI504.out)) | exact HB.out)⟩⟩
    ·rw [if_neg c8] at H
     exact absurd H (by simp)
   ·rw [if_neg c6] at H
    have c6b0 : decide (x5_1 < 12) = false := decide_eq_false c6
    clear c6
    obtain rfl := Option.some.inj H
    simp only [Option.some.injEq, Prod.mk.injEq] at H
    obtain ⟨rfl⟩ := H
    go_wp2
    go_ret
    exact ⟨_, eS, by (with_reducible repeat (first | apply Kd.R_alloc | apply Kd.R_drewN | apply Kd.R_drew)); exact HO_4.out, by repeat (first | (with_reducible first | exact HB.out | apply below_alloc | apply pw_below_drewN | apply below_drew1 | refine below_set ?_ (IsS161.ge HI504.out)) | exact HB.out)⟩

/-! ### spec_IsHeight: function 137 -/
def spec_IsHeight.f (a0 : Int) : Option (Bool) := if a0 = 1 then (some true) else (if a0 = 2 then (some true) else (if a0 = 4 then (some true) else (if a0 = 8 then (some true) else (if a0 = 16 then (some true) else (some (a0 == 32))))))
theorem spec_IsHeight.calls (a0 : Int) (r : Bool) (w : World) (h : spec_IsHeight.f a0 = some r) :
  Calls Try.prog 137 #[.int .i64 a0] w fun e w' => e = .returned (.bool r) ∧ Drawn0 w w' := by
 have H : (if a0 = 1 then (some true) else (if a0 = 2 then (some true) else (if a0 = 4 then (some true) else (if a0 = 8 then (some true) else (if a0 = 16 then (some true) else (some (a0 == 32))))))) = some r := h
 clear h
 by_cases c2 : a0 = 1
 ·rw [if_pos c2] at H
  have c2b0 : (a0 == 1) = true := beq_iff_eq.mpr c2
  have c2b1 : (a0 != 1) = false := bne_eq_false_iff_eq.mpr c2
  clear c2
  obtain rfl := Option.some.inj H
  simp only [Option.some.injEq, Prod.mk.injEq] at H
  obtain ⟨rfl⟩ := H
  go_enter Try.func137, Try.ntmps137
  go_wp2
  go_ret
  exact ⟨by first | rfl | (simp; done) | (simp [*]; done), by repeat (first | exact Drawn0.refl _ | apply Drawn0.step)⟩
 ·rw [if_neg c2] at H
  have c2b0 : (a0 == 1) = false := beq_eq_false_iff_ne.mpr c2
  have c2b1 : (a0 != 1) = true := bne_iff_ne.mpr c2
  by_cases c3 : a0 = 2
  ·rw [if_pos c3] at H
   have c3b0 : (a0 == 2) = true := beq_iff_eq.mpr c3
   have c3b1 : (a0 != 2) = false := bne_eq_false_iff_eq.mpr c3
   clear c3
   obtain rfl := Option.some.inj H
   simp only [Option.some.injEq, Prod.mk.injEq] at H
   obtain ⟨rfl⟩ := H
   go_enter Try.func137, Try.ntmps137
   go_wp2
   go_ret
   exact ⟨by first | rfl | (simp; done) | (simp [*]; done), by repeat (first | exact Drawn0.refl _ | apply Drawn0.step)⟩
  ·rw [if_neg c3] at H
   have c3b0 : (a0 == 2) = false := beq_eq_false_iff_ne.mpr c3
   have c3b1 : (a0 != 2) = true := bne_iff_ne.mpr c3
   by_cases c4 : a0 = 4
   ·rw [if_pos c4] at H
    have c4b0 : (a0 == 4) = true := beq_iff_eq.mpr c4
    have c4b1 : (a0 != 4) = false := bne_eq_false_iff_eq.mpr c4
    clear c4
    obtain rfl := Option.some.inj H
    simp only [Option.some.injEq, Prod.mk.injEq] at H
    obtain ⟨rfl⟩ := H
    go_enter Try.func137, Try.ntmps137
    go_wp2
    go_ret
    exact ⟨by first | rfl | (simp; done) | (simp [*]; done), by repeat (first | exact Drawn0.refl _ | apply Drawn0.step)⟩
   ·rw [if_neg c4] at H
    have c4b0 : (a0 == 4) = false := beq_eq_false_iff_ne.mpr c4
    have c4b1 : (a0 != 4) = true := bne_iff_ne.mpr c4
    by_cases c5 : a0 = 8
    ·rw [if_pos c5] at H
     have c5b0 : (a0 == 8) = true := beq_iff_eq.mpr c5
     have c5b1 : (a0 != 8) = false := bne_eq_false_iff_eq.mpr c5
     clear c5
     obtain rfl := Option.some.inj H
     simp only [Option.some.injEq, Prod.mk.injEq] at H
     obtain ⟨rfl⟩ := H
     go_enter Try.func137, Try.ntmps137
     go_wp2
     go_ret
     exact ⟨by first | rfl | (simp; done) | (simp [*]; done), by repeat (first | exact Drawn0.refl _ | apply Drawn0.step)⟩
    ·rw [if_neg c5] at H
     have c5b0 : (a0 == 8) = false := beq_eq_false_iff_ne.mpr c5
     have c5b1 : (a0 != 8) = true := bne_iff_ne.mpr c5
     by_cases c6 : a0 = 16
     ·rw [if_pos c6] at H
      have c6b0 : (a0 == 16) = true := beq_iff_eq.mpr c6
      have c6b1 : (a0 != 16) = false := bne_eq_false_iff_eq.mpr c6
      clear c6
      obtain rfl := Option.some.inj H
      simp only [Option.some.injEq, Prod.mk.injEq] at H
      obtain ⟨rfl⟩ := H
      go_enter Try.func137, Try.ntmps137
      go_wp2
      go_ret
      exact ⟨by first | rfl | (simp; done) | (simp [*]; done), by repeat (first | exact Drawn0.refl _ | apply Drawn0.step)⟩
     ·rw [if_neg c6] at H
      have c6b0 : (a0 == 16) = false := beq_eq_false_iff_ne.mpr c6
      have c6b1 : (a0 != 16) = true := bne_iff_ne.mpr c6
      obtain rfl := Option.some.inj H
      simp only [Option.some.injEq, Prod.mk.injEq] at H
      obtain ⟨rfl⟩ := H
      go_enter Try.func137, Try.ntmps137
      go_wp2
      go_ret
      exact ⟨by first | rfl | (simp; done) | (simp [*]; done), by repeat (first | exact Drawn0.refl _ | apply Drawn0.step)⟩

/-! ### spec_CountBands: function 67 -/
def spec_CountBands.f (a0 : Int) : Option (Int) := (spec_IsHeight.f a0).bind fun t514 => (if t514 = true then (if a0 = 0 then (none) else (some (wrap64 ((32 : Int) / a0)))) else (some 0))
theorem spec_CountBands.calls (a0 : Int) (r : Int) (w : World) (h : spec_CountBands.f a0 = some r) :
  Calls Try.prog 67 #[.int .i64 a0] w fun e w' => e = .returned (.int .i64 r) ∧ Drawn0 w w' := by
 have H : ((spec_IsHeight.f a0).bind fun t514 => (if t514 = true then (if a0 = 0 then (none) else (some (wrap64 ((32 : Int) / a0)))) else (some 0))) = some r := h
 clear h
 replace H := bN H
 obtain ⟨t514, A2, H⟩ := H
 by_cases c3 : t514 = true
 ·subst c3
  rw [if_pos rfl] at H
  by_cases c4 : a0 = 0
  ·rw [if_pos c4] at H
   exact absurd H (by simp)
  ·rw [if_neg c4] at H
   have c4b0 : (a0 == 0) = false := beq_eq_false_iff_ne.mpr c4
   have c4b1 : (a0 != 0) = true := bne_iff_ne.mpr c4
   obtain rfl := Option.some.inj H
   simp only [Option.some.injEq, Prod.mk.injEq] at H
   obtain ⟨rfl⟩ := H
   go_enter Try.func67, Try.ntmps67
   go_wp2_with (first | ((with_reducible refine gC 137 ?_); refine cL (some 4) Try.func137 #[.int .i64 a0] ?_; (with_reducible refine (spec_IsHeight.calls a0 _ _ A2.out).mono ?_); rintro e w' ⟨rfl, ⟨nd, rfl⟩⟩; refine ⟨_, rfl, ?_⟩))
   go_ret
   exact ⟨by first | rfl | (simp; done) | (simp [*]; done) | (simp [*, Int.tdiv_eq_ediv_of_nonneg]; done), by repeat (first | exact Drawn0.refl _ | apply Drawn0.step)⟩
 ·obtain rfl := Bool.eq_false_iff.mpr c3
  rw [if_neg nF] at H
  obtain rfl := Option.some.inj H
  simp only [Option.some.injEq, Prod.mk.injEq] at H
  obtain ⟨rfl⟩ := H
  go_enter Try.func67, Try.ntmps67
  go_wp2_with (first | ((with_reducible refine gC 137 ?_); refine cL (some 4) Try.func137 #[.int .i64 a0] ?_; (with_reducible refine (spec_IsHeight.calls a0 _ _ A2.out).mono ?_); rintro e w' ⟨rfl, ⟨nd, rfl⟩⟩; refine ⟨_, rfl, ?_⟩))
  go_ret
  exact ⟨by first | rfl | (simp; done) | (simp [*]; done) | (simp [*, Int.tdiv_eq_ediv_of_nonneg]; done), by repeat (first | exact Drawn0.refl _ | apply Drawn0.step)⟩

/-! ### impl_CountDots: function 163 -/
def impl_CountDots.f (a0_0 : Int) (a0_1 : Int) (a0_2 : Int) (a0_3 : Int) : Option (Int) := (impl_BoxOk.f a0_0 a0_1 a0_2 a0_3).bind fun t516 => (if t516 = true then (some (wrap64 ((wrap64 (a0_2 - a0_0)) * (wrap64 (a0_3 - a0_1))))) else (some 0))
theorem impl_CountDots.calls (a0_0 : Int) (a0_1 : Int) (a0_2 : Int) (a0_3 : Int) (r : Int) (w : World) (h : impl_CountDots.f a0_0 a0_1 a0_2 a0_3 = some r) :
  Calls Try.prog 163 #[.agg #[.int .i64 a0_0, .int .i64 a0_1, .int .i64 a0_2, .int .i64 a0_3]] w fun e w' => e = .returned (.int .i64 r) ∧ Below w.heap.size w w' := by
 have hu43 := Try.underlying43
 have HB := Aside0.mk (Below.refl w.heap.size w)
 have H : ((impl_BoxOk.f a0_0 a0_1 a0_2 a0_3).bind fun t516 => (if t516 = true then (some (wrap64 ((wrap64 (a0_2 - a0_0)) * (wrap64 (a0_3 - a0_1))))) else (some 0))) = some r := h
 clear h
 replace H := bN H
 obtain ⟨t516, A2, H⟩ := H
 by_cases c3 : t516 = true
 ·subst c3
  rw [if_pos rfl] at H
  obtain rfl := Option.some.inj H
  simp only [Option.some.injEq, Prod.mk.injEq] at H
  obtain ⟨rfl⟩ := H
  go_enter Try.func163, Try.ntmps163
  go_wp2_with (first | ((with_reducible refine gD 1 ?_); refine bxE #[.int .i64 a0_0, .int .i64 a0_1, .int .i64 a0_2, .int .i64 a0_3] 43 ?_; intro gb515 hg w4 BK515 hb; have GW515 := gE hg; have GE515 := gE hg; replace HB := hB hb; clear hb hg; have hz5 := cz4 BK515) | ((with_reducible refine gC 152 ?_); refine cL (some 4) Try.func152 #[.agg #[.int .i64 a0_0, .int .i64 a0_1, .int .i64 a0_2, .int .i64 a0_3]] ?_; (with_reducible refine (impl_BoxOk.calls a0_0 a0_1 a0_2 a0_3 _ _ A2.out).mono ?_); rintro e w6 ⟨rfl, hb⟩; refine ⟨_, rfl, ?_⟩; replace BK515 := kB (g := gb515) hb; replace HB := hB hb; (try clear hb); (try clear hb2); (try clear hk); (try clear hi); have hz7 := cz4 BK515))
  go_ret
  exact ⟨eS, bS⟩
 ·obtain rfl := Bool.eq_false_iff.mpr c3
  rw [if_neg nF] at H
  obtain rfl := Option.some.inj H
  simp only [Option.some.injEq, Prod.mk.injEq] at H
  obtain ⟨rfl⟩ := H
  go_enter Try.func163, Try.ntmps163
  go_wp2_with (first | ((with_reducible refine gD 1 ?_); refine bxE #[.int .i64 a0_0, .int .i64 a0_1, .int .i64 a0_2, .int .i64 a0_3] 43 ?_; intro gb515 hg w8 BK515 hb; have GW515 := gE hg; have GE515 := gE hg; replace HB := hB hb; clear hb hg; have hz9 := cz4 BK515) | ((with_reducible refine gC 152 ?_); refine cL (some 4) Try.func152 #[.agg #[.int .i64 a0_0, .int .i64 a0_1, .int .i64 a0_2, .int .i64 a0_3]] ?_; (with_reducible refine (impl_BoxOk.calls a0_0 a0_1 a0_2 a0_3 _ _ A2.out).mono ?_); rintro e w10 ⟨rfl, hb⟩; refine ⟨_, rfl, ?_⟩; replace BK515 := kB (g := gb515) hb; replace HB := hB hb; (try clear hb); (try clear hb2); (try clear hk); (try clear hi)))
  go_ret
  exact ⟨eS, bS⟩

/-! ### impl_TouchesBand: function 102 -/
def impl_TouchesBand.j0 : Nat → Int → Int → Bool → List (S171) → Int → Int → Int → Int → Int → Option (Bool)
 | 0, _, _, _, _, _, _, _, _, _ => none
 | k + 1, x1, x2, x18, x518000, x518001, x518002, x518003, x518004, x518005 => if x18 = true then (some false) else ((impl_ObjectBox.f k x518000 x518001 x518002 x518003 x518004 x518005).bind fun bt521 => ((impl_CountDots.f bt521.1 bt521.2.1 bt521.2.2.1 bt521.2.2.2).bind fun t526 => (if t526 > 0 then (if bt521.2.1 < (wrap64 ((wrap64 (x2 * x1)) + x1)) then (some (decide (bt521.2.2.2 > (wrap64 (x2 * x1))))) else (some false)) else (some false))))
def impl_TouchesBand.f (k : Nat) (l0_0 : List (S171)) (a0_1 : Int) (a0_2 : Int) (a0_3 : Int) (a0_4 : Int) (a0_5 : Int) (a1 : Int) (a2 : Int) : Option (Bool) := (impl_IsHeight.f a1).bind fun t518 => (if t518 = true then ((impl_CountBands.f a1).bind fun t519 => ((impl_within.f a2 0 (wrap64 (t519 - 1))).bind fun t520 => (impl_TouchesBand.j0 k a1 a2 (!t520) l0_0 a0_1 a0_2 a0_3 a0_4 a0_5))) else (impl_TouchesBand.j0 k a1 a2 true l0_0 a0_1 a0_2 a0_3 a0_4 a0_5))
theorem impl_TouchesBand.calls (k : Nat) (A0_0 : Option Addr) (c0_0 : Nat) (l0_0 : List (S171)) (a0_1 : Int) (a0_2 : Int) (a0_3 : Int) (a0_4 : Int) (a0_5 : Int) (a1 : Int) (a2 : Int) (r : Bool) (w : World) (hr0_0 : Kd.C k171 w A0_0 l0_0.length l0_0) (hc0_0 : l0_0.length ≤ c0_0) (h : impl_TouchesBand.f k l0_0 a0_1 a0_2 a0_3 a0_4 a0_5 a1 a2 = some r) :
  Calls Try.prog 102 #[.agg #[.slice A0_0 l0_0.length c0_0, .int .i64 a0_1, .int .i64 a0_2, .int .i64 a0_3, .int .i64 a0_4, .int .i64 a0_5], .int .i64 a1, .int .i64 a2] w fun e w' => e = .returned (.bool r) ∧ Below w.heap.size w w' := by
 have hu45 := Try.underlying45
 have hu43 := Try.underlying43
 have HR0_0 := Aside0.mk hr0_0
 have HC0_0 := Aside0.mk hc0_0
 clear hr0_0 hc0_0
 have HB := Aside0.mk (Below.refl w.heap.size w)
 have H : ((impl_IsHeight.f a1).bind fun t518 => (if t518 = true then ((impl_CountBands.f a1).bind fun t519 => ((impl_within.f a2 0 (wrap64 (t519 - 1))).bind fun t520 => (impl_TouchesBand.j0 k a1 a2 (!t520) l0_0 a0_1 a0_2 a0_3 a0_4 a0_5))) else (impl_TouchesBand.j0 k a1 a2 true l0_0 a0_1 a0_2 a0_3 a0_4 a0_5))) = some r := h
 clear h
 have HC4 := Aside0.mk H
 clear H
 go_enter Try.func102, Try.ntmps102
 go_upto_region 1 with (first | ((with_reducible refine gD 3 ?_); refine bxE #[.slice A0_0 l0_0.length c0_0, .int .i64 a0_1, .int .i64 a0_2, .int .i64 a0_3, .int .i64 a0_4, .int .i64 a0_5] 45 ?_; intro gb517 hg w5 BK517 hb; have GW517 := gE hg; have GE517 := gE hg; replace HB := hB hb; clear hb hg))
 (try simp only [Act.put, List.setIfInBounds_toArray, List.set_cons_zero, List.set_cons_succ])
 go_cut [18] (fun v18 wc => ∃ (kq : Nat) (x18_3 : Bool), v18 = .bool x18_3 ∧ Aside0 (impl_TouchesBand.j0 kq a1 a2 x18_3 l0_0 a0_1 a0_2 a0_3 a0_4 a0_5 = some r) ∧ Aside0 (kq ≤ k) ∧ Aside0 (wc.heap[gb517]? = some (.cells #[(.slice A0_0 l0_0.length c0_0), .int .i64 a0_1, .int .i64 a0_2, .int .i64 a0_3, .int .i64 a0_4, .int .i64 a0_5] 45 (0, 0))) ∧ Aside0 (Below w.heap.size w wc))
 case first =>
  have H := HC4.out
  clear HC4
  replace H := bN H
  obtain ⟨t518, A6, H⟩ := H
  by_cases c7 : t518 = true
  ·subst c7
   rw [if_pos rfl] at H
   replace H := bN H
   obtain ⟨t519, A8, H⟩ := H
   replace H := bN H
   obtain ⟨t520, A9, H⟩ := H
   have H' := Aside0.mk H
   clear H
   go_wp2_with (first | ((with_reducible refine gC 20 ?_); refine cL (some 9) Try.func20 #[.int .i64 a1] ?_; (with_reducible refine (impl_IsHeight.calls a1 _ _ A6.out).mono ?_); rintro e w' ⟨rfl, ⟨nd, rfl⟩⟩; refine ⟨_, rfl, ?_⟩) | (go_at_call 21; (with_reducible refine (impl_CountBands.calls a1 t519 _ A8.out).mono ?_); rintro e w' ⟨rfl, ⟨nd, rfl⟩⟩) | (go_at_call 126; (with_reducible refine (impl_within.calls a2 0 (wrap64 (t519 - 1)) t520 _ A9.out).mono ?_); rintro e w' ⟨rfl, ⟨nd, rfl⟩⟩))
   go_meet
   case rel => exact ⟨_, (!t520), (by first | rfl | (simp; done) | (simp [*]; done)), H', ⟨by first | omega | exact Nat.le_refl _⟩, ⟨kS⟩, ⟨bS⟩⟩
  ·obtain rfl := Bool.eq_false_iff.mpr c7
   rw [if_neg nF] at H
   have H' := Aside0.mk H
   clear H
   go_wp2_with (first | ((with_reducible refine gC 20 ?_); refine cL (some 9) Try.func20 #[.int .i64 a1] ?_; (with_reducible refine (impl_IsHeight.calls a1 _ _ A6.out).mono ?_); rintro e w' ⟨rfl, ⟨nd, rfl⟩⟩; refine ⟨_, rfl, ?_⟩))
   go_meet
   case rel => exact ⟨_, (true), (by first | rfl | (simp; done) | (simp [*]; done)), H', ⟨by first | omega | exact Nat.le_refl _⟩, ⟨kS⟩, ⟨bS⟩⟩
 case rest =>
  clear HC4
  try clear c1
  try clear c2
  try clear p2
  try clear p6
  try clear c7
  obtain ⟨kq, x18_3, rfl, HA, HJ3, BK517, HB⟩ := hcut
  cases kq with
  | zero => exact absurd HA.out (by simp [impl_TouchesBand.j0])
  | succ kj3 =>
   have H := HA.out
   clear HA
   simp only [impl_TouchesBand.j0] at H
   by_cases c10 : x18_3 = true
   ·subst c10
    rw [if_pos rfl] at H
    obtain rfl := Option.some.inj H
    simp only [Option.some.injEq, Prod.mk.injEq] at H
    obtain ⟨rfl⟩ := H
    go_wp2
    go_ret
    exact ⟨eS, bS⟩
   ·obtain rfl := Bool.eq_false_iff.mpr c10
    rw [if_neg nF] at H
    replace H := bN H
    obtain ⟨⟨t521, t522, t523, t524⟩, A11, H⟩ := H
    replace H := bN H
    obtain ⟨t526, A12, H⟩ := H
    by_cases c13 : t526 > 0
    ·rw [if_pos c13] at H
     have c13b0 : decide (0 < t526) = true := decide_eq_true c13
     clear c13
     by_cases c14 : t522 < (wrap64 ((wrap64 (a2 * a1)) + a1))
     ·rw [if_pos c14] at H
      have c14b0 : decide (t522 < (wrap64 ((wrap64 (a2 * a1)) + a1))) = true := decide_eq_true c14
      clear c14
      obtain rfl := Option.some.inj H
      simp only [Option.some.injEq, Prod.mk.injEq] at H
      obtain ⟨rfl⟩ := H
      have hz15 := cz6 BK517
      go_wp2_with (first | ((with_reducible refine gC 88 ?_); refine cL (some 20) Try.func88 #[.agg #[.slice A0_0 l0_0.length c0_0, .int .i64 a0_1, .int .i64 a0_2, .int .i64 a0_3, .int .i64 a0_4, .int .i64 a0_5]] ?_; (with_reducible refine (impl_ObjectBox.calls kj3 _ _ l0_0 a0_1 a0_2 a0_3 a0_4 a0_5 t521 t522 t523 t524 _ ?side1 ?side2 A11.out).mono ?_); (case side1 => exact cS (Kd.C_below HR0_0.out HB.out)); (case side2 => exact HC0_0.out); rintro e w16 ⟨rfl, hb⟩; refine ⟨_, rfl, ?_⟩; replace BK517 := kB (g := gb517) hb; replace HB := hB hb; (try clear hb); (try clear hb2); (try clear hk); (try clear hi)) | ((with_reducible refine gD 7 ?_); refine bxE #[.int .i64 0, .int .i64 0, .int .i64 0, .int .i64 0] 43 ?_; intro gb525 hg w17 BK525 hb; have GW525 := gE hg; have GE525 := gE hg; have NB517_525 := nL (g := gb517) hg; have NB525_517 := nG (g := gb517) hg; replace BK517 := kB (g := gb517) hb; replace HB := hB hb; clear hb hg; have hnb18 := NB525_517.out; have hnc18 := NB517_525.out; have hz19 := cz4 BK525) | ((with_reducible refine gC 163 ?_); refine cL (some 22) Try.func163 #[.agg #[.int .i64 t521, .int .i64 t522, .int .i64 t523, .int .i64 t524]] ?_; (with_reducible refine (impl_CountDots.calls t521 t522 t523 t524 t526 _ A12.out).mono ?_); rintro e w20 ⟨rfl, hb⟩; refine ⟨_, rfl, ?_⟩; replace BK517 := kB (g := gb517) hb; replace BK525 := Aside0.mk (blk_below (g := gb525) (o := .cells #[.int .i64 t521, .int .i64 t522, .int .i64 t523, .int .i64 t524] 43 (0, 0)) kS hb); replace HB := hB hb; (try clear hb); (try clear hb2); (try clear hk); (try clear hi); have hz21 := cz4 BK525))
      go_ret
      exact ⟨eS, bS⟩
     ·rw [if_neg c14] at H
      have c14b0 : decide (t522 < (wrap64 ((wrap64 (a2 * a1)) + a1))) = false := decide_eq_false c14
      clear c14
      obtain rfl := Option.some.inj H
      simp only [Option.some.injEq, Prod.mk.injEq] at H
      obtain ⟨rfl⟩ := H
      have hz22 := cz6 BK517
      go_wp2_with (first | ((with_reducible refine gC 88 ?_); refine cL (some 20) Try.func88 #[.agg #[.slice A0_0 l0_0.length c0_0, .int .i64 a0_1, .int .i64 a0_2, .int .i64 a0_3, .int .i64 a0_4, .int .i64 a0_5]] ?_; (with_reducible refine (impl_ObjectBox.calls kj3 _ _ l0_0 a0_1 a0_2 a0_3 a0_4 a0_5 t521 t522 t523 t524 _ ?side1 ?side2 A11.out).mono ?_); (case side1 => exact cS (Kd.C_below HR0_0.out HB.out)); (case side2 => exact HC0_0.out); rintro e w23 ⟨rfl, hb⟩; refine ⟨_, rfl, ?_⟩; replace BK517 := kB (g := gb517) hb; replace HB := hB hb; (try clear hb); (try clear hb2); (try clear hk); (try clear hi)) | ((with_reducible refine gD 7 ?_); refine bxE #[.int .i64 0, .int .i64 0, .int .i64 0, .int .i64 0] 43 ?_; intro gb525 hg w24 BK525 hb; have GW525 := gE hg; have GE525 := gE hg; have NB517_525 := nL (g := gb517) hg; have NB525_517 := nG (g := gb517) hg; replace BK517 := kB (g := gb517) hb; replace HB := hB hb; clear hb hg; have hnb25 := NB525_517.out; have hnc25 := NB517_525.out; have hz26 := cz4 BK525) | ((with_reducible refine gC 163 ?_); refine cL (some 22) Try.func163 #[.agg #[.int .i64 t521, .int .i64 t522, .int .i64 t523, .int .i64 t524]] ?_; (with_reducible refine (impl_CountDots.calls t521 t522 t523 t524 t526 _ A12.out).mono ?_); rintro e w27 ⟨rfl, hb⟩; refine ⟨_, rfl, ?_⟩; replace BK517 := kB (g := gb517) hb; replace BK525 := Aside0.mk (blk_below (g := gb525) (o := .cells #[.int .i64 t521, .int .i64 t522, .int .i64 t523, .int .i64 t524] 43 (0, 0)) kS hb); replace HB := hB hb; (try clear hb); (try clear hb2); (try clear hk); (try clear hi); have hz28 := cz4 BK525))
      go_ret
      exact ⟨eS, bS⟩
    ·rw [if_neg c13] at H
     have c13b0 : decide (0 < t526) = false := decide_eq_false c13
     clear c13
     obtain rfl := Option.some.inj H
     simp only [Option.some.injEq, Prod.mk.injEq] at H
     obtain ⟨rfl⟩ := H
     have hz29 := cz6 BK517
     go_wp2_with (first | ((with_reducible refine gC 88 ?_); refine cL (some 20) Try.func88 #[.agg #[.slice A0_0 l0_0.length c0_0, .int .i64 a0_1, .int .i64 a0_2, .int .i64 a0_3, .int .i64 a0_4, .int .i64 a0_5]] ?_; (with_reducible refine (impl_ObjectBox.calls kj3 _ _ l0_0 a0_1 a0_2 a0_3 a0_4 a0_5 t521 t522 t523 t524 _ ?side1 ?side2 A11.out).mono ?_); (case side1 => exact cS (Kd.C_below HR0_0.out HB.out)); (case side2 => exact HC0_0.out); rintro e w30 ⟨rfl, hb⟩; refine ⟨_, rfl, ?_⟩; replace BK517 := kB (g := gb517) hb; replace HB := hB hb; (try clear hb); (try clear hb2); (try clear hk); (try clear hi)) | ((with_reducible refine gD 7 ?_); refine bxE #[.int .i64 0, .int .i64 0, .int .i64 0, .int .i64 0] 43 ?_; intro gb525 hg w31 BK525 hb; have GW525 := gE hg; have GE525 := gE hg; have NB517_525 := nL (g := gb517) hg; have NB525_517 := nG (g := gb517) hg; replace BK517 := kB (g := gb517) hb; replace HB := hB hb; clear hb hg; have hnb32 := NB525_517.out; have hnc32 := NB517_525.out; have hz33 := cz4 BK525) | ((with_reducible refine gC 163 ?_); refine cL (some 22) Try.func163 #[.agg #[.int .i64 t521, .int .i64 t522, .int .i64 t523, .int .i64 t524]] ?_; (with_reducible refine (impl_CountDots.calls t521 t522 t523 t524 t526 _ A12.out).mono ?_); rintro e w34 ⟨rfl, hb⟩; refine ⟨_, rfl, ?_⟩; replace BK517 := kB (g := gb517) hb; replace BK525 := Aside0.mk (blk_below (g := gb525) (o := .cells #[.int .i64 t521, .int .i64 t522, .int .i64 t523, .int .i64 t524] 43 (0, 0)) kS hb); replace HB := hB hb; (try clear hb); (try clear hb2); (try clear hk); (try clear hi)))
     go_ret
     exact ⟨eS, bS⟩

end Go.Proofs.Ytigodjcnkgebaaa.QFnMemory
