-- Made out of the translation by a program of this session (a changed copy of the print). Not trusted: Lean checks it.
import Derived.Test.YtncfipboidmfbaaGreatQFnExactRowsOfBandx0
import Derived.Test.YtncfipboidmfbaaGreatQFnExactRowsOfBandx11
import Derived.Test.YtncfipboidmfbaaGreatQFnExactRowsOfBandx12
import Derived.Test.YtncfipboidmfbaaGreatQFnExactRowsOfBandx16
namespace Go.Proofs.YtncfipboidmfbaaGreat.QFnExactRowsOfBand
open Go.RowKit Go.Proofs.YtncfipboidmfbaaGreatW.PrintWords Go.Proofs.YtncfipboidmfbaaGreatW.PrintLast Go.Proofs.YtncfipboidmfbaaGreatW.PrintMore
attribute [local go_sem] max2_int min2_int max_two min_two max_three min_three max_four min_four   -- for this text's walks alone
set_option linter.unusedVariables false
set_option linter.unusedSimpArgs false
set_option maxHeartbeats 8000000
set_option maxRecDepth 100000

/-! ### impl_MergeBand: function 18 -/
def impl_MergeBand.l0 : Nat → List (S49) → Int → Int → Int → Int → List (List Int) → List (S49) → Option (Int × Int × (List (List Int)) × (List (S49)))
 | 0, _, _, _, _, _, _, _ => none
 | k + 1, x13, x14, x15, x584000, x584001, x584002, x584003 => if x15 < x14 then (if 0 ≤ x15 then (if x15 < (x13.length : Int) then ((impl_paint.f k x584002 (wrap64 (x584000 * x584001)) ((rd_T49 x13 x15).f0) ((rd_T49 x13 x15).f1) ((rd_T49 x13 x15).f2.f0) ((rd_T49 x13 x15).f2.f1) ((rd_T49 x13 x15).f2.f2) ((rd_T49 x13 x15).f2.f3)).bind fun t587 => (impl_MergeBand.l0 k x13 x14 (wrap64 (x15 + 1)) x584000 x584001 t587 x584003)) else (none)) else (none)) else (some (x584000, x584001, x584002, ([] : List (S49))))
def impl_MergeBand.f (k : Nat) (a0_0 : Int) (a0_1 : Int) (l0_2 : List (List Int)) (l0_3 : List (S49)) : Option (Int × Int × (List (List Int)) × (List (S49))) := (impl_copyBand.f k a0_0 a0_1 l0_2 l0_3).bind fun bt575 => ((impl_BandOk.f k a0_0 a0_1 l0_2 l0_3).bind fun t584 => (if t584 = true then (impl_MergeBand.l0 k bt575.2.2.2 (bt575.2.2.2.length : Int) 0 bt575.1 bt575.2.1 bt575.2.2.1 bt575.2.2.2) else (some (bt575.1, bt575.2.1, bt575.2.2.1, bt575.2.2.2))))
theorem impl_MergeBand.calls (k : Nat) (a0_0 : Int) (a0_1 : Int) (A0_2 : Option Addr) (c0_2 : Nat) (l0_2 : List (List Int)) (A0_3 : Option Addr) (c0_3 : Nat) (l0_3 : List (S49)) (r1 : Int) (r2 : Int) (r3 : List (List Int)) (r4 : List (S49)) (w : World) (hr0_2 : Kd.C (Kd.slice 3 (Kd.int .i64)) w A0_2 l0_2.length l0_2) (hc0_2 : l0_2.length ≤ c0_2) (hr0_3 : Kd.C k49 w A0_3 l0_3.length l0_3) (hc0_3 : l0_3.length ≤ c0_3) (h : impl_MergeBand.f k a0_0 a0_1 l0_2 l0_3 = some (r1, r2, r3, r4)) :
  Calls Tryz.prog 18 #[.agg #[.int .i64 a0_0, .int .i64 a0_1, .slice A0_2 l0_2.length c0_2, .slice A0_3 l0_3.length c0_3]] w fun e w' => ∃ v2_ v3_ : Value, e = .returned (.agg #[.int .i64 r1, .int .i64 r2, v2_, v3_]) ∧ Kd.S (Kd.slice 3 (Kd.int .i64)) 54 w' w.heap.size (fun _ => True) v2_ r3 ∧ Kd.S k49 49 w' w.heap.size (fun _ => True) v3_ r4 ∧ Below w.heap.size w w' := by
 have hu30 := Tryz.underlying30
 have hu49 := Tryz.underlying49
 have HR0_2 := Aside0.mk hr0_2
 have HC0_2 := Aside0.mk hc0_2
 clear hr0_2 hc0_2
 have HR0_3 := Aside0.mk hr0_3
 have HC0_3 := Aside0.mk hc0_3
 clear hr0_3 hc0_3
 have HB := Aside0.mk (Below.refl w.heap.size w)
 have H : ((impl_copyBand.f k a0_0 a0_1 l0_2 l0_3).bind fun bt575 => ((impl_BandOk.f k a0_0 a0_1 l0_2 l0_3).bind fun t584 => (if t584 = true then (impl_MergeBand.l0 k bt575.2.2.2 (bt575.2.2.2.length : Int) 0 bt575.1 bt575.2.1 bt575.2.2.1 bt575.2.2.2) else (some (bt575.1, bt575.2.1, bt575.2.2.1, bt575.2.2.2))))) = some (r1, r2, r3, r4) := h
 clear h
 replace H := bN H
 obtain ⟨⟨t575, t576, t577, t580⟩, A2, H⟩ := H
 replace H := bN H
 obtain ⟨t584, A3, H⟩ := H
 by_cases c4 : t584 = true
 ·subst c4
  rw [if_pos rfl] at H
  have H' := Aside0.mk H
  clear H
  go_enter Tryz.func18, Tryz.ntmps18
  go_wp2_with (first | ((with_reducible refine gD 1 ?_); refine bxE #[.int .i64 a0_0, .int .i64 a0_1, .slice A0_2 l0_2.length c0_2, .slice A0_3 l0_3.length c0_3] 30 ?_; intro gb573 hg w5 BK573 hb; have GW573 := gE hg; have GE573 := gE hg; replace HB := hB hb; clear hb hg) | ((with_reducible refine gD 2 ?_); refine bxE #[.int .i64 0, .int .i64 0, .slice none 0 0, .slice none 0 0] 30 ?_; intro gb574 hg w6 BK574 hb; have GW574 := gE hg; have GE574 := gE hg; have NB573_574 := nL (g := gb573) hg; have NB574_573 := nG (g := gb573) hg; replace BK573 := kB (g := gb573) hb; replace HB := hB hb; clear hb hg; have hnb7 := NB573_574.out; have hnc7 := NB574_573.out; have hcz8_0 : w6.cell? ⟨gb573, 0, none⟩ = some (.int .i64 a0_0) := (blk_cell BK573.out 0).trans rfl; have hcz8_1 : w6.cell? ⟨gb573, 1, none⟩ = some (.int .i64 a0_1) := (blk_cell BK573.out 1).trans rfl; have hcz8_2 : w6.cell? ⟨gb573, 2, none⟩ = some (.slice A0_2 l0_2.length c0_2) := (blk_cell BK573.out 2).trans rfl; have hcz8_3 : w6.cell? ⟨gb573, 3, none⟩ = some (.slice A0_3 l0_3.length c0_3) := (blk_cell BK573.out 3).trans rfl; have hfz8_0 := blk_frozen BK573.out 0; have hfz8_1 := blk_frozen BK573.out 1; have hfz8_2 := blk_frozen BK573.out 2; have hfz8_3 := blk_frozen BK573.out 3) | ((with_reducible refine gC 54 ?_); refine cL (some 7) Tryz.func54 #[.agg #[.int .i64 a0_0, .int .i64 a0_1, .slice A0_2 l0_2.length c0_2, .slice A0_3 l0_3.length c0_3]] ?_; (with_reducible refine (impl_copyBand.calls k a0_0 a0_1 _ _ l0_2 _ _ l0_3 t575 t576 t577 t580 _ ?side1 ?side2 ?side3 ?side4 A2.out).mono ?_); (case side1 => exact cS (Kd.C_below HR0_2.out HB.out)); (case side2 => exact HC0_2.out); (case side3 => exact cS (Kd.C_below HR0_3.out HB.out)); (case side4 => exact HC0_3.out); rintro e w9 ⟨v578, v581, rfl, ho0, ho1, hb⟩; refine ⟨_, rfl, ?_⟩; have HO579 := Aside0.mk (Kd.S_lower ho0 (below_size bS)); have HO582 := Aside0.mk (Kd.S_lower ho1 (below_size bS)); replace BK573 := kB (g := gb573) hb; replace BK574 := kB (g := gb574) hb; replace HB := hB hb; (try clear hb); (try clear hb2); (try clear hk); (try clear hi); (try clear ho0); (try clear ho1)) | ((with_reducible refine gD 3 ?_); refine bxE #[.int .i64 0, .int .i64 0, .slice none 0 0, .slice none 0 0] 30 ?_; intro gb583 hg w10 BK583 hb; have GW583 := gE hg; have GE583 := gE hg; have NB573_583 := nL (g := gb573) hg; have NB583_573 := nG (g := gb573) hg; have NB574_583 := nL (g := gb574) hg; have NB583_574 := nG (g := gb574) hg; replace HO579 := Aside0.mk (Kd.S_below (by (with_reducible repeat (first | apply Kd.S_alloc | apply Kd.S_drewN | apply Kd.S_drew)); exact HO579.out) hb); replace HO582 := Aside0.mk (Kd.S_below (by (with_reducible repeat (first | apply Kd.S_alloc | apply Kd.S_drewN | apply Kd.S_drew)); exact HO582.out) hb); replace BK573 := kB (g := gb573) hb; replace BK574 := kB (g := gb574) hb; replace HB := hB hb; clear hb hg; have hnb11 := NB583_573.out; have hnc11 := NB573_583.out; have hnb12 := NB583_574.out; have hnc12 := NB574_583.out; have hcz13_0 : w10.cell? ⟨gb583, 0, none⟩ = some (.int .i64 0) := (blk_cell BK583.out 0).trans rfl; have hcz13_1 : w10.cell? ⟨gb583, 1, none⟩ = some (.int .i64 0) := (blk_cell BK583.out 1).trans rfl; have hcz13_2 : w10.cell? ⟨gb583, 2, none⟩ = some (.slice none 0 0) := (blk_cell BK583.out 2).trans rfl; have hcz13_3 : w10.cell? ⟨gb583, 3, none⟩ = some (.slice none 0 0) := (blk_cell BK583.out 3).trans rfl; have hfz13_0 := blk_frozen BK583.out 0; have hfz13_1 := blk_frozen BK583.out 1; have hfz13_2 := blk_frozen BK583.out 2; have hfz13_3 := blk_frozen BK583.out 3; obtain ⟨Ao14, co14, eo14⟩ := Kd.S_slice HO579.out; subst eo14; obtain ⟨Ao15, co15, eo15⟩ := Kd.S_slice HO582.out; subst eo15; have hcz16_0 : w10.cell? ⟨gb573, 0, none⟩ = some (.int .i64 a0_0) := (blk_cell BK573.out 0).trans rfl; have hcz16_1 : w10.cell? ⟨gb573, 1, none⟩ = some (.int .i64 a0_1) := (blk_cell BK573.out 1).trans rfl; have hcz16_2 : w10.cell? ⟨gb573, 2, none⟩ = some (.slice A0_2 l0_2.length c0_2) := (blk_cell BK573.out 2).trans rfl; have hcz16_3 : w10.cell? ⟨gb573, 3, none⟩ = some (.slice A0_3 l0_3.length c0_3) := (blk_cell BK573.out 3).trans rfl; have hfz16_0 := blk_frozen BK573.out 0; have hfz16_1 := blk_frozen BK573.out 1; have hfz16_2 := blk_frozen BK573.out 2; have hfz16_3 := blk_frozen BK573.out 3) | ((with_reducible refine gC 46 ?_); refine cL (some 9) Tryz.func46 #[.agg #[.int .i64 a0_0, .int .i64 a0_1, .slice A0_2 l0_2.length c0_2, .slice A0_3 l0_3.length c0_3]] ?_; (with_reducible refine (impl_BandOk.calls k a0_0 a0_1 _ _ l0_2 _ _ l0_3 _ _ ?side1 ?side2 ?side3 ?side4 A3.out).mono ?_); (case side1 => exact Kd.C_below HR0_2.out bS); (case side2 => exact HC0_2.out); (case side3 => exact Kd.C_below HR0_3.out bS); (case side4 => exact HC0_3.out); rintro e w17 ⟨rfl, hb⟩; refine ⟨_, rfl, ?_⟩; replace HO579 := Aside0.mk (Kd.S_below (by (with_reducible repeat (first | apply Kd.S_alloc | apply Kd.S_drewN | apply Kd.S_drew)); exact (Kd.S_mono (Kd.S_far (p := ⟨gb583, 3, none⟩) (Kd.S_far (p := ⟨gb583, 2, none⟩) (Kd.S_far (p := ⟨gb583, 1, none⟩) (Kd.S_far (p := ⟨gb583, 0, none⟩) (Kd.S_types HO579.out BK583.out (by decide)) (fun _ hk => hk.2) (.int .i64 t575)) (fun _ hk => hk.2) (.int .i64 t576)) (fun _ hk => hk.2) (.slice Ao14 t577.length co14)) (fun _ hk => hk.2) (.slice Ao15 t580.length co15)) (fun _ h_ => h_.1))) hb); replace HO582 := Aside0.mk (Kd.S_below (by (with_reducible repeat (first | apply Kd.S_alloc | apply Kd.S_drewN | apply Kd.S_drew)); exact (Kd.S_mono (Kd.S_far (p := ⟨gb583, 3, none⟩) (Kd.S_far (p := ⟨gb583, 2, none⟩) (Kd.S_far (p := ⟨gb583, 1, none⟩) (Kd.S_far (p := ⟨gb583, 0, none⟩) (Kd.S_types HO582.out BK583.out (by decide)) (fun _ hk => hk.2) (.int .i64 t575)) (fun _ hk => hk.2) (.int .i64 t576)) (fun _ hk => hk.2) (.slice Ao14 t577.length co14)) (fun _ hk => hk.2) (.slice Ao15 t580.length co15)) (fun _ h_ => h_.1))) hb); replace BK573 := kB (g := gb573) hb; replace BK574 := kB (g := gb574) hb; replace BK583 := Aside0.mk (blk_below (g := gb583) (o := .cells #[.int .i64 t575, .int .i64 t576, .slice Ao14 t577.length co14, .slice Ao15 t580.length co15] 30 (0, 0)) kS hb); replace HB := hB hb; (try clear hb); (try clear hb2); (try clear hk); (try clear hi); have hcz18_0 : w17.cell? ⟨gb583, 0, none⟩ = some (.int .i64 t575) := (blk_cell BK583.out 0).trans rfl; have hcz18_1 : w17.cell? ⟨gb583, 1, none⟩ = some (.int .i64 t576) := (blk_cell BK583.out 1).trans rfl; have hcz18_2 : w17.cell? ⟨gb583, 2, none⟩ = some (.slice Ao14 t577.length co14) := (blk_cell BK583.out 2).trans rfl; have hcz18_3 : w17.cell? ⟨gb583, 3, none⟩ = some (.slice Ao15 t580.length co15) := (blk_cell BK583.out 3).trans rfl; have hfz18_0 := blk_frozen BK583.out 0; have hfz18_1 := blk_frozen BK583.out 1; have hfz18_2 := blk_frozen BK583.out 2; have hfz18_3 := blk_frozen BK583.out 3))
  go_loopg [15] k (fun kq v15 w' => ∃ (x15_1 : Int) (x584002_1 : List (List Int)) (u584002 : Value), v15 = .int .i64 x15_1 ∧ Aside0 (impl_MergeBand.l0 kq t580 (t580.length : Int) x15_1 t575 t576 x584002_1 t580 = some (r1, r2, r3, r4)) ∧ Aside0 (kq ≤ k) ∧ Aside0 (Kd.S k49 49 w' w.heap.size (fun _ => True) (.slice Ao15 t580.length co15) t580) ∧ Aside0 (Kd.S (Kd.slice 3 (Kd.int .i64)) 54 w' w.heap.size (fun _ => True) u584002 x584002_1) ∧ Aside0 (Kd.S k49 49 w' w.heap.size (fun _ => True) (.slice Ao15 t580.length co15) t580) ∧ Aside0 (w'.heap[gb573]? = some (.cells #[.int .i64 a0_0, .int .i64 a0_1, (.slice A0_2 l0_2.length c0_2), (.slice A0_3 l0_3.length c0_3)] 30 (0, 0))) ∧ Aside0 (w'.heap[gb574]? = some (.cells #[.int .i64 0, .int .i64 0, (.slice none 0 0), (.slice none 0 0)] 30 (0, 0))) ∧ Aside0 (w'.heap[gb583]? = some (.cells #[.int .i64 t575, .int .i64 t576, u584002, (.slice Ao15 t580.length co15)] 30 (0, 0))) ∧ Aside0 (Below w.heap.size w w'))
  case atStart => exact ⟨(0), (t577), (.slice Ao14 t577.length co14), (by first | rfl | (simp; done) | (simp [*]; done)), H', ⟨Nat.le_refl _⟩, ⟨by (with_reducible repeat (first | apply Kd.S_alloc | apply Kd.S_drewN | apply Kd.S_drew)); exact HO582.out⟩, ⟨by (with_reducible repeat (first | apply Kd.S_alloc | apply Kd.S_drewN | apply Kd.S_drew)); exact HO579.out⟩, ⟨by (with_reducible repeat (first | apply Kd.S_alloc | apply Kd.S_drewN | apply Kd.S_drew)); exact HO582.out⟩, ⟨kS⟩, ⟨kS⟩, ⟨kS⟩, ⟨bS⟩⟩
  case round =>
   clear H'
   try clear c1
   try clear p2
   try clear c4
   try clear c5
   try clear c7
   try clear c11
   try clear c12
   try clear c18
   try clear hcz13_0
   try clear hcz13_1
   try clear hcz13_2
   try clear hcz13_3
   try clear hcz16_0
   try clear hcz16_1
   try clear hcz16_2
   try clear hcz16_3
   try clear hcz18_0
   try clear hcz18_1
   try clear hcz18_2
   try clear hcz18_3
   try clear hcz8_0
   try clear hcz8_1
   try clear hcz8_2
   try clear hcz8_3
   try clear hfz13_0
   try clear hfz13_1
   try clear hfz13_2
   try clear hfz13_3
   try clear hfz16_0
   try clear hfz16_1
   try clear hfz16_2
   try clear hfz16_3
   try clear hfz18_0
   try clear hfz18_1
   try clear hfz18_2
   try clear hfz18_3
   try clear hfz8_0
   try clear hfz8_1
   try clear hfz8_2
   try clear hfz8_3
   obtain ⟨x15_1, x584002_1, u584002, rfl, HA, HK1, HO_13, HO_584002, HO_584003, BK573, BK574, BK583, HB⟩ := hrel
   cases gk with
   | zero => exact absurd HA.out (by simp [impl_MergeBand.l0])
   | succ k1 =>
    have H := HA.out
    clear HA
    simp only [impl_MergeBand.l0] at H
    by_cases c19 : x15_1 < (t580.length : Int)
    ·rw [if_pos c19] at H
     have c19b0 : decide (x15_1 < (t580.length : Int)) = true := decide_eq_true c19
     clear c19
     by_cases c20 : 0 ≤ x15_1
     ·rw [if_pos c20] at H
      have c20b0 : decide (0 ≤ x15_1) = true := decide_eq_true c20
      clear c20
      by_cases c21 : x15_1 < (t580.length : Int)
      ·rw [if_pos c21] at H
       have c21b0 : decide (x15_1 < (t580.length : Int)) = true := decide_eq_true c21
       clear c21
       replace H := bN H
       obtain ⟨t587, A22, H⟩ := H
       have H' := Aside0.mk H
       clear H
       have p585 : 0 ≤ (x15_1 : Int) := of_decide_eq_true (by first | (with_reducible assumption) | assumption)
       have q585 : x15_1 < (t580.length : Int) := of_decide_eq_true (by first | (with_reducible assumption) | assumption)
       obtain ⟨ad585, A585_0, c585_0, e585, hx585_0, hx585_1, hx585_2, hx585_3, hx585_4, hx585_5, hl585_0, hi585_0⟩ := at_T49 (Kd.S_reads' HO_13.out).2.2 x15_1 p585 q585
       cases e585
       obtain ⟨ce585, hce585, hMe585, hcc585⟩ := Kd.S_get HO_13.out z49 x15_1 p585 (by first | exact q585 | exact of_decide_eq_true (by first | (with_reducible assumption) | assumption) | (have e_ := (Kd.S_reads' HO_13.out).1; omega))
       obtain ⟨ve585_0, rfl, ge585_0⟩ := k49_openM hMe585
       have hv585_0 := hcc585 0 _ rfl
       rw [Nat.add_zero] at hv585_0
       replace hv585_0 := Option.some.inj (hv585_0.symm.trans hx585_0)
       rw [hv585_0] at ge585_0
       have HL585_0 := Aside0.mk (show Kd.R k151 151 _ _ _ _ ((rd_T49 t580 x15_1).f0) from ge585_0)
       clear hv585_0 ge585_0
       clear hcc585 hce585
       have HR585_0 := Aside0.mk hi585_0
       have HC585_0 := Aside0.mk hl585_0
       clear hi585_0 hl585_0
       replace p585 := eq_true p585
       replace q585 := eq_true q585
       go_wp2_with (first | ((with_reducible refine gD 5 ?_); refine bxE #[.slice none 0 0, .int .i64 0, .int .i64 0, .int .i64 0, .int .i64 0, .int .i64 0] 49 ?_; intro gb586 hg w23 BK586 hb; have GW586 := gE hg; have GE586 := gE hg; have NB573_586 := nL (g := gb573) hg; have NB586_573 := nG (g := gb573) hg; have NB574_586 := nL (g := gb574) hg; have NB586_574 := nG (g := gb574) hg; have NB583_586 := nL (g := gb583) hg; have NB586_583 := nG (g := gb583) hg; replace HO_13 := Aside0.mk (Kd.S_below (Kd.S_elderB (by (with_reducible repeat (first | apply Kd.S_alloc | apply Kd.S_drewN | apply Kd.S_drew)); exact HO_13.out) gb586 (Nat.le_of_eq hg.symm)) hb); replace HO_584002 := Aside0.mk (Kd.S_below (by (with_reducible repeat (first | apply Kd.S_alloc | apply Kd.S_drewN | apply Kd.S_drew)); exact HO_584002.out) hb); replace HO_584003 := Aside0.mk (Kd.S_below (Kd.S_elderB (by (with_reducible repeat (first | apply Kd.S_alloc | apply Kd.S_drewN | apply Kd.S_drew)); exact HO_584003.out) gb586 (Nat.le_of_eq hg.symm)) hb); replace HL585_0 := Aside0.mk (Kd.R_below (rS HL585_0) hb); replace BK573 := kB (g := gb573) hb; replace BK574 := kB (g := gb574) hb; replace BK583 := kB (g := gb583) hb; replace HR585_0 := Aside0.mk (Kd.C_below (by repeat (first | (with_reducible exact HR585_0.out) | (with_reducible refine Kd.C_alloc ?_ _) | (with_reducible refine Kd.C_drewN ?_ _) | (with_reducible refine Kd.C_drew ?_) | exact HR585_0.out)) hb); replace HB := hB hb; clear hb hg; have hnb24 := NB586_573.out; have hnc24 := NB573_586.out; have hnb25 := NB586_574.out; have hnc25 := NB574_586.out; have hnb26 := NB586_583.out; have hnc26 := NB583_586.out; have hz27 := cz6 BK586) | ((with_reducible refine gate_store (t := 49) (p := 5) rfl ?_); refine store_event (t := 49) (p := 5) (v := ?vo_w28) (w1 := ((((((w23.setCell ⟨gb586, 0, none⟩ (.slice A585_0 ((rd_T49 t580 x15_1).f0).length c585_0)).setCell ⟨gb586, 1, none⟩ (.int .i64 ((rd_T49 t580 x15_1).f1))).setCell ⟨gb586, 2, none⟩ (.int .i64 ((rd_T49 t580 x15_1).f2.f0))).setCell ⟨gb586, 3, none⟩ (.int .i64 ((rd_T49 t580 x15_1).f2.f1))).setCell ⟨gb586, 4, none⟩ (.int .i64 ((rd_T49 t580 x15_1).f2.f2))).setCell ⟨gb586, 5, none⟩ (.int .i64 ((rd_T49 t580 x15_1).f2.f3)))) ?hg ?ho ?hn ?hr ?_; (case ho => rfl); (case hg => rfl); (case hn => rfl); (case hr => first | (go_simp; done) | (go_simp; rfl)); intro w28 hw; replace HO_13 : Aside0 (Kd.S k49 49 w28 w.heap.size (fun k_ => k_ ≠ gb586) (.slice (some ad585) t580.length co15) t580) := ⟨(by rw [hw]; exact (by (with_reducible repeat (first | apply Kd.S_alloc | apply Kd.S_drewN | apply Kd.S_drew)); exact Kd.S_mono (Kd.S_far (p := ⟨gb586, 5, none⟩) (Kd.S_far (p := ⟨gb586, 4, none⟩) (Kd.S_far (p := ⟨gb586, 3, none⟩) (Kd.S_far (p := ⟨gb586, 2, none⟩) (Kd.S_far (p := ⟨gb586, 1, none⟩) (Kd.S_far (p := ⟨gb586, 0, none⟩) (Kd.S_mono HO_13.out (fun k_ hk => (⟨hk, hk.2⟩ : _ ∧ k_ ≠ gb586))) (fun _ hk => hk.2) (.slice A585_0 ((rd_T49 t580 x15_1).f0).length c585_0)) (fun _ hk => hk.2) (.int .i64 ((rd_T49 t580 x15_1).f1))) (fun _ hk => hk.2) (.int .i64 ((rd_T49 t580 x15_1).f2.f0))) (fun _ hk => hk.2) (.int .i64 ((rd_T49 t580 x15_1).f2.f1))) (fun _ hk => hk.2) (.int .i64 ((rd_T49 t580 x15_1).f2.f2))) (fun _ hk => hk.2) (.int .i64 ((rd_T49 t580 x15_1).f2.f3))) (fun _ hk => hk.1.2)))⟩; replace HO_584002 : Aside0 (Kd.S (Kd.slice 3 (Kd.int .i64)) 54 w28 w.heap.size (fun _ => True) u584002 x584002_1) := ⟨(by rw [hw]; exact (by (with_reducible repeat (first | apply Kd.S_alloc | apply Kd.S_drewN | apply Kd.S_drew)); exact Kd.S_mono (Kd.S_far (p := ⟨gb586, 5, none⟩) (Kd.S_far (p := ⟨gb586, 4, none⟩) (Kd.S_far (p := ⟨gb586, 3, none⟩) (Kd.S_far (p := ⟨gb586, 2, none⟩) (Kd.S_far (p := ⟨gb586, 1, none⟩) (Kd.S_far (p := ⟨gb586, 0, none⟩) (Kd.S_types HO_584002.out BK586.out (by decide)) (fun _ hk => hk.2) (.slice A585_0 ((rd_T49 t580 x15_1).f0).length c585_0)) (fun _ hk => hk.2) (.int .i64 ((rd_T49 t580 x15_1).f1))) (fun _ hk => hk.2) (.int .i64 ((rd_T49 t580 x15_1).f2.f0))) (fun _ hk => hk.2) (.int .i64 ((rd_T49 t580 x15_1).f2.f1))) (fun _ hk => hk.2) (.int .i64 ((rd_T49 t580 x15_1).f2.f2))) (fun _ hk => hk.2) (.int .i64 ((rd_T49 t580 x15_1).f2.f3))) (fun _ hk => trivial)))⟩; replace HO_584003 : Aside0 (Kd.S k49 49 w28 w.heap.size (fun k_ => k_ ≠ gb586) (.slice (some ad585) t580.length co15) t580) := ⟨(by rw [hw]; exact (by (with_reducible repeat (first | apply Kd.S_alloc | apply Kd.S_drewN | apply Kd.S_drew)); exact Kd.S_mono (Kd.S_far (p := ⟨gb586, 5, none⟩) (Kd.S_far (p := ⟨gb586, 4, none⟩) (Kd.S_far (p := ⟨gb586, 3, none⟩) (Kd.S_far (p := ⟨gb586, 2, none⟩) (Kd.S_far (p := ⟨gb586, 1, none⟩) (Kd.S_far (p := ⟨gb586, 0, none⟩) (Kd.S_mono HO_584003.out (fun k_ hk => (⟨hk, hk.2⟩ : _ ∧ k_ ≠ gb586))) (fun _ hk => hk.2) (.slice A585_0 ((rd_T49 t580 x15_1).f0).length c585_0)) (fun _ hk => hk.2) (.int .i64 ((rd_T49 t580 x15_1).f1))) (fun _ hk => hk.2) (.int .i64 ((rd_T49 t580 x15_1).f2.f0))) (fun _ hk => hk.2) (.int .i64 ((rd_T49 t580 x15_1).f2.f1))) (fun _ hk => hk.2) (.int .i64 ((rd_T49 t580 x15_1).f2.f2))) (fun _ hk => hk.2) (.int .i64 ((rd_T49 t580 x15_1).f2.f3))) (fun _ hk => hk.1.2)))⟩; replace HL585_0 : Aside0 (Kd.R k151 151 w28 w.heap.size (fun k_ => some k_ ≠ (.slice (some ad585) t580.length co15 : Value).ownBlock) (.slice A585_0 ((rd_T49 t580 x15_1).f0).length c585_0) ((rd_T49 t580 x15_1).f0)) := ⟨(by rw [hw]; exact (by (with_reducible repeat (first | apply Kd.R_alloc | apply Kd.R_drewN | apply Kd.R_drew)); exact Kd.R_mono (Kd.R_far (p := ⟨gb586, 5, none⟩) (Kd.R_far (p := ⟨gb586, 4, none⟩) (Kd.R_far (p := ⟨gb586, 3, none⟩) (Kd.R_far (p := ⟨gb586, 2, none⟩) (Kd.R_far (p := ⟨gb586, 1, none⟩) (Kd.R_far (p := ⟨gb586, 0, none⟩) (Kd.R_types HL585_0.out BK586.out (by decide)) (fun _ hk => hk.2) (.slice A585_0 ((rd_T49 t580 x15_1).f0).length c585_0)) (fun _ hk => hk.2) (.int .i64 ((rd_T49 t580 x15_1).f1))) (fun _ hk => hk.2) (.int .i64 ((rd_T49 t580 x15_1).f2.f0))) (fun _ hk => hk.2) (.int .i64 ((rd_T49 t580 x15_1).f2.f1))) (fun _ hk => hk.2) (.int .i64 ((rd_T49 t580 x15_1).f2.f2))) (fun _ hk => hk.2) (.int .i64 ((rd_T49 t580 x15_1).f2.f3))) (fun _ hk => hk.1.2)))⟩; replace BK573 : Aside0 (w28.heap[gb573]? = some (.cells #[.int .i64 a0_0, .int .i64 a0_1, .slice A0_2 l0_2.length c0_2, .slice A0_3 l0_3.length c0_3] 30 (0, 0))) := ⟨(by rw [hw]; exact kS)⟩; replace BK574 : Aside0 (w28.heap[gb574]? = some (.cells #[.int .i64 0, .int .i64 0, .slice none 0 0, .slice none 0 0] 30 (0, 0))) := ⟨(by rw [hw]; exact kS)⟩; replace BK583 : Aside0 (w28.heap[gb583]? = some (.cells #[.int .i64 t575, .int .i64 t576, u584002, .slice (some ad585) t580.length co15] 30 (0, 0))) := ⟨(by rw [hw]; exact kS)⟩; replace BK586 : Aside0 (w28.heap[gb586]? = some (.cells #[.slice A585_0 ((rd_T49 t580 x15_1).f0).length c585_0, .int .i64 ((rd_T49 t580 x15_1).f1), .int .i64 ((rd_T49 t580 x15_1).f2.f0), .int .i64 ((rd_T49 t580 x15_1).f2.f1), .int .i64 ((rd_T49 t580 x15_1).f2.f2), .int .i64 ((rd_T49 t580 x15_1).f2.f3)] 49 (0, 0))) := ⟨(by rw [hw]; exact kS)⟩; replace HB : Aside0 (Below w.heap.size w w28) := ⟨(by rw [hw]; exact bS)⟩; clear hw; have hnb29 := NB583_573.out; have hnc29 := NB573_583.out; have hnb30 := NB583_574.out; have hnc30 := NB574_583.out; have hz31 := cz4 BK583; have hz32 := cz6 BK586; obtain ⟨Ao33, co33, eo33⟩ := Kd.S_slice HO_584002.out; subst eo33) | ((with_reducible refine gC 55 ?_); refine cL (some 27) Tryz.func55 #[.slice Ao33 x584002_1.length co33, .int .i64 (wrap64 (t575 * t576)), .agg #[.slice A585_0 ((rd_T49 t580 x15_1).f0).length c585_0, .int .i64 ((rd_T49 t580 x15_1).f1), .int .i64 ((rd_T49 t580 x15_1).f2.f0), .int .i64 ((rd_T49 t580 x15_1).f2.f1), .int .i64 ((rd_T49 t580 x15_1).f2.f2), .int .i64 ((rd_T49 t580 x15_1).f2.f3)]] ?_; (with_reducible refine (impl_paint.calls k1 (fun k_ => w.heap.size ≤ k_ ∧ ∃ q_, q_ ∈ 54 :: (Kd.slice 3 (Kd.int .i64)).E ∧ ∃ c_, w28.heap[k_]? = some (.cells c_ q_ (0, 0))) (.slice Ao33 x584002_1.length co33) x584002_1 (wrap64 (t575 * t576)) _ _ ((rd_T49 t580 x15_1).f0) ((rd_T49 t580 x15_1).f1) ((rd_T49 t580 x15_1).f2.f0) ((rd_T49 t580 x15_1).f2.f1) ((rd_T49 t580 x15_1).f2.f2) ((rd_T49 t580 x15_1).f2.f3) t587 w _ ?side1 ?side2 ?side3 ?side4 A22.out).mono ?_); (case side1 => repeat (first | (with_reducible first | exact HB.out | apply below_alloc | apply pw_below_drewN | apply below_drew1 | refine below_set ?_ GE573.out | refine below_set ?_ GE574.out | refine below_set ?_ GE583.out | refine below_set ?_ GE586.out) | exact HB.out)); (case side2 => (with_reducible repeat (first | apply Kd.S_alloc | apply Kd.S_drewN | apply Kd.S_drew)); exact Kd.S_mono (Kd.S_bound HO_584002.out) (fun k_ h_ => ⟨h_.2.1, h_.2.2.2⟩)); (case side3 => exact Kd.C_kept_own ((R_not (fun k_ => w.heap.size ≤ k_ ∧ ∃ q_, q_ ∈ 54 :: (Kd.slice 3 (Kd.int .i64)).E ∧ ∃ c_, w28.heap[k_]? = some (.cells c_ q_ (0, 0))) HL585_0.out (fun k_ h_ e_ => typed_two h_.2.2.2 e_.2 (by decide)))) (fun k_ hk_ hs_ => (hk_.2) hs_)); (case side4 => exact HC585_0.out); rintro e w34 ⟨rfl, hy0, hb, hkp⟩; refine ⟨_, rfl, ?_⟩; replace HO_13 := Aside0.mk (Kd.S_mono (ok' := fun k_ => k_ ≠ gb586) (Kd.S_keptB ((S_not (fun k_ => w.heap.size ≤ k_ ∧ ∃ q_, q_ ∈ 54 :: (Kd.slice 3 (Kd.int .i64)).E ∧ ∃ c_, w28.heap[k_]? = some (.cells c_ q_ (0, 0))) HO_13.out (fun k_ h_ e_ => typed_two h_.2.2.2 e_.2 (by decide)))) hkp (fun k_ hk_ hs_ => (hk_.2) hs_)) (fun k_ hk_ => hk_.1.1)); replace HO_584002 := Aside0.mk (Kd.S_mono hy0 (fun _ _ => trivial)); replace HO_584003 := Aside0.mk (Kd.S_mono (ok' := fun k_ => k_ ≠ gb586) (Kd.S_keptB ((S_not (fun k_ => w.heap.size ≤ k_ ∧ ∃ q_, q_ ∈ 54 :: (Kd.slice 3 (Kd.int .i64)).E ∧ ∃ c_, w28.heap[k_]? = some (.cells c_ q_ (0, 0))) HO_584003.out (fun k_ h_ e_ => typed_two h_.2.2.2 e_.2 (by decide)))) hkp (fun k_ hk_ hs_ => (hk_.2) hs_)) (fun k_ hk_ => hk_.1.1)); replace BK573 := Aside0.mk (blk_kept (g := gb573) kS hkp (fun hs_ => (fun e_ => typed_one (by exact BK573.out) e_.2 (by decide)) hs_)); replace BK574 := Aside0.mk (blk_kept (g := gb574) kS hkp (fun hs_ => (fun e_ => typed_one (by exact BK574.out) e_.2 (by decide)) hs_)); replace BK583 := Aside0.mk (blk_kept (g := gb583) kS hkp (fun hs_ => (fun e_ => typed_one (by exact BK583.out) e_.2 (by decide)) hs_)); replace BK586 := Aside0.mk (blk_kept (g := gb586) kS hkp (fun hs_ => (fun e_ => typed_one (by exact BK586.out) e_.2 (by decide)) hs_)); replace HB := Aside0.mk (hb); clear HL585_0; (try clear hb); (try clear hkp); (try clear hy0)))
       go_roundg k1
       case measure => have := HK1.out; omega
       case rel => exact ⟨(wrap64 (x15_1 + 1)), (t587), (.slice Ao33 x584002_1.length co33), (by first | rfl | (simp; done) | (simp [*]; done)), H', ⟨by have := HK1.out; omega⟩, ⟨by (with_reducible repeat (first | apply Kd.S_alloc | apply Kd.S_drewN | apply Kd.S_drew)); exact Kd.S_mono HO_13.out (fun _ hk => trivial)⟩, ⟨by (with_reducible repeat (first | apply Kd.S_alloc | apply Kd.S_drewN | apply Kd.S_drew)); exact HO_584002.out⟩, ⟨by (with_reducible repeat (first | apply Kd.S_alloc | apply Kd.S_drewN | apply Kd.S_drew)); exact Kd.S_mono HO_584003.out (fun _ hk => trivial)⟩, ⟨kS⟩, ⟨kS⟩, ⟨kS⟩, ⟨bS⟩⟩
      ·rw [if_neg c21] at H
       exact absurd H (by simp)
     ·rw [if_neg c20] at H
      exact absurd H (by simp)
    ·rw [if_neg c19] at H
     have c19b0 : decide (x15_1 < (t580.length : Int)) = false := decide_eq_false c19
     clear c19
     simp only [Option.some.injEq, Prod.mk.injEq] at H
     obtain ⟨rfl, rfl, rfl, rfl⟩ := H
     have hnb35 := NB583_573.out
     have hnc35 := NB573_583.out
     have hnb36 := NB583_574.out
     have hnc36 := NB574_583.out
     have hz37 := cz4 BK583
     have hnb38 := NB574_573.out
     have hnc38 := NB573_574.out
     have hz39 := cz4 BK574
     obtain ⟨Ao40, co40, eo40⟩ := Kd.S_slice HO_584002.out
     subst eo40
     go_wp2
     refine bodyPost_ret (results_cell_row rfl _ _ gb574 30 #[.int .i64 t575, .int .i64 t576, .slice Ao40 x584002_1.length co40, .slice none 0 0] (0, 0) _ rfl kS Tryz.underlying30 rfl (by kernel_rfl)) rfl ?_
     exact ⟨_, _, eS, by (with_reducible repeat (first | apply Kd.S_alloc | apply Kd.S_drewN | apply Kd.S_drew)); exact Kd.S_mono (Kd.S_far (p := ⟨gb574, 3, none⟩) (Kd.S_far (p := ⟨gb574, 2, none⟩) (Kd.S_far (p := ⟨gb574, 1, none⟩) (Kd.S_far (p := ⟨gb574, 0, none⟩) (Kd.S_far (p := ⟨gb583, 3, none⟩) (Kd.S_types (Kd.S_types HO_584002.out BK583.out (by decide)) BK574.out (by decide)) (fun _ hk => hk.1.2) (.slice none 0 0)) (fun _ hk => hk.2) (.int .i64 t575)) (fun _ hk => hk.2) (.int .i64 t576)) (fun _ hk => hk.2) (.slice Ao40 x584002_1.length co40)) (fun _ hk => hk.2) (.slice none 0 0)) (fun _ hk => trivial), by first | exact Kd.S_nil _ _ _ _ _ | exact Kd.N_nil _ _ _ _ _ | exact Kd.V_nil _ _ _ _ _ | exact Kd.Q_nil _ _ _ _ _ | exact Kd.R_nil _ _ _ _ _, bS⟩
 ·obtain rfl := Bool.eq_false_iff.mpr c4
  rw [if_neg nF] at H
  simp only [Option.some.injEq, Prod.mk.injEq] at H
  obtain ⟨rfl, rfl, rfl, rfl⟩ := H
  go_enter Tryz.func18, Tryz.ntmps18
  go_wp2_with (first | ((with_reducible refine gD 1 ?_); refine bxE #[.int .i64 a0_0, .int .i64 a0_1, .slice A0_2 l0_2.length c0_2, .slice A0_3 l0_3.length c0_3] 30 ?_; intro gb573 hg w41 BK573 hb; have GW573 := gE hg; have GE573 := gE hg; replace HB := hB hb; clear hb hg) | ((with_reducible refine gD 2 ?_); refine bxE #[.int .i64 0, .int .i64 0, .slice none 0 0, .slice none 0 0] 30 ?_; intro gb574 hg w42 BK574 hb; have GW574 := gE hg; have GE574 := gE hg; have NB573_574 := nL (g := gb573) hg; have NB574_573 := nG (g := gb573) hg; replace BK573 := kB (g := gb573) hb; replace HB := hB hb; clear hb hg; have hnb43 := NB573_574.out; have hnc43 := NB574_573.out; have hz44 := cz4 BK573) | ((with_reducible refine gC 54 ?_); refine cL (some 7) Tryz.func54 #[.agg #[.int .i64 a0_0, .int .i64 a0_1, .slice A0_2 l0_2.length c0_2, .slice A0_3 l0_3.length c0_3]] ?_; (with_reducible refine (impl_copyBand.calls k a0_0 a0_1 _ _ l0_2 _ _ l0_3 t575 t576 t577 t580 _ ?side1 ?side2 ?side3 ?side4 A2.out).mono ?_); (case side1 => exact cS (Kd.C_below HR0_2.out HB.out)); (case side2 => exact HC0_2.out); (case side3 => exact cS (Kd.C_below HR0_3.out HB.out)); (case side4 => exact HC0_3.out); rintro e w45 ⟨v578, v581, rfl, ho0, ho1, hb⟩; refine ⟨_, rfl, ?_⟩; have HO579 := Aside0.mk (Kd.S_lower ho0 (below_size bS)); have HO582 := Aside0.mk (Kd.S_lower ho1 (below_size bS)); replace BK573 := kB (g := gb573) hb; replace BK574 := kB (g := gb574) hb; replace HB := hB hb; (try clear hb); (try clear hb2); (try clear hk); (try clear hi); (try clear ho0); (try clear ho1)) | ((with_reducible refine gD 3 ?_); refine bxE #[.int .i64 0, .int .i64 0, .slice none 0 0, .slice none 0 0] 30 ?_; intro gb583 hg w46 BK583 hb; have GW583 := gE hg; have GE583 := gE hg; have NB573_583 := nL (g := gb573) hg; have NB583_573 := nG (g := gb573) hg; have NB574_583 := nL (g := gb574) hg; have NB583_574 := nG (g := gb574) hg; replace HO579 := Aside0.mk (Kd.S_below (by (with_reducible repeat (first | apply Kd.S_alloc | apply Kd.S_drewN | apply Kd.S_drew)); exact HO579.out) hb); replace HO582 := Aside0.mk (Kd.S_below (by (with_reducible repeat (first | apply Kd.S_alloc | apply Kd.S_drewN | apply Kd.S_drew)); exact HO582.out) hb); replace BK573 := kB (g := gb573) hb; replace BK574 := kB (g := gb574) hb; replace HB := hB hb; clear hb hg; have hnb47 := NB583_573.out; have hnc47 := NB573_583.out; have hnb48 := NB583_574.out; have hnc48 := NB574_583.out; have hz49 := cz4 BK583; obtain ⟨Ao50, co50, eo50⟩ := Kd.S_slice HO579.out; subst eo50; obtain ⟨Ao51, co51, eo51⟩ := Kd.S_slice HO582.out; subst eo51; have hz52 := cz4 BK573) | ((with_reducible refine gC 46 ?_); refine cL (some 9) Tryz.func46 #[.agg #[.int .i64 a0_0, .int .i64 a0_1, .slice A0_2 l0_2.length c0_2, .slice A0_3 l0_3.length c0_3]] ?_; (with_reducible refine (impl_BandOk.calls k a0_0 a0_1 _ _ l0_2 _ _ l0_3 _ _ ?side1 ?side2 ?side3 ?side4 A3.out).mono ?_); (case side1 => exact Kd.C_below HR0_2.out bS); (case side2 => exact HC0_2.out); (case side3 => exact Kd.C_below HR0_3.out bS); (case side4 => exact HC0_3.out); rintro e w53 ⟨rfl, hb⟩; refine ⟨_, rfl, ?_⟩; replace HO579 := Aside0.mk (Kd.S_below (by (with_reducible repeat (first | apply Kd.S_alloc | apply Kd.S_drewN | apply Kd.S_drew)); exact (Kd.S_mono (Kd.S_far (p := ⟨gb583, 3, none⟩) (Kd.S_far (p := ⟨gb583, 2, none⟩) (Kd.S_far (p := ⟨gb583, 1, none⟩) (Kd.S_far (p := ⟨gb583, 0, none⟩) (Kd.S_types HO579.out BK583.out (by decide)) (fun _ hk => hk.2) (.int .i64 t575)) (fun _ hk => hk.2) (.int .i64 t576)) (fun _ hk => hk.2) (.slice Ao50 t577.length co50)) (fun _ hk => hk.2) (.slice Ao51 t580.length co51)) (fun _ h_ => h_.1))) hb); replace HO582 := Aside0.mk (Kd.S_below (by (with_reducible repeat (first | apply Kd.S_alloc | apply Kd.S_drewN | apply Kd.S_drew)); exact (Kd.S_mono (Kd.S_far (p := ⟨gb583, 3, none⟩) (Kd.S_far (p := ⟨gb583, 2, none⟩) (Kd.S_far (p := ⟨gb583, 1, none⟩) (Kd.S_far (p := ⟨gb583, 0, none⟩) (Kd.S_types HO582.out BK583.out (by decide)) (fun _ hk => hk.2) (.int .i64 t575)) (fun _ hk => hk.2) (.int .i64 t576)) (fun _ hk => hk.2) (.slice Ao50 t577.length co50)) (fun _ hk => hk.2) (.slice Ao51 t580.length co51)) (fun _ h_ => h_.1))) hb); replace BK573 := kB (g := gb573) hb; replace BK574 := kB (g := gb574) hb; replace BK583 := Aside0.mk (blk_below (g := gb583) (o := .cells #[.int .i64 t575, .int .i64 t576, .slice Ao50 t577.length co50, .slice Ao51 t580.length co51] 30 (0, 0)) kS hb); replace HB := hB hb; (try clear hb); (try clear hb2); (try clear hk); (try clear hi); have hz54 := cz4 BK583; have hz55 := cz4 BK574))
  refine bodyPost_ret (results_cell_row rfl _ _ gb574 30 #[.int .i64 t575, .int .i64 t576, .slice Ao50 t577.length co50, .slice Ao51 t580.length co51] (0, 0) _ rfl kS Tryz.underlying30 rfl (by kernel_rfl)) rfl ?_
  exact ⟨_, _, eS, by (with_reducible repeat (first | apply Kd.S_alloc | apply Kd.S_drewN | apply Kd.S_drew)); exact Kd.S_mono (Kd.S_far (p := ⟨gb574, 3, none⟩) (Kd.S_far (p := ⟨gb574, 2, none⟩) (Kd.S_far (p := ⟨gb574, 1, none⟩) (Kd.S_far (p := ⟨gb574, 0, none⟩) (Kd.S_types HO579.out BK574.out (by decide)) (fun _ hk => hk.2) (.int .i64 t575)) (fun _ hk => hk.2) (.int .i64 t576)) (fun _ hk => hk.2) (.slice Ao50 t577.length co50)) (fun _ hk => hk.2) (.slice Ao51 t580.length co51)) (fun _ hk => trivial), by (with_reducible repeat (first | apply Kd.S_alloc | apply Kd.S_drewN | apply Kd.S_drew)); exact Kd.S_mono (Kd.S_far (p := ⟨gb574, 3, none⟩) (Kd.S_far (p := ⟨gb574, 2, none⟩) (Kd.S_far (p := ⟨gb574, 1, none⟩) (Kd.S_far (p := ⟨gb574, 0, none⟩) (Kd.S_types HO582.out BK574.out (by decide)) (fun _ hk => hk.2) (.int .i64 t575)) (fun _ hk => hk.2) (.int .i64 t576)) (fun _ hk => hk.2) (.slice Ao50 t577.length co50)) (fun _ hk => hk.2) (.slice Ao51 t580.length co51)) (fun _ hk => trivial), bS⟩

/-! ### impl_RowsOfBand: function 11 -/
def impl_RowsOfBand.f (k : Nat) (a0_0 : Int) (a0_1 : Int) (l0_2 : List (List Int)) (l0_3 : List (S49)) : Option ((List (List Int))) := (impl_BandOk.f k a0_0 a0_1 l0_2 l0_3).bind fun t589 => (if t589 = true then ((impl_MergeBand.f k a0_0 a0_1 l0_2 l0_3).bind fun bt590 => (some bt590.2.2.1)) else (some ([] : List (List Int))))
theorem impl_RowsOfBand.calls (k : Nat) (a0_0 : Int) (a0_1 : Int) (A0_2 : Option Addr) (c0_2 : Nat) (l0_2 : List (List Int)) (A0_3 : Option Addr) (c0_3 : Nat) (l0_3 : List (S49)) (r : List (List Int)) (w : World) (hr0_2 : Kd.C (Kd.slice 3 (Kd.int .i64)) w A0_2 l0_2.length l0_2) (hc0_2 : l0_2.length ≤ c0_2) (hr0_3 : Kd.C k49 w A0_3 l0_3.length l0_3) (hc0_3 : l0_3.length ≤ c0_3) (h : impl_RowsOfBand.f k a0_0 a0_1 l0_2 l0_3 = some r) :
  Calls Tryz.prog 11 #[.agg #[.int .i64 a0_0, .int .i64 a0_1, .slice A0_2 l0_2.length c0_2, .slice A0_3 l0_3.length c0_3]] w fun e w' => ∃ v0_ : Value, e = .returned (v0_) ∧ Kd.S (Kd.slice 3 (Kd.int .i64)) 54 w' w.heap.size (fun _ => True) v0_ r ∧ Below w.heap.size w w' := by
 have hu30 := Tryz.underlying30
 have hfd30_2 : ∀ (W : World) (v0_ v1_ v2_ v3_ : Value), (Instr.field 30 (.agg #[v0_, v1_, v2_, v3_]) 2).run Tryz.prog W = .ok v2_ W := fun _ _ _ _ _ => by first | rfl | kernel_rfl
 have HR0_2 := Aside0.mk hr0_2
 have HC0_2 := Aside0.mk hc0_2
 clear hr0_2 hc0_2
 have HR0_3 := Aside0.mk hr0_3
 have HC0_3 := Aside0.mk hc0_3
 clear hr0_3 hc0_3
 have HB := Aside0.mk (Below.refl w.heap.size w)
 have H : ((impl_BandOk.f k a0_0 a0_1 l0_2 l0_3).bind fun t589 => (if t589 = true then ((impl_MergeBand.f k a0_0 a0_1 l0_2 l0_3).bind fun bt590 => (some bt590.2.2.1)) else (some ([] : List (List Int))))) = some r := h
 clear h
 replace H := bN H
 obtain ⟨t589, A2, H⟩ := H
 by_cases c3 : t589 = true
 ·subst c3
  rw [if_pos rfl] at H
  replace H := bN H
  obtain ⟨⟨t590, t591, t592, t595⟩, A4, H⟩ := H
  obtain rfl := Option.some.inj H
  simp only [Option.some.injEq, Prod.mk.injEq] at H
  obtain ⟨rfl⟩ := H
  go_enter Tryz.func11, Tryz.ntmps11
  go_wp2_with (first | ((with_reducible refine gD 1 ?_); refine bxE #[.int .i64 a0_0, .int .i64 a0_1, .slice A0_2 l0_2.length c0_2, .slice A0_3 l0_3.length c0_3] 30 ?_; intro gb588 hg w5 BK588 hb; have GW588 := gE hg; have GE588 := gE hg; replace HB := hB hb; clear hb hg; have hz6 := cz4 BK588) | ((with_reducible refine gC 46 ?_); refine cL (some 4) Tryz.func46 #[.agg #[.int .i64 a0_0, .int .i64 a0_1, .slice A0_2 l0_2.length c0_2, .slice A0_3 l0_3.length c0_3]] ?_; (with_reducible refine (impl_BandOk.calls k a0_0 a0_1 _ _ l0_2 _ _ l0_3 _ _ ?side1 ?side2 ?side3 ?side4 A2.out).mono ?_); (case side1 => exact cS (Kd.C_below HR0_2.out HB.out)); (case side2 => exact HC0_2.out); (case side3 => exact cS (Kd.C_below HR0_3.out HB.out)); (case side4 => exact HC0_3.out); rintro e w7 ⟨rfl, hb⟩; refine ⟨_, rfl, ?_⟩; replace BK588 := kB (g := gb588) hb; replace HB := hB hb; (try clear hb); (try clear hb2); (try clear hk); (try clear hi); have hz8 := cz4 BK588) | ((with_reducible refine gC 18 ?_); refine cL (some 7) Tryz.func18 #[.agg #[.int .i64 a0_0, .int .i64 a0_1, .slice A0_2 l0_2.length c0_2, .slice A0_3 l0_3.length c0_3]] ?_; (with_reducible refine (impl_MergeBand.calls k a0_0 a0_1 _ _ l0_2 _ _ l0_3 t590 t591 t592 t595 _ ?side1 ?side2 ?side3 ?side4 A4.out).mono ?_); (case side1 => exact cS (Kd.C_below HR0_2.out HB.out)); (case side2 => exact HC0_2.out); (case side3 => exact cS (Kd.C_below HR0_3.out HB.out)); (case side4 => exact HC0_3.out); rintro e w9 ⟨v593, v596, rfl, ho0, ho1, hb⟩; refine ⟨_, rfl, ?_⟩; have HO594 := Aside0.mk (Kd.S_lower ho0 (below_size bS)); have HO597 := Aside0.mk (Kd.S_lower ho1 (below_size bS)); replace BK588 := kB (g := gb588) hb; replace HB := hB hb; (try clear hb); (try clear hb2); (try clear hk); (try clear hi); (try clear ho0); (try clear ho1)))
  go_ret
  exact ⟨_, eS, by (with_reducible repeat (first | apply Kd.S_alloc | apply Kd.S_drewN | apply Kd.S_drew)); exact HO594.out, bS⟩
 ·obtain rfl := Bool.eq_false_iff.mpr c3
  rw [if_neg nF] at H
  obtain rfl := Option.some.inj H
  simp only [Option.some.injEq, Prod.mk.injEq] at H
  obtain ⟨rfl⟩ := H
  go_enter Tryz.func11, Tryz.ntmps11
  go_wp2_with (first | ((with_reducible refine gD 1 ?_); refine bxE #[.int .i64 a0_0, .int .i64 a0_1, .slice A0_2 l0_2.length c0_2, .slice A0_3 l0_3.length c0_3] 30 ?_; intro gb588 hg w10 BK588 hb; have GW588 := gE hg; have GE588 := gE hg; replace HB := hB hb; clear hb hg; have hz11 := cz4 BK588) | ((with_reducible refine gC 46 ?_); refine cL (some 4) Tryz.func46 #[.agg #[.int .i64 a0_0, .int .i64 a0_1, .slice A0_2 l0_2.length c0_2, .slice A0_3 l0_3.length c0_3]] ?_; (with_reducible refine (impl_BandOk.calls k a0_0 a0_1 _ _ l0_2 _ _ l0_3 _ _ ?side1 ?side2 ?side3 ?side4 A2.out).mono ?_); (case side1 => exact cS (Kd.C_below HR0_2.out HB.out)); (case side2 => exact HC0_2.out); (case side3 => exact cS (Kd.C_below HR0_3.out HB.out)); (case side4 => exact HC0_3.out); rintro e w12 ⟨rfl, hb⟩; refine ⟨_, rfl, ?_⟩; replace BK588 := kB (g := gb588) hb; replace HB := hB hb; (try clear hb); (try clear hb2); (try clear hk); (try clear hi)))
  go_ret
  exact ⟨_, eS, by first | exact Kd.S_nil _ _ _ _ _ | exact Kd.N_nil _ _ _ _ _ | exact Kd.V_nil _ _ _ _ _ | exact Kd.Q_nil _ _ _ _ _ | exact Kd.R_nil _ _ _ _ _, bS⟩

/-! ### laws_eqIntS: function 47 -/
def laws_eqIntS.l0 : Nat → List Int → List Int → Int → Option (Bool)
 | 0, _, _, _ => none
 | k + 1, x0, x1, x5 => if x5 < (x0.length : Int) then (if 0 ≤ x5 then (if x5 < (x1.length : Int) then (if (rd x0 x5) = (rd x1 x5) then (laws_eqIntS.l0 k x0 x1 (wrap64 (x5 + 1))) else (some false)) else (none)) else (none)) else (some true)
def laws_eqIntS.f (k : Nat) (l0 : List Int) (l1 : List Int) : Option (Bool) := if (l0.length : Int) = (l1.length : Int) then (laws_eqIntS.l0 k l0 l1 0) else (some false)
theorem laws_eqIntS.calls (k : Nat) (A0 : Option Addr) (c0 : Nat) (l0 : List Int) (A1 : Option Addr) (c1 : Nat) (l1 : List Int) (r : Bool) (w : World) (hr0 : Kd.C (Kd.int .i64) w A0 l0.length l0) (hc0 : l0.length ≤ c0) (hr1 : Kd.C (Kd.int .i64) w A1 l1.length l1) (hc1 : l1.length ≤ c1) (h : laws_eqIntS.f k l0 l1 = some r) :
  Calls Tryz.prog 47 #[.slice A0 l0.length c0, .slice A1 l1.length c1] w fun e w' => e = .returned (.bool r) ∧ Drawn0 w w' := by
 have HR0 := Aside0.mk hr0
 have HC0 := Aside0.mk hc0
 clear hr0 hc0
 have HR1 := Aside0.mk hr1
 have HC1 := Aside0.mk hc1
 clear hr1 hc1
 have H : (if (l0.length : Int) = (l1.length : Int) then (laws_eqIntS.l0 k l0 l1 0) else (some false)) = some r := h
 clear h
 by_cases c3 : (l0.length : Int) = (l1.length : Int)
 ·rw [if_pos c3] at H
  have c3b0 : ((l0.length : Int) == (l1.length : Int)) = true := beq_iff_eq.mpr c3
  have c3b1 : ((l0.length : Int) != (l1.length : Int)) = false := bne_eq_false_iff_eq.mpr c3
  have c3b2 : (l0.length == l1.length) = true := by first | simpa using c3 | (simp at c3 ⊢; omega)
  clear c3
  have H' := Aside0.mk H
  clear H
  go_enter Tryz.func47, Tryz.ntmps47
  go_wp2
  repeat (go_quiet (fail); try go_wp2)
  go_loopg [5] k (fun kq v5 w' => ∃ (x5_1 : Int), v5 = .int .i64 x5_1 ∧ Aside0 (laws_eqIntS.l0 kq l0 l1 x5_1 = some r) ∧ Aside0 (kq ≤ k) ∧ Drawn0 w w')
  case atStart => exact ⟨(0), (by first | rfl | (simp; done) | (simp [*]; done)), H', ⟨Nat.le_refl _⟩, by repeat (first | exact Drawn0.refl _ | apply Drawn0.step)⟩
  case round =>
   clear H'
   try clear c1
   try clear p2
   try clear c3
   try clear c3b0
   try clear c3b1
   try clear c3b2
   obtain ⟨x5_1, rfl, HA, HK1, ⟨m1, rfl⟩⟩ := hrel
   cases gk with
   | zero => exact absurd HA.out (by simp [laws_eqIntS.l0])
   | succ k1 =>
    have H := HA.out
    clear HA
    simp only [laws_eqIntS.l0] at H
    by_cases c4 : x5_1 < (l0.length : Int)
    ·rw [if_pos c4] at H
     have c4b0 : decide (x5_1 < (l0.length : Int)) = true := decide_eq_true c4
     clear c4
     by_cases c5 : 0 ≤ x5_1
     ·rw [if_pos c5] at H
      have c5b0 : decide (0 ≤ x5_1) = true := decide_eq_true c5
      clear c5
      by_cases c6 : x5_1 < (l1.length : Int)
      ·rw [if_pos c6] at H
       have c6b0 : decide (x5_1 < (l1.length : Int)) = true := decide_eq_true c6
       clear c6
       by_cases c7 : (rd l0 x5_1) = (rd l1 x5_1)
       ·rw [if_pos c7] at H
        have c7b0 : ((rd l0 x5_1) == (rd l1 x5_1)) = true := beq_iff_eq.mpr c7
        have c7b1 : ((rd l0 x5_1) != (rd l1 x5_1)) = false := bne_eq_false_iff_eq.mpr c7
        clear c7
        have H' := Aside0.mk H
        clear H
        have p598 : 0 ≤ (x5_1 : Int) := of_decide_eq_true (by first | (with_reducible assumption) | assumption)
        have q598 : x5_1 < (l0.length : Int) := of_decide_eq_true (by first | (with_reducible assumption) | assumption)
        obtain ⟨ad598, e598, hx598_0⟩ := Kd.at_int HR0.out x5_1 p598 q598
        cases e598
        replace p598 := eq_true p598
        replace q598 := eq_true q598
        have p599 : 0 ≤ (x5_1 : Int) := of_decide_eq_true (by first | (with_reducible assumption) | assumption)
        have q599 : x5_1 < (l1.length : Int) := of_decide_eq_true (by first | (with_reducible assumption) | assumption)
        obtain ⟨ad599, e599, hx599_0⟩ := Kd.at_int HR1.out x5_1 p599 q599
        cases e599
        replace p599 := eq_true p599
        replace q599 := eq_true q599
        go_wp2
        repeat (go_quiet (fail); try go_wp2)
        go_roundg k1
        case measure => have := HK1.out; omega
        case rel => exact ⟨(wrap64 (x5_1 + 1)), (by first | rfl | (simp; done) | (simp [*]; done)), H', ⟨by have := HK1.out; omega⟩, by repeat (first | exact Drawn0.refl _ | apply Drawn0.step)⟩
       ·rw [if_neg c7] at H
        have c7b0 : ((rd l0 x5_1) == (rd l1 x5_1)) = false := beq_eq_false_iff_ne.mpr c7
        have c7b1 : ((rd l0 x5_1) != (rd l1 x5_1)) = true := bne_iff_ne.mpr c7
        obtain rfl := Option.some.inj H
        simp only [Option.some.injEq, Prod.mk.injEq] at H
        obtain ⟨rfl⟩ := H
        have p598 : 0 ≤ (x5_1 : Int) := of_decide_eq_true (by first | (with_reducible assumption) | assumption)
        have q598 : x5_1 < (l0.length : Int) := of_decide_eq_true (by first | (with_reducible assumption) | assumption)
        obtain ⟨ad598, e598, hx598_0⟩ := Kd.at_int HR0.out x5_1 p598 q598
        cases e598
        replace p598 := eq_true p598
        replace q598 := eq_true q598
        have p599 : 0 ≤ (x5_1 : Int) := of_decide_eq_true (by first | (with_reducible assumption) | assumption)
        have q599 : x5_1 < (l1.length : Int) := of_decide_eq_true (by first | (with_reducible assumption) | assumption)
        obtain ⟨ad599, e599, hx599_0⟩ := Kd.at_int HR1.out x5_1 p599 q599
        cases e599
        replace p599 := eq_true p599
        replace q599 := eq_true q599
        go_wp2
        repeat (go_quiet (fail); try go_wp2)
        go_ret
        exact ⟨by first | rfl | (simp; done) | (simp [*]; done), by repeat (first | exact Drawn0.refl _ | apply Drawn0.step)⟩
      ·rw [if_neg c6] at H
       exact absurd H (by simp)
     ·rw [if_neg c5] at H
      exact absurd H (by simp)
    ·rw [if_neg c4] at H
     have c4b0 : decide (x5_1 < (l0.length : Int)) = false := decide_eq_false c4
     clear c4
     obtain rfl := Option.some.inj H
     simp only [Option.some.injEq, Prod.mk.injEq] at H
     obtain ⟨rfl⟩ := H
     go_wp2
     repeat (go_quiet (fail); try go_wp2)
     go_ret
     exact ⟨by first | rfl | (simp; done) | (simp [*]; done), by repeat (first | exact Drawn0.refl _ | apply Drawn0.step)⟩
 ·rw [if_neg c3] at H
  have c3b0 : ((l0.length : Int) == (l1.length : Int)) = false := beq_eq_false_iff_ne.mpr c3
  have c3b1 : ((l0.length : Int) != (l1.length : Int)) = true := bne_iff_ne.mpr c3
  have c3b2 : (l0.length == l1.length) = false := by first | simpa using c3 | (simp at c3 ⊢; omega)
  obtain rfl := Option.some.inj H
  simp only [Option.some.injEq, Prod.mk.injEq] at H
  obtain ⟨rfl⟩ := H
  go_enter Tryz.func47, Tryz.ntmps47
  go_wp2
  repeat (go_quiet (fail); try go_wp2)
  go_ret
  exact ⟨by first | rfl | (simp; done) | (simp [*]; done), by repeat (first | exact Drawn0.refl _ | apply Drawn0.step)⟩

/-! ### laws_eqIntSS: function 12 -/
def laws_eqIntSS.l0 : Nat → List (List Int) → List (List Int) → Int → Option (Bool)
 | 0, _, _, _ => none
 | k + 1, x0, x1, x5 => if x5 < (x0.length : Int) then (if 0 ≤ x5 then (if x5 < (x1.length : Int) then ((laws_eqIntS.f k (rd_L1 x0 x5) (rd_L1 x1 x5)).bind fun t602 => (if t602 = true then (laws_eqIntSS.l0 k x0 x1 (wrap64 (x5 + 1))) else (some false))) else (none)) else (none)) else (some true)
def laws_eqIntSS.f (k : Nat) (l0 : List (List Int)) (l1 : List (List Int)) : Option (Bool) := if (l0.length : Int) = (l1.length : Int) then (laws_eqIntSS.l0 k l0 l1 0) else (some false)
theorem laws_eqIntSS.calls (k : Nat) (A0 : Option Addr) (c0 : Nat) (l0 : List (List Int)) (A1 : Option Addr) (c1 : Nat) (l1 : List (List Int)) (r : Bool) (w : World) (hr0 : Kd.C (Kd.slice 3 (Kd.int .i64)) w A0 l0.length l0) (hc0 : l0.length ≤ c0) (hr1 : Kd.C (Kd.slice 3 (Kd.int .i64)) w A1 l1.length l1) (hc1 : l1.length ≤ c1) (h : laws_eqIntSS.f k l0 l1 = some r) :
  Calls Tryz.prog 12 #[.slice A0 l0.length c0, .slice A1 l1.length c1] w fun e w' => e = .returned (.bool r) ∧ Drawn0 w w' := by
 have HR0 := Aside0.mk hr0
 have HC0 := Aside0.mk hc0
 clear hr0 hc0
 have HR1 := Aside0.mk hr1
 have HC1 := Aside0.mk hc1
 clear hr1 hc1
 have H : (if (l0.length : Int) = (l1.length : Int) then (laws_eqIntSS.l0 k l0 l1 0) else (some false)) = some r := h
 clear h
 by_cases c3 : (l0.length : Int) = (l1.length : Int)
 ·rw [if_pos c3] at H
  have c3b0 : ((l0.length : Int) == (l1.length : Int)) = true := beq_iff_eq.mpr c3
  have c3b1 : ((l0.length : Int) != (l1.length : Int)) = false := bne_eq_false_iff_eq.mpr c3
  have c3b2 : (l0.length == l1.length) = true := by first | simpa using c3 | (simp at c3 ⊢; omega)
  clear c3
  have H' := Aside0.mk H
  clear H
  go_enter Tryz.func12, Tryz.ntmps12
  go_wp2
  repeat (go_quiet (fail); try go_wp2)
  go_loopg [5] k (fun kq v5 w' => ∃ (x5_1 : Int), v5 = .int .i64 x5_1 ∧ Aside0 (laws_eqIntSS.l0 kq l0 l1 x5_1 = some r) ∧ Aside0 (kq ≤ k) ∧ Drawn0 w w')
  case atStart => exact ⟨(0), (by first | rfl | (simp; done) | (simp [*]; done)), H', ⟨Nat.le_refl _⟩, by repeat (first | exact Drawn0.refl _ | apply Drawn0.step)⟩
  case round =>
   clear H'
   try clear c1
   try clear p2
   try clear c3
   try clear c3b0
   try clear c3b1
   try clear c3b2
   obtain ⟨x5_1, rfl, HA, HK1, ⟨m1, rfl⟩⟩ := hrel
   cases gk with
   | zero => exact absurd HA.out (by simp [laws_eqIntSS.l0])
   | succ k1 =>
    have H := HA.out
    clear HA
    simp only [laws_eqIntSS.l0] at H
    by_cases c4 : x5_1 < (l0.length : Int)
    ·rw [if_pos c4] at H
     have c4b0 : decide (x5_1 < (l0.length : Int)) = true := decide_eq_true c4
     clear c4
     by_cases c5 : 0 ≤ x5_1
     ·rw [if_pos c5] at H
      have c5b0 : decide (0 ≤ x5_1) = true := decide_eq_true c5
      clear c5
      by_cases c6 : x5_1 < (l1.length : Int)
      ·rw [if_pos c6] at H
       have c6b0 : decide (x5_1 < (l1.length : Int)) = true := decide_eq_true c6
       clear c6
       replace H := bN H
       obtain ⟨t602, A7, H⟩ := H
       by_cases c8 : t602 = true
       ·subst c8
        rw [if_pos rfl] at H
        have H' := Aside0.mk H
        clear H
        have p600 : 0 ≤ (x5_1 : Int) := of_decide_eq_true (by first | (with_reducible assumption) | assumption)
        have q600 : x5_1 < (l0.length : Int) := of_decide_eq_true (by first | (with_reducible assumption) | assumption)
        obtain ⟨ad600, A600_0, c600_0, e600, hx600_0, hl600_0, hi600_0⟩ := at_L1 HR0.out x5_1 p600 q600
        cases e600
        have HR600_0 := Aside0.mk hi600_0
        have HC600_0 := Aside0.mk hl600_0
        clear hi600_0 hl600_0
        replace p600 := eq_true p600
        replace q600 := eq_true q600
        have p601 : 0 ≤ (x5_1 : Int) := of_decide_eq_true (by first | (with_reducible assumption) | assumption)
        have q601 : x5_1 < (l1.length : Int) := of_decide_eq_true (by first | (with_reducible assumption) | assumption)
        obtain ⟨ad601, A601_0, c601_0, e601, hx601_0, hl601_0, hi601_0⟩ := at_L1 HR1.out x5_1 p601 q601
        cases e601
        have HR601_0 := Aside0.mk hi601_0
        have HC601_0 := Aside0.mk hl601_0
        clear hi601_0 hl601_0
        replace p601 := eq_true p601
        replace q601 := eq_true q601
        go_wp2_with (first | (go_at_call 47; (with_reducible refine (laws_eqIntS.calls k1 _ _ (rd_L1 l0 x5_1) _ _ (rd_L1 l1 x5_1) _ _ ?side1 ?side2 ?side3 ?side4 A7.out).mono ?_); (case side1 => repeat (first | exact HR600_0.out | (with_reducible refine Kd.C_alloc ?_ _) | (with_reducible refine Kd.C_drewN ?_ _) | (with_reducible refine Kd.C_drew ?_))); (case side2 => exact HC600_0.out); (case side3 => repeat (first | exact HR601_0.out | (with_reducible refine Kd.C_alloc ?_ _) | (with_reducible refine Kd.C_drewN ?_ _) | (with_reducible refine Kd.C_drew ?_))); (case side4 => exact HC601_0.out); rintro e w' ⟨rfl, ⟨nd, rfl⟩⟩; (try first | exact ⟨rfl, _, World.drewN_drewN _ _ _⟩ | exact ⟨rfl, _, Eq.trans (World.drewN_drewN _ _ _) (congrArg (World.drewN _) (Nat.add_assoc _ _ _))⟩)))
        repeat (go_quiet (first | (go_at_call 47; (with_reducible refine (laws_eqIntS.calls k1 _ _ (rd_L1 l0 x5_1) _ _ (rd_L1 l1 x5_1) _ _ ?side1 ?side2 ?side3 ?side4 A7.out).mono ?_); (case side1 => repeat (first | exact HR600_0.out | (with_reducible refine Kd.C_alloc ?_ _) | (with_reducible refine Kd.C_drewN ?_ _) | (with_reducible refine Kd.C_drew ?_))); (case side2 => exact HC600_0.out); (case side3 => repeat (first | exact HR601_0.out | (with_reducible refine Kd.C_alloc ?_ _) | (with_reducible refine Kd.C_drewN ?_ _) | (with_reducible refine Kd.C_drew ?_))); (case side4 => exact HC601_0.out); rintro e w' ⟨rfl, ⟨nd, rfl⟩⟩; (try first | exact ⟨rfl, _, World.drewN_drewN _ _ _⟩ | exact ⟨rfl, _, Eq.trans (World.drewN_drewN _ _ _) (congrArg (World.drewN _) (Nat.add_assoc _ _ _))⟩))); try go_wp2_with (first | (go_at_call 47; (with_reducible refine (laws_eqIntS.calls k1 _ _ (rd_L1 l0 x5_1) _ _ (rd_L1 l1 x5_1) _ _ ?side1 ?side2 ?side3 ?side4 A7.out).mono ?_); (case side1 => repeat (first | exact HR600_0.out | (with_reducible refine Kd.C_alloc ?_ _) | (with_reducible refine Kd.C_drewN ?_ _) | (with_reducible refine Kd.C_drew ?_))); (case side2 => exact HC600_0.out); (case side3 => repeat (first | exact HR601_0.out | (with_reducible refine Kd.C_alloc ?_ _) | (with_reducible refine Kd.C_drewN ?_ _) | (with_reducible refine Kd.C_drew ?_))); (case side4 => exact HC601_0.out); rintro e w' ⟨rfl, ⟨nd, rfl⟩⟩; (try first | exact ⟨rfl, _, World.drewN_drewN _ _ _⟩ | exact ⟨rfl, _, Eq.trans (World.drewN_drewN _ _ _) (congrArg (World.drewN _) (Nat.add_assoc _ _ _))⟩))))
        go_roundg k1
        case measure => have := HK1.out; omega
        case rel => exact ⟨(wrap64 (x5_1 + 1)), (by first | rfl | (simp; done) | (simp [*]; done)), H', ⟨by have := HK1.out; omega⟩, by repeat (first | exact Drawn0.refl _ | apply Drawn0.step)⟩
       ·obtain rfl := Bool.eq_false_iff.mpr c8
        rw [if_neg nF] at H
        obtain rfl := Option.some.inj H
        simp only [Option.some.injEq, Prod.mk.injEq] at H
        obtain ⟨rfl⟩ := H
        have p600 : 0 ≤ (x5_1 : Int) := of_decide_eq_true (by first | (with_reducible assumption) | assumption)
        have q600 : x5_1 < (l0.length : Int) := of_decide_eq_true (by first | (with_reducible assumption) | assumption)
        obtain ⟨ad600, A600_0, c600_0, e600, hx600_0, hl600_0, hi600_0⟩ := at_L1 HR0.out x5_1 p600 q600
        cases e600
        have HR600_0 := Aside0.mk hi600_0
        have HC600_0 := Aside0.mk hl600_0
        clear hi600_0 hl600_0
        replace p600 := eq_true p600
        replace q600 := eq_true q600
        have p601 : 0 ≤ (x5_1 : Int) := of_decide_eq_true (by first | (with_reducible assumption) | assumption)
        have q601 : x5_1 < (l1.length : Int) := of_decide_eq_true (by first | (with_reducible assumption) | assumption)
        obtain ⟨ad601, A601_0, c601_0, e601, hx601_0, hl601_0, hi601_0⟩ := at_L1 HR1.out x5_1 p601 q601
        cases e601
        have HR601_0 := Aside0.mk hi601_0
        have HC601_0 := Aside0.mk hl601_0
        clear hi601_0 hl601_0
        replace p601 := eq_true p601
        replace q601 := eq_true q601
        go_wp2_with (first | (go_at_call 47; (with_reducible refine (laws_eqIntS.calls k1 _ _ (rd_L1 l0 x5_1) _ _ (rd_L1 l1 x5_1) _ _ ?side1 ?side2 ?side3 ?side4 A7.out).mono ?_); (case side1 => repeat (first | exact HR600_0.out | (with_reducible refine Kd.C_alloc ?_ _) | (with_reducible refine Kd.C_drewN ?_ _) | (with_reducible refine Kd.C_drew ?_))); (case side2 => exact HC600_0.out); (case side3 => repeat (first | exact HR601_0.out | (with_reducible refine Kd.C_alloc ?_ _) | (with_reducible refine Kd.C_drewN ?_ _) | (with_reducible refine Kd.C_drew ?_))); (case side4 => exact HC601_0.out); rintro e w' ⟨rfl, ⟨nd, rfl⟩⟩; (try first | exact ⟨rfl, _, World.drewN_drewN _ _ _⟩ | exact ⟨rfl, _, Eq.trans (World.drewN_drewN _ _ _) (congrArg (World.drewN _) (Nat.add_assoc _ _ _))⟩)))
        repeat (go_quiet (first | (go_at_call 47; (with_reducible refine (laws_eqIntS.calls k1 _ _ (rd_L1 l0 x5_1) _ _ (rd_L1 l1 x5_1) _ _ ?side1 ?side2 ?side3 ?side4 A7.out).mono ?_); (case side1 => repeat (first | exact HR600_0.out | (with_reducible refine Kd.C_alloc ?_ _) | (with_reducible refine Kd.C_drewN ?_ _) | (with_reducible refine Kd.C_drew ?_))); (case side2 => exact HC600_0.out); (case side3 => repeat (first | exact HR601_0.out | (with_reducible refine Kd.C_alloc ?_ _) | (with_reducible refine Kd.C_drewN ?_ _) | (with_reducible refine Kd.C_drew ?_))); (case side4 => exact HC601_0.out); rintro e w' ⟨rfl, ⟨nd, rfl⟩⟩; (try first | exact ⟨rfl, _, World.drewN_drewN _ _ _⟩ | exact ⟨rfl, _, Eq.trans (World.drewN_drewN _ _ _) (congrArg (World.drewN _) (Nat.add_assoc _ _ _))⟩))); try go_wp2_with (first | (go_at_call 47; (with_reducible refine (laws_eqIntS.calls k1 _ _ (rd_L1 l0 x5_1) _ _ (rd_L1 l1 x5_1) _ _ ?side1 ?side2 ?side3 ?side4 A7.out).mono ?_); (case side1 => repeat (first | exact HR600_0.out | (with_reducible refine Kd.C_alloc ?_ _) | (with_reducible refine Kd.C_drewN ?_ _) | (with_reducible refine Kd.C_drew ?_))); (case side2 => exact HC600_0.out); (case side3 => repeat (first | exact HR601_0.out | (with_reducible refine Kd.C_alloc ?_ _) | (with_reducible refine Kd.C_drewN ?_ _) | (with_reducible refine Kd.C_drew ?_))); (case side4 => exact HC601_0.out); rintro e w' ⟨rfl, ⟨nd, rfl⟩⟩; (try first | exact ⟨rfl, _, World.drewN_drewN _ _ _⟩ | exact ⟨rfl, _, Eq.trans (World.drewN_drewN _ _ _) (congrArg (World.drewN _) (Nat.add_assoc _ _ _))⟩))))
        go_ret
        exact ⟨by first | rfl | (simp; done) | (simp [*]; done), by repeat (first | exact Drawn0.refl _ | apply Drawn0.step)⟩
      ·rw [if_neg c6] at H
       exact absurd H (by simp)
     ·rw [if_neg c5] at H
      exact absurd H (by simp)
    ·rw [if_neg c4] at H
     have c4b0 : decide (x5_1 < (l0.length : Int)) = false := decide_eq_false c4
     clear c4
     obtain rfl := Option.some.inj H
     simp only [Option.some.injEq, Prod.mk.injEq] at H
     obtain ⟨rfl⟩ := H
     go_wp2
     repeat (go_quiet (fail); try go_wp2)
     go_ret
     exact ⟨by first | rfl | (simp; done) | (simp [*]; done), by repeat (first | exact Drawn0.refl _ | apply Drawn0.step)⟩
 ·rw [if_neg c3] at H
  have c3b0 : ((l0.length : Int) == (l1.length : Int)) = false := beq_eq_false_iff_ne.mpr c3
  have c3b1 : ((l0.length : Int) != (l1.length : Int)) = true := bne_iff_ne.mpr c3
  have c3b2 : (l0.length == l1.length) = false := by first | simpa using c3 | (simp at c3 ⊢; omega)
  obtain rfl := Option.some.inj H
  simp only [Option.some.injEq, Prod.mk.injEq] at H
  obtain ⟨rfl⟩ := H
  go_enter Tryz.func12, Tryz.ntmps12
  go_wp2
  repeat (go_quiet (fail); try go_wp2)
  go_ret
  exact ⟨by first | rfl | (simp; done) | (simp [*]; done), by repeat (first | exact Drawn0.refl _ | apply Drawn0.step)⟩

/-! ### laws_eqPoint: function 133 -/
def laws_eqPoint.f (a0_0 : Int) (a0_1 : Int) (a1_0 : Int) (a1_1 : Int) : Option (Bool) := if a0_0 = a1_0 then (if a0_1 = a1_1 then (some true) else (some false)) else (some false)
theorem laws_eqPoint.calls (a0_0 : Int) (a0_1 : Int) (a1_0 : Int) (a1_1 : Int) (r : Bool) (w : World) (h : laws_eqPoint.f a0_0 a0_1 a1_0 a1_1 = some r) :
  Calls Tryz.prog 133 #[.agg #[.int .i64 a0_0, .int .i64 a0_1], .agg #[.int .i64 a1_0, .int .i64 a1_1]] w fun e w' => e = .returned (.bool r) ∧ Below w.heap.size w w' := by
 have hu151 := Tryz.underlying151
 have HB := Aside0.mk (Below.refl w.heap.size w)
 have H : (if a0_0 = a1_0 then (if a0_1 = a1_1 then (some true) else (some false)) else (some false)) = some r := h
 clear h
 by_cases c3 : a0_0 = a1_0
 ·rw [if_pos c3] at H
  have c3b0 : (a0_0 == a1_0) = true := beq_iff_eq.mpr c3
  have c3b1 : (a0_0 != a1_0) = false := bne_eq_false_iff_eq.mpr c3
  clear c3
  by_cases c4 : a0_1 = a1_1
  ·rw [if_pos c4] at H
   have c4b0 : (a0_1 == a1_1) = true := beq_iff_eq.mpr c4
   have c4b1 : (a0_1 != a1_1) = false := bne_eq_false_iff_eq.mpr c4
   clear c4
   obtain rfl := Option.some.inj H
   simp only [Option.some.injEq, Prod.mk.injEq] at H
   obtain ⟨rfl⟩ := H
   go_enter Tryz.func133, Tryz.ntmps133
   go_wp2_with (first | ((with_reducible refine gD 2 ?_); refine bxE #[.int .i64 a0_0, .int .i64 a0_1] 151 ?_; intro gb603 hg w5 BK603 hb; have GW603 := gE hg; have GE603 := gE hg; replace HB := hB hb; clear hb hg) | ((with_reducible refine gD 3 ?_); refine bxE #[.int .i64 a1_0, .int .i64 a1_1] 151 ?_; intro gb604 hg w6 BK604 hb; have GW604 := gE hg; have GE604 := gE hg; have NB603_604 := nL (g := gb603) hg; have NB604_603 := nG (g := gb603) hg; replace BK603 := kB (g := gb603) hb; replace HB := hB hb; clear hb hg; have hnb7 := NB603_604.out; have hnc7 := NB604_603.out; have hz8 := cz2 BK603; have hz9 := cz2 BK604))
   go_ret
   exact ⟨eS, bS⟩
  ·rw [if_neg c4] at H
   have c4b0 : (a0_1 == a1_1) = false := beq_eq_false_iff_ne.mpr c4
   have c4b1 : (a0_1 != a1_1) = true := bne_iff_ne.mpr c4
   obtain rfl := Option.some.inj H
   simp only [Option.some.injEq, Prod.mk.injEq] at H
   obtain ⟨rfl⟩ := H
   go_enter Tryz.func133, Tryz.ntmps133
   go_wp2_with (first | ((with_reducible refine gD 2 ?_); refine bxE #[.int .i64 a0_0, .int .i64 a0_1] 151 ?_; intro gb603 hg w10 BK603 hb; have GW603 := gE hg; have GE603 := gE hg; replace HB := hB hb; clear hb hg) | ((with_reducible refine gD 3 ?_); refine bxE #[.int .i64 a1_0, .int .i64 a1_1] 151 ?_; intro gb604 hg w11 BK604 hb; have GW604 := gE hg; have GE604 := gE hg; have NB603_604 := nL (g := gb603) hg; have NB604_603 := nG (g := gb603) hg; replace BK603 := kB (g := gb603) hb; replace HB := hB hb; clear hb hg; have hnb12 := NB603_604.out; have hnc12 := NB604_603.out; have hz13 := cz2 BK603; have hz14 := cz2 BK604))
   go_ret
   exact ⟨eS, bS⟩
 ·rw [if_neg c3] at H
  have c3b0 : (a0_0 == a1_0) = false := beq_eq_false_iff_ne.mpr c3
  have c3b1 : (a0_0 != a1_0) = true := bne_iff_ne.mpr c3
  obtain rfl := Option.some.inj H
  simp only [Option.some.injEq, Prod.mk.injEq] at H
  obtain ⟨rfl⟩ := H
  go_enter Tryz.func133, Tryz.ntmps133
  go_wp2_with (first | ((with_reducible refine gD 2 ?_); refine bxE #[.int .i64 a0_0, .int .i64 a0_1] 151 ?_; intro gb603 hg w15 BK603 hb; have GW603 := gE hg; have GE603 := gE hg; replace HB := hB hb; clear hb hg) | ((with_reducible refine gD 3 ?_); refine bxE #[.int .i64 a1_0, .int .i64 a1_1] 151 ?_; intro gb604 hg w16 BK604 hb; have GW604 := gE hg; have GE604 := gE hg; have NB603_604 := nL (g := gb603) hg; have NB604_603 := nG (g := gb603) hg; replace BK603 := kB (g := gb603) hb; replace HB := hB hb; clear hb hg; have hnb17 := NB603_604.out; have hnc17 := NB604_603.out; have hz18 := cz2 BK603; have hz19 := cz2 BK604))
  go_ret
  exact ⟨eS, bS⟩

end Go.Proofs.YtncfipboidmfbaaGreat.QFnExactRowsOfBand
