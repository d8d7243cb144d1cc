-- Made out of the translation by a program of this session (a changed copy of the print). Not trusted: Lean checks it.
import Derived.Test.YtncfipboidmfbaaGreatQFnExactMergeBandx0
import Derived.Test.YtncfipboidmfbaaGreatQFnExactMergeBandx13
import Derived.Test.YtncfipboidmfbaaGreatQFnExactMergeBandx14
import Derived.Test.YtncfipboidmfbaaGreatQFnExactMergeBandx18
namespace Go.Proofs.YtncfipboidmfbaaGreat.QFnExactMergeBand
open Go.RowKit Go.Proofs.YtncfipboidmfbaaGreatW.PrintWords Go.Proofs.YtncfipboidmfbaaGreatW.PrintLast Go.Proofs.YtncfipboidmfbaaGreatW.PrintMore
attribute [local go_sem] max2_int min2_int max_two min_two max_three min_three max_four min_four   -- for this text's walks alone
set_option linter.unusedVariables false
set_option linter.unusedSimpArgs false
set_option maxHeartbeats 8000000
set_option maxRecDepth 100000

/-! ### impl_MergeBand: function 18 -/
def impl_MergeBand.l0 : Nat → List (S49) → Int → Int → Int → Int → List (List Int) → List (S49) → Option (Int × Int × (List (List Int)) × (List (S49)))
 | 0, _, _, _, _, _, _, _ => none
 | k + 1, x13, x14, x15, x597000, x597001, x597002, x597003 => if x15 < x14 then (if 0 ≤ x15 then (if x15 < (x13.length : Int) then ((impl_paint.f k x597002 (wrap64 (x597000 * x597001)) ((rd_T49 x13 x15).f0) ((rd_T49 x13 x15).f1) ((rd_T49 x13 x15).f2.f0) ((rd_T49 x13 x15).f2.f1) ((rd_T49 x13 x15).f2.f2) ((rd_T49 x13 x15).f2.f3)).bind fun t600 => (impl_MergeBand.l0 k x13 x14 (wrap64 (x15 + 1)) x597000 x597001 t600 x597003)) else (none)) else (none)) else (some (x597000, x597001, x597002, ([] : List (S49))))
def impl_MergeBand.f (k : Nat) (a0_0 : Int) (a0_1 : Int) (l0_2 : List (List Int)) (l0_3 : List (S49)) : Option (Int × Int × (List (List Int)) × (List (S49))) := (impl_copyBand.f k a0_0 a0_1 l0_2 l0_3).bind fun bt588 => ((impl_BandOk.f k a0_0 a0_1 l0_2 l0_3).bind fun t597 => (if t597 = true then (impl_MergeBand.l0 k bt588.2.2.2 (bt588.2.2.2.length : Int) 0 bt588.1 bt588.2.1 bt588.2.2.1 bt588.2.2.2) else (some (bt588.1, bt588.2.1, bt588.2.2.1, bt588.2.2.2))))
theorem impl_MergeBand.calls (k : Nat) (a0_0 : Int) (a0_1 : Int) (A0_2 : Option Addr) (c0_2 : Nat) (l0_2 : List (List Int)) (A0_3 : Option Addr) (c0_3 : Nat) (l0_3 : List (S49)) (r1 : Int) (r2 : Int) (r3 : List (List Int)) (r4 : List (S49)) (w : World) (hr0_2 : Kd.C (Kd.slice 3 (Kd.int .i64)) w A0_2 l0_2.length l0_2) (hc0_2 : l0_2.length ≤ c0_2) (hr0_3 : Kd.C k49 w A0_3 l0_3.length l0_3) (hc0_3 : l0_3.length ≤ c0_3) (h : impl_MergeBand.f k a0_0 a0_1 l0_2 l0_3 = some (r1, r2, r3, r4)) :
  Calls Tryz.prog 18 #[.agg #[.int .i64 a0_0, .int .i64 a0_1, .slice A0_2 l0_2.length c0_2, .slice A0_3 l0_3.length c0_3]] w fun e w' => ∃ v2_ v3_ : Value, e = .returned (.agg #[.int .i64 r1, .int .i64 r2, v2_, v3_]) ∧ Kd.S (Kd.slice 3 (Kd.int .i64)) 54 w' w.heap.size (fun _ => True) v2_ r3 ∧ Kd.S k49 49 w' w.heap.size (fun _ => True) v3_ r4 ∧ Below w.heap.size w w' := by
 have hu30 := Tryz.underlying30
 have hu49 := Tryz.underlying49
 have HR0_2 := Aside0.mk hr0_2
 have HC0_2 := Aside0.mk hc0_2
 clear hr0_2 hc0_2
 have HR0_3 := Aside0.mk hr0_3
 have HC0_3 := Aside0.mk hc0_3
 clear hr0_3 hc0_3
 have HB := Aside0.mk (Below.refl w.heap.size w)
 have H : ((impl_copyBand.f k a0_0 a0_1 l0_2 l0_3).bind fun bt588 => ((impl_BandOk.f k a0_0 a0_1 l0_2 l0_3).bind fun t597 => (if t597 = true then (impl_MergeBand.l0 k bt588.2.2.2 (bt588.2.2.2.length : Int) 0 bt588.1 bt588.2.1 bt588.2.2.1 bt588.2.2.2) else (some (bt588.1, bt588.2.1, bt588.2.2.1, bt588.2.2.2))))) = some (r1, r2, r3, r4) := h
 clear h
 replace H := bN H
 obtain ⟨⟨t588, t589, t590, t593⟩, A2, H⟩ := H
 replace H := bN H
 obtain ⟨t597, A3, H⟩ := H
 by_cases c4 : t597 = true
 ·subst c4
  rw [if_pos rfl] at H
  have H' := Aside0.mk H
  clear H
  go_enter Tryz.func18, Tryz.ntmps18
  go_wp2_with (first | ((with_reducible refine gD 1 ?_); refine bxE #[.int .i64 a0_0, .int .i64 a0_1, .slice A0_2 l0_2.length c0_2, .slice A0_3 l0_3.length c0_3] 30 ?_; intro gb586 hg w5 BK586 hb; have GW586 := gE hg; have GE586 := gE hg; replace HB := hB hb; clear hb hg) | ((with_reducible refine gD 2 ?_); refine bxE #[.int .i64 0, .int .i64 0, .slice none 0 0, .slice none 0 0] 30 ?_; intro gb587 hg w6 BK587 hb; have GW587 := gE hg; have GE587 := gE hg; have NB586_587 := nL (g := gb586) hg; have NB587_586 := nG (g := gb586) hg; replace BK586 := kB (g := gb586) hb; replace HB := hB hb; clear hb hg; have hnb7 := NB586_587.out; have hnc7 := NB587_586.out; have hcz8_0 : w6.cell? ⟨gb586, 0, none⟩ = some (.int .i64 a0_0) := (blk_cell BK586.out 0).trans rfl; have hcz8_1 : w6.cell? ⟨gb586, 1, none⟩ = some (.int .i64 a0_1) := (blk_cell BK586.out 1).trans rfl; have hcz8_2 : w6.cell? ⟨gb586, 2, none⟩ = some (.slice A0_2 l0_2.length c0_2) := (blk_cell BK586.out 2).trans rfl; have hcz8_3 : w6.cell? ⟨gb586, 3, none⟩ = some (.slice A0_3 l0_3.length c0_3) := (blk_cell BK586.out 3).trans rfl; have hfz8_0 := blk_frozen BK586.out 0; have hfz8_1 := blk_frozen BK586.out 1; have hfz8_2 := blk_frozen BK586.out 2; have hfz8_3 := blk_frozen BK586.out 3) | ((with_reducible refine gC 54 ?_); refine cL (some 7) Tryz.func54 #[.agg #[.int .i64 a0_0, .int .i64 a0_1, .slice A0_2 l0_2.length c0_2, .slice A0_3 l0_3.length c0_3]] ?_; (with_reducible refine (impl_copyBand.calls k a0_0 a0_1 _ _ l0_2 _ _ l0_3 t588 t589 t590 t593 _ (cS (Kd.C_below HR0_2.out HB.out)) HC0_2.out (cS (Kd.C_below HR0_3.out HB.out)) HC0_3.out A2.out).mono ?_); rintro e w9 ⟨v591, v594, rfl, ho0, ho1, hb⟩; refine ⟨_, rfl, ?_⟩; have HO592 := Aside0.mk (Kd.S_lower ho0 (below_size bS)); have HO595 := Aside0.mk (Kd.S_lower ho1 (below_size bS)); replace BK586 := kB (g := gb586) hb; replace BK587 := kB (g := gb587) hb; replace HB := hB hb; (try clear hb); (try clear hb2); (try clear hk); (try clear hi); (try clear ho0); (try clear ho1)) | ((with_reducible refine gD 3 ?_); refine bxE #[.int .i64 0, .int .i64 0, .slice none 0 0, .slice none 0 0] 30 ?_; intro gb596 hg w10 BK596 hb; have GW596 := gE hg; have GE596 := gE hg; have NB586_596 := nL (g := gb586) hg; have NB596_586 := nG (g := gb586) hg; have NB587_596 := nL (g := gb587) hg; have NB596_587 := nG (g := gb587) hg; replace HO592 := sB HO592 hb; replace HO595 := sB HO595 hb; replace BK586 := kB (g := gb586) hb; replace BK587 := kB (g := gb587) hb; replace HB := hB hb; clear hb hg; have hnb11 := NB596_586.out; have hnc11 := NB586_596.out; have hnb12 := NB596_587.out; have hnc12 := NB587_596.out; have hcz13_0 : w10.cell? ⟨gb596, 0, none⟩ = some (.int .i64 0) := (blk_cell BK596.out 0).trans rfl; have hcz13_1 : w10.cell? ⟨gb596, 1, none⟩ = some (.int .i64 0) := (blk_cell BK596.out 1).trans rfl; have hcz13_2 : w10.cell? ⟨gb596, 2, none⟩ = some (.slice none 0 0) := (blk_cell BK596.out 2).trans rfl; have hcz13_3 : w10.cell? ⟨gb596, 3, none⟩ = some (.slice none 0 0) := (blk_cell BK596.out 3).trans rfl; have hfz13_0 := blk_frozen BK596.out 0; have hfz13_1 := blk_frozen BK596.out 1; have hfz13_2 := blk_frozen BK596.out 2; have hfz13_3 := blk_frozen BK596.out 3; obtain ⟨Ao14, co14, eo14⟩ := Kd.S_slice HO592.out; subst eo14; obtain ⟨Ao15, co15, eo15⟩ := Kd.S_slice HO595.out; subst eo15; have hcz16_0 : w10.cell? ⟨gb586, 0, none⟩ = some (.int .i64 a0_0) := (blk_cell BK586.out 0).trans rfl; have hcz16_1 : w10.cell? ⟨gb586, 1, none⟩ = some (.int .i64 a0_1) := (blk_cell BK586.out 1).trans rfl; have hcz16_2 : w10.cell? ⟨gb586, 2, none⟩ = some (.slice A0_2 l0_2.length c0_2) := (blk_cell BK586.out 2).trans rfl; have hcz16_3 : w10.cell? ⟨gb586, 3, none⟩ = some (.slice A0_3 l0_3.length c0_3) := (blk_cell BK586.out 3).trans rfl; have hfz16_0 := blk_frozen BK586.out 0; have hfz16_1 := blk_frozen BK586.out 1; have hfz16_2 := blk_frozen BK586.out 2; have hfz16_3 := blk_frozen BK586.out 3) | ((with_reducible refine gC 46 ?_); refine cL (some 9) Tryz.func46 #[.agg #[.int .i64 a0_0, .int .i64 a0_1, .slice A0_2 l0_2.length c0_2, .slice A0_3 l0_3.length c0_3]] ?_; (with_reducible refine (impl_BandOk.calls k a0_0 a0_1 _ _ l0_2 _ _ l0_3 _ _ (Kd.C_below HR0_2.out bS) HC0_2.out (Kd.C_below HR0_3.out bS) HC0_3.out A3.out).mono ?_); rintro e w17 ⟨rfl, hb⟩; refine ⟨_, rfl, ?_⟩; replace HO592 := Aside0.mk (Kd.S_below (by exact sT (Kd.S_mono (Kd.S_far (p := ⟨gb596, 3, none⟩) (Kd.S_far (p := ⟨gb596, 2, none⟩) (Kd.S_far (p := ⟨gb596, 1, none⟩) (Kd.S_far (p := ⟨gb596, 0, none⟩) (Kd.S_types HO592.out BK596.out (by decide)) (fun _ hk => hk.2) (.int .i64 t588)) (fun _ hk => hk.2) (.int .i64 t589)) (fun _ hk => hk.2) (.slice Ao14 t590.length co14)) (fun _ hk => hk.2) (.slice Ao15 t593.length co15)) (fun _ h_ => h_.1))) hb); replace HO595 := Aside0.mk (Kd.S_below (by exact sT (Kd.S_mono (Kd.S_far (p := ⟨gb596, 3, none⟩) (Kd.S_far (p := ⟨gb596, 2, none⟩) (Kd.S_far (p := ⟨gb596, 1, none⟩) (Kd.S_far (p := ⟨gb596, 0, none⟩) (Kd.S_types HO595.out BK596.out (by decide)) (fun _ hk => hk.2) (.int .i64 t588)) (fun _ hk => hk.2) (.int .i64 t589)) (fun _ hk => hk.2) (.slice Ao14 t590.length co14)) (fun _ hk => hk.2) (.slice Ao15 t593.length co15)) (fun _ h_ => h_.1))) hb); replace BK586 := kB (g := gb586) hb; replace BK587 := kB (g := gb587) hb; replace BK596 := Aside0.mk (blk_below (g := gb596) (o := .cells #[.int .i64 t588, .int .i64 t589, .slice Ao14 t590.length co14, .slice Ao15 t593.length co15] 30 (0, 0)) kS hb); replace HB := hB hb; (try clear hb); (try clear hb2); (try clear hk); (try clear hi); have hcz18_0 : w17.cell? ⟨gb596, 0, none⟩ = some (.int .i64 t588) := (blk_cell BK596.out 0).trans rfl; have hcz18_1 : w17.cell? ⟨gb596, 1, none⟩ = some (.int .i64 t589) := (blk_cell BK596.out 1).trans rfl; have hcz18_2 : w17.cell? ⟨gb596, 2, none⟩ = some (.slice Ao14 t590.length co14) := (blk_cell BK596.out 2).trans rfl; have hcz18_3 : w17.cell? ⟨gb596, 3, none⟩ = some (.slice Ao15 t593.length co15) := (blk_cell BK596.out 3).trans rfl; have hfz18_0 := blk_frozen BK596.out 0; have hfz18_1 := blk_frozen BK596.out 1; have hfz18_2 := blk_frozen BK596.out 2; have hfz18_3 := blk_frozen BK596.out 3))
  go_loopg [15] k (fun kq v15 w' => ∃ (x15_1 : Int) (x597002_1 : List (List Int)) (u597002 : Value), v15 = .int .i64 x15_1 ∧ Aside0 (impl_MergeBand.l0 kq t593 (t593.length : Int) x15_1 t588 t589 x597002_1 t593 = some (r1, r2, r3, r4)) ∧ Aside0 (kq ≤ k) ∧ Aside0 (Kd.S k49 49 w' w.heap.size (fun _ => True) (.slice Ao15 t593.length co15) t593) ∧ Aside0 (Kd.S (Kd.slice 3 (Kd.int .i64)) 54 w' w.heap.size (fun _ => True) u597002 x597002_1) ∧ Aside0 (Kd.S k49 49 w' w.heap.size (fun _ => True) (.slice Ao15 t593.length co15) t593) ∧ Aside0 (w'.heap[gb586]? = some (.cells #[.int .i64 a0_0, .int .i64 a0_1, (.slice A0_2 l0_2.length c0_2), (.slice A0_3 l0_3.length c0_3)] 30 (0, 0))) ∧ Aside0 (w'.heap[gb587]? = some (.cells #[.int .i64 0, .int .i64 0, (.slice none 0 0), (.slice none 0 0)] 30 (0, 0))) ∧ Aside0 (w'.heap[gb596]? = some (.cells #[.int .i64 t588, .int .i64 t589, u597002, (.slice Ao15 t593.length co15)] 30 (0, 0))) ∧ Aside0 (Below w.heap.size w w'))
  case atStart => exact ⟨(0), (t590), (.slice Ao14 t590.length co14), fS, H', ⟨Nat.le_refl _⟩, ⟨sS HO595⟩, ⟨sS HO592⟩, ⟨sS HO595⟩, ⟨kS⟩, ⟨kS⟩, ⟨kS⟩, ⟨bS⟩⟩
  case round =>
   clear H'
   try clear c1
   try clear p2
   try clear c4
   try clear c5
   try clear c7
   try clear c11
   try clear c12
   try clear c18
   try clear hcz13_0
   try clear hcz13_1
   try clear hcz13_2
   try clear hcz13_3
   try clear hcz16_0
   try clear hcz16_1
   try clear hcz16_2
   try clear hcz16_3
   try clear hcz18_0
   try clear hcz18_1
   try clear hcz18_2
   try clear hcz18_3
   try clear hcz8_0
   try clear hcz8_1
   try clear hcz8_2
   try clear hcz8_3
   try clear hfz13_0
   try clear hfz13_1
   try clear hfz13_2
   try clear hfz13_3
   try clear hfz16_0
   try clear hfz16_1
   try clear hfz16_2
   try clear hfz16_3
   try clear hfz18_0
   try clear hfz18_1
   try clear hfz18_2
   try clear hfz18_3
   try clear hfz8_0
   try clear hfz8_1
   try clear hfz8_2
   try clear hfz8_3
   obtain ⟨x15_1, x597002_1, u597002, rfl, HA, HK1, HO_13, HO_597002, HO_597003, BK586, BK587, BK596, HB⟩ := hrel
   cases gk with
   | zero => exact absurd HA.out (by simp [impl_MergeBand.l0])
   | succ k1 =>
    have H := HA.out
    clear HA
    simp only [impl_MergeBand.l0] at H
    rcases iD H with ⟨c19b0, H⟩ | ⟨c19b0, H⟩
    ·obtain ⟨c20b0, H⟩ := iT H
     obtain ⟨c21b0, H⟩ := iT H
     replace H := bN H
     obtain ⟨t600, A22, H⟩ := H
     have H' := Aside0.mk H
     clear H
     have p598 : 0 ≤ (x15_1 : Int) := dA
     have q598 : x15_1 < (t593.length : Int) := dA
     obtain ⟨ad598, A598_0, c598_0, e598, hx598_0, hx598_1, hx598_2, hx598_3, hx598_4, hx598_5, hl598_0, hi598_0⟩ := at_T49 (Kd.S_reads' HO_13.out).2.2 x15_1 p598 q598
     cases e598
     obtain ⟨ce598, hce598, hMe598, hcc598⟩ := Kd.S_get HO_13.out z49 x15_1 p598 (by first | exact q598 | exact dA | (have e_ := (Kd.S_reads' HO_13.out).1; omega))
     obtain ⟨ve598_0, rfl, ge598_0⟩ := k49_openM hMe598
     have hv598_0 := hcc598 0 _ rfl
     rw [Nat.add_zero] at hv598_0
     replace hv598_0 := Option.some.inj (hv598_0.symm.trans hx598_0)
     rw [hv598_0] at ge598_0
     have HL598_0 := Aside0.mk (show Kd.R k151 151 _ _ _ _ ((rd_T49 t593 x15_1).f0) from ge598_0)
     clear hv598_0 ge598_0
     clear hcc598 hce598
     have HR598_0 := Aside0.mk hi598_0
     have HC598_0 := Aside0.mk hl598_0
     clear hi598_0 hl598_0
     replace p598 := eq_true p598
     replace q598 := eq_true q598
     go_wp2_with (first | ((with_reducible refine gD 5 ?_); refine bxE #[.slice none 0 0, .int .i64 0, .int .i64 0, .int .i64 0, .int .i64 0, .int .i64 0] 49 ?_; intro gb599 hg w23 BK599 hb; have GW599 := gE hg; have GE599 := gE hg; have NB586_599 := nL (g := gb586) hg; have NB599_586 := nG (g := gb586) hg; have NB587_599 := nL (g := gb587) hg; have NB599_587 := nG (g := gb587) hg; have NB596_599 := nL (g := gb596) hg; have NB599_596 := nG (g := gb596) hg; replace HO_13 := Aside0.mk (Kd.S_below (Kd.S_elderB (sS HO_13) gb599 (Nat.le_of_eq hg.symm)) hb); replace HO_597002 := sB HO_597002 hb; replace HO_597003 := Aside0.mk (Kd.S_below (Kd.S_elderB (sS HO_597003) gb599 (Nat.le_of_eq hg.symm)) hb); replace HL598_0 := Aside0.mk (Kd.R_below (rS HL598_0) hb); replace BK586 := kB (g := gb586) hb; replace BK587 := kB (g := gb587) hb; replace BK596 := kB (g := gb596) hb; replace HR598_0 := Aside0.mk (Kd.C_below (by repeat (first | (with_reducible exact HR598_0.out) | (with_reducible refine Kd.C_alloc ?_ _) | (with_reducible refine Kd.C_drewN ?_ _) | (with_reducible refine Kd.C_drew ?_) | exact HR598_0.out)) hb); replace HB := hB hb; clear hb hg; have hnb24 := NB599_586.out; have hnc24 := NB586_599.out; have hnb25 := NB599_587.out; have hnc25 := NB587_599.out; have hnb26 := NB599_596.out; have hnc26 := NB596_599.out; have hz27 := cz6 BK599) | ((with_reducible refine gate_store (t := 49) (p := 5) rfl ?_); refine store_event (t := 49) (p := 5) (v := ?vo_w28) (w1 := ((((((w23.setCell ⟨gb599, 0, none⟩ (.slice A598_0 ((rd_T49 t593 x15_1).f0).length c598_0)).setCell ⟨gb599, 1, none⟩ (.int .i64 ((rd_T49 t593 x15_1).f1))).setCell ⟨gb599, 2, none⟩ (.int .i64 ((rd_T49 t593 x15_1).f2.f0))).setCell ⟨gb599, 3, none⟩ (.int .i64 ((rd_T49 t593 x15_1).f2.f1))).setCell ⟨gb599, 4, none⟩ (.int .i64 ((rd_T49 t593 x15_1).f2.f2))).setCell ⟨gb599, 5, none⟩ (.int .i64 ((rd_T49 t593 x15_1).f2.f3)))) ?hg ?ho ?hn ?hr ?_; (case ho => rfl); (case hg => rfl); (case hn => rfl); (case hr => first | (go_simp; done) | (go_simp; rfl)); intro w28 hw; replace HO_13 : Aside0 (Kd.S k49 49 w28 w.heap.size (fun k_ => k_ ≠ gb599) (.slice (some ad598) t593.length co15) t593) := ⟨(by rw [hw]; exact (by exact sT (Kd.S_mono (Kd.S_far (p := ⟨gb599, 5, none⟩) (Kd.S_far (p := ⟨gb599, 4, none⟩) (Kd.S_far (p := ⟨gb599, 3, none⟩) (Kd.S_far (p := ⟨gb599, 2, none⟩) (Kd.S_far (p := ⟨gb599, 1, none⟩) (Kd.S_far (p := ⟨gb599, 0, none⟩) (Kd.S_mono HO_13.out (fun k_ hk => (⟨hk, hk.2⟩ : _ ∧ k_ ≠ gb599))) (fun _ hk => hk.2) (.slice A598_0 ((rd_T49 t593 x15_1).f0).length c598_0)) (fun _ hk => hk.2) (.int .i64 ((rd_T49 t593 x15_1).f1))) (fun _ hk => hk.2) (.int .i64 ((rd_T49 t593 x15_1).f2.f0))) (fun _ hk => hk.2) (.int .i64 ((rd_T49 t593 x15_1).f2.f1))) (fun _ hk => hk.2) (.int .i64 ((rd_T49 t593 x15_1).f2.f2))) (fun _ hk => hk.2) (.int .i64 ((rd_T49 t593 x15_1).f2.f3))) (fun _ hk => hk.1.2))))⟩; replace HO_597002 : Aside0 (Kd.S (Kd.slice 3 (Kd.int .i64)) 54 w28 w.heap.size (fun _ => True) u597002 x597002_1) := ⟨(by rw [hw]; exact (by exact sT (Kd.S_mono (Kd.S_far (p := ⟨gb599, 5, none⟩) (Kd.S_far (p := ⟨gb599, 4, none⟩) (Kd.S_far (p := ⟨gb599, 3, none⟩) (Kd.S_far (p := ⟨gb599, 2, none⟩) (Kd.S_far (p := ⟨gb599, 1, none⟩) (Kd.S_far (p := ⟨gb599, 0, none⟩) (Kd.S_types HO_597002.out BK599.out (by decide)) (fun _ hk => hk.2) (.slice A598_0 ((rd_T49 t593 x15_1).f0).length c598_0)) (fun _ hk => hk.2) (.int .i64 ((rd_T49 t593 x15_1).f1))) (fun _ hk => hk.2) (.int .i64 ((rd_T49 t593 x15_1).f2.f0))) (fun _ hk => hk.2) (.int .i64 ((rd_T49 t593 x15_1).f2.f1))) (fun _ hk => hk.2) (.int .i64 ((rd_T49 t593 x15_1).f2.f2))) (fun _ hk => hk.2) (.int .i64 ((rd_T49 t593 x15_1).f2.f3))) (fun _ hk => trivial))))⟩; replace HO_597003 : Aside0 (Kd.S k49 49 w28 w.heap.size (fun k_ => k_ ≠ gb599) (.slice (some ad598) t593.length co15) t593) := ⟨(by rw [hw]; exact (by exact sT (Kd.S_mono (Kd.S_far (p := ⟨gb599, 5, none⟩) (Kd.S_far (p := ⟨gb599, 4, none⟩) (Kd.S_far (p := ⟨gb599, 3, none⟩) (Kd.S_far (p := ⟨gb599, 2, none⟩) (Kd.S_far (p := ⟨gb599, 1, none⟩) (Kd.S_far (p := ⟨gb599, 0, none⟩) (Kd.S_mono HO_597003.out (fun k_ hk => (⟨hk, hk.2⟩ : _ ∧ k_ ≠ gb599))) (fun _ hk => hk.2) (.slice A598_0 ((rd_T49 t593 x15_1).f0).length c598_0)) (fun _ hk => hk.2) (.int .i64 ((rd_T49 t593 x15_1).f1))) (fun _ hk => hk.2) (.int .i64 ((rd_T49 t593 x15_1).f2.f0))) (fun _ hk => hk.2) (.int .i64 ((rd_T49 t593 x15_1).f2.f1))) (fun _ hk => hk.2) (.int .i64 ((rd_T49 t593 x15_1).f2.f2))) (fun _ hk => hk.2) (.int .i64 ((rd_T49 t593 x15_1).f2.f3))) (fun _ hk => hk.1.2))))⟩; replace HL598_0 : Aside0 (Kd.R k151 151 w28 w.heap.size (fun k_ => some k_ ≠ (.slice (some ad598) t593.length co15 : Value).ownBlock) (.slice A598_0 ((rd_T49 t593 x15_1).f0).length c598_0) ((rd_T49 t593 x15_1).f0)) := ⟨(by rw [hw]; exact (by exact rT (Kd.R_mono (Kd.R_far (p := ⟨gb599, 5, none⟩) (Kd.R_far (p := ⟨gb599, 4, none⟩) (Kd.R_far (p := ⟨gb599, 3, none⟩) (Kd.R_far (p := ⟨gb599, 2, none⟩) (Kd.R_far (p := ⟨gb599, 1, none⟩) (Kd.R_far (p := ⟨gb599, 0, none⟩) (Kd.R_types HL598_0.out BK599.out (by decide)) (fun _ hk => hk.2) (.slice A598_0 ((rd_T49 t593 x15_1).f0).length c598_0)) (fun _ hk => hk.2) (.int .i64 ((rd_T49 t593 x15_1).f1))) (fun _ hk => hk.2) (.int .i64 ((rd_T49 t593 x15_1).f2.f0))) (fun _ hk => hk.2) (.int .i64 ((rd_T49 t593 x15_1).f2.f1))) (fun _ hk => hk.2) (.int .i64 ((rd_T49 t593 x15_1).f2.f2))) (fun _ hk => hk.2) (.int .i64 ((rd_T49 t593 x15_1).f2.f3))) (fun _ hk => hk.1.2))))⟩; replace BK586 : Aside0 (w28.heap[gb586]? = some (.cells #[.int .i64 a0_0, .int .i64 a0_1, .slice A0_2 l0_2.length c0_2, .slice A0_3 l0_3.length c0_3] 30 (0, 0))) := ⟨(by rw [hw]; exact kS)⟩; replace BK587 : Aside0 (w28.heap[gb587]? = some (.cells #[.int .i64 0, .int .i64 0, .slice none 0 0, .slice none 0 0] 30 (0, 0))) := ⟨(by rw [hw]; exact kS)⟩; replace BK596 : Aside0 (w28.heap[gb596]? = some (.cells #[.int .i64 t588, .int .i64 t589, u597002, .slice (some ad598) t593.length co15] 30 (0, 0))) := ⟨(by rw [hw]; exact kS)⟩; replace BK599 : Aside0 (w28.heap[gb599]? = some (.cells #[.slice A598_0 ((rd_T49 t593 x15_1).f0).length c598_0, .int .i64 ((rd_T49 t593 x15_1).f1), .int .i64 ((rd_T49 t593 x15_1).f2.f0), .int .i64 ((rd_T49 t593 x15_1).f2.f1), .int .i64 ((rd_T49 t593 x15_1).f2.f2), .int .i64 ((rd_T49 t593 x15_1).f2.f3)] 49 (0, 0))) := ⟨(by rw [hw]; exact kS)⟩; replace HB : Aside0 (Below w.heap.size w w28) := ⟨(by rw [hw]; exact bS)⟩; clear hw; have hnb29 := NB596_586.out; have hnc29 := NB586_596.out; have hnb30 := NB596_587.out; have hnc30 := NB587_596.out; have hz31 := cz4 BK596; have hz32 := cz6 BK599; obtain ⟨Ao33, co33, eo33⟩ := Kd.S_slice HO_597002.out; subst eo33) | ((with_reducible refine gC 55 ?_); refine cL (some 27) Tryz.func55 #[.slice Ao33 x597002_1.length co33, .int .i64 (wrap64 (t588 * t589)), .agg #[.slice A598_0 ((rd_T49 t593 x15_1).f0).length c598_0, .int .i64 ((rd_T49 t593 x15_1).f1), .int .i64 ((rd_T49 t593 x15_1).f2.f0), .int .i64 ((rd_T49 t593 x15_1).f2.f1), .int .i64 ((rd_T49 t593 x15_1).f2.f2), .int .i64 ((rd_T49 t593 x15_1).f2.f3)]] ?_; (with_reducible refine (impl_paint.calls k1 (fun k_ => w.heap.size ≤ k_ ∧ ∃ q_, q_ ∈ 54 :: (Kd.slice 3 (Kd.int .i64)).E ∧ ∃ c_, w28.heap[k_]? = some (.cells c_ q_ (0, 0))) (.slice Ao33 x597002_1.length co33) x597002_1 (wrap64 (t588 * t589)) _ _ ((rd_T49 t593 x15_1).f0) ((rd_T49 t593 x15_1).f1) ((rd_T49 t593 x15_1).f2.f0) ((rd_T49 t593 x15_1).f2.f1) ((rd_T49 t593 x15_1).f2.f2) ((rd_T49 t593 x15_1).f2.f3) t600 w _ ?side1 ?side2 ?side3 ?side4 A22.out).mono ?_); (case side1 => repeat (first | (with_reducible first | exact HB.out | apply below_alloc | apply pw_below_drewN | apply below_drew1 | refine below_set ?_ GE586.out | refine below_set ?_ GE587.out | refine below_set ?_ GE596.out | refine below_set ?_ GE599.out) | exact HB.out)); (case side2 => (with_reducible repeat (first | apply Kd.S_alloc | apply Kd.S_drewN | apply Kd.S_drew)); exact Kd.S_mono (Kd.S_bound HO_597002.out) (fun k_ h_ => ⟨h_.2.1, h_.2.2.2⟩)); (case side3 => exact Kd.C_kept_own ((R_not (fun k_ => w.heap.size ≤ k_ ∧ ∃ q_, q_ ∈ 54 :: (Kd.slice 3 (Kd.int .i64)).E ∧ ∃ c_, w28.heap[k_]? = some (.cells c_ q_ (0, 0))) HL598_0.out (fun k_ h_ e_ => typed_two h_.2.2.2 e_.2 (by decide)))) (fun k_ hk_ hs_ => (hk_.2) hs_)); (case side4 => exact HC598_0.out); rintro e w34 ⟨rfl, hy0, hb, hkp⟩; refine ⟨_, rfl, ?_⟩; replace HO_13 := Aside0.mk (Kd.S_mono (ok' := fun k_ => k_ ≠ gb599) (Kd.S_keptB ((S_not (fun k_ => w.heap.size ≤ k_ ∧ ∃ q_, q_ ∈ 54 :: (Kd.slice 3 (Kd.int .i64)).E ∧ ∃ c_, w28.heap[k_]? = some (.cells c_ q_ (0, 0))) HO_13.out (fun k_ h_ e_ => typed_two h_.2.2.2 e_.2 (by decide)))) hkp (fun k_ hk_ hs_ => (hk_.2) hs_)) (fun k_ hk_ => hk_.1.1)); replace HO_597002 := Aside0.mk (Kd.S_mono hy0 (fun _ _ => trivial)); replace HO_597003 := Aside0.mk (Kd.S_mono (ok' := fun k_ => k_ ≠ gb599) (Kd.S_keptB ((S_not (fun k_ => w.heap.size ≤ k_ ∧ ∃ q_, q_ ∈ 54 :: (Kd.slice 3 (Kd.int .i64)).E ∧ ∃ c_, w28.heap[k_]? = some (.cells c_ q_ (0, 0))) HO_597003.out (fun k_ h_ e_ => typed_two h_.2.2.2 e_.2 (by decide)))) hkp (fun k_ hk_ hs_ => (hk_.2) hs_)) (fun k_ hk_ => hk_.1.1)); replace BK586 := Aside0.mk (blk_kept (g := gb586) kS hkp (fun hs_ => (fun e_ => typed_one (by exact BK586.out) e_.2 (by decide)) hs_)); replace BK587 := Aside0.mk (blk_kept (g := gb587) kS hkp (fun hs_ => (fun e_ => typed_one (by exact BK587.out) e_.2 (by decide)) hs_)); replace BK596 := Aside0.mk (blk_kept (g := gb596) kS hkp (fun hs_ => (fun e_ => typed_one (by exact BK596.out) e_.2 (by decide)) hs_)); replace BK599 := Aside0.mk (blk_kept (g := gb599) kS hkp (fun hs_ => (fun e_ => typed_one (by exact BK599.out) e_.2 (by decide)) hs_)); replace HB := Aside0.mk (hb); clear HL598_0; (try clear hb); (try clear hkp); (try clear hy0)))
     go_roundg k1
     case measure => have := HK1.out; omega
     case rel => exact ⟨(wrap64 (x15_1 + 1)), (t600), (.slice Ao33 x597002_1.length co33), fS, H', ⟨by have := HK1.out; omega⟩, ⟨by exact sT (Kd.S_mono HO_13.out (fun _ hk => trivial))⟩, ⟨sS HO_597002⟩, ⟨by exact sT (Kd.S_mono HO_597003.out (fun _ hk => trivial))⟩, ⟨kS⟩, ⟨kS⟩, ⟨kS⟩, ⟨bS⟩⟩
    ·obtain ⟨rfl, rfl, rfl, rfl⟩ := sI4 H
     have hnb35 := NB596_586.out
     have hnc35 := NB586_596.out
     have hnb36 := NB596_587.out
     have hnc36 := NB587_596.out
     have hz37 := cz4 BK596
     have hnb38 := NB587_586.out
     have hnc38 := NB586_587.out
     have hz39 := cz4 BK587
     obtain ⟨Ao40, co40, eo40⟩ := Kd.S_slice HO_597002.out
     subst eo40
     go_wp2
     refine bodyPost_ret (results_cell_row rfl _ _ gb587 30 #[.int .i64 t588, .int .i64 t589, .slice Ao40 x597002_1.length co40, .slice none 0 0] (0, 0) _ rfl kS Tryz.underlying30 rfl (by kernel_rfl)) rfl ?_
     exact ⟨_, _, eS, by exact sT (Kd.S_mono (Kd.S_far (p := ⟨gb587, 3, none⟩) (Kd.S_far (p := ⟨gb587, 2, none⟩) (Kd.S_far (p := ⟨gb587, 1, none⟩) (Kd.S_far (p := ⟨gb587, 0, none⟩) (Kd.S_far (p := ⟨gb596, 3, none⟩) (Kd.S_types (Kd.S_types HO_597002.out BK596.out (by decide)) BK587.out (by decide)) (fun _ hk => hk.1.2) (.slice none 0 0)) (fun _ hk => hk.2) (.int .i64 t588)) (fun _ hk => hk.2) (.int .i64 t589)) (fun _ hk => hk.2) (.slice Ao40 x597002_1.length co40)) (fun _ hk => hk.2) (.slice none 0 0)) (fun _ hk => trivial)), by first | exact Kd.S_nil _ _ _ _ _ | exact Kd.N_nil _ _ _ _ _ | exact Kd.V_nil _ _ _ _ _ | exact Kd.Q_nil _ _ _ _ _ | exact Kd.R_nil _ _ _ _ _, bS⟩
 ·obtain rfl := Bool.eq_false_iff.mpr c4
  rw [if_neg nF] at H
  obtain ⟨rfl, rfl, rfl, rfl⟩ := sI4 H
  go_enter Tryz.func18, Tryz.ntmps18
  go_wp2_with (first | ((with_reducible refine gD 1 ?_); refine bxE #[.int .i64 a0_0, .int .i64 a0_1, .slice A0_2 l0_2.length c0_2, .slice A0_3 l0_3.length c0_3] 30 ?_; intro gb586 hg w41 BK586 hb; have GW586 := gE hg; have GE586 := gE hg; replace HB := hB hb; clear hb hg) | ((with_reducible refine gD 2 ?_); refine bxE #[.int .i64 0, .int .i64 0, .slice none 0 0, .slice none 0 0] 30 ?_; intro gb587 hg w42 BK587 hb; have GW587 := gE hg; have GE587 := gE hg; have NB586_587 := nL (g := gb586) hg; have NB587_586 := nG (g := gb586) hg; replace BK586 := kB (g := gb586) hb; replace HB := hB hb; clear hb hg; have hnb43 := NB586_587.out; have hnc43 := NB587_586.out; have hz44 := cz4 BK586) | ((with_reducible refine gC 54 ?_); refine cL (some 7) Tryz.func54 #[.agg #[.int .i64 a0_0, .int .i64 a0_1, .slice A0_2 l0_2.length c0_2, .slice A0_3 l0_3.length c0_3]] ?_; (with_reducible refine (impl_copyBand.calls k a0_0 a0_1 _ _ l0_2 _ _ l0_3 t588 t589 t590 t593 _ (cS (Kd.C_below HR0_2.out HB.out)) HC0_2.out (cS (Kd.C_below HR0_3.out HB.out)) HC0_3.out A2.out).mono ?_); rintro e w45 ⟨v591, v594, rfl, ho0, ho1, hb⟩; refine ⟨_, rfl, ?_⟩; have HO592 := Aside0.mk (Kd.S_lower ho0 (below_size bS)); have HO595 := Aside0.mk (Kd.S_lower ho1 (below_size bS)); replace BK586 := kB (g := gb586) hb; replace BK587 := kB (g := gb587) hb; replace HB := hB hb; (try clear hb); (try clear hb2); (try clear hk); (try clear hi); (try clear ho0); (try clear ho1)) | ((with_reducible refine gD 3 ?_); refine bxE #[.int .i64 0, .int .i64 0, .slice none 0 0, .slice none 0 0] 30 ?_; intro gb596 hg w46 BK596 hb; have GW596 := gE hg; have GE596 := gE hg; have NB586_596 := nL (g := gb586) hg; have NB596_586 := nG (g := gb586) hg; have NB587_596 := nL (g := gb587) hg; have NB596_587 := nG (g := gb587) hg; replace HO592 := sB HO592 hb; replace HO595 := sB HO595 hb; replace BK586 := kB (g := gb586) hb; replace BK587 := kB (g := gb587) hb; replace HB := hB hb; clear hb hg; have hnb47 := NB596_586.out; have hnc47 := NB586_596.out; have hnb48 := NB596_587.out; have hnc48 := NB587_596.out; have hz49 := cz4 BK596; obtain ⟨Ao50, co50, eo50⟩ := Kd.S_slice HO592.out; subst eo50; obtain ⟨Ao51, co51, eo51⟩ := Kd.S_slice HO595.out; subst eo51; have hz52 := cz4 BK586) | ((with_reducible refine gC 46 ?_); refine cL (some 9) Tryz.func46 #[.agg #[.int .i64 a0_0, .int .i64 a0_1, .slice A0_2 l0_2.length c0_2, .slice A0_3 l0_3.length c0_3]] ?_; (with_reducible refine (impl_BandOk.calls k a0_0 a0_1 _ _ l0_2 _ _ l0_3 _ _ (Kd.C_below HR0_2.out bS) HC0_2.out (Kd.C_below HR0_3.out bS) HC0_3.out A3.out).mono ?_); rintro e w53 ⟨rfl, hb⟩; refine ⟨_, rfl, ?_⟩; replace HO592 := Aside0.mk (Kd.S_below (by exact sT (Kd.S_mono (Kd.S_far (p := ⟨gb596, 3, none⟩) (Kd.S_far (p := ⟨gb596, 2, none⟩) (Kd.S_far (p := ⟨gb596, 1, none⟩) (Kd.S_far (p := ⟨gb596, 0, none⟩) (Kd.S_types HO592.out BK596.out (by decide)) (fun _ hk => hk.2) (.int .i64 t588)) (fun _ hk => hk.2) (.int .i64 t589)) (fun _ hk => hk.2) (.slice Ao50 t590.length co50)) (fun _ hk => hk.2) (.slice Ao51 t593.length co51)) (fun _ h_ => h_.1))) hb); replace HO595 := Aside0.mk (Kd.S_below (by exact sT (Kd.S_mono (Kd.S_far (p := ⟨gb596, 3, none⟩) (Kd.S_far (p := ⟨gb596, 2, none⟩) (Kd.S_far (p := ⟨gb596, 1, none⟩) (Kd.S_far (p := ⟨gb596, 0, none⟩) (Kd.S_types HO595.out BK596.out (by decide)) (fun _ hk => hk.2) (.int .i64 t588)) (fun _ hk => hk.2) (.int .i64 t589)) (fun _ hk => hk.2) (.slice Ao50 t590.length co50)) (fun _ hk => hk.2) (.slice Ao51 t593.length co51)) (fun _ h_ => h_.1))) hb); replace BK586 := kB (g := gb586) hb; replace BK587 := kB (g := gb587) hb; replace BK596 := Aside0.mk (blk_below (g := gb596) (o := .cells #[.int .i64 t588, .int .i64 t589, .slice Ao50 t590.length co50, .slice Ao51 t593.length co51] 30 (0, 0)) kS hb); replace HB := hB hb; (try clear hb); (try clear hb2); (try clear hk); (try clear hi); have hz54 := cz4 BK596; have hz55 := cz4 BK587))
  refine bodyPost_ret (results_cell_row rfl _ _ gb587 30 #[.int .i64 t588, .int .i64 t589, .slice Ao50 t590.length co50, .slice Ao51 t593.length co51] (0, 0) _ rfl kS Tryz.underlying30 rfl (by kernel_rfl)) rfl ?_
  exact ⟨_, _, eS, by exact sT (Kd.S_mono (Kd.S_far (p := ⟨gb587, 3, none⟩) (Kd.S_far (p := ⟨gb587, 2, none⟩) (Kd.S_far (p := ⟨gb587, 1, none⟩) (Kd.S_far (p := ⟨gb587, 0, none⟩) (Kd.S_types HO592.out BK587.out (by decide)) (fun _ hk => hk.2) (.int .i64 t588)) (fun _ hk => hk.2) (.int .i64 t589)) (fun _ hk => hk.2) (.slice Ao50 t590.length co50)) (fun _ hk => hk.2) (.slice Ao51 t593.length co51)) (fun _ hk => trivial)), by exact sT (Kd.S_mono (Kd.S_far (p := ⟨gb587, 3, none⟩) (Kd.S_far (p := ⟨gb587, 2, none⟩) (Kd.S_far (p := ⟨gb587, 1, none⟩) (Kd.S_far (p := ⟨gb587, 0, none⟩) (Kd.S_types HO595.out BK587.out (by decide)) (fun _ hk => hk.2) (.int .i64 t588)) (fun _ hk => hk.2) (.int .i64 t589)) (fun _ hk => hk.2) (.slice Ao50 t590.length co50)) (fun _ hk => hk.2) (.slice Ao51 t593.length co51)) (fun _ hk => trivial)), bS⟩

/-! ### laws_heldIntS: function 51 -/
def laws_heldIntS.l0 : Nat → List Int → Int → Int → Option (Int)
 | 0, _, _, _ => none
 | k + 1, x0, x1, x5 => if x5 < (x0.length : Int) then (if 0 ≤ x5 then (if (rd x0 x5) = x1 then (laws_heldIntS.l0 k x0 (wrap64 (x1 + 1)) (wrap64 (x5 + 1))) else (some (-1))) else (none)) else (some x1)
def laws_heldIntS.f (k : Nat) (l0 : List Int) (a1 : Int) : Option (Int) := laws_heldIntS.l0 k l0 a1 0
theorem laws_heldIntS.calls (k : Nat) (A0 : Option Addr) (c0 : Nat) (l0 : List Int) (a1 : Int) (r : Int) (w : World) (hr0 : Kd.C (Kd.int .i64) w A0 l0.length l0) (hc0 : l0.length ≤ c0) (h : laws_heldIntS.f k l0 a1 = some r) :
  Calls Tryz.prog 51 #[.slice A0 l0.length c0, .int .i64 a1] w fun e w' => e = .returned (.int .i64 r) ∧ Drawn0 w w' := by
 have HR0 := Aside0.mk hr0
 have HC0 := Aside0.mk hc0
 clear hr0 hc0
 have H : (laws_heldIntS.l0 k l0 a1 0) = some r := h
 clear h
 have H' := Aside0.mk H
 clear H
 go_enter Tryz.func51, Tryz.ntmps51
 go_wp2
 go_loopg [1, 5] k (fun kq v1 v5 w' => ∃ (x1_1 : Int) (x5_1 : Int), v1 = .int .i64 x1_1 ∧ v5 = .int .i64 x5_1 ∧ Aside0 (laws_heldIntS.l0 kq l0 x1_1 x5_1 = some r) ∧ Aside0 (kq ≤ k) ∧ Drawn0 w w')
 case atStart => exact ⟨(a1), (0), fS, fS, H', ⟨Nat.le_refl _⟩, dS⟩
 case round =>
  clear H'
  try clear p2
  obtain ⟨x1_1, x5_1, rfl, rfl, HA, HK1, ⟨m1, rfl⟩⟩ := hrel
  cases gk with
  | zero => exact absurd HA.out (by simp [laws_heldIntS.l0])
  | succ k1 =>
   have H := HA.out
   clear HA
   simp only [laws_heldIntS.l0] at H
   rcases iD H with ⟨c3b0, H⟩ | ⟨c3b0, H⟩
   ·obtain ⟨c4b0, H⟩ := iT H
    by_cases c5 : (rd l0 x5_1) = x1_1
    ·rw [if_pos c5] at H
     have c5b0 : ((rd l0 x5_1) == x1_1) = true := beq_iff_eq.mpr c5
     have c5b1 : ((rd l0 x5_1) != x1_1) = false := bne_eq_false_iff_eq.mpr c5
     clear c5
     have H' := Aside0.mk H
     clear H
     have p601 : 0 ≤ (x5_1 : Int) := dA
     have q601 : x5_1 < (l0.length : Int) := dA
     obtain ⟨ad601, e601, hx601_0⟩ := Kd.at_int HR0.out x5_1 p601 q601
     cases e601
     replace p601 := eq_true p601
     replace q601 := eq_true q601
     go_wp2
     go_roundg k1
     case measure => have := HK1.out; omega
     case rel => exact ⟨(wrap64 (x1_1 + 1)), (wrap64 (x5_1 + 1)), fS, fS, H', ⟨by have := HK1.out; omega⟩, dS⟩
    ·rw [if_neg c5] at H
     have c5b0 : ((rd l0 x5_1) == x1_1) = false := beq_eq_false_iff_ne.mpr c5
     have c5b1 : ((rd l0 x5_1) != x1_1) = true := bne_iff_ne.mpr c5
     obtain rfl := Option.some.inj H
     have p601 : 0 ≤ (x5_1 : Int) := dA
     have q601 : x5_1 < (l0.length : Int) := dA
     obtain ⟨ad601, e601, hx601_0⟩ := Kd.at_int HR0.out x5_1 p601 q601
     cases e601
     replace p601 := eq_true p601
     replace q601 := eq_true q601
     go_wp2
     go_ret
     exact ⟨fS, dS⟩
   ·obtain rfl := Option.some.inj H
    go_wp2
    go_ret
    exact ⟨fS, dS⟩

/-! ### laws_heldIntSS: function 16 -/
def laws_heldIntSS.l0 : Nat → List (List Int) → Int → Int → Option (Int)
 | 0, _, _, _ => none
 | k + 1, x0, x1, x5 => if x5 < (x0.length : Int) then (if 0 ≤ x5 then ((laws_heldIntS.f k (rd_L1 x0 x5) x1).bind fun t603 => (if t603 < 0 then (some (-1)) else (laws_heldIntSS.l0 k x0 t603 (wrap64 (x5 + 1))))) else (none)) else (some x1)
def laws_heldIntSS.f (k : Nat) (l0 : List (List Int)) (a1 : Int) : Option (Int) := laws_heldIntSS.l0 k l0 a1 0
theorem laws_heldIntSS.calls (k : Nat) (A0 : Option Addr) (c0 : Nat) (l0 : List (List Int)) (a1 : Int) (r : Int) (w : World) (hr0 : Kd.C (Kd.slice 3 (Kd.int .i64)) w A0 l0.length l0) (hc0 : l0.length ≤ c0) (h : laws_heldIntSS.f k l0 a1 = some r) :
  Calls Tryz.prog 16 #[.slice A0 l0.length c0, .int .i64 a1] w fun e w' => e = .returned (.int .i64 r) ∧ Drawn0 w w' := by
 have HR0 := Aside0.mk hr0
 have HC0 := Aside0.mk hc0
 clear hr0 hc0
 have H : (laws_heldIntSS.l0 k l0 a1 0) = some r := h
 clear h
 have H' := Aside0.mk H
 clear H
 go_enter Tryz.func16, Tryz.ntmps16
 go_wp2
 go_loopg [1, 5] k (fun kq v1 v5 w' => ∃ (x1_1 : Int) (x5_1 : Int), v1 = .int .i64 x1_1 ∧ v5 = .int .i64 x5_1 ∧ Aside0 (laws_heldIntSS.l0 kq l0 x1_1 x5_1 = some r) ∧ Aside0 (kq ≤ k) ∧ Drawn0 w w')
 case atStart => exact ⟨(a1), (0), fS, fS, H', ⟨Nat.le_refl _⟩, dS⟩
 case round =>
  clear H'
  try clear c1
  try clear p2
  obtain ⟨x1_1, x5_1, rfl, rfl, HA, HK1, ⟨m1, rfl⟩⟩ := hrel
  cases gk with
  | zero => exact absurd HA.out (by simp [laws_heldIntSS.l0])
  | succ k1 =>
   have H := HA.out
   clear HA
   simp only [laws_heldIntSS.l0] at H
   rcases iD H with ⟨c3b0, H⟩ | ⟨c3b0, H⟩
   ·obtain ⟨c4b0, H⟩ := iT H
    replace H := bN H
    obtain ⟨t603, A5, H⟩ := H
    rcases iD H with ⟨c6b0, H⟩ | ⟨c6b0, H⟩
    ·obtain rfl := Option.some.inj H
     have p602 : 0 ≤ (x5_1 : Int) := dA
     have q602 : x5_1 < (l0.length : Int) := dA
     obtain ⟨ad602, A602_0, c602_0, e602, hx602_0, hl602_0, hi602_0⟩ := at_L1 HR0.out x5_1 p602 q602
     cases e602
     have HR602_0 := Aside0.mk hi602_0
     have HC602_0 := Aside0.mk hl602_0
     clear hi602_0 hl602_0
     replace p602 := eq_true p602
     replace q602 := eq_true q602
     go_wp2_with (first | ((with_reducible refine gC 51 ?_); refine cL (some 17) Tryz.func51 #[.slice A602_0 (rd_L1 l0 x5_1).length c602_0, .int .i64 x1_1] ?_; (with_reducible refine (laws_heldIntS.calls k1 _ _ (rd_L1 l0 x5_1) x1_1 t603 _ ?side1 ?side2 A5.out).mono ?_); (case side1 => repeat (first | exact HR602_0.out | (with_reducible refine Kd.C_alloc ?_ _) | (with_reducible refine Kd.C_drewN ?_ _) | (with_reducible refine Kd.C_drew ?_))); (case side2 => exact HC602_0.out); rintro e w' ⟨rfl, ⟨nd, rfl⟩⟩; refine ⟨_, rfl, ?_⟩))
     go_ret
     exact ⟨fS, dS⟩
    ·have H' := Aside0.mk H
     clear H
     have p602 : 0 ≤ (x5_1 : Int) := dA
     have q602 : x5_1 < (l0.length : Int) := dA
     obtain ⟨ad602, A602_0, c602_0, e602, hx602_0, hl602_0, hi602_0⟩ := at_L1 HR0.out x5_1 p602 q602
     cases e602
     have HR602_0 := Aside0.mk hi602_0
     have HC602_0 := Aside0.mk hl602_0
     clear hi602_0 hl602_0
     replace p602 := eq_true p602
     replace q602 := eq_true q602
     go_wp2_with (first | ((with_reducible refine gC 51 ?_); refine cL (some 17) Tryz.func51 #[.slice A602_0 (rd_L1 l0 x5_1).length c602_0, .int .i64 x1_1] ?_; (with_reducible refine (laws_heldIntS.calls k1 _ _ (rd_L1 l0 x5_1) x1_1 t603 _ ?side1 ?side2 A5.out).mono ?_); (case side1 => repeat (first | exact HR602_0.out | (with_reducible refine Kd.C_alloc ?_ _) | (with_reducible refine Kd.C_drewN ?_ _) | (with_reducible refine Kd.C_drew ?_))); (case side2 => exact HC602_0.out); rintro e w' ⟨rfl, ⟨nd, rfl⟩⟩; refine ⟨_, rfl, ?_⟩))
     go_roundg k1
     case measure => have := HK1.out; omega
     case rel => exact ⟨(t603), (wrap64 (x5_1 + 1)), fS, fS, H', ⟨by have := HK1.out; omega⟩, dS⟩
   ·obtain rfl := Option.some.inj H
    go_wp2
    go_ret
    exact ⟨fS, dS⟩

/-! ### laws_heldPointS: function 119 -/
def laws_heldPointS.l0 : Nat → List (S151) → Int → Int → Option (Int)
 | 0, _, _, _ => none
 | k + 1, x0, x1, x5 => if x5 < (x0.length : Int) then (if 0 ≤ x5 then (if ((rd_T151 x0 x5).f0) = x1 then (if ((rd_T151 x0 x5).f1) = (wrap64 (x1 + 1)) then (laws_heldPointS.l0 k x0 (wrap64 ((wrap64 (x1 + 1)) + 1)) (wrap64 (x5 + 1))) else (some (-1))) else (some (-1))) else (none)) else (some x1)
def laws_heldPointS.f (k : Nat) (l0 : List (S151)) (a1 : Int) : Option (Int) := laws_heldPointS.l0 k l0 a1 0
theorem laws_heldPointS.calls (k : Nat) (A0 : Option Addr) (c0 : Nat) (l0 : List (S151)) (a1 : Int) (r : Int) (w : World) (hr0 : Kd.C k151 w A0 l0.length l0) (hc0 : l0.length ≤ c0) (h : laws_heldPointS.f k l0 a1 = some r) :
  Calls Tryz.prog 119 #[.slice A0 l0.length c0, .int .i64 a1] w fun e w' => e = .returned (.int .i64 r) ∧ Drawn0 w w' := by
 have HR0 := Aside0.mk hr0
 have HC0 := Aside0.mk hc0
 clear hr0 hc0
 have H : (laws_heldPointS.l0 k l0 a1 0) = some r := h
 clear h
 have H' := Aside0.mk H
 clear H
 go_enter Tryz.func119, Tryz.ntmps119
 go_wp2
 go_loopg [1, 5] k (fun kq v1 v5 w' => ∃ (x1_1 : Int) (x5_1 : Int), v1 = .int .i64 x1_1 ∧ v5 = .int .i64 x5_1 ∧ Aside0 (laws_heldPointS.l0 kq l0 x1_1 x5_1 = some r) ∧ Aside0 (kq ≤ k) ∧ Drawn0 w w')
 case atStart => exact ⟨(a1), (0), fS, fS, H', ⟨Nat.le_refl _⟩, dS⟩
 case round =>
  clear H'
  try clear c1
  try clear p2
  obtain ⟨x1_1, x5_1, rfl, rfl, HA, HK1, ⟨m1, rfl⟩⟩ := hrel
  cases gk with
  | zero => exact absurd HA.out (by simp [laws_heldPointS.l0])
  | succ k1 =>
   have H := HA.out
   clear HA
   simp only [laws_heldPointS.l0] at H
   rcases iD H with ⟨c3b0, H⟩ | ⟨c3b0, H⟩
   ·obtain ⟨c4b0, H⟩ := iT H
    by_cases c5 : ((rd_T151 l0 x5_1).f0) = x1_1
    ·rw [if_pos c5] at H
     have c5b0 : (((rd_T151 l0 x5_1).f0) == x1_1) = true := beq_iff_eq.mpr c5
     have c5b1 : (((rd_T151 l0 x5_1).f0) != x1_1) = false := bne_eq_false_iff_eq.mpr c5
     clear c5
     by_cases c6 : ((rd_T151 l0 x5_1).f1) = (wrap64 (x1_1 + 1))
     ·rw [if_pos c6] at H
      have c6b0 : (((rd_T151 l0 x5_1).f1) == (wrap64 (x1_1 + 1))) = true := beq_iff_eq.mpr c6
      have c6b1 : (((rd_T151 l0 x5_1).f1) != (wrap64 (x1_1 + 1))) = false := bne_eq_false_iff_eq.mpr c6
      clear c6
      have H' := Aside0.mk H
      clear H
      have p604 : 0 ≤ (x5_1 : Int) := dA
      have q604 : x5_1 < (l0.length : Int) := dA
      obtain ⟨ad604, e604, hx604_0, hx604_1⟩ := at_T151 HR0.out x5_1 p604 q604
      cases e604
      replace p604 := eq_true p604
      replace q604 := eq_true q604
      have p605 : 0 ≤ (x5_1 : Int) := dA
      have q605 : x5_1 < (l0.length : Int) := dA
      obtain ⟨ad605, e605, hx605_0, hx605_1⟩ := at_T151 HR0.out x5_1 p605 q605
      obtain rfl : ad604 = ad605 := (by injection e605)
      replace p605 := eq_true p605
      replace q605 := eq_true q605
      go_wp2
      go_roundg k1
      case measure => have := HK1.out; omega
      case rel => exact ⟨(wrap64 ((wrap64 (x1_1 + 1)) + 1)), (wrap64 (x5_1 + 1)), fS, fS, H', ⟨by have := HK1.out; omega⟩, dS⟩
     ·rw [if_neg c6] at H
      have c6b0 : (((rd_T151 l0 x5_1).f1) == (wrap64 (x1_1 + 1))) = false := beq_eq_false_iff_ne.mpr c6
      have c6b1 : (((rd_T151 l0 x5_1).f1) != (wrap64 (x1_1 + 1))) = true := bne_iff_ne.mpr c6
      obtain rfl := Option.some.inj H
      have p604 : 0 ≤ (x5_1 : Int) := dA
      have q604 : x5_1 < (l0.length : Int) := dA
      obtain ⟨ad604, e604, hx604_0, hx604_1⟩ := at_T151 HR0.out x5_1 p604 q604
      cases e604
      replace p604 := eq_true p604
      replace q604 := eq_true q604
      have p605 : 0 ≤ (x5_1 : Int) := dA
      have q605 : x5_1 < (l0.length : Int) := dA
      obtain ⟨ad605, e605, hx605_0, hx605_1⟩ := at_T151 HR0.out x5_1 p605 q605
      obtain rfl : ad604 = ad605 := (by injection e605)
      replace p605 := eq_true p605
      replace q605 := eq_true q605
      go_wp2
      go_ret
      exact ⟨fS, dS⟩
    ·rw [if_neg c5] at H
     have c5b0 : (((rd_T151 l0 x5_1).f0) == x1_1) = false := beq_eq_false_iff_ne.mpr c5
     have c5b1 : (((rd_T151 l0 x5_1).f0) != x1_1) = true := bne_iff_ne.mpr c5
     obtain rfl := Option.some.inj H
     have p604 : 0 ≤ (x5_1 : Int) := dA
     have q604 : x5_1 < (l0.length : Int) := dA
     obtain ⟨ad604, e604, hx604_0, hx604_1⟩ := at_T151 HR0.out x5_1 p604 q604
     cases e604
     replace p604 := eq_true p604
     replace q604 := eq_true q604
     go_wp2
     go_ret
     exact ⟨fS, dS⟩
   ·obtain rfl := Option.some.inj H
    go_wp2
    go_ret
    exact ⟨fS, dS⟩

/-! ### laws_heldObjectS: function 56 -/
def laws_heldObjectS.l0 : Nat → List (S49) → Int → Int → Option (Int)
 | 0, _, _, _ => none
 | k + 1, x0, x1, x5 => if x5 < (x0.length : Int) then (if 0 ≤ x5 then ((laws_heldPointS.f k ((rd_T49 x0 x5).f0) x1).bind fun t607 => (if t607 < 0 then (some (-1)) else (if ((rd_T49 x0 x5).f1) = t607 then (if ((rd_T49 x0 x5).f2.f0) = (wrap64 (t607 + 1)) then (if ((rd_T49 x0 x5).f2.f1) = (wrap64 ((wrap64 (t607 + 1)) + 1)) then (if ((rd_T49 x0 x5).f2.f2) = (wrap64 ((wrap64 ((wrap64 (t607 + 1)) + 1)) + 1)) then (if ((rd_T49 x0 x5).f2.f3) = (wrap64 ((wrap64 ((wrap64 ((wrap64 (t607 + 1)) + 1)) + 1)) + 1)) then (laws_heldObjectS.l0 k x0 (wrap64 ((wrap64 ((wrap64 ((wrap64 ((wrap64 (t607 + 1)) + 1)) + 1)) + 1)) + 1)) (wrap64 (x5 + 1))) else (some (-1))) else (some (-1))) else (some (-1))) else (some (-1))) else (some (-1))))) else (none)) else (some x1)
def laws_heldObjectS.f (k : Nat) (l0 : List (S49)) (a1 : Int) : Option (Int) := laws_heldObjectS.l0 k l0 a1 0
theorem laws_heldObjectS.calls (k : Nat) (A0 : Option Addr) (c0 : Nat) (l0 : List (S49)) (a1 : Int) (r : Int) (w : World) (hr0 : Kd.C k49 w A0 l0.length l0) (hc0 : l0.length ≤ c0) (h : laws_heldObjectS.f k l0 a1 = some r) :
  Calls Tryz.prog 56 #[.slice A0 l0.length c0, .int .i64 a1] w fun e w' => e = .returned (.int .i64 r) ∧ Drawn0 w w' := by
 have HR0 := Aside0.mk hr0
 have HC0 := Aside0.mk hc0
 clear hr0 hc0
 have H : (laws_heldObjectS.l0 k l0 a1 0) = some r := h
 clear h
 have H' := Aside0.mk H
 clear H
 go_enter Tryz.func56, Tryz.ntmps56
 go_wp2
 go_loopg [1, 5] k (fun kq v1 v5 w' => ∃ (x1_1 : Int) (x5_1 : Int), v1 = .int .i64 x1_1 ∧ v5 = .int .i64 x5_1 ∧ Aside0 (laws_heldObjectS.l0 kq l0 x1_1 x5_1 = some r) ∧ Aside0 (kq ≤ k) ∧ Drawn0 w w')
 case atStart => exact ⟨(a1), (0), fS, fS, H', ⟨Nat.le_refl _⟩, dS⟩
 case round =>
  clear H'
  try clear p2
  obtain ⟨x1_1, x5_1, rfl, rfl, HA, HK1, ⟨m1, rfl⟩⟩ := hrel
  cases gk with
  | zero => exact absurd HA.out (by simp [laws_heldObjectS.l0])
  | succ k1 =>
   have H := HA.out
   clear HA
   simp only [laws_heldObjectS.l0] at H
   rcases iD H with ⟨c3b0, H⟩ | ⟨c3b0, H⟩
   ·obtain ⟨c4b0, H⟩ := iT H
    replace H := bN H
    obtain ⟨t607, A5, H⟩ := H
    rcases iD H with ⟨c6b0, H⟩ | ⟨c6b0, H⟩
    ·obtain rfl := Option.some.inj H
     have p606 : 0 ≤ (x5_1 : Int) := dA
     have q606 : x5_1 < (l0.length : Int) := dA
     obtain ⟨ad606, A606_0, c606_0, e606, hx606_0, hx606_1, hx606_2, hx606_3, hx606_4, hx606_5, hl606_0, hi606_0⟩ := at_T49 HR0.out x5_1 p606 q606
     cases e606
     have HR606_0 := Aside0.mk hi606_0
     have HC606_0 := Aside0.mk hl606_0
     clear hi606_0 hl606_0
     replace p606 := eq_true p606
     replace q606 := eq_true q606
     go_wp2_with (first | ((with_reducible refine gC 119 ?_); refine cL (some 18) Tryz.func119 #[.slice A606_0 ((rd_T49 l0 x5_1).f0).length c606_0, .int .i64 x1_1] ?_; (with_reducible refine (laws_heldPointS.calls k1 _ _ ((rd_T49 l0 x5_1).f0) x1_1 t607 _ ?side1 ?side2 A5.out).mono ?_); (case side1 => repeat (first | exact HR606_0.out | (with_reducible refine Kd.C_alloc ?_ _) | (with_reducible refine Kd.C_drewN ?_ _) | (with_reducible refine Kd.C_drew ?_))); (case side2 => exact HC606_0.out); rintro e w' ⟨rfl, ⟨nd, rfl⟩⟩; refine ⟨_, rfl, ?_⟩))
     go_ret
     exact ⟨fS, dS⟩
    ·by_cases c7 : ((rd_T49 l0 x5_1).f1) = t607
     ·rw [if_pos c7] at H
      have c7b0 : (((rd_T49 l0 x5_1).f1) == t607) = true := beq_iff_eq.mpr c7
      have c7b1 : (((rd_T49 l0 x5_1).f1) != t607) = false := bne_eq_false_iff_eq.mpr c7
      clear c7
      by_cases c8 : ((rd_T49 l0 x5_1).f2.f0) = (wrap64 (t607 + 1))
      ·rw [if_pos c8] at H
       have c8b0 : (((rd_T49 l0 x5_1).f2.f0) == (wrap64 (t607 + 1))) = true := beq_iff_eq.mpr c8
       have c8b1 : (((rd_T49 l0 x5_1).f2.f0) != (wrap64 (t607 + 1))) = false := bne_eq_false_iff_eq.mpr c8
       clear c8
       by_cases c9 : ((rd_T49 l0 x5_1).f2.f1) = (wrap64 ((wrap64 (t607 + 1)) + 1))
       ·rw [if_pos c9] at H
        have c9b0 : (((rd_T49 l0 x5_1).f2.f1) == (wrap64 ((wrap64 (t607 + 1)) + 1))) = true := beq_iff_eq.mpr c9
        have c9b1 : (((rd_T49 l0 x5_1).f2.f1) != (wrap64 ((wrap64 (t607 + 1)) + 1))) = false := bne_eq_false_iff_eq.mpr c9
        clear c9
        by_cases c10 : ((rd_T49 l0 x5_1).f2.f2) = (wrap64 ((wrap64 ((wrap64 (t607 + 1)) + 1)) + 1))
        ·rw [if_pos c10] at H
         have c10b0 : (((rd_T49 l0 x5_1).f2.f2) == (wrap64 ((wrap64 ((wrap64 (t607 + 1)) + 1)) + 1))) = true := beq_iff_eq.mpr c10
         have c10b1 : (((rd_T49 l0 x5_1).f2.f2) != (wrap64 ((wrap64 ((wrap64 (t607 + 1)) + 1)) + 1))) = false := bne_eq_false_iff_eq.mpr c10
         clear c10
         by_cases c11 : ((rd_T49 l0 x5_1).f2.f3) = (wrap64 ((wrap64 ((wrap64 ((wrap64 (t607 + 1)) + 1)) + 1)) + 1))
         ·rw [if_pos c11] at H
          have c11b0 : (((rd_T49 l0 x5_1).f2.f3) == (wrap64 ((wrap64 ((wrap64 ((wrap64 (t607 + 1)) + 1)) + 1)) + 1))) = true := beq_iff_eq.mpr c11
          have c11b1 : (((rd_T49 l0 x5_1).f2.f3) != (wrap64 ((wrap64 ((wrap64 ((wrap64 (t607 + 1)) + 1)) + 1)) + 1))) = false := bne_eq_false_iff_eq.mpr c11
          clear c11
          have H' := Aside0.mk H
          clear H
          have p606 : 0 ≤ (x5_1 : Int) := dA
          have q606 : x5_1 < (l0.length : Int) := dA
          obtain ⟨ad606, A606_0, c606_0, e606, hx606_0, hx606_1, hx606_2, hx606_3, hx606_4, hx606_5, hl606_0, hi606_0⟩ := at_T49 HR0.out x5_1 p606 q606
          cases e606
          have HR606_0 := Aside0.mk hi606_0
          have HC606_0 := Aside0.mk hl606_0
          clear hi606_0 hl606_0
          replace p606 := eq_true p606
          replace q606 := eq_true q606
          go_wp2_with (first | ((with_reducible refine gC 119 ?_); refine cL (some 18) Tryz.func119 #[.slice A606_0 ((rd_T49 l0 x5_1).f0).length c606_0, .int .i64 x1_1] ?_; (with_reducible refine (laws_heldPointS.calls k1 _ _ ((rd_T49 l0 x5_1).f0) x1_1 t607 _ ?side1 ?side2 A5.out).mono ?_); (case side1 => repeat (first | exact HR606_0.out | (with_reducible refine Kd.C_alloc ?_ _) | (with_reducible refine Kd.C_drewN ?_ _) | (with_reducible refine Kd.C_drew ?_))); (case side2 => exact HC606_0.out); rintro e w' ⟨rfl, ⟨nd, rfl⟩⟩; refine ⟨_, rfl, ?_⟩; have p608 : 0 ≤ (x5_1 : Int) := dA; have q608 : x5_1 < (l0.length : Int) := dA; obtain ⟨ad608, A608_0, c608_0, e608, hx608_0, hx608_1, hx608_2, hx608_3, hx608_4, hx608_5, hl608_0, hi608_0⟩ := at_T49 HR0.out x5_1 p608 q608; obtain rfl : ad606 = ad608 := (by injection e608); have HR608_0 := Aside0.mk hi608_0; have HC608_0 := Aside0.mk hl608_0; clear hi608_0 hl608_0; replace p608 := eq_true p608; replace q608 := eq_true q608; have ea_ := Option.some.inj (hx606_0.symm.trans hx608_0); injection ea_ with ea_ en_ ec_; subst ea_; subst ec_; clear en_; have p609 : 0 ≤ (x5_1 : Int) := dA; have q609 : x5_1 < (l0.length : Int) := dA; obtain ⟨ad609, A609_0, c609_0, e609, hx609_0, hx609_1, hx609_2, hx609_3, hx609_4, hx609_5, hl609_0, hi609_0⟩ := at_T49 HR0.out x5_1 p609 q609; obtain rfl : ad606 = ad609 := (by injection e609); have HR609_0 := Aside0.mk hi609_0; have HC609_0 := Aside0.mk hl609_0; clear hi609_0 hl609_0; replace p609 := eq_true p609; replace q609 := eq_true q609; have ea_ := Option.some.inj (hx606_0.symm.trans hx609_0); injection ea_ with ea_ en_ ec_; subst ea_; subst ec_; clear en_; have p610 : 0 ≤ (x5_1 : Int) := dA; have q610 : x5_1 < (l0.length : Int) := dA; obtain ⟨ad610, A610_0, c610_0, e610, hx610_0, hx610_1, hx610_2, hx610_3, hx610_4, hx610_5, hl610_0, hi610_0⟩ := at_T49 HR0.out x5_1 p610 q610; obtain rfl : ad606 = ad610 := (by injection e610); have HR610_0 := Aside0.mk hi610_0; have HC610_0 := Aside0.mk hl610_0; clear hi610_0 hl610_0; replace p610 := eq_true p610; replace q610 := eq_true q610; have ea_ := Option.some.inj (hx606_0.symm.trans hx610_0); injection ea_ with ea_ en_ ec_; subst ea_; subst ec_; clear en_; have p611 : 0 ≤ (x5_1 : Int) := dA; have q611 : x5_1 < (l0.length : Int) := dA; obtain ⟨ad611, A611_0, c611_0, e611, hx611_0, hx611_1, hx611_2, hx611_3, hx611_4, hx611_5, hl611_0, hi611_0⟩ := at_T49 HR0.out x5_1 p611 q611; obtain rfl : ad606 = ad611 := (by injection e611); have HR611_0 := Aside0.mk hi611_0; have HC611_0 := Aside0.mk hl611_0; clear hi611_0 hl611_0; replace p611 := eq_true p611; replace q611 := eq_true q611; have ea_ := Option.some.inj (hx606_0.symm.trans hx611_0); injection ea_ with ea_ en_ ec_; subst ea_; subst ec_; clear en_; have p612 : 0 ≤ (x5_1 : Int) := dA; have q612 : x5_1 < (l0.length : Int) := dA; obtain ⟨ad612, A612_0, c612_0, e612, hx612_0, hx612_1, hx612_2, hx612_3, hx612_4, hx612_5, hl612_0, hi612_0⟩ := at_T49 HR0.out x5_1 p612 q612; obtain rfl : ad606 = ad612 := (by injection e612); have HR612_0 := Aside0.mk hi612_0; have HC612_0 := Aside0.mk hl612_0; clear hi612_0 hl612_0; replace p612 := eq_true p612; replace q612 := eq_true q612; have ea_ := Option.some.inj (hx606_0.symm.trans hx612_0); injection ea_ with ea_ en_ ec_; subst ea_; subst ec_; clear en_))
          go_roundg k1
          case measure => have := HK1.out; omega
          case rel => exact ⟨(wrap64 ((wrap64 ((wrap64 ((wrap64 ((wrap64 (t607 + 1)) + 1)) + 1)) + 1)) + 1)), (wrap64 (x5_1 + 1)), fS, fS, H', ⟨by have := HK1.out; omega⟩, dS⟩
         ·rw [if_neg c11] at H
          have c11b0 : (((rd_T49 l0 x5_1).f2.f3) == (wrap64 ((wrap64 ((wrap64 ((wrap64 (t607 + 1)) + 1)) + 1)) + 1))) = false := beq_eq_false_iff_ne.mpr c11
          have c11b1 : (((rd_T49 l0 x5_1).f2.f3) != (wrap64 ((wrap64 ((wrap64 ((wrap64 (t607 + 1)) + 1)) + 1)) + 1))) = true := bne_iff_ne.mpr c11
          obtain rfl := Option.some.inj H
          have p606 : 0 ≤ (x5_1 : Int) := dA
          have q606 : x5_1 < (l0.length : Int) := dA
          obtain ⟨ad606, A606_0, c606_0, e606, hx606_0, hx606_1, hx606_2, hx606_3, hx606_4, hx606_5, hl606_0, hi606_0⟩ := at_T49 HR0.out x5_1 p606 q606
          cases e606
          have HR606_0 := Aside0.mk hi606_0
          have HC606_0 := Aside0.mk hl606_0
          clear hi606_0 hl606_0
          replace p606 := eq_true p606
          replace q606 := eq_true q606
          go_wp2_with (first | ((with_reducible refine gC 119 ?_); refine cL (some 18) Tryz.func119 #[.slice A606_0 ((rd_T49 l0 x5_1).f0).length c606_0, .int .i64 x1_1] ?_; (with_reducible refine (laws_heldPointS.calls k1 _ _ ((rd_T49 l0 x5_1).f0) x1_1 t607 _ ?side1 ?side2 A5.out).mono ?_); (case side1 => repeat (first | exact HR606_0.out | (with_reducible refine Kd.C_alloc ?_ _) | (with_reducible refine Kd.C_drewN ?_ _) | (with_reducible refine Kd.C_drew ?_))); (case side2 => exact HC606_0.out); rintro e w' ⟨rfl, ⟨nd, rfl⟩⟩; refine ⟨_, rfl, ?_⟩; have p608 : 0 ≤ (x5_1 : Int) := dA; have q608 : x5_1 < (l0.length : Int) := dA; obtain ⟨ad608, A608_0, c608_0, e608, hx608_0, hx608_1, hx608_2, hx608_3, hx608_4, hx608_5, hl608_0, hi608_0⟩ := at_T49 HR0.out x5_1 p608 q608; obtain rfl : ad606 = ad608 := (by injection e608); have HR608_0 := Aside0.mk hi608_0; have HC608_0 := Aside0.mk hl608_0; clear hi608_0 hl608_0; replace p608 := eq_true p608; replace q608 := eq_true q608; have ea_ := Option.some.inj (hx606_0.symm.trans hx608_0); injection ea_ with ea_ en_ ec_; subst ea_; subst ec_; clear en_; have p609 : 0 ≤ (x5_1 : Int) := dA; have q609 : x5_1 < (l0.length : Int) := dA; obtain ⟨ad609, A609_0, c609_0, e609, hx609_0, hx609_1, hx609_2, hx609_3, hx609_4, hx609_5, hl609_0, hi609_0⟩ := at_T49 HR0.out x5_1 p609 q609; obtain rfl : ad606 = ad609 := (by injection e609); have HR609_0 := Aside0.mk hi609_0; have HC609_0 := Aside0.mk hl609_0; clear hi609_0 hl609_0; replace p609 := eq_true p609; replace q609 := eq_true q609; have ea_ := Option.some.inj (hx606_0.symm.trans hx609_0); injection ea_ with ea_ en_ ec_; subst ea_; subst ec_; clear en_; have p610 : 0 ≤ (x5_1 : Int) := dA; have q610 : x5_1 < (l0.length : Int) := dA; obtain ⟨ad610, A610_0, c610_0, e610, hx610_0, hx610_1, hx610_2, hx610_3, hx610_4, hx610_5, hl610_0, hi610_0⟩ := at_T49 HR0.out x5_1 p610 q610; obtain rfl : ad606 = ad610 := (by injection e610); have HR610_0 := Aside0.mk hi610_0; have HC610_0 := Aside0.mk hl610_0; clear hi610_0 hl610_0; replace p610 := eq_true p610; replace q610 := eq_true q610; have ea_ := Option.some.inj (hx606_0.symm.trans hx610_0); injection ea_ with ea_ en_ ec_; subst ea_; subst ec_; clear en_; have p611 : 0 ≤ (x5_1 : Int) := dA; have q611 : x5_1 < (l0.length : Int) := dA; obtain ⟨ad611, A611_0, c611_0, e611, hx611_0, hx611_1, hx611_2, hx611_3, hx611_4, hx611_5, hl611_0, hi611_0⟩ := at_T49 HR0.out x5_1 p611 q611; obtain rfl : ad606 = ad611 := (by injection e611); have HR611_0 := Aside0.mk hi611_0; have HC611_0 := Aside0.mk hl611_0; clear hi611_0 hl611_0; replace p611 := eq_true p611; replace q611 := eq_true q611; have ea_ := Option.some.inj (hx606_0.symm.trans hx611_0); injection ea_ with ea_ en_ ec_; subst ea_; subst ec_; clear en_; have p612 : 0 ≤ (x5_1 : Int) := dA; have q612 : x5_1 < (l0.length : Int) := dA; obtain ⟨ad612, A612_0, c612_0, e612, hx612_0, hx612_1, hx612_2, hx612_3, hx612_4, hx612_5, hl612_0, hi612_0⟩ := at_T49 HR0.out x5_1 p612 q612; obtain rfl : ad606 = ad612 := (by injection e612); have HR612_0 := Aside0.mk hi612_0; have HC612_0 := Aside0.mk hl612_0; clear hi612_0 hl612_0; replace p612 := eq_true p612; replace q612 := eq_true q612; have ea_ := Option.some.inj (hx606_0.symm.trans hx612_0); injection ea_ with ea_ en_ ec_; subst ea_; subst ec_; clear en_))
          go_ret
          exact ⟨fS, dS⟩
        ·rw [if_neg c10] at H
         have c10b0 : (((rd_T49 l0 x5_1).f2.f2) == (wrap64 ((wrap64 ((wrap64 (t607 + 1)) + 1)) + 1))) = false := beq_eq_false_iff_ne.mpr c10
         have c10b1 : (((rd_T49 l0 x5_1).f2.f2) != (wrap64 ((wrap64 ((wrap64 (t607 + 1)) + 1)) + 1))) = true := bne_iff_ne.mpr c10
         obtain rfl := Option.some.inj H
         have p606 : 0 ≤ (x5_1 : Int) := dA
         have q606 : x5_1 < (l0.length : Int) := dA
         obtain ⟨ad606, A606_0, c606_0, e606, hx606_0, hx606_1, hx606_2, hx606_3, hx606_4, hx606_5, hl606_0, hi606_0⟩ := at_T49 HR0.out x5_1 p606 q606
         cases e606
         have HR606_0 := Aside0.mk hi606_0
         have HC606_0 := Aside0.mk hl606_0
         clear hi606_0 hl606_0
         replace p606 := eq_true p606
         replace q606 := eq_true q606
         go_wp2_with (first | ((with_reducible refine gC 119 ?_); refine cL (some 18) Tryz.func119 #[.slice A606_0 ((rd_T49 l0 x5_1).f0).length c606_0, .int .i64 x1_1] ?_; (with_reducible refine (laws_heldPointS.calls k1 _ _ ((rd_T49 l0 x5_1).f0) x1_1 t607 _ ?side1 ?side2 A5.out).mono ?_); (case side1 => repeat (first | exact HR606_0.out | (with_reducible refine Kd.C_alloc ?_ _) | (with_reducible refine Kd.C_drewN ?_ _) | (with_reducible refine Kd.C_drew ?_))); (case side2 => exact HC606_0.out); rintro e w' ⟨rfl, ⟨nd, rfl⟩⟩; refine ⟨_, rfl, ?_⟩; have p608 : 0 ≤ (x5_1 : Int) := dA; have q608 : x5_1 < (l0.length : Int) := dA; obtain ⟨ad608, A608_0, c608_0, e608, hx608_0, hx608_1, hx608_2, hx608_3, hx608_4, hx608_5, hl608_0, hi608_0⟩ := at_T49 HR0.out x5_1 p608 q608; obtain rfl : ad606 = ad608 := (by injection e608); have HR608_0 := Aside0.mk hi608_0; have HC608_0 := Aside0.mk hl608_0; clear hi608_0 hl608_0; replace p608 := eq_true p608; replace q608 := eq_true q608; have ea_ := Option.some.inj (hx606_0.symm.trans hx608_0); injection ea_ with ea_ en_ ec_; subst ea_; subst ec_; clear en_; have p609 : 0 ≤ (x5_1 : Int) := dA; have q609 : x5_1 < (l0.length : Int) := dA; obtain ⟨ad609, A609_0, c609_0, e609, hx609_0, hx609_1, hx609_2, hx609_3, hx609_4, hx609_5, hl609_0, hi609_0⟩ := at_T49 HR0.out x5_1 p609 q609; obtain rfl : ad606 = ad609 := (by injection e609); have HR609_0 := Aside0.mk hi609_0; have HC609_0 := Aside0.mk hl609_0; clear hi609_0 hl609_0; replace p609 := eq_true p609; replace q609 := eq_true q609; have ea_ := Option.some.inj (hx606_0.symm.trans hx609_0); injection ea_ with ea_ en_ ec_; subst ea_; subst ec_; clear en_; have p610 : 0 ≤ (x5_1 : Int) := dA; have q610 : x5_1 < (l0.length : Int) := dA; obtain ⟨ad610, A610_0, c610_0, e610, hx610_0, hx610_1, hx610_2, hx610_3, hx610_4, hx610_5, hl610_0, hi610_0⟩ := at_T49 HR0.out x5_1 p610 q610; obtain rfl : ad606 = ad610 := (by injection e610); have HR610_0 := Aside0.mk hi610_0; have HC610_0 := Aside0.mk hl610_0; clear hi610_0 hl610_0; replace p610 := eq_true p610; replace q610 := eq_true q610; have ea_ := Option.some.inj (hx606_0.symm.trans hx610_0); injection ea_ with ea_ en_ ec_; subst ea_; subst ec_; clear en_; have p611 : 0 ≤ (x5_1 : Int) := dA; have q611 : x5_1 < (l0.length : Int) := dA; obtain ⟨ad611, A611_0, c611_0, e611, hx611_0, hx611_1, hx611_2, hx611_3, hx611_4, hx611_5, hl611_0, hi611_0⟩ := at_T49 HR0.out x5_1 p611 q611; obtain rfl : ad606 = ad611 := (by injection e611); have HR611_0 := Aside0.mk hi611_0; have HC611_0 := Aside0.mk hl611_0; clear hi611_0 hl611_0; replace p611 := eq_true p611; replace q611 := eq_true q611; have ea_ := Option.some.inj (hx606_0.symm.trans hx611_0); injection ea_ with ea_ en_ ec_; subst ea_; subst ec_; clear en_))
         go_ret
         exact ⟨fS, dS⟩
       ·rw [if_neg c9] at H
        have c9b0 : (((rd_T49 l0 x5_1).f2.f1) == (wrap64 ((wrap64 (t607 + 1)) + 1))) = false := beq_eq_false_iff_ne.mpr c9
        have c9b1 : (((rd_T49 l0 x5_1).f2.f1) != (wrap64 ((wrap64 (t607 + 1)) + 1))) = true := bne_iff_ne.mpr c9
        obtain rfl := Option.some.inj H
        have p606 : 0 ≤ (x5_1 : Int) := dA
        have q606 : x5_1 < (l0.length : Int) := dA
        obtain ⟨ad606, A606_0, c606_0, e606, hx606_0, hx606_1, hx606_2, hx606_3, hx606_4, hx606_5, hl606_0, hi606_0⟩ := at_T49 HR0.out x5_1 p606 q606
        cases e606
        have HR606_0 := Aside0.mk hi606_0
        have HC606_0 := Aside0.mk hl606_0
        clear hi606_0 hl606_0
        replace p606 := eq_true p606
        replace q606 := eq_true q606
        go_wp2_with (first | ((with_reducible refine gC 119 ?_); refine cL (some 18) Tryz.func119 #[.slice A606_0 ((rd_T49 l0 x5_1).f0).length c606_0, .int .i64 x1_1] ?_; (with_reducible refine (laws_heldPointS.calls k1 _ _ ((rd_T49 l0 x5_1).f0) x1_1 t607 _ ?side1 ?side2 A5.out).mono ?_); (case side1 => repeat (first | exact HR606_0.out | (with_reducible refine Kd.C_alloc ?_ _) | (with_reducible refine Kd.C_drewN ?_ _) | (with_reducible refine Kd.C_drew ?_))); (case side2 => exact HC606_0.out); rintro e w' ⟨rfl, ⟨nd, rfl⟩⟩; refine ⟨_, rfl, ?_⟩; have p608 : 0 ≤ (x5_1 : Int) := dA; have q608 : x5_1 < (l0.length : Int) := dA; obtain ⟨ad608, A608_0, c608_0, e608, hx608_0, hx608_1, hx608_2, hx608_3, hx608_4, hx608_5, hl608_0, hi608_0⟩ := at_T49 HR0.out x5_1 p608 q608; obtain rfl : ad606 = ad608 := (by injection e608); have HR608_0 := Aside0.mk hi608_0; have HC608_0 := Aside0.mk hl608_0; clear hi608_0 hl608_0; replace p608 := eq_true p608; replace q608 := eq_true q608; have ea_ := Option.some.inj (hx606_0.symm.trans hx608_0); injection ea_ with ea_ en_ ec_; subst ea_; subst ec_; clear en_; have p609 : 0 ≤ (x5_1 : Int) := dA; have q609 : x5_1 < (l0.length : Int) := dA; obtain ⟨ad609, A609_0, c609_0, e609, hx609_0, hx609_1, hx609_2, hx609_3, hx609_4, hx609_5, hl609_0, hi609_0⟩ := at_T49 HR0.out x5_1 p609 q609; obtain rfl : ad606 = ad609 := (by injection e609); have HR609_0 := Aside0.mk hi609_0; have HC609_0 := Aside0.mk hl609_0; clear hi609_0 hl609_0; replace p609 := eq_true p609; replace q609 := eq_true q609; have ea_ := Option.some.inj (hx606_0.symm.trans hx609_0); injection ea_ with ea_ en_ ec_; subst ea_; subst ec_; clear en_; have p610 : 0 ≤ (x5_1 : Int) := dA; have q610 : x5_1 < (l0.length : Int) := dA; obtain ⟨ad610, A610_0, c610_0, e610, hx610_0, hx610_1, hx610_2, hx610_3, hx610_4, hx610_5, hl610_0, hi610_0⟩ := at_T49 HR0.out x5_1 p610 q610; obtain rfl : ad606 = ad610 := (by injection e610); have HR610_0 := Aside0.mk hi610_0; have HC610_0 := Aside0.mk hl610_0; clear hi610_0 hl610_0; replace p610 := eq_true p610; replace q610 := eq_true q610; have ea_ := Option.some.inj (hx606_0.symm.trans hx610_0); injection ea_ with ea_ en_ ec_; subst ea_; subst ec_; clear en_))
        go_ret
        exact ⟨fS, dS⟩
      ·rw [if_neg c8] at H
       have c8b0 : (((rd_T49 l0 x5_1).f2.f0) == (wrap64 (t607 + 1))) = false := beq_eq_false_iff_ne.mpr c8
       have c8b1 : (((rd_T49 l0 x5_1).f2.f0) != (wrap64 (t607 + 1))) = true := bne_iff_ne.mpr c8
       obtain rfl := Option.some.inj H
       have p606 : 0 ≤ (x5_1 : Int) := dA
       have q606 : x5_1 < (l0.length : Int) := dA
       obtain ⟨ad606, A606_0, c606_0, e606, hx606_0, hx606_1, hx606_2, hx606_3, hx606_4, hx606_5, hl606_0, hi606_0⟩ := at_T49 HR0.out x5_1 p606 q606
       cases e606
       have HR606_0 := Aside0.mk hi606_0
       have HC606_0 := Aside0.mk hl606_0
       clear hi606_0 hl606_0
       replace p606 := eq_true p606
       replace q606 := eq_true q606
       go_wp2_with (first | ((with_reducible refine gC 119 ?_); refine cL (some 18) Tryz.func119 #[.slice A606_0 ((rd_T49 l0 x5_1).f0).length c606_0, .int .i64 x1_1] ?_; (with_reducible refine (laws_heldPointS.calls k1 _ _ ((rd_T49 l0 x5_1).f0) x1_1 t607 _ ?side1 ?side2 A5.out).mono ?_); (case side1 => repeat (first | exact HR606_0.out | (with_reducible refine Kd.C_alloc ?_ _) | (with_reducible refine Kd.C_drewN ?_ _) | (with_reducible refine Kd.C_drew ?_))); (case side2 => exact HC606_0.out); rintro e w' ⟨rfl, ⟨nd, rfl⟩⟩; refine ⟨_, rfl, ?_⟩; have p608 : 0 ≤ (x5_1 : Int) := dA; have q608 : x5_1 < (l0.length : Int) := dA; obtain ⟨ad608, A608_0, c608_0, e608, hx608_0, hx608_1, hx608_2, hx608_3, hx608_4, hx608_5, hl608_0, hi608_0⟩ := at_T49 HR0.out x5_1 p608 q608; obtain rfl : ad606 = ad608 := (by injection e608); have HR608_0 := Aside0.mk hi608_0; have HC608_0 := Aside0.mk hl608_0; clear hi608_0 hl608_0; replace p608 := eq_true p608; replace q608 := eq_true q608; have ea_ := Option.some.inj (hx606_0.symm.trans hx608_0); injection ea_ with ea_ en_ ec_; subst ea_; subst ec_; clear en_; have p609 : 0 ≤ (x5_1 : Int) := dA; have q609 : x5_1 < (l0.length : Int) := dA; obtain ⟨ad609, A609_0, c609_0, e609, hx609_0, hx609_1, hx609_2, hx609_3, hx609_4, hx609_5, hl609_0, hi609_0⟩ := at_T49 HR0.out x5_1 p609 q609; obtain rfl : ad606 = ad609 := (by injection e609); have HR609_0 := Aside0.mk hi609_0; have HC609_0 := Aside0.mk hl609_0; clear hi609_0 hl609_0; replace p609 := eq_true p609; replace q609 := eq_true q609; have ea_ := Option.some.inj (hx606_0.symm.trans hx609_0); injection ea_ with ea_ en_ ec_; subst ea_; subst ec_; clear en_))
       go_ret
       exact ⟨fS, dS⟩
     ·rw [if_neg c7] at H
      have c7b0 : (((rd_T49 l0 x5_1).f1) == t607) = false := beq_eq_false_iff_ne.mpr c7
      have c7b1 : (((rd_T49 l0 x5_1).f1) != t607) = true := bne_iff_ne.mpr c7
      obtain rfl := Option.some.inj H
      have p606 : 0 ≤ (x5_1 : Int) := dA
      have q606 : x5_1 < (l0.length : Int) := dA
      obtain ⟨ad606, A606_0, c606_0, e606, hx606_0, hx606_1, hx606_2, hx606_3, hx606_4, hx606_5, hl606_0, hi606_0⟩ := at_T49 HR0.out x5_1 p606 q606
      cases e606
      have HR606_0 := Aside0.mk hi606_0
      have HC606_0 := Aside0.mk hl606_0
      clear hi606_0 hl606_0
      replace p606 := eq_true p606
      replace q606 := eq_true q606
      go_wp2_with (first | ((with_reducible refine gC 119 ?_); refine cL (some 18) Tryz.func119 #[.slice A606_0 ((rd_T49 l0 x5_1).f0).length c606_0, .int .i64 x1_1] ?_; (with_reducible refine (laws_heldPointS.calls k1 _ _ ((rd_T49 l0 x5_1).f0) x1_1 t607 _ ?side1 ?side2 A5.out).mono ?_); (case side1 => repeat (first | exact HR606_0.out | (with_reducible refine Kd.C_alloc ?_ _) | (with_reducible refine Kd.C_drewN ?_ _) | (with_reducible refine Kd.C_drew ?_))); (case side2 => exact HC606_0.out); rintro e w' ⟨rfl, ⟨nd, rfl⟩⟩; refine ⟨_, rfl, ?_⟩; have p608 : 0 ≤ (x5_1 : Int) := dA; have q608 : x5_1 < (l0.length : Int) := dA; obtain ⟨ad608, A608_0, c608_0, e608, hx608_0, hx608_1, hx608_2, hx608_3, hx608_4, hx608_5, hl608_0, hi608_0⟩ := at_T49 HR0.out x5_1 p608 q608; obtain rfl : ad606 = ad608 := (by injection e608); have HR608_0 := Aside0.mk hi608_0; have HC608_0 := Aside0.mk hl608_0; clear hi608_0 hl608_0; replace p608 := eq_true p608; replace q608 := eq_true q608; have ea_ := Option.some.inj (hx606_0.symm.trans hx608_0); injection ea_ with ea_ en_ ec_; subst ea_; subst ec_; clear en_))
      go_ret
      exact ⟨fS, dS⟩
   ·obtain rfl := Option.some.inj H
    go_wp2
    go_ret
    exact ⟨fS, dS⟩

/-! ### laws_heldBand: function 19 -/
def laws_heldBand.f (k : Nat) (a0_0 : Int) (a0_1 : Int) (l0_2 : List (List Int)) (l0_3 : List (S49)) (a1 : Int) : Option (Int) := (laws_heldIntSS.f k l0_2 a1).bind fun t614 => (if t614 < 0 then (some (-1)) else ((laws_heldObjectS.f k l0_3 t614).bind fun t615 => (if t615 < 0 then (some (-1)) else (some t615))))
theorem laws_heldBand.lf0 {p : Prop} (h : p := by
 go_enter Tryz.func19, Tryz.ntmps19
 go_wp2_with (first | ((with_reducible refine gD 2 ?_); refine bxE #[.int .i64 a0_0, .int .i64 a0_1, .slice A0_2 l0_2.length c0_2, .slice A0_3 l0_3.length c0_3] 30 ?_; intro gb613 hg w11 BK613 hb; have GW613 := gE hg; have GE613 := gE hg; replace HB := hB hb; clear hb hg; have hz12 := cz4 BK613) | ((with_reducible refine gC 16 ?_); refine cL (some 8) Tryz.func16 #[.slice A0_2 l0_2.length c0_2, .int .i64 a1] ?_; (with_reducible refine (laws_heldIntSS.calls k _ _ l0_2 a1 t614 _ (cS (Kd.C_below HR0_2.out HB.out)) HC0_2.out A3.out).mono ?_); rintro e w' ⟨rfl, ⟨nd, rfl⟩⟩; refine ⟨_, rfl, ?_⟩) | ((with_reducible refine gC 56 ?_); refine cL (some 14) Tryz.func56 #[.slice A0_3 l0_3.length c0_3, .int .i64 t614] ?_; (with_reducible refine (laws_heldObjectS.calls k _ _ l0_3 t614 t615 _ (cS (Kd.C_below HR0_3.out bS)) HC0_3.out A7.out).mono ?_); rintro e w' ⟨rfl, ⟨nd, rfl⟩⟩; refine ⟨_, rfl, ?_⟩))
 go_ret
 exact ⟨eS, bS⟩) : p := h
theorem laws_heldBand.calls (k : Nat) (a0_0 : Int) (a0_1 : Int) (A0_2 : Option Addr) (c0_2 : Nat) (l0_2 : List (List Int)) (A0_3 : Option Addr) (c0_3 : Nat) (l0_3 : List (S49)) (a1 : Int) (r : Int) (w : World) (hr0_2 : Kd.C (Kd.slice 3 (Kd.int .i64)) w A0_2 l0_2.length l0_2) (hc0_2 : l0_2.length ≤ c0_2) (hr0_3 : Kd.C k49 w A0_3 l0_3.length l0_3) (hc0_3 : l0_3.length ≤ c0_3) (h : laws_heldBand.f k a0_0 a0_1 l0_2 l0_3 a1 = some r) :
  Calls Tryz.prog 19 #[.agg #[.int .i64 a0_0, .int .i64 a0_1, .slice A0_2 l0_2.length c0_2, .slice A0_3 l0_3.length c0_3], .int .i64 a1] w fun e w' => e = .returned (.int .i64 r) ∧ Below w.heap.size w w' := by
 have hu30 := Tryz.underlying30
 have HR0_2 := Aside0.mk hr0_2
 have HC0_2 := Aside0.mk hc0_2
 clear hr0_2 hc0_2
 have HR0_3 := Aside0.mk hr0_3
 have HC0_3 := Aside0.mk hc0_3
 clear hr0_3 hc0_3
 have HB := Aside0.mk (Below.refl w.heap.size w)
 have H : ((laws_heldIntSS.f k l0_2 a1).bind fun t614 => (if t614 < 0 then (some (-1)) else ((laws_heldObjectS.f k l0_3 t614).bind fun t615 => (if t615 < 0 then (some (-1)) else (some t615))))) = some r := h
 clear h
 replace H := bN H
 obtain ⟨t614, A3, H⟩ := H
 rcases iD H with ⟨c4b0, H⟩ | ⟨c4b0, H⟩
 ·obtain rfl := Option.some.inj H
  exact laws_heldBand.lf0
 ·replace H := bN H
  obtain ⟨t615, A7, H⟩ := H
  rcases iD H with ⟨c8b0, H⟩ | ⟨c8b0, H⟩
  ·obtain rfl := Option.some.inj H
   exact laws_heldBand.lf0
  ·obtain rfl := Option.some.inj H
   exact laws_heldBand.lf0

end Go.Proofs.YtncfipboidmfbaaGreat.QFnExactMergeBand
