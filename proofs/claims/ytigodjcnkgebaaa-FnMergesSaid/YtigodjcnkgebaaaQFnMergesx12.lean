-- Made out of the translation by a program of this session (a changed copy of the print). Not trusted: Lean checks it.
import Derived.Test.YtigodjcnkgebaaaQFnMergesx0
import Derived.Test.YtigodjcnkgebaaaQFnMergesx5
import Derived.Test.YtigodjcnkgebaaaQFnMergesx7
import Derived.Test.YtigodjcnkgebaaaQFnMergesx11
namespace Go.Proofs.Ytigodjcnkgebaaa.QFnMerges
open Go.RowKit Go.Proofs.YtigodjcnkgebaaaW.PrintWords Go.Proofs.YtigodjcnkgebaaaW.PrintLast Go.Proofs.YtigodjcnkgebaaaW.PrintMore
attribute [local go_sem] max2_int min2_int max_two min_two max_three min_three max_four min_four   -- for this text's walks alone
set_option linter.unusedVariables false
set_option linter.unusedSimpArgs false
set_option maxHeartbeats 8000000
set_option maxRecDepth 100000

/-! ### spec_MergeBand: function 194 -/
def spec_MergeBand.l0 : Nat → Int → Int → Int → List (List Int) → List (S45) → Int → Int → List (List Int) → List (S45) → Option (Int × Int × (List (List Int)) × (List (S45)))
 | 0, _, _, _, _, _, _, _, _, _ => none
 | k + 1, x4, x493000, x493001, x493002, x493003, x503000, x503001, x503002, x503003 => if x4 < (x493003.length : Int) then (if 0 ≤ x4 then ((spec_PaintObject.f k x503002 (wrap64 (x493000 * x493001)) ((rd_T45 x493003 x4).f0) ((rd_T45 x493003 x4).f1) ((rd_T45 x493003 x4).f2.f0) ((rd_T45 x493003 x4).f2.f1) ((rd_T45 x493003 x4).f2.f2) ((rd_T45 x493003 x4).f2.f3)).bind fun bt505 => (spec_MergeBand.l0 k (wrap64 (x4 + 1)) x493000 x493001 x493002 x493003 x503000 x503001 bt505.1 x503003)) else (none)) else (some (x503000, x503001, x503002, (([] : List (S45)))))
def spec_MergeBand.f (k : Nat) (a0_0 : Int) (a0_1 : Int) (l0_2 : List (List Int)) (l0_3 : List (S45)) : Option (Int × Int × (List (List Int)) × (List (S45))) := (spec_l13Copy.f k a0_0 a0_1 l0_2 l0_3).bind fun bt494 => ((spec_BandOk.f k a0_0 a0_1 l0_2 l0_3).bind fun t503 => (if t503 = true then (spec_MergeBand.l0 k 0 a0_0 a0_1 l0_2 l0_3 bt494.1 bt494.2.1 bt494.2.2.1 bt494.2.2.2) else (some (bt494.1, bt494.2.1, bt494.2.2.1, bt494.2.2.2))))
def spec_MergeBand.T7 : Bool × List (List Nat × List Nat) := (true, [([], []), ([0], [0]), ([], []), ([2], [2]), ([], []), ([4], [4]), ([3, 5], [3, 5]), ([], []), ([7], [7]), ([], []), ([8, 9], [8, 9]), ([10], [10]), ([1, 6, 11], [1, 6, 11]), ([12], [12]), ([13], [13]), ([13], [13]), ([0, 1, 2, 3, 4, 5, 6, 7, 8, 9, 10, 11, 12, 13, 14], []), ([16, 14, 12, 0, 1, 2, 3, 4, 5, 6, 7, 8, 9, 10, 11, 12, 13, 14], [14, 16])])
def spec_MergeBand.B7 : List Nat := [0, 1, 0, 4, 0, 16, 60, 0, 128, 0, 896, 1920, 4095, 8191, 16383, 16383, 32767, 98303]
theorem spec_MergeBand.tab7 : rtab .any (opsOf Try.f194 7) = spec_MergeBand.T7 := by kernel_rfl
theorem spec_MergeBand.bits7 : waitsOk spec_MergeBand.T7.2 spec_MergeBand.B7 = true := by kernel_rfl
theorem spec_MergeBand.calls (k : Nat) (a0_0 : Int) (a0_1 : Int) (A0_2 : Option Addr) (c0_2 : Nat) (l0_2 : List (List Int)) (A0_3 : Option Addr) (c0_3 : Nat) (l0_3 : List (S45)) (r1 : Int) (r2 : Int) (r3 : List (List Int)) (r4 : List (S45)) (w : World) (hr0_2 : Kd.C (Kd.slice 3 (Kd.int .i64)) w A0_2 l0_2.length l0_2) (hc0_2 : l0_2.length ≤ c0_2) (hr0_3 : Kd.C k45 w A0_3 l0_3.length l0_3) (hc0_3 : l0_3.length ≤ c0_3) (h : spec_MergeBand.f k a0_0 a0_1 l0_2 l0_3 = some (r1, r2, r3, r4)) :
  Calls Try.prog 194 #[.agg #[.int .i64 a0_0, .int .i64 a0_1, .slice A0_2 l0_2.length c0_2, .slice A0_3 l0_3.length c0_3]] w fun e w' => ∃ v2_ v3_ : Value, e = .returned (.agg #[.int .i64 r1, .int .i64 r2, v2_, v3_]) ∧ Kd.S (Kd.slice 3 (Kd.int .i64)) 71 w' w.heap.size (fun _ => True) v2_ r3 ∧ Kd.S k45 45 w' w.heap.size (fun _ => True) v3_ r4 ∧ Below w.heap.size w w' := by
 have hu58 := Try.underlying58
 have hu45 := Try.underlying45
 have HR0_2 := Aside0.mk hr0_2
 have HC0_2 := Aside0.mk hc0_2
 clear hr0_2 hc0_2
 have HR0_3 := Aside0.mk hr0_3
 have HC0_3 := Aside0.mk hc0_3
 clear hr0_3 hc0_3
 have HB := Aside0.mk (Below.refl w.heap.size w)
 have H : ((spec_l13Copy.f k a0_0 a0_1 l0_2 l0_3).bind fun bt494 => ((spec_BandOk.f k a0_0 a0_1 l0_2 l0_3).bind fun t503 => (if t503 = true then (spec_MergeBand.l0 k 0 a0_0 a0_1 l0_2 l0_3 bt494.1 bt494.2.1 bt494.2.2.1 bt494.2.2.2) else (some (bt494.1, bt494.2.1, bt494.2.2.1, bt494.2.2.2))))) = some (r1, r2, r3, r4) := h
 clear h
 replace H := bN H
 obtain ⟨⟨t494, t495, t496, t499⟩, A2, H⟩ := H
 replace H := bN H
 obtain ⟨t503, A3, H⟩ := H
 by_cases c4 : t503 = true
 ·subst c4
  rw [if_pos rfl] at H
  have H' := Aside0.mk H
  clear H
  go_enter Try.func194, Try.ntmps194
  go_wp2_with (first | ((with_reducible refine gD 1 ?_); refine bxE #[.int .i64 a0_0, .int .i64 a0_1, .slice A0_2 l0_2.length c0_2, .slice A0_3 l0_3.length c0_3] 58 ?_; intro gb492 hg w5 BK492 hb; have GW492 := gE hg; have GE492 := gE hg; replace HB := hB hb; clear hb hg) | ((with_reducible refine gD 2 ?_); refine bxE #[.int .i64 0, .int .i64 0, .slice none 0 0, .slice none 0 0] 58 ?_; intro gb493 hg w6 BK493 hb; have GW493 := gE hg; have GE493 := gE hg; have NB492_493 := nL (g := gb492) hg; have NB493_492 := nG (g := gb492) hg; replace BK492 := kB (g := gb492) hb; replace HB := hB hb; clear hb hg; have hnb7 := NB492_493.out; have hnc7 := NB493_492.out; have hcz8_0 : w6.cell? ⟨gb492, 0, none⟩ = some (.int .i64 a0_0) := (blk_cell BK492.out 0).trans rfl; have hcz8_1 : w6.cell? ⟨gb492, 1, none⟩ = some (.int .i64 a0_1) := (blk_cell BK492.out 1).trans rfl; have hcz8_2 : w6.cell? ⟨gb492, 2, none⟩ = some (.slice A0_2 l0_2.length c0_2) := (blk_cell BK492.out 2).trans rfl; have hcz8_3 : w6.cell? ⟨gb492, 3, none⟩ = some (.slice A0_3 l0_3.length c0_3) := (blk_cell BK492.out 3).trans rfl; have hfz8_0 := blk_frozen BK492.out 0; have hfz8_1 := blk_frozen BK492.out 1; have hfz8_2 := blk_frozen BK492.out 2; have hfz8_3 := blk_frozen BK492.out 3) | ((with_reducible refine gC 193 ?_); refine cL (some 6) Try.func193 #[.agg #[.int .i64 a0_0, .int .i64 a0_1, .slice A0_2 l0_2.length c0_2, .slice A0_3 l0_3.length c0_3]] ?_; (with_reducible refine (spec_l13Copy.calls k a0_0 a0_1 _ _ l0_2 _ _ l0_3 t494 t495 t496 t499 _ (cS (Kd.C_below HR0_2.out HB.out)) HC0_2.out (cS (Kd.C_below HR0_3.out HB.out)) HC0_3.out A2.out).mono ?_); rintro e w9 ⟨v497, v500, rfl, ho0, ho1, hb⟩; refine ⟨_, rfl, ?_⟩; have HO498 := Aside0.mk (Kd.S_lower ho0 (below_size bS)); have HO501 := Aside0.mk (Kd.S_lower ho1 (below_size bS)); replace BK492 := kB (g := gb492) hb; replace BK493 := kB (g := gb493) hb; replace HB := hB hb; (try clear hb); (try clear hb2); (try clear hk); (try clear hi); (try clear ho0); (try clear ho1)) | ((with_reducible refine gD 3 ?_); refine bxE #[.int .i64 0, .int .i64 0, .slice none 0 0, .slice none 0 0] 58 ?_; intro gb502 hg w10 BK502 hb; have GW502 := gE hg; have GE502 := gE hg; have NB492_502 := nL (g := gb492) hg; have NB502_492 := nG (g := gb492) hg; have NB493_502 := nL (g := gb493) hg; have NB502_493 := nG (g := gb493) hg; replace HO498 := sB HO498 hb; replace HO501 := sB HO501 hb; replace BK492 := kB (g := gb492) hb; replace BK493 := kB (g := gb493) hb; replace HB := hB hb; clear hb hg; have hnb11 := NB502_492.out; have hnc11 := NB492_502.out; have hnb12 := NB502_493.out; have hnc12 := NB493_502.out; have hcz13_0 : w10.cell? ⟨gb502, 0, none⟩ = some (.int .i64 0) := (blk_cell BK502.out 0).trans rfl; have hcz13_1 : w10.cell? ⟨gb502, 1, none⟩ = some (.int .i64 0) := (blk_cell BK502.out 1).trans rfl; have hcz13_2 : w10.cell? ⟨gb502, 2, none⟩ = some (.slice none 0 0) := (blk_cell BK502.out 2).trans rfl; have hcz13_3 : w10.cell? ⟨gb502, 3, none⟩ = some (.slice none 0 0) := (blk_cell BK502.out 3).trans rfl; have hfz13_0 := blk_frozen BK502.out 0; have hfz13_1 := blk_frozen BK502.out 1; have hfz13_2 := blk_frozen BK502.out 2; have hfz13_3 := blk_frozen BK502.out 3; obtain ⟨Ao14, co14, eo14⟩ := Kd.S_slice HO498.out; subst eo14; obtain ⟨Ao15, co15, eo15⟩ := Kd.S_slice HO501.out; subst eo15; have hcz16_0 : w10.cell? ⟨gb492, 0, none⟩ = some (.int .i64 a0_0) := (blk_cell BK492.out 0).trans rfl; have hcz16_1 : w10.cell? ⟨gb492, 1, none⟩ = some (.int .i64 a0_1) := (blk_cell BK492.out 1).trans rfl; have hcz16_2 : w10.cell? ⟨gb492, 2, none⟩ = some (.slice A0_2 l0_2.length c0_2) := (blk_cell BK492.out 2).trans rfl; have hcz16_3 : w10.cell? ⟨gb492, 3, none⟩ = some (.slice A0_3 l0_3.length c0_3) := (blk_cell BK492.out 3).trans rfl; have hfz16_0 := blk_frozen BK492.out 0; have hfz16_1 := blk_frozen BK492.out 1; have hfz16_2 := blk_frozen BK492.out 2; have hfz16_3 := blk_frozen BK492.out 3) | ((with_reducible refine gC 33 ?_); refine cL (some 8) Try.func33 #[.agg #[.int .i64 a0_0, .int .i64 a0_1, .slice A0_2 l0_2.length c0_2, .slice A0_3 l0_3.length c0_3]] ?_; (with_reducible refine (spec_BandOk.calls k a0_0 a0_1 _ _ l0_2 _ _ l0_3 _ _ (Kd.C_below HR0_2.out bS) HC0_2.out (Kd.C_below HR0_3.out bS) HC0_3.out A3.out).mono ?_); rintro e w17 ⟨rfl, hb⟩; refine ⟨_, rfl, ?_⟩; replace HO498 := Aside0.mk (Kd.S_below (by exact sT (Kd.S_mono (Kd.S_far (p := ⟨gb502, 3, none⟩) (Kd.S_far (p := ⟨gb502, 2, none⟩) (Kd.S_far (p := ⟨gb502, 1, none⟩) (Kd.S_far (p := ⟨gb502, 0, none⟩) (Kd.S_types HO498.out BK502.out (by decide)) (fun _ hk => hk.2) (.int .i64 t494)) (fun _ hk => hk.2) (.int .i64 t495)) (fun _ hk => hk.2) (.slice Ao14 t496.length co14)) (fun _ hk => hk.2) (.slice Ao15 t499.length co15)) (fun _ h_ => h_.1))) hb); replace HO501 := Aside0.mk (Kd.S_below (by exact sT (Kd.S_mono (Kd.S_far (p := ⟨gb502, 3, none⟩) (Kd.S_far (p := ⟨gb502, 2, none⟩) (Kd.S_far (p := ⟨gb502, 1, none⟩) (Kd.S_far (p := ⟨gb502, 0, none⟩) (Kd.S_types HO501.out BK502.out (by decide)) (fun _ hk => hk.2) (.int .i64 t494)) (fun _ hk => hk.2) (.int .i64 t495)) (fun _ hk => hk.2) (.slice Ao14 t496.length co14)) (fun _ hk => hk.2) (.slice Ao15 t499.length co15)) (fun _ h_ => h_.1))) hb); replace BK492 := kB (g := gb492) hb; replace BK493 := kB (g := gb493) hb; replace BK502 := Aside0.mk (blk_below (g := gb502) (o := .cells #[.int .i64 t494, .int .i64 t495, .slice Ao14 t496.length co14, .slice Ao15 t499.length co15] 58 (0, 0)) kS hb); replace HB := hB hb; (try clear hb); (try clear hb2); (try clear hk); (try clear hi)))
  go_loopg [4] k (fun kq v4 w' => ∃ (x4_1 : Int) (x503002_1 : List (List Int)) (u503002 : Value), v4 = .int .i64 x4_1 ∧ Aside0 (spec_MergeBand.l0 kq x4_1 a0_0 a0_1 l0_2 l0_3 t494 t495 x503002_1 t499 = some (r1, r2, r3, r4)) ∧ Aside0 (kq ≤ k) ∧ Aside0 (Kd.S (Kd.slice 3 (Kd.int .i64)) 71 w' w.heap.size (fun _ => True) u503002 x503002_1) ∧ Aside0 (Kd.S k45 45 w' w.heap.size (fun _ => True) (.slice Ao15 t499.length co15) t499) ∧ Aside0 (w'.heap[gb492]? = some (.cells #[.int .i64 a0_0, .int .i64 a0_1, (.slice A0_2 l0_2.length c0_2), (.slice A0_3 l0_3.length c0_3)] 58 (0, 0))) ∧ Aside0 (w'.heap[gb493]? = some (.cells #[.int .i64 0, .int .i64 0, (.slice none 0 0), (.slice none 0 0)] 58 (0, 0))) ∧ Aside0 (w'.heap[gb502]? = some (.cells #[.int .i64 t494, .int .i64 t495, u503002, (.slice Ao15 t499.length co15)] 58 (0, 0))) ∧ Aside0 (Below w.heap.size w w'))
  case atStart => exact ⟨(0), (t496), (.slice Ao14 t496.length co14), fS, H', ⟨Nat.le_refl _⟩, ⟨sS HO498⟩, ⟨sS HO501⟩, ⟨kS⟩, ⟨kS⟩, ⟨kS⟩, ⟨bS⟩⟩
  case round =>
   clear H'
   try clear c1
   try clear p2
   try clear c3
   try clear c4
   try clear c7
   try clear c11
   try clear c12
   try clear hcz13_0
   try clear hcz13_1
   try clear hcz13_2
   try clear hcz13_3
   try clear hcz16_0
   try clear hcz16_1
   try clear hcz16_2
   try clear hcz16_3
   try clear hcz8_0
   try clear hcz8_1
   try clear hcz8_2
   try clear hcz8_3
   try clear hfz13_0
   try clear hfz13_1
   try clear hfz13_2
   try clear hfz13_3
   try clear hfz16_0
   try clear hfz16_1
   try clear hfz16_2
   try clear hfz16_3
   try clear hfz8_0
   try clear hfz8_1
   try clear hfz8_2
   try clear hfz8_3
   obtain ⟨x4_1, x503002_1, u503002, rfl, HA, HK1, HO_503002, HO_503003, BK492, BK493, BK502, HB⟩ := hrel
   cases gk with
   | zero => exact absurd HA.out (by simp [spec_MergeBand.l0])
   | succ k1 =>
    have H := HA.out
    clear HA
    simp only [spec_MergeBand.l0] at H
    rcases iD H with ⟨c18b0, H⟩ | ⟨c18b0, H⟩
    ·obtain ⟨c19b0, H⟩ := iT H
     replace H := bN H
     obtain ⟨⟨t505, t508⟩, A20, H⟩ := H
     have H' := Aside0.mk H
     clear H
     have hnb21 := NB492_493.out
     have hnc21 := NB493_492.out
     have hnb22 := NB492_502.out
     have hnc22 := NB502_492.out
     have hz23 := cz4 BK492
     try go_wp2
     replace HO_503002 := Aside0.mk (Kd.S_drew HO_503002.out)
     replace HO_503003 := Aside0.mk (Kd.S_drew HO_503003.out)
     replace BK492 := Aside0.mk (blk_drew BK492.out)
     replace BK493 := Aside0.mk (blk_drew BK493.out)
     replace BK502 := Aside0.mk (blk_drew BK502.out)
     replace HB := Aside0.mk (below_drew1 HB.out)
     have p504 : 0 ≤ (x4_1 : Int) := dA
     have q504 : x4_1 < (l0_3.length : Int) := dA
     obtain ⟨ad504, A504_0, c504_0, e504, hx504_0, hx504_1, hx504_2, hx504_3, hx504_4, hx504_5, hl504_0, hi504_0⟩ := at_T45 HR0_3.out x4_1 p504 q504
     have hw504_5 := hx504_5
     have hw504_4 := hx504_4
     have hw504_3 := hx504_3
     have hw504_2 := hx504_2
     have hw504_1 := hx504_1
     have hw504_0 := hx504_0
     cases e504
     replace hx504_0 := cB HB hx504_0
     replace hx504_1 := cB HB hx504_1
     replace hx504_2 := cB HB hx504_2
     replace hx504_3 := cB HB hx504_3
     replace hx504_4 := cB HB hx504_4
     replace hx504_5 := cB HB hx504_5
     have HR504_0 := Aside0.mk hi504_0
     have HC504_0 := Aside0.mk hl504_0
     clear hi504_0 hl504_0
     replace p504 := eq_true p504
     replace q504 := eq_true q504
     obtain ⟨Ao25, co25, eo25⟩ := Kd.S_slice HO_503002.out
     (first | subst eo25 | (injection eo25 with f1_ f2_ f3_; have f4_ := f1_.symm; have f5_ := f3_.symm; clear f1_ f2_ f3_; subst f4_; subst f5_))
     refine start_ (n := 18) (S := fun w' => w'.cell? ⟨gb502, 0, none⟩ = some (.int .i64 t494) ∧ w'.cell? ⟨gb502, 1, none⟩ = some (.int .i64 t495) ∧ w'.cell? ⟨gb502, 2, none⟩ = some (.slice Ao25 x503002_1.length co25) ∧ w'.cell? ⟨gb502, 3, none⟩ = some (.slice Ao15 t499.length co15) ∧ w'.cell? ⟨gb492, 0, none⟩ = some (.int .i64 a0_0) ∧ w'.cell? ⟨gb492, 1, none⟩ = some (.int .i64 a0_1) ∧ w'.cell? ⟨gb492, 2, none⟩ = some (.slice A0_2 l0_2.length c0_2) ∧ w'.cell? ⟨gb492, 3, none⟩ = some (.slice (some ad504) l0_3.length c0_3) ∧ w'.cell? (ad504.add ((x4_1).toNat * 6)) = some (.slice A504_0 ((rd_T45 l0_3 x4_1).f0).length c504_0) ∧ w'.cell? ⟨(ad504.add ((x4_1).toNat * 6)).block, (ad504.add ((x4_1).toNat * 6)).off + 1, none⟩ = some (.int .i64 ((rd_T45 l0_3 x4_1).f1)) ∧ w'.cell? ⟨(ad504.add ((x4_1).toNat * 6)).block, (ad504.add ((x4_1).toNat * 6)).off + 2, none⟩ = some (.int .i64 ((rd_T45 l0_3 x4_1).f2.f0)) ∧ w'.cell? ⟨(ad504.add ((x4_1).toNat * 6)).block, (ad504.add ((x4_1).toNat * 6)).off + 3, none⟩ = some (.int .i64 ((rd_T45 l0_3 x4_1).f2.f1)) ∧ w'.cell? ⟨(ad504.add ((x4_1).toNat * 6)).block, (ad504.add ((x4_1).toNat * 6)).off + 4, none⟩ = some (.int .i64 ((rd_T45 l0_3 x4_1).f2.f2)) ∧ w'.cell? ⟨(ad504.add ((x4_1).toNat * 6)).block, (ad504.add ((x4_1).toNat * 6)).off + 5, none⟩ = some (.int .i64 ((rd_T45 l0_3 x4_1).f2.f3))) (ds := [17]) #[false, false, false, false, false, false, false, false, false, false, false, false, false, false, false, false, false, false] (by kernel_rfl) rfl rfl ⟨(blk_cell BK502.out 0).trans rfl, (blk_cell BK502.out 1).trans rfl, (blk_cell BK502.out 2).trans rfl, (blk_cell BK502.out 3).trans rfl, (blk_cell BK492.out 0).trans rfl, (blk_cell BK492.out 1).trans rfl, (blk_cell BK492.out 2).trans rfl, (blk_cell BK492.out 3).trans rfl, (cB HB hw504_0), (cB HB hw504_1), (cB HB hw504_2), (cB HB hw504_3), (cB HB hw504_4), (cB HB hw504_5)⟩ (fun hHeld => ?_); refine with_tabW spec_MergeBand.tab7 spec_MergeBand.bits7 (fun HT_ HW_ => ?_)
     generalize wr.drew = w24 at HO_503002 HO_503003 BK492 BK493 BK502 HB HR504_0 hx504_0 hx504_1 hx504_2 hx504_3 hx504_4 hx504_5 hHeld ⊢
     refine pU 0 (some 19) #[true, false, false, false, false, false, false, false, false, false, false, false, false, false, false, false, false, false] ?_
     refine pU 2 (some 21) #[true, false, true, false, false, false, false, false, false, false, false, false, false, false, false, false, false, false] ?_
     refine pU 4 (some 23) #[true, false, true, false, true, false, false, false, false, false, false, false, false, false, false, false, false, false] ?_
     refine pU 7 (some 26) #[true, false, true, false, true, false, false, true, false, false, false, false, false, false, false, false, false, false] ?_
     refine pU 9 (some 28) #[true, false, true, false, true, false, false, true, false, true, false, false, false, false, false, false, false, false] ?_
     refine tK 1 (some 20) #[true, true, true, false, true, false, false, true, false, true, false, false, false, false, false, false, false, false] ?_
     refine tK 3 (some 22) #[true, true, true, true, true, false, false, true, false, true, false, false, false, false, false, false, false, false] ?_
     refine tK 5 (some 24) #[true, true, true, true, true, true, false, true, false, true, false, false, false, false, false, false, false, false] ?_
     refine pU 6 (some 25) #[true, true, true, true, true, true, true, true, false, true, false, false, false, false, false, false, false, false] ?_
     refine tK 8 (some 27) #[true, true, true, true, true, true, true, true, true, true, false, false, false, false, false, false, false, false] ?_
     refine pU 10 (some 29) #[true, true, true, true, true, true, true, true, true, true, true, false, false, false, false, false, false, false] ?_
     refine tK 11 (some 30) #[true, true, true, true, true, true, true, true, true, true, true, true, false, false, false, false, false, false] ?_
     refine one_ (i := 12) (N := some 31) #[true, true, true, true, true, true, true, true, true, true, true, true, true, false, false, false, false, false] rfl rfl (one_of HT_.out (by kernel_rfl)) (by decide) (fun K hK => ?_)
     refine goes_ Try.func51 (by kernel_rfl) rfl #[.slice Ao25 x503002_1.length co25, .int .i64 (wrap64 (a0_0 * a0_1)), .agg #[.slice A504_0 ((rd_T45 l0_3 x4_1).f0).length c504_0, .int .i64 ((rd_T45 l0_3 x4_1).f1), .int .i64 ((rd_T45 l0_3 x4_1).f2.f0), .int .i64 ((rd_T45 l0_3 x4_1).f2.f1), .int .i64 ((rd_T45 l0_3 x4_1).f2.f2), .int .i64 ((rd_T45 l0_3 x4_1).f2.f3)]] (by rfl) rfl rfl (by (try simp only [List.map_toArray, List.map_cons, List.map_nil]); first | done | rfl | (simp only [List.length_drop, List.length_take]; rfl)) ?_
     with_reducible refine (spec_PaintObject.calls k1 _ _ x503002_1 (wrap64 (a0_0 * a0_1)) _ _ ((rd_T45 l0_3 x4_1).f0) ((rd_T45 l0_3 x4_1).f1) ((rd_T45 l0_3 x4_1).f2.f0) ((rd_T45 l0_3 x4_1).f2.f1) ((rd_T45 l0_3 x4_1).f2.f2) ((rd_T45 l0_3 x4_1).f2.f3) t505 t508 _ ?side1 ?side2 ?side3 ?side4 A20.out).mono ?_
     (case side1 => exact cS (Kd.S_reads' HO_503002.out).2.2)
     (case side2 => exact (Kd.S_reads' HO_503002.out).2.1)
     (case side3 => exact cS (Kd.C_below HR504_0.out HB.out))
     (case side4 => exact HC504_0.out)
     rintro e w26 ⟨v506, rfl, ho0, hb⟩
     refine ⟨_, rfl, ?_⟩
     have HO507 := Aside0.mk (Kd.S_lower (Kd.S_new' ho0 (Kd.S_lt (sS HO_503002))) (below_size bS))
     replace HO_503002 := Aside0.mk (Kd.S_elder' (sS HO_503002) (Kd.S_base ho0) hb)
     replace HO_503003 := sB HO_503003 hb
     replace BK492 := kB (g := gb492) hb
     replace BK493 := kB (g := gb493) hb
     replace BK502 := kB (g := gb502) hb
     replace HB := hB hb
     (try clear hb)
     (try clear hb2)
     (try clear hk)
     (try clear hi)
     (try clear ho0)
     obtain ⟨Ao27, co27, eo27⟩ := Kd.S_slice HO507.out
     (first | subst eo27 | (injection eo27 with f1_ f2_ f3_; have f4_ := f1_.symm; have f5_ := f3_.symm; clear f1_ f2_ f3_; subst f4_; subst f5_))
     refine hK.out _ _ ⟨(blk_cell BK502.out 0).trans rfl, (blk_cell BK502.out 1).trans rfl, (blk_cell BK502.out 2).trans rfl, (blk_cell BK502.out 3).trans rfl, (blk_cell BK492.out 0).trans rfl, (blk_cell BK492.out 1).trans rfl, (blk_cell BK492.out 2).trans rfl, (blk_cell BK492.out 3).trans rfl, (cB HB hw504_0), (cB HB hw504_1), (cB HB hw504_2), (cB HB hw504_3), (cB HB hw504_4), (cB HB hw504_5)⟩ (fun hHeld => ?_)
     clear hK K
     refine norm_ (a' := ?_) ?_ ?_
     rotate_left
     ·show Act.put _ (some 31) _ = _
      simp only [Act.put, List.setIfInBounds_toArray, List.set_cons_zero, List.set_cons_succ, i64_w, i32_w]
      rfl
     refine pU 13 (some 18) #[true, true, true, true, true, true, true, true, true, true, true, true, true, true, false, false, false, false] ?_
     refine pU 14 (some 32) #[true, true, true, true, true, true, true, true, true, true, true, true, true, true, true, false, false, false] ?_
     refine pU 15 (some 33) #[true, true, true, true, true, true, true, true, true, true, true, true, true, true, true, true, false, false] ?_
     refine pU 16 (some 34) #[true, true, true, true, true, true, true, true, true, true, true, true, true, true, true, true, true, false] ?_
     refine last_ (i := 17) (N := none) #[true, true, true, true, true, true, true, true, true, true, true, true, true, true, true, true, true, true] rfl rfl (one_of HT_.out (by kernel_rfl)) (by decide) (fun K hK => ?_)
     have hs28 : w26.cell? ⟨gb502, 2, none⟩ = some (.slice Ao25 x503002_1.length co25) := (blk_cell BK502.out 2).trans rfl
     have hfs28 := blk_frozen BK502.out 2
     have hns28_0 := NB492_502.out
     have hns28_1 := NB493_502.out
     have hms28_0 := NB502_492.out
     have hms28_1 := NB502_493.out
     refine skip_ (w1 := ?_) (by rfl) rfl ?_ ?_
     rotate_left
     ·go_simp
      rfl
     refine hK.out _ _ ?_
     clear hK K
     refine done_ (done_of HT_.out (by kernel_rfl)) ?_
     try go_wp2
     go_roundg k1
     case measure => have := HK1.out; omega
     case rel => exact ⟨(wrap64 (x4_1 + 1)), (t505), (.slice Ao27 t505.length co27), fS, H', ⟨by have := HK1.out; omega⟩, ⟨by exact sT (Kd.S_mono (Kd.S_far (p := ⟨gb502, 2, none⟩) (Kd.S_types HO507.out BK502.out (by decide)) (fun _ hk => hk.2) (.slice Ao27 t505.length co27)) (fun _ hk => trivial))⟩, ⟨by exact sT (Kd.S_mono (Kd.S_far (p := ⟨gb502, 2, none⟩) (Kd.S_types HO_503003.out BK502.out (by decide)) (fun _ hk => hk.2) (.slice Ao27 t505.length co27)) (fun _ hk => trivial))⟩, ⟨kS⟩, ⟨kS⟩, ⟨kS⟩, ⟨bS⟩⟩
    ·obtain ⟨y509, hy509⟩ : ∃ y_ : List (S45), y_ = (([] : List (S45))) := ⟨_, rfl⟩
     replace H : (some (t494, t495, x503002_1, y509)) = some (r1, r2, r3, r4) := by first | (rw [hy509]; with_reducible exact H) | (have H2_ := (Option.bind_some _ _).symm.trans H; rw [hy509]; with_reducible exact H2_) | (have H2_ := (Option.bind_some _ _).symm.trans H; with_reducible exact H2_) | with_reducible exact H | (rw [hy509]; exact H) | exact H
     have Ny509 := Aside0.mk hy509
     clear hy509
     obtain ⟨rfl, rfl, rfl, rfl⟩ := sI4 H
     have hnb29 := NB492_493.out
     have hnc29 := NB493_492.out
     have hnb30 := NB492_502.out
     have hnc30 := NB502_492.out
     have hz31 := cz4 BK492
     go_wp2_with (first | ((with_reducible refine gate_dst (N := 35) rfl ?_); refine Kd.S_lit k45 _ 45 ?hg (N := 35) ?hd (xs := ([] : List (S45))) (inner := []) (ok := fun _ => True) (okp := fun _ => True) ?hr ?hp (fun _ hk => hk) trivial (Below.refl _ _) (Nat.le_refl _) (by simp) ?_; (case hd => rfl); (case hg => rfl); (case hr => first | (go_simp; done) | (go_simp; rfl)); (case hp => exact (Reps.none _ _)); intro v510 w32 ho33 hb hg_ hnew_; clear hg_ hnew_; (first | rw [← Ny509.out] at ho33 | (simp only [Int.reduceToNat] at ho33; rw [← Ny509.out] at ho33)); have HO511 := Aside0.mk (Kd.S_lower (Kd.S_new' ho33 (Kd.S_lt (sS HO_503003))) (below_size bS)); replace HO_503002 := sB HO_503002 hb; replace HO_503003 := Aside0.mk (Kd.S_elder' (sS HO_503003) (Kd.S_base ho33) hb); replace BK492 := kB (g := gb492) hb; replace BK493 := kB (g := gb493) hb; replace BK502 := kB (g := gb502) hb; replace HB := hB hb; clear hb ho33; obtain ⟨Ao34, co34, eo34⟩ := Kd.S_slice HO511.out; subst eo34; have hnb35 := NB502_493.out; have hnc35 := NB493_502.out; have hz36 := cz4 BK502; have hz37 := cz4 BK493; obtain ⟨Ao38, co38, eo38⟩ := Kd.S_slice HO_503002.out; subst eo38))
     refine bodyPost_ret (results_cell_row rfl _ _ gb493 58 #[.int .i64 t494, .int .i64 t495, .slice Ao38 x503002_1.length co38, .slice Ao34 y509.length co34] (0, 0) _ rfl kS Try.underlying58 rfl (by kernel_rfl)) rfl ?_
     exact ⟨_, _, eS, by exact sT (Kd.S_mono (Kd.S_far (p := ⟨gb493, 3, none⟩) (Kd.S_far (p := ⟨gb493, 2, none⟩) (Kd.S_far (p := ⟨gb493, 1, none⟩) (Kd.S_far (p := ⟨gb493, 0, none⟩) (Kd.S_far (p := ⟨gb502, 3, none⟩) (Kd.S_types (Kd.S_types HO_503002.out BK502.out (by decide)) BK493.out (by decide)) (fun _ hk => hk.1.2) (.slice Ao34 y509.length co34)) (fun _ hk => hk.2) (.int .i64 t494)) (fun _ hk => hk.2) (.int .i64 t495)) (fun _ hk => hk.2) (.slice Ao38 x503002_1.length co38)) (fun _ hk => hk.2) (.slice Ao34 y509.length co34)) (fun _ hk => trivial)), by exact sT (Kd.S_mono (Kd.S_far (p := ⟨gb493, 3, none⟩) (Kd.S_far (p := ⟨gb493, 2, none⟩) (Kd.S_far (p := ⟨gb493, 1, none⟩) (Kd.S_far (p := ⟨gb493, 0, none⟩) (Kd.S_far (p := ⟨gb502, 3, none⟩) (Kd.S_types (Kd.S_types HO511.out BK502.out (by decide)) BK493.out (by decide)) (fun _ hk => hk.1.2) (.slice Ao34 y509.length co34)) (fun _ hk => hk.2) (.int .i64 t494)) (fun _ hk => hk.2) (.int .i64 t495)) (fun _ hk => hk.2) (.slice Ao38 x503002_1.length co38)) (fun _ hk => hk.2) (.slice Ao34 y509.length co34)) (fun _ hk => trivial)), bS⟩
 ·obtain rfl := Bool.eq_false_iff.mpr c4
  rw [if_neg nF] at H
  obtain ⟨rfl, rfl, rfl, rfl⟩ := sI4 H
  go_enter Try.func194, Try.ntmps194
  go_wp2_with (first | ((with_reducible refine gD 1 ?_); refine bxE #[.int .i64 a0_0, .int .i64 a0_1, .slice A0_2 l0_2.length c0_2, .slice A0_3 l0_3.length c0_3] 58 ?_; intro gb492 hg w39 BK492 hb; have GW492 := gE hg; have GE492 := gE hg; replace HB := hB hb; clear hb hg) | ((with_reducible refine gD 2 ?_); refine bxE #[.int .i64 0, .int .i64 0, .slice none 0 0, .slice none 0 0] 58 ?_; intro gb493 hg w40 BK493 hb; have GW493 := gE hg; have GE493 := gE hg; have NB492_493 := nL (g := gb492) hg; have NB493_492 := nG (g := gb492) hg; replace BK492 := kB (g := gb492) hb; replace HB := hB hb; clear hb hg; have hnb41 := NB492_493.out; have hnc41 := NB493_492.out; have hz42 := cz4 BK492) | ((with_reducible refine gC 193 ?_); refine cL (some 6) Try.func193 #[.agg #[.int .i64 a0_0, .int .i64 a0_1, .slice A0_2 l0_2.length c0_2, .slice A0_3 l0_3.length c0_3]] ?_; (with_reducible refine (spec_l13Copy.calls k a0_0 a0_1 _ _ l0_2 _ _ l0_3 t494 t495 t496 t499 _ (cS (Kd.C_below HR0_2.out HB.out)) HC0_2.out (cS (Kd.C_below HR0_3.out HB.out)) HC0_3.out A2.out).mono ?_); rintro e w43 ⟨v497, v500, rfl, ho0, ho1, hb⟩; refine ⟨_, rfl, ?_⟩; have HO498 := Aside0.mk (Kd.S_lower ho0 (below_size bS)); have HO501 := Aside0.mk (Kd.S_lower ho1 (below_size bS)); replace BK492 := kB (g := gb492) hb; replace BK493 := kB (g := gb493) hb; replace HB := hB hb; (try clear hb); (try clear hb2); (try clear hk); (try clear hi); (try clear ho0); (try clear ho1)) | ((with_reducible refine gD 3 ?_); refine bxE #[.int .i64 0, .int .i64 0, .slice none 0 0, .slice none 0 0] 58 ?_; intro gb502 hg w44 BK502 hb; have GW502 := gE hg; have GE502 := gE hg; have NB492_502 := nL (g := gb492) hg; have NB502_492 := nG (g := gb492) hg; have NB493_502 := nL (g := gb493) hg; have NB502_493 := nG (g := gb493) hg; replace HO498 := sB HO498 hb; replace HO501 := sB HO501 hb; replace BK492 := kB (g := gb492) hb; replace BK493 := kB (g := gb493) hb; replace HB := hB hb; clear hb hg; have hnb45 := NB502_492.out; have hnc45 := NB492_502.out; have hnb46 := NB502_493.out; have hnc46 := NB493_502.out; have hz47 := cz4 BK502; obtain ⟨Ao48, co48, eo48⟩ := Kd.S_slice HO498.out; subst eo48; obtain ⟨Ao49, co49, eo49⟩ := Kd.S_slice HO501.out; subst eo49; have hz50 := cz4 BK492) | ((with_reducible refine gC 33 ?_); refine cL (some 8) Try.func33 #[.agg #[.int .i64 a0_0, .int .i64 a0_1, .slice A0_2 l0_2.length c0_2, .slice A0_3 l0_3.length c0_3]] ?_; (with_reducible refine (spec_BandOk.calls k a0_0 a0_1 _ _ l0_2 _ _ l0_3 _ _ (Kd.C_below HR0_2.out bS) HC0_2.out (Kd.C_below HR0_3.out bS) HC0_3.out A3.out).mono ?_); rintro e w51 ⟨rfl, hb⟩; refine ⟨_, rfl, ?_⟩; replace HO498 := Aside0.mk (Kd.S_below (by exact sT (Kd.S_mono (Kd.S_far (p := ⟨gb502, 3, none⟩) (Kd.S_far (p := ⟨gb502, 2, none⟩) (Kd.S_far (p := ⟨gb502, 1, none⟩) (Kd.S_far (p := ⟨gb502, 0, none⟩) (Kd.S_types HO498.out BK502.out (by decide)) (fun _ hk => hk.2) (.int .i64 t494)) (fun _ hk => hk.2) (.int .i64 t495)) (fun _ hk => hk.2) (.slice Ao48 t496.length co48)) (fun _ hk => hk.2) (.slice Ao49 t499.length co49)) (fun _ h_ => h_.1))) hb); replace HO501 := Aside0.mk (Kd.S_below (by exact sT (Kd.S_mono (Kd.S_far (p := ⟨gb502, 3, none⟩) (Kd.S_far (p := ⟨gb502, 2, none⟩) (Kd.S_far (p := ⟨gb502, 1, none⟩) (Kd.S_far (p := ⟨gb502, 0, none⟩) (Kd.S_types HO501.out BK502.out (by decide)) (fun _ hk => hk.2) (.int .i64 t494)) (fun _ hk => hk.2) (.int .i64 t495)) (fun _ hk => hk.2) (.slice Ao48 t496.length co48)) (fun _ hk => hk.2) (.slice Ao49 t499.length co49)) (fun _ h_ => h_.1))) hb); replace BK492 := kB (g := gb492) hb; replace BK493 := kB (g := gb493) hb; replace BK502 := Aside0.mk (blk_below (g := gb502) (o := .cells #[.int .i64 t494, .int .i64 t495, .slice Ao48 t496.length co48, .slice Ao49 t499.length co49] 58 (0, 0)) kS hb); replace HB := hB hb; (try clear hb); (try clear hb2); (try clear hk); (try clear hi); have hz52 := cz4 BK502; have hz53 := cz4 BK493))
  refine bodyPost_ret (results_cell_row rfl _ _ gb493 58 #[.int .i64 t494, .int .i64 t495, .slice Ao48 t496.length co48, .slice Ao49 t499.length co49] (0, 0) _ rfl kS Try.underlying58 rfl (by kernel_rfl)) rfl ?_
  exact ⟨_, _, eS, by exact sT (Kd.S_mono (Kd.S_far (p := ⟨gb493, 3, none⟩) (Kd.S_far (p := ⟨gb493, 2, none⟩) (Kd.S_far (p := ⟨gb493, 1, none⟩) (Kd.S_far (p := ⟨gb493, 0, none⟩) (Kd.S_types HO498.out BK493.out (by decide)) (fun _ hk => hk.2) (.int .i64 t494)) (fun _ hk => hk.2) (.int .i64 t495)) (fun _ hk => hk.2) (.slice Ao48 t496.length co48)) (fun _ hk => hk.2) (.slice Ao49 t499.length co49)) (fun _ hk => trivial)), by exact sT (Kd.S_mono (Kd.S_far (p := ⟨gb493, 3, none⟩) (Kd.S_far (p := ⟨gb493, 2, none⟩) (Kd.S_far (p := ⟨gb493, 1, none⟩) (Kd.S_far (p := ⟨gb493, 0, none⟩) (Kd.S_types HO501.out BK493.out (by decide)) (fun _ hk => hk.2) (.int .i64 t494)) (fun _ hk => hk.2) (.int .i64 t495)) (fun _ hk => hk.2) (.slice Ao48 t496.length co48)) (fun _ hk => hk.2) (.slice Ao49 t499.length co49)) (fun _ hk => trivial)), bS⟩

end Go.Proofs.Ytigodjcnkgebaaa.QFnMerges
