-- Made out of the translation by a program of this session (a changed copy of the print). Not trusted: Lean checks it.
import Derived.Test.YtigodjcnkgebaaaQFnMergesx0
import Derived.Test.YtigodjcnkgebaaaQFnMergesx4
import Derived.Test.YtigodjcnkgebaaaQFnMergesx5
import Derived.Test.YtigodjcnkgebaaaQFnMergesx6
import Derived.Test.YtigodjcnkgebaaaQFnMergesx7
import Derived.Test.YtigodjcnkgebaaaQFnMergesx12
namespace Go.Proofs.Ytigodjcnkgebaaa.QFnMerges
open Go.RowKit Go.Proofs.YtigodjcnkgebaaaW.PrintWords Go.Proofs.YtigodjcnkgebaaaW.PrintLast Go.Proofs.YtigodjcnkgebaaaW.PrintMore
attribute [local go_sem] max2_int min2_int max_two min_two max_three min_three max_four min_four   -- for this text's walks alone
set_option linter.unusedVariables false
set_option linter.unusedSimpArgs false
set_option maxHeartbeats 8000000
set_option maxRecDepth 100000

/-! ### spec_AddToBand: function 180 -/
def spec_AddToBand.j0 : Nat → Bool → Int → Int → List (List Int) → List (S45) → List (S171) → Int → Int → Int → Int → Int → Int → Int → List (List Int) → List (S45) → Option (Int × Int × (List (List Int)) × (List (S45)) × Bool)
 | 0, _, _, _, _, _, _, _, _, _, _, _, _, _, _, _ => none
 | k + 1, x16, x513000, x513001, x513002, x513003, x514000, x514001, x514002, x514003, x514004, x514005, x524000, x524001, x524002, x524003 => if x16 = true then (some (x524000, x524001, x524002, x524003, false)) else ((spec_TouchesBand.f k x514000 x514001 x514002 x514003 x514004 x514005 x513000 x513001).bind fun t526 => (if t526 = true then ((spec_BandCells.f k x513000 x513001 x513002 x513003).bind fun t527 => (if (wrap64 ((wrap64 (t527 + 2)) + (x514000.length : Int))) > 60 then ((spec_MergeBand.f k x513000 x513001 x513002 x513003).bind fun bt528 => ((spec_l07Shape.f x514000 x514001 x514002 x514003 x514004 x514005).bind fun bt536 => (if bt528.2.2.2.length < 2199023255552 then (some (bt528.1, bt528.2.1, bt528.2.2.1, (bt528.2.2.2 ++ [(⟨bt536.1, bt536.2.1, (⟨bt536.2.2.1, bt536.2.2.2.1, bt536.2.2.2.2.1, bt536.2.2.2.2.2⟩ : S43)⟩ : S45)]), true)) else (none)))) else ((spec_l07Shape.f x514000 x514001 x514002 x514003 x514004 x514005).bind fun bt547 => (if x524003.length < 2199023255552 then (some (x524000, x524001, x524002, (x524003 ++ [(⟨bt547.1, bt547.2.1, (⟨bt547.2.2.1, bt547.2.2.2.1, bt547.2.2.2.2.1, bt547.2.2.2.2.2⟩ : S43)⟩ : S45)]), true)) else (none))))) else (some (x524000, x524001, x524002, x524003, true))))
def spec_AddToBand.f (k : Nat) (a0_0 : Int) (a0_1 : Int) (l0_2 : List (List Int)) (l0_3 : List (S45)) (l1_0 : List (S171)) (a1_1 : Int) (a1_2 : Int) (a1_3 : Int) (a1_4 : Int) (a1_5 : Int) : Option (Int × Int × (List (List Int)) × (List (S45)) × Bool) := (spec_l13Copy.f k a0_0 a0_1 l0_2 l0_3).bind fun bt515 => ((spec_BandOk.f k a0_0 a0_1 l0_2 l0_3).bind fun t524 => (if t524 = true then ((spec_ObjectOk.f k l1_0 a1_1 a1_2 a1_3 a1_4 a1_5).bind fun t525 => (spec_AddToBand.j0 k (!t525) a0_0 a0_1 l0_2 l0_3 l1_0 a1_1 a1_2 a1_3 a1_4 a1_5 bt515.1 bt515.2.1 bt515.2.2.1 bt515.2.2.2)) else (spec_AddToBand.j0 k true a0_0 a0_1 l0_2 l0_3 l1_0 a1_1 a1_2 a1_3 a1_4 a1_5 bt515.1 bt515.2.1 bt515.2.2.1 bt515.2.2.2)))
def spec_AddToBand.T6 : Bool × List (List Nat × List Nat) := (true, [([], []), ([0], [0]), ([1], [1]), ([], []), ([3], [3]), ([4], [4]), ([2, 5], [2, 5]), ([6], [6])])
def spec_AddToBand.B6 : List Nat := [0, 1, 3, 0, 8, 24, 63, 127]
theorem spec_AddToBand.tab6 : rtab .any (opsOf Try.f180 6) = spec_AddToBand.T6 := by kernel_rfl
theorem spec_AddToBand.bits6 : waitsOk spec_AddToBand.T6.2 spec_AddToBand.B6 = true := by kernel_rfl
def spec_AddToBand.T8 : Bool × List (List Nat × List Nat) := (true, [([], []), ([0], [0]), ([], []), ([2], [2]), ([3], [3]), ([1, 4, 3], [1, 4]), ([0, 1, 2, 3, 4, 5], []), ([6, 5, 5, 0, 1, 2, 3, 4, 5], [5, 6])])
def spec_AddToBand.B8 : List Nat := [0, 1, 0, 4, 12, 31, 63, 127]
theorem spec_AddToBand.tab8 : rtab .any (opsOf Try.f180 8) = spec_AddToBand.T8 := by kernel_rfl
theorem spec_AddToBand.bits8 : waitsOk spec_AddToBand.T8.2 spec_AddToBand.B8 = true := by kernel_rfl
theorem spec_AddToBand.calls (k : Nat) (a0_0 : Int) (a0_1 : Int) (A0_2 : Option Addr) (c0_2 : Nat) (l0_2 : List (List Int)) (A0_3 : Option Addr) (c0_3 : Nat) (l0_3 : List (S45)) (A1_0 : Option Addr) (c1_0 : Nat) (l1_0 : List (S171)) (a1_1 : Int) (a1_2 : Int) (a1_3 : Int) (a1_4 : Int) (a1_5 : Int) (r1 : Int) (r2 : Int) (r3 : List (List Int)) (r4 : List (S45)) (r5 : Bool) (w : World) (hr0_2 : Kd.C (Kd.slice 3 (Kd.int .i64)) w A0_2 l0_2.length l0_2) (hc0_2 : l0_2.length ≤ c0_2) (hr0_3 : Kd.C k45 w A0_3 l0_3.length l0_3) (hc0_3 : l0_3.length ≤ c0_3) (hr1_0 : Kd.C k171 w A1_0 l1_0.length l1_0) (hc1_0 : l1_0.length ≤ c1_0) (h : spec_AddToBand.f k a0_0 a0_1 l0_2 l0_3 l1_0 a1_1 a1_2 a1_3 a1_4 a1_5 = some (r1, r2, r3, r4, r5)) :
  Calls Try.prog 180 #[.agg #[.int .i64 a0_0, .int .i64 a0_1, .slice A0_2 l0_2.length c0_2, .slice A0_3 l0_3.length c0_3], .agg #[.slice A1_0 l1_0.length c1_0, .int .i64 a1_1, .int .i64 a1_2, .int .i64 a1_3, .int .i64 a1_4, .int .i64 a1_5]] w fun e w' => ∃ v2_ v3_ : Value, e = .returned (.tuple #[.agg #[.int .i64 r1, .int .i64 r2, v2_, v3_], .bool r5]) ∧ Kd.S (Kd.slice 3 (Kd.int .i64)) 71 w' w.heap.size (fun _ => True) v2_ r3 ∧ Kd.S k45 45 w' w.heap.size (fun _ => True) v3_ r4 ∧ Below w.heap.size w w' := by
 have hu58 := Try.underlying58
 have hu45 := Try.underlying45
 have HR0_2 := Aside0.mk hr0_2
 have HC0_2 := Aside0.mk hc0_2
 clear hr0_2 hc0_2
 have HR0_3 := Aside0.mk hr0_3
 have HC0_3 := Aside0.mk hc0_3
 clear hr0_3 hc0_3
 have HR1_0 := Aside0.mk hr1_0
 have HC1_0 := Aside0.mk hc1_0
 clear hr1_0 hc1_0
 have HB := Aside0.mk (Below.refl w.heap.size w)
 have H : ((spec_l13Copy.f k a0_0 a0_1 l0_2 l0_3).bind fun bt515 => ((spec_BandOk.f k a0_0 a0_1 l0_2 l0_3).bind fun t524 => (if t524 = true then ((spec_ObjectOk.f k l1_0 a1_1 a1_2 a1_3 a1_4 a1_5).bind fun t525 => (spec_AddToBand.j0 k (!t525) a0_0 a0_1 l0_2 l0_3 l1_0 a1_1 a1_2 a1_3 a1_4 a1_5 bt515.1 bt515.2.1 bt515.2.2.1 bt515.2.2.2)) else (spec_AddToBand.j0 k true a0_0 a0_1 l0_2 l0_3 l1_0 a1_1 a1_2 a1_3 a1_4 a1_5 bt515.1 bt515.2.1 bt515.2.2.1 bt515.2.2.2)))) = some (r1, r2, r3, r4, r5) := h
 clear h
 replace H := bN H
 obtain ⟨⟨t515, t516, t517, t520⟩, A3, H⟩ := H
 have HC4 := Aside0.mk H
 clear H
 go_enter Try.func180, Try.ntmps180
 go_upto_region 2 with (first | ((with_reducible refine gD 2 ?_); refine bxE #[.int .i64 a0_0, .int .i64 a0_1, .slice A0_2 l0_2.length c0_2, .slice A0_3 l0_3.length c0_3] 58 ?_; intro gb512 hg w5 BK512 hb; have GW512 := gE hg; have GE512 := gE hg; replace HB := hB hb; clear hb hg) | ((with_reducible refine gD 3 ?_); refine bxE #[.slice A1_0 l1_0.length c1_0, .int .i64 a1_1, .int .i64 a1_2, .int .i64 a1_3, .int .i64 a1_4, .int .i64 a1_5] 45 ?_; intro gb513 hg w6 BK513 hb; have GW513 := gE hg; have GE513 := gE hg; have NB512_513 := nL (g := gb512) hg; have NB513_512 := nG (g := gb512) hg; replace BK512 := kB (g := gb512) hb; replace HB := hB hb; clear hb hg) | ((with_reducible refine gD 4 ?_); refine bxE #[.int .i64 0, .int .i64 0, .slice none 0 0, .slice none 0 0] 58 ?_; intro gb514 hg w7 BK514 hb; have GW514 := gE hg; have GE514 := gE hg; have NB512_514 := nL (g := gb512) hg; have NB514_512 := nG (g := gb512) hg; have NB513_514 := nL (g := gb513) hg; have NB514_513 := nG (g := gb513) hg; replace BK512 := kB (g := gb512) hb; replace BK513 := kB (g := gb513) hb; replace HB := hB hb; clear hb hg; have hnb8 := NB512_513.out; have hnc8 := NB513_512.out; have hnb9 := NB512_514.out; have hnc9 := NB514_512.out; have hcz10_0 : w7.cell? ⟨gb512, 0, none⟩ = some (.int .i64 a0_0) := (blk_cell BK512.out 0).trans rfl; have hcz10_1 : w7.cell? ⟨gb512, 1, none⟩ = some (.int .i64 a0_1) := (blk_cell BK512.out 1).trans rfl; have hcz10_2 : w7.cell? ⟨gb512, 2, none⟩ = some (.slice A0_2 l0_2.length c0_2) := (blk_cell BK512.out 2).trans rfl; have hcz10_3 : w7.cell? ⟨gb512, 3, none⟩ = some (.slice A0_3 l0_3.length c0_3) := (blk_cell BK512.out 3).trans rfl; have hfz10_0 := blk_frozen BK512.out 0; have hfz10_1 := blk_frozen BK512.out 1; have hfz10_2 := blk_frozen BK512.out 2; have hfz10_3 := blk_frozen BK512.out 3) | ((with_reducible refine gC 193 ?_); refine cL (some 8) Try.func193 #[.agg #[.int .i64 a0_0, .int .i64 a0_1, .slice A0_2 l0_2.length c0_2, .slice A0_3 l0_3.length c0_3]] ?_; (with_reducible refine (spec_l13Copy.calls k a0_0 a0_1 _ _ l0_2 _ _ l0_3 t515 t516 t517 t520 _ (cS (Kd.C_below HR0_2.out HB.out)) HC0_2.out (cS (Kd.C_below HR0_3.out HB.out)) HC0_3.out A3.out).mono ?_); rintro e w11 ⟨v518, v521, rfl, ho0, ho1, hb⟩; refine ⟨_, rfl, ?_⟩; have HO519 := Aside0.mk (Kd.S_lower ho0 (below_size bS)); have HO522 := Aside0.mk (Kd.S_lower (Kd.S_newB ho1 (g := gb513) kS) (below_size bS)); replace BK512 := kB (g := gb512) hb; replace BK513 := kB (g := gb513) hb; replace BK514 := kB (g := gb514) hb; replace HB := hB hb; (try clear hb); (try clear hb2); (try clear hk); (try clear hi); (try clear ho0); (try clear ho1)) | ((with_reducible refine gD 6 ?_); refine bxE #[.int .i64 0, .int .i64 0, .slice none 0 0, .slice none 0 0] 58 ?_; intro gb523 hg w12 BK523 hb; have GW523 := gE hg; have GE523 := gE hg; have NB512_523 := nL (g := gb512) hg; have NB523_512 := nG (g := gb512) hg; have NB513_523 := nL (g := gb513) hg; have NB523_513 := nG (g := gb513) hg; have NB514_523 := nL (g := gb514) hg; have NB523_514 := nG (g := gb514) hg; replace HO519 := sB HO519 hb; replace HO522 := sB HO522 hb; replace BK512 := kB (g := gb512) hb; replace BK513 := kB (g := gb513) hb; replace BK514 := kB (g := gb514) hb; replace HB := hB hb; clear hb hg; have hnb13 := NB523_512.out; have hnc13 := NB512_523.out; have hnb14 := NB523_513.out; have hnc14 := NB513_523.out; have hnb15 := NB523_514.out; have hnc15 := NB514_523.out; have hcz16_0 : w12.cell? ⟨gb523, 0, none⟩ = some (.int .i64 0) := (blk_cell BK523.out 0).trans rfl; have hcz16_1 : w12.cell? ⟨gb523, 1, none⟩ = some (.int .i64 0) := (blk_cell BK523.out 1).trans rfl; have hcz16_2 : w12.cell? ⟨gb523, 2, none⟩ = some (.slice none 0 0) := (blk_cell BK523.out 2).trans rfl; have hcz16_3 : w12.cell? ⟨gb523, 3, none⟩ = some (.slice none 0 0) := (blk_cell BK523.out 3).trans rfl; have hfz16_0 := blk_frozen BK523.out 0; have hfz16_1 := blk_frozen BK523.out 1; have hfz16_2 := blk_frozen BK523.out 2; have hfz16_3 := blk_frozen BK523.out 3; obtain ⟨Ao17, co17, eo17⟩ := Kd.S_slice HO519.out; subst eo17; obtain ⟨Ao18, co18, eo18⟩ := Kd.S_slice HO522.out; subst eo18))
 (try simp only [Act.put, List.setIfInBounds_toArray, List.set_cons_zero, List.set_cons_succ])
 go_cut [16] (fun v16 wc => ∃ (kq : Nat) (x16_3 : Bool), v16 = .bool x16_3 ∧ Aside0 (spec_AddToBand.j0 kq x16_3 a0_0 a0_1 l0_2 l0_3 l1_0 a1_1 a1_2 a1_3 a1_4 a1_5 t515 t516 t517 t520 = some (r1, r2, r3, r4, r5)) ∧ Aside0 (kq ≤ k) ∧ Aside0 (Kd.S (Kd.slice 3 (Kd.int .i64)) 71 wc w.heap.size (fun _ => True) (.slice Ao17 t517.length co17) t517) ∧ Aside0 (Kd.S k45 45 wc w.heap.size (fun k_ => k_ ≠ gb513) (.slice Ao18 t520.length co18) t520) ∧ Aside0 (wc.heap[gb512]? = some (.cells #[.int .i64 a0_0, .int .i64 a0_1, (.slice A0_2 l0_2.length c0_2), (.slice A0_3 l0_3.length c0_3)] 58 (0, 0))) ∧ Aside0 (wc.heap[gb513]? = some (.cells #[(.slice A1_0 l1_0.length c1_0), .int .i64 a1_1, .int .i64 a1_2, .int .i64 a1_3, .int .i64 a1_4, .int .i64 a1_5] 45 (0, 0))) ∧ Aside0 (wc.heap[gb514]? = some (.cells #[.int .i64 0, .int .i64 0, (.slice none 0 0), (.slice none 0 0)] 58 (0, 0))) ∧ Aside0 (wc.heap[gb523]? = some (.cells #[.int .i64 t515, .int .i64 t516, (.slice Ao17 t517.length co17), (.slice Ao18 t520.length co18)] 58 (0, 0))) ∧ Aside0 (Below w.heap.size w wc))
 case first =>
  have H := HC4.out
  clear HC4
  replace H := bN H
  obtain ⟨t524, A19, H⟩ := H
  by_cases c20 : t524 = true
  ·subst c20
   rw [if_pos rfl] at H
   replace H := bN H
   obtain ⟨t525, A21, H⟩ := H
   have H' := Aside0.mk H
   clear H
   have hnb22 := NB512_513.out
   have hnc22 := NB513_512.out
   have hnb23 := NB512_514.out
   have hnc23 := NB514_512.out
   have hnb24 := NB512_523.out
   have hnc24 := NB523_512.out
   have hcz25_0 : w12.cell? ⟨gb512, 0, none⟩ = some (.int .i64 a0_0) := (blk_cell BK512.out 0).trans rfl
   have hcz25_1 : w12.cell? ⟨gb512, 1, none⟩ = some (.int .i64 a0_1) := (blk_cell BK512.out 1).trans rfl
   have hcz25_2 : w12.cell? ⟨gb512, 2, none⟩ = some (.slice A0_2 l0_2.length c0_2) := (blk_cell BK512.out 2).trans rfl
   have hcz25_3 : w12.cell? ⟨gb512, 3, none⟩ = some (.slice A0_3 l0_3.length c0_3) := (blk_cell BK512.out 3).trans rfl
   have hfz25_0 := blk_frozen BK512.out 0
   have hfz25_1 := blk_frozen BK512.out 1
   have hfz25_2 := blk_frozen BK512.out 2
   have hfz25_3 := blk_frozen BK512.out 3
   go_wp2_with (first | ((with_reducible refine gC 33 ?_); refine cL (some 10) Try.func33 #[.agg #[.int .i64 a0_0, .int .i64 a0_1, .slice A0_2 l0_2.length c0_2, .slice A0_3 l0_3.length c0_3]] ?_; (with_reducible refine (spec_BandOk.calls k a0_0 a0_1 _ _ l0_2 _ _ l0_3 _ _ (Kd.C_below HR0_2.out bS) HC0_2.out (Kd.C_below HR0_3.out bS) HC0_3.out A19.out).mono ?_); rintro e w26 ⟨rfl, hb⟩; refine ⟨_, rfl, ?_⟩; replace HO519 := Aside0.mk (Kd.S_below (by exact sT (Kd.S_mono (Kd.S_far (p := ⟨gb523, 3, none⟩) (Kd.S_far (p := ⟨gb523, 2, none⟩) (Kd.S_far (p := ⟨gb523, 1, none⟩) (Kd.S_far (p := ⟨gb523, 0, none⟩) (Kd.S_types HO519.out BK523.out (by decide)) (fun _ hk => hk.2) (.int .i64 t515)) (fun _ hk => hk.2) (.int .i64 t516)) (fun _ hk => hk.2) (.slice Ao17 t517.length co17)) (fun _ hk => hk.2) (.slice Ao18 t520.length co18)) (fun _ h_ => h_.1))) hb); replace HO522 := Aside0.mk (Kd.S_below (by exact sT (Kd.S_mono (Kd.S_far (p := ⟨gb523, 3, none⟩) (Kd.S_far (p := ⟨gb523, 2, none⟩) (Kd.S_far (p := ⟨gb523, 1, none⟩) (Kd.S_far (p := ⟨gb523, 0, none⟩) (Kd.S_types HO522.out BK523.out (by decide)) (fun _ hk => hk.2) (.int .i64 t515)) (fun _ hk => hk.2) (.int .i64 t516)) (fun _ hk => hk.2) (.slice Ao17 t517.length co17)) (fun _ hk => hk.2) (.slice Ao18 t520.length co18)) (fun _ h_ => h_.1))) hb); replace BK512 := kB (g := gb512) hb; replace BK513 := kB (g := gb513) hb; replace BK514 := kB (g := gb514) hb; replace BK523 := Aside0.mk (blk_below (g := gb523) (o := .cells #[.int .i64 t515, .int .i64 t516, .slice Ao17 t517.length co17, .slice Ao18 t520.length co18] 58 (0, 0)) kS hb); replace HB := hB hb; (try clear hb); (try clear hb2); (try clear hk); (try clear hi); have hnb27 := NB513_514.out; have hnc27 := NB514_513.out; have hnb28 := NB513_523.out; have hnc28 := NB523_513.out; have hcz29_0 : w26.cell? ⟨gb513, 0, none⟩ = some (.slice A1_0 l1_0.length c1_0) := (blk_cell BK513.out 0).trans rfl; have hcz29_1 : w26.cell? ⟨gb513, 1, none⟩ = some (.int .i64 a1_1) := (blk_cell BK513.out 1).trans rfl; have hcz29_2 : w26.cell? ⟨gb513, 2, none⟩ = some (.int .i64 a1_2) := (blk_cell BK513.out 2).trans rfl; have hcz29_3 : w26.cell? ⟨gb513, 3, none⟩ = some (.int .i64 a1_3) := (blk_cell BK513.out 3).trans rfl; have hcz29_4 : w26.cell? ⟨gb513, 4, none⟩ = some (.int .i64 a1_4) := (blk_cell BK513.out 4).trans rfl; have hcz29_5 : w26.cell? ⟨gb513, 5, none⟩ = some (.int .i64 a1_5) := (blk_cell BK513.out 5).trans rfl; have hfz29_0 := blk_frozen BK513.out 0; have hfz29_1 := blk_frozen BK513.out 1; have hfz29_2 := blk_frozen BK513.out 2; have hfz29_3 := blk_frozen BK513.out 3; have hfz29_4 := blk_frozen BK513.out 4; have hfz29_5 := blk_frozen BK513.out 5) | (go_at_call 95; (with_reducible refine (spec_ObjectOk.calls k _ _ l1_0 a1_1 a1_2 a1_3 a1_4 a1_5 t525 _ (cS (Kd.C_below HR1_0.out HB.out)) HC1_0.out A21.out).mono ?_); rintro e w30 ⟨rfl, hb⟩; replace HO519 := sB HO519 hb; replace HO522 := sB HO522 hb; replace BK512 := kB (g := gb512) hb; replace BK513 := kB (g := gb513) hb; replace BK514 := kB (g := gb514) hb; replace BK523 := kB (g := gb523) hb; replace HB := hB hb; (try clear hb); (try clear hb2); (try clear hk); (try clear hi)))
   go_meet
   case rel => exact ⟨_, (!t525), fS, H', ⟨by first | omega | exact Nat.le_refl _⟩, ⟨sS HO519⟩, ⟨by exact sT (Kd.S_mono HO522.out (fun _ hk => hk.2))⟩, ⟨kS⟩, ⟨kS⟩, ⟨kS⟩, ⟨kS⟩, ⟨bS⟩⟩
  ·obtain rfl := Bool.eq_false_iff.mpr c20
   rw [if_neg nF] at H
   have H' := Aside0.mk H
   clear H
   have hnb31 := NB512_513.out
   have hnc31 := NB513_512.out
   have hnb32 := NB512_514.out
   have hnc32 := NB514_512.out
   have hnb33 := NB512_523.out
   have hnc33 := NB523_512.out
   have hcz34_0 : w12.cell? ⟨gb512, 0, none⟩ = some (.int .i64 a0_0) := (blk_cell BK512.out 0).trans rfl
   have hcz34_1 : w12.cell? ⟨gb512, 1, none⟩ = some (.int .i64 a0_1) := (blk_cell BK512.out 1).trans rfl
   have hcz34_2 : w12.cell? ⟨gb512, 2, none⟩ = some (.slice A0_2 l0_2.length c0_2) := (blk_cell BK512.out 2).trans rfl
   have hcz34_3 : w12.cell? ⟨gb512, 3, none⟩ = some (.slice A0_3 l0_3.length c0_3) := (blk_cell BK512.out 3).trans rfl
   have hfz34_0 := blk_frozen BK512.out 0
   have hfz34_1 := blk_frozen BK512.out 1
   have hfz34_2 := blk_frozen BK512.out 2
   have hfz34_3 := blk_frozen BK512.out 3
   go_wp2_with (first | ((with_reducible refine gC 33 ?_); refine cL (some 10) Try.func33 #[.agg #[.int .i64 a0_0, .int .i64 a0_1, .slice A0_2 l0_2.length c0_2, .slice A0_3 l0_3.length c0_3]] ?_; (with_reducible refine (spec_BandOk.calls k a0_0 a0_1 _ _ l0_2 _ _ l0_3 _ _ (Kd.C_below HR0_2.out bS) HC0_2.out (Kd.C_below HR0_3.out bS) HC0_3.out A19.out).mono ?_); rintro e w35 ⟨rfl, hb⟩; refine ⟨_, rfl, ?_⟩; replace HO519 := Aside0.mk (Kd.S_below (by exact sT (Kd.S_mono (Kd.S_far (p := ⟨gb523, 3, none⟩) (Kd.S_far (p := ⟨gb523, 2, none⟩) (Kd.S_far (p := ⟨gb523, 1, none⟩) (Kd.S_far (p := ⟨gb523, 0, none⟩) (Kd.S_types HO519.out BK523.out (by decide)) (fun _ hk => hk.2) (.int .i64 t515)) (fun _ hk => hk.2) (.int .i64 t516)) (fun _ hk => hk.2) (.slice Ao17 t517.length co17)) (fun _ hk => hk.2) (.slice Ao18 t520.length co18)) (fun _ h_ => h_.1))) hb); replace HO522 := Aside0.mk (Kd.S_below (by exact sT (Kd.S_mono (Kd.S_far (p := ⟨gb523, 3, none⟩) (Kd.S_far (p := ⟨gb523, 2, none⟩) (Kd.S_far (p := ⟨gb523, 1, none⟩) (Kd.S_far (p := ⟨gb523, 0, none⟩) (Kd.S_types HO522.out BK523.out (by decide)) (fun _ hk => hk.2) (.int .i64 t515)) (fun _ hk => hk.2) (.int .i64 t516)) (fun _ hk => hk.2) (.slice Ao17 t517.length co17)) (fun _ hk => hk.2) (.slice Ao18 t520.length co18)) (fun _ h_ => h_.1))) hb); replace BK512 := kB (g := gb512) hb; replace BK513 := kB (g := gb513) hb; replace BK514 := kB (g := gb514) hb; replace BK523 := Aside0.mk (blk_below (g := gb523) (o := .cells #[.int .i64 t515, .int .i64 t516, .slice Ao17 t517.length co17, .slice Ao18 t520.length co18] 58 (0, 0)) kS hb); replace HB := hB hb; (try clear hb); (try clear hb2); (try clear hk); (try clear hi)))
   go_meet
   case rel => exact ⟨_, (true), fS, H', ⟨by first | omega | exact Nat.le_refl _⟩, ⟨sS HO519⟩, ⟨by exact sT (Kd.S_mono HO522.out (fun _ hk => hk.2))⟩, ⟨kS⟩, ⟨kS⟩, ⟨kS⟩, ⟨kS⟩, ⟨bS⟩⟩
 case rest =>
  clear HC4
  try clear c1
  try clear c2
  try clear p2
  try clear c3
  try clear c8
  try clear c9
  try clear c13
  try clear c14
  try clear c15
  try clear c18
  try clear c19
  try clear c20
  try clear c22
  try clear c23
  try clear c24
  try clear c27
  try clear c28
  try clear c31
  try clear c32
  try clear c33
  try clear hcz10_0
  try clear hcz10_1
  try clear hcz10_2
  try clear hcz10_3
  try clear hcz16_0
  try clear hcz16_1
  try clear hcz16_2
  try clear hcz16_3
  try clear hcz25_0
  try clear hcz25_1
  try clear hcz25_2
  try clear hcz25_3
  try clear hcz29_0
  try clear hcz29_1
  try clear hcz29_2
  try clear hcz29_3
  try clear hcz29_4
  try clear hcz29_5
  try clear hcz34_0
  try clear hcz34_1
  try clear hcz34_2
  try clear hcz34_3
  try clear hfz10_0
  try clear hfz10_1
  try clear hfz10_2
  try clear hfz10_3
  try clear hfz16_0
  try clear hfz16_1
  try clear hfz16_2
  try clear hfz16_3
  try clear hfz25_0
  try clear hfz25_1
  try clear hfz25_2
  try clear hfz25_3
  try clear hfz29_0
  try clear hfz29_1
  try clear hfz29_2
  try clear hfz29_3
  try clear hfz29_4
  try clear hfz29_5
  try clear hfz34_0
  try clear hfz34_1
  try clear hfz34_2
  try clear hfz34_3
  obtain ⟨kq, x16_3, rfl, HA, HJ3, HO_524002, HO_524003, BK512, BK513, BK514, BK523, HB⟩ := hcut
  cases kq with
  | zero => exact absurd HA.out (by simp [spec_AddToBand.j0])
  | succ kj3 =>
   have H := HA.out
   clear HA
   simp only [spec_AddToBand.j0] at H
   by_cases c36 : x16_3 = true
   ·subst c36
    rw [if_pos rfl] at H
    obtain ⟨rfl, rfl, rfl, rfl, rfl⟩ := sI5 H
    have hnb37 := NB523_512.out
    have hnc37 := NB512_523.out
    have hnb38 := NB523_513.out
    have hnc38 := NB513_523.out
    have hnb39 := NB523_514.out
    have hnc39 := NB514_523.out
    have hz40 := cz4 BK523
    have hnb41 := NB514_512.out
    have hnc41 := NB512_514.out
    have hnb42 := NB514_513.out
    have hnc42 := NB513_514.out
    have hz43 := cz4 BK514
    go_wp2
    refine bodyPost_ret (results_ct rfl _ _ gb514 58 #[.int .i64 t515, .int .i64 t516, .slice Ao17 t517.length co17, .slice Ao18 t520.length co18] (0, 0) _ rfl kS Try.underlying58 rfl (by kernel_rfl)) rfl ?_
    exact ⟨_, _, eS, by exact sT (Kd.S_mono (Kd.S_far (p := ⟨gb514, 3, none⟩) (Kd.S_far (p := ⟨gb514, 2, none⟩) (Kd.S_far (p := ⟨gb514, 1, none⟩) (Kd.S_far (p := ⟨gb514, 0, none⟩) (Kd.S_types HO_524002.out BK514.out (by decide)) (fun _ hk => hk.2) (.int .i64 t515)) (fun _ hk => hk.2) (.int .i64 t516)) (fun _ hk => hk.2) (.slice Ao17 t517.length co17)) (fun _ hk => hk.2) (.slice Ao18 t520.length co18)) (fun _ hk => trivial)), by exact sT (Kd.S_mono (Kd.S_far (p := ⟨gb514, 3, none⟩) (Kd.S_far (p := ⟨gb514, 2, none⟩) (Kd.S_far (p := ⟨gb514, 1, none⟩) (Kd.S_far (p := ⟨gb514, 0, none⟩) (Kd.S_types HO_524003.out BK514.out (by decide)) (fun _ hk => hk.2) (.int .i64 t515)) (fun _ hk => hk.2) (.int .i64 t516)) (fun _ hk => hk.2) (.slice Ao17 t517.length co17)) (fun _ hk => hk.2) (.slice Ao18 t520.length co18)) (fun _ hk => trivial)), bS⟩
   ·obtain rfl := Bool.eq_false_iff.mpr c36
    rw [if_neg nF] at H
    replace H := bN H
    obtain ⟨t526, A44, H⟩ := H
    by_cases c45 : t526 = true
    ·subst c45
     rw [if_pos rfl] at H
     replace H := bN H
     obtain ⟨t527, A46, H⟩ := H
     by_cases c47 : (wrap64 ((wrap64 (t527 + 2)) + (l1_0.length : Int))) > 60
     ·rw [if_pos c47] at H
      have c47b0 : decide (60 < (wrap64 ((wrap64 (t527 + 2)) + (l1_0.length : Int)))) = true := decide_eq_true c47
      clear c47
      replace H := bN H
      obtain ⟨⟨t528, t529, t530, t533⟩, A48, H⟩ := H
      replace H := bN H
      obtain ⟨⟨t536, t539, t540, t541, t542, t543⟩, A49, H⟩ := H
      obtain ⟨LMc50, H⟩ := iL H
      obtain ⟨y544, hy544⟩ : ∃ y_ : List (S45), y_ = (t533 ++ [(⟨t536, t539, (⟨t540, t541, t542, t543⟩ : S43)⟩ : S45)]) := ⟨_, rfl⟩
      replace H : (some (t528, t529, t530, y544, true)) = some (r1, r2, r3, r4, r5) := by first | (rw [hy544]; with_reducible exact H) | (have H2_ := (Option.bind_some _ _).symm.trans H; rw [hy544]; with_reducible exact H2_) | (have H2_ := (Option.bind_some _ _).symm.trans H; with_reducible exact H2_) | with_reducible exact H | (rw [hy544]; exact H) | exact H
      have Ny544 := Aside0.mk hy544
      clear hy544
      obtain ⟨rfl, rfl, rfl, rfl, rfl⟩ := sI5 H
      have hnb51 := NB513_512.out
      have hnc51 := NB512_513.out
      have hnb52 := NB513_514.out
      have hnc52 := NB514_513.out
      have hnb53 := NB513_523.out
      have hnc53 := NB523_513.out
      have hz54 := cz6 BK513
      have hnb55 := NB512_514.out
      have hnc55 := NB514_512.out
      have hnb56 := NB512_523.out
      have hnc56 := NB523_512.out
      have hz57 := cz4 BK512
      try go_wp2_with (first | ((with_reducible refine gC 100 ?_); refine cL (some 23) Try.func100 #[.agg #[.slice A1_0 l1_0.length c1_0, .int .i64 a1_1, .int .i64 a1_2, .int .i64 a1_3, .int .i64 a1_4, .int .i64 a1_5], .int .i64 a0_0, .int .i64 a0_1] ?_; (with_reducible refine (spec_TouchesBand.calls kj3 _ _ l1_0 a1_1 a1_2 a1_3 a1_4 a1_5 a0_0 a0_1 _ _ (cS (Kd.C_below HR1_0.out HB.out)) HC1_0.out A44.out).mono ?_); rintro e w58 ⟨rfl, hb⟩; refine ⟨_, rfl, ?_⟩; replace HO_524002 := sB HO_524002 hb; replace HO_524003 := sB HO_524003 hb; replace BK512 := kB (g := gb512) hb; replace BK513 := kB (g := gb513) hb; replace BK514 := kB (g := gb514) hb; replace BK523 := kB (g := gb523) hb; replace HB := hB hb; (try clear hb); (try clear hb2); (try clear hk); (try clear hi)))
      replace HO_524002 := Aside0.mk (Kd.S_drew HO_524002.out)
      replace HO_524003 := Aside0.mk (Kd.S_drew HO_524003.out)
      replace BK512 := Aside0.mk (blk_drew BK512.out)
      replace BK513 := Aside0.mk (blk_drew BK513.out)
      replace BK514 := Aside0.mk (blk_drew BK514.out)
      replace BK523 := Aside0.mk (blk_drew BK523.out)
      replace HB := Aside0.mk (below_drew1 HB.out)
      refine start_ (n := 8) (S := fun w' => w'.cell? ⟨gb512, 0, none⟩ = some (.int .i64 a0_0) ∧ w'.cell? ⟨gb512, 1, none⟩ = some (.int .i64 a0_1) ∧ w'.cell? ⟨gb512, 2, none⟩ = some (.slice A0_2 l0_2.length c0_2) ∧ w'.cell? ⟨gb512, 3, none⟩ = some (.slice A0_3 l0_3.length c0_3) ∧ w'.cell? ⟨gb513, 0, none⟩ = some (.slice A1_0 l1_0.length c1_0) ∧ w'.cell? ⟨gb513, 1, none⟩ = some (.int .i64 a1_1) ∧ w'.cell? ⟨gb513, 2, none⟩ = some (.int .i64 a1_2) ∧ w'.cell? ⟨gb513, 3, none⟩ = some (.int .i64 a1_3) ∧ w'.cell? ⟨gb513, 4, none⟩ = some (.int .i64 a1_4) ∧ w'.cell? ⟨gb513, 5, none⟩ = some (.int .i64 a1_5)) (ds := []) #[false, false, false, false, false, false, false, false] (by kernel_rfl) rfl rfl ⟨(blk_cell BK512.out 0).trans rfl, (blk_cell BK512.out 1).trans rfl, (blk_cell BK512.out 2).trans rfl, (blk_cell BK512.out 3).trans rfl, (blk_cell BK513.out 0).trans rfl, (blk_cell BK513.out 1).trans rfl, (blk_cell BK513.out 2).trans rfl, (blk_cell BK513.out 3).trans rfl, (blk_cell BK513.out 4).trans rfl, (blk_cell BK513.out 5).trans rfl⟩ (fun hHeld => ?_); refine with_tabW spec_AddToBand.tab6 spec_AddToBand.bits6 (fun HT_ HW_ => ?_)
      generalize w58.drew = w59 at HO_524002 HO_524003 BK512 BK513 BK514 BK523 HB hHeld ⊢
      refine pU 3 (some 29) #[false, false, false, true, false, false, false, false] ?_
      refine tK 0 (some 26) #[true, false, false, true, false, false, false, false] ?_
      refine tK 4 (some 30) #[true, false, false, true, true, false, false, false] ?_
      refine pU 5 (some 31) #[true, false, false, true, true, true, false, false] ?_
      refine one_ (i := 1) (N := some 27) #[true, true, false, true, true, true, false, false] rfl rfl (one_of HT_.out (by kernel_rfl)) (by decide) (fun K hK => ?_)
      refine goes_ Try.func98 (by kernel_rfl) rfl #[.agg #[.int .i64 a0_0, .int .i64 a0_1, .slice A0_2 l0_2.length c0_2, .slice A0_3 l0_3.length c0_3]] (by rfl) rfl rfl (by (try simp only [List.map_toArray, List.map_cons, List.map_nil]); first | done | rfl | (simp only [List.length_drop, List.length_take]; rfl)) ?_
      with_reducible refine (spec_BandCells.calls kj3 a0_0 a0_1 _ _ l0_2 _ _ l0_3 t527 _ ?side1 ?side2 ?side3 ?side4 A46.out).mono ?_
      (case side1 => exact cS (Kd.C_below HR0_2.out HB.out))
      (case side2 => exact HC0_2.out)
      (case side3 => exact cS (Kd.C_below HR0_3.out HB.out))
      (case side4 => exact HC0_3.out)
      rintro e w60 ⟨rfl, hb⟩
      refine ⟨_, rfl, ?_⟩
      replace HO_524002 := sB HO_524002 hb
      replace HO_524003 := sB HO_524003 hb
      replace BK512 := kB (g := gb512) hb
      replace BK513 := kB (g := gb513) hb
      replace BK514 := kB (g := gb514) hb
      replace BK523 := kB (g := gb523) hb
      replace HB := hB hb
      (try clear hb)
      (try clear hb2)
      (try clear hk)
      (try clear hi)
      refine hK.out _ _ ⟨(blk_cell BK512.out 0).trans rfl, (blk_cell BK512.out 1).trans rfl, (blk_cell BK512.out 2).trans rfl, (blk_cell BK512.out 3).trans rfl, (blk_cell BK513.out 0).trans rfl, (blk_cell BK513.out 1).trans rfl, (blk_cell BK513.out 2).trans rfl, (blk_cell BK513.out 3).trans rfl, (blk_cell BK513.out 4).trans rfl, (blk_cell BK513.out 5).trans rfl⟩ (fun hHeld => ?_)
      clear hK K
      refine norm_ (a' := ?_) ?_ ?_
      rotate_left
      ·show Act.put _ (some 27) _ = _
       simp only [Act.put, List.setIfInBounds_toArray, List.set_cons_zero, List.set_cons_succ, i64_w, i32_w]
       rfl
      refine pU 2 (some 28) #[true, true, true, true, true, true, false, false] ?_
      refine pU 6 (some 32) #[true, true, true, true, true, true, true, false] ?_
      refine pU 7 (some 33) #[true, true, true, true, true, true, true, true] ?_
      refine done_ (done_of HT_.out (by kernel_rfl)) ?_
      have hz61 := cz4 BK512
      try go_wp2_with (first | ((with_reducible refine gC 194 ?_); refine cL (some 35) Try.func194 #[.agg #[.int .i64 a0_0, .int .i64 a0_1, .slice A0_2 l0_2.length c0_2, .slice A0_3 l0_3.length c0_3]] ?_; (with_reducible refine (spec_MergeBand.calls kj3 a0_0 a0_1 _ _ l0_2 _ _ l0_3 t528 t529 t530 t533 _ (cS (Kd.C_below HR0_2.out HB.out)) HC0_2.out (cS (Kd.C_below HR0_3.out HB.out)) HC0_3.out A48.out).mono ?_); rintro e w62 ⟨v531, v534, rfl, ho0, ho1, hb⟩; refine ⟨_, rfl, ?_⟩; have HO532 := Aside0.mk (Kd.S_lower (Kd.S_new' ho0 (Kd.S_lt (sS HO_524002))) (below_size bS)); have HO535 := Aside0.mk (Kd.S_lower (Kd.S_newB (Kd.S_new' ho1 (Kd.S_lt (sS HO_524003))) (g := gb513) kS) (below_size bS)); replace HO_524002 := Aside0.mk (Kd.S_elder' (sS HO_524002) (Kd.S_base ho0) hb); replace HO_524003 := Aside0.mk (Kd.S_elder' (sS HO_524003) (Kd.S_base ho1) hb); replace BK512 := kB (g := gb512) hb; replace BK513 := kB (g := gb513) hb; replace BK514 := kB (g := gb514) hb; replace BK523 := kB (g := gb523) hb; replace HB := hB hb; (try clear hb); (try clear hb2); (try clear hk); (try clear hi); (try clear ho0); (try clear ho1); have hnb63 := NB523_514.out; have hnc63 := NB514_523.out; have hz64 := cz4 BK523; obtain ⟨Ao65, co65, eo65⟩ := Kd.S_slice HO532.out; subst eo65; obtain ⟨Ao66, co66, eo66⟩ := Kd.S_slice HO535.out; subst eo66))
      have n0_ : Aside0 (Kd.S (Kd.slice 3 (Kd.int .i64)) 71 ((((w62.setCell ⟨gb523, 0, none⟩ (.int .i64 t528)).setCell ⟨gb523, 1, none⟩ (.int .i64 t529)).setCell ⟨gb523, 2, none⟩ (.slice Ao65 t530.length co65)).setCell ⟨gb523, 3, none⟩ (.slice Ao66 t533.length co66)) w.heap.size (fun k_ => some k_ ≠ (.slice Ao65 t530.length co65 : Value).ownBlock) (.slice Ao17 t517.length co17) t517) := ⟨by exact sT (Kd.S_mono (Kd.S_far (p := ⟨gb523, 3, none⟩) (Kd.S_far (p := ⟨gb523, 2, none⟩) (Kd.S_far (p := ⟨gb523, 1, none⟩) (Kd.S_far (p := ⟨gb523, 0, none⟩) (Kd.S_types HO_524002.out BK523.out (by decide)) (fun _ hk => hk.2) (.int .i64 t528)) (fun _ hk => hk.2) (.int .i64 t529)) (fun _ hk => hk.2) (.slice Ao65 t530.length co65)) (fun _ hk => hk.2) (.slice Ao66 t533.length co66)) (fun _ hk => hk.1.2))⟩
      have n1_ : Aside0 (Kd.S k45 45 ((((w62.setCell ⟨gb523, 0, none⟩ (.int .i64 t528)).setCell ⟨gb523, 1, none⟩ (.int .i64 t529)).setCell ⟨gb523, 2, none⟩ (.slice Ao65 t530.length co65)).setCell ⟨gb523, 3, none⟩ (.slice Ao66 t533.length co66)) w.heap.size (fun k_ => some k_ ≠ (.slice Ao66 t533.length co66 : Value).ownBlock ∧ k_ ≠ gb513) (.slice Ao18 t520.length co18) t520) := ⟨by exact sT (Kd.S_mono (Kd.S_far (p := ⟨gb523, 3, none⟩) (Kd.S_far (p := ⟨gb523, 2, none⟩) (Kd.S_far (p := ⟨gb523, 1, none⟩) (Kd.S_far (p := ⟨gb523, 0, none⟩) (Kd.S_types HO_524003.out BK523.out (by decide)) (fun _ hk => hk.2) (.int .i64 t528)) (fun _ hk => hk.2) (.int .i64 t529)) (fun _ hk => hk.2) (.slice Ao65 t530.length co65)) (fun _ hk => hk.2) (.slice Ao66 t533.length co66)) (fun _ hk => ⟨hk.1.2, hk.1.1⟩))⟩
      have n2_ : Aside0 (Kd.S (Kd.slice 3 (Kd.int .i64)) 71 ((((w62.setCell ⟨gb523, 0, none⟩ (.int .i64 t528)).setCell ⟨gb523, 1, none⟩ (.int .i64 t529)).setCell ⟨gb523, 2, none⟩ (.slice Ao65 t530.length co65)).setCell ⟨gb523, 3, none⟩ (.slice Ao66 t533.length co66)) w.heap.size (fun k_ => some k_ ≠ (.slice Ao17 t517.length co17 : Value).ownBlock) (.slice Ao65 t530.length co65) t530) := ⟨by exact sT (Kd.S_mono (Kd.S_far (p := ⟨gb523, 3, none⟩) (Kd.S_far (p := ⟨gb523, 2, none⟩) (Kd.S_far (p := ⟨gb523, 1, none⟩) (Kd.S_far (p := ⟨gb523, 0, none⟩) (Kd.S_types HO532.out BK523.out (by decide)) (fun _ hk => hk.2) (.int .i64 t528)) (fun _ hk => hk.2) (.int .i64 t529)) (fun _ hk => hk.2) (.slice Ao65 t530.length co65)) (fun _ hk => hk.2) (.slice Ao66 t533.length co66)) (fun _ hk => hk.1.2))⟩
      have n3_ : Aside0 (Kd.S k45 45 ((((w62.setCell ⟨gb523, 0, none⟩ (.int .i64 t528)).setCell ⟨gb523, 1, none⟩ (.int .i64 t529)).setCell ⟨gb523, 2, none⟩ (.slice Ao65 t530.length co65)).setCell ⟨gb523, 3, none⟩ (.slice Ao66 t533.length co66)) w.heap.size (fun k_ => some k_ ≠ (.slice Ao18 t520.length co18 : Value).ownBlock ∧ k_ ≠ gb513) (.slice Ao66 t533.length co66) t533) := ⟨by exact sT (Kd.S_mono (Kd.S_far (p := ⟨gb523, 3, none⟩) (Kd.S_far (p := ⟨gb523, 2, none⟩) (Kd.S_far (p := ⟨gb523, 1, none⟩) (Kd.S_far (p := ⟨gb523, 0, none⟩) (Kd.S_types HO535.out BK523.out (by decide)) (fun _ hk => hk.2) (.int .i64 t528)) (fun _ hk => hk.2) (.int .i64 t529)) (fun _ hk => hk.2) (.slice Ao65 t530.length co65)) (fun _ hk => hk.2) (.slice Ao66 t533.length co66)) (fun _ hk => ⟨hk.1.1.2, hk.1.2⟩))⟩
      have n4_ : Aside0 (((((w62.setCell ⟨gb523, 0, none⟩ (.int .i64 t528)).setCell ⟨gb523, 1, none⟩ (.int .i64 t529)).setCell ⟨gb523, 2, none⟩ (.slice Ao65 t530.length co65)).setCell ⟨gb523, 3, none⟩ (.slice Ao66 t533.length co66)).heap[gb512]? = some (.cells #[.int .i64 a0_0, .int .i64 a0_1, .slice A0_2 l0_2.length c0_2, .slice A0_3 l0_3.length c0_3] 58 (0, 0))) := ⟨kS⟩
      have n5_ : Aside0 (((((w62.setCell ⟨gb523, 0, none⟩ (.int .i64 t528)).setCell ⟨gb523, 1, none⟩ (.int .i64 t529)).setCell ⟨gb523, 2, none⟩ (.slice Ao65 t530.length co65)).setCell ⟨gb523, 3, none⟩ (.slice Ao66 t533.length co66)).heap[gb513]? = some (.cells #[.slice A1_0 l1_0.length c1_0, .int .i64 a1_1, .int .i64 a1_2, .int .i64 a1_3, .int .i64 a1_4, .int .i64 a1_5] 45 (0, 0))) := ⟨kS⟩
      have n6_ : Aside0 (((((w62.setCell ⟨gb523, 0, none⟩ (.int .i64 t528)).setCell ⟨gb523, 1, none⟩ (.int .i64 t529)).setCell ⟨gb523, 2, none⟩ (.slice Ao65 t530.length co65)).setCell ⟨gb523, 3, none⟩ (.slice Ao66 t533.length co66)).heap[gb514]? = some (.cells #[.int .i64 0, .int .i64 0, .slice none 0 0, .slice none 0 0] 58 (0, 0))) := ⟨kS⟩
      have n7_ : Aside0 (((((w62.setCell ⟨gb523, 0, none⟩ (.int .i64 t528)).setCell ⟨gb523, 1, none⟩ (.int .i64 t529)).setCell ⟨gb523, 2, none⟩ (.slice Ao65 t530.length co65)).setCell ⟨gb523, 3, none⟩ (.slice Ao66 t533.length co66)).heap[gb523]? = some (.cells #[.int .i64 t528, .int .i64 t529, .slice Ao65 t530.length co65, .slice Ao66 t533.length co66] 58 (0, 0))) := ⟨kS⟩
      have n8_ : Aside0 (Below w.heap.size w ((((w62.setCell ⟨gb523, 0, none⟩ (.int .i64 t528)).setCell ⟨gb523, 1, none⟩ (.int .i64 t529)).setCell ⟨gb523, 2, none⟩ (.slice Ao65 t530.length co65)).setCell ⟨gb523, 3, none⟩ (.slice Ao66 t533.length co66))) := ⟨bS⟩
      (try clear HO_524002)
      (try clear HO_524003)
      (try clear HO532)
      (try clear HO535)
      (try clear BK512)
      (try clear BK513)
      (try clear BK514)
      (try clear BK523)
      (try clear HB)
      generalize ((((w62.setCell ⟨gb523, 0, none⟩ (.int .i64 t528)).setCell ⟨gb523, 1, none⟩ (.int .i64 t529)).setCell ⟨gb523, 2, none⟩ (.slice Ao65 t530.length co65)).setCell ⟨gb523, 3, none⟩ (.slice Ao66 t533.length co66)) = w67 at n0_ n1_ n2_ n3_ n4_ n5_ n6_ n7_ n8_ ⊢
      have HO_524002 := n0_
      have HO_524003 := n1_
      have HO532 := n2_
      have HO535 := n3_
      have BK512 := n4_
      have BK513 := n5_
      have BK514 := n6_
      have BK523 := n7_
      have HB := n8_
      clear n0_ n1_ n2_ n3_ n4_ n5_ n6_ n7_ n8_
      replace HO_524002 := Aside0.mk (Kd.S_drew HO_524002.out)
      replace HO_524003 := Aside0.mk (Kd.S_drew HO_524003.out)
      replace HO532 := Aside0.mk (Kd.S_drew HO532.out)
      replace HO535 := Aside0.mk (Kd.S_drew HO535.out)
      replace BK512 := Aside0.mk (blk_drew BK512.out)
      replace BK513 := Aside0.mk (blk_drew BK513.out)
      replace BK514 := Aside0.mk (blk_drew BK514.out)
      replace BK523 := Aside0.mk (blk_drew BK523.out)
      replace HB := Aside0.mk (below_drew1 HB.out)
      refine start_ (n := 8) (S := fun w' => w'.cell? ⟨gb523, 0, none⟩ = some (.int .i64 t528) ∧ w'.cell? ⟨gb523, 1, none⟩ = some (.int .i64 t529) ∧ w'.cell? ⟨gb523, 2, none⟩ = some (.slice Ao65 t530.length co65) ∧ w'.cell? ⟨gb523, 3, none⟩ = some (.slice Ao66 t533.length co66) ∧ w'.cell? ⟨gb513, 0, none⟩ = some (.slice A1_0 l1_0.length c1_0) ∧ w'.cell? ⟨gb513, 1, none⟩ = some (.int .i64 a1_1) ∧ w'.cell? ⟨gb513, 2, none⟩ = some (.int .i64 a1_2) ∧ w'.cell? ⟨gb513, 3, none⟩ = some (.int .i64 a1_3) ∧ w'.cell? ⟨gb513, 4, none⟩ = some (.int .i64 a1_4) ∧ w'.cell? ⟨gb513, 5, none⟩ = some (.int .i64 a1_5)) (ds := [7]) #[false, false, false, false, false, false, false, false] (by kernel_rfl) rfl rfl ⟨(blk_cell BK523.out 0).trans rfl, (blk_cell BK523.out 1).trans rfl, (blk_cell BK523.out 2).trans rfl, (blk_cell BK523.out 3).trans rfl, (blk_cell BK513.out 0).trans rfl, (blk_cell BK513.out 1).trans rfl, (blk_cell BK513.out 2).trans rfl, (blk_cell BK513.out 3).trans rfl, (blk_cell BK513.out 4).trans rfl, (blk_cell BK513.out 5).trans rfl⟩ (fun hHeld => ?_); refine with_tabW spec_AddToBand.tab8 spec_AddToBand.bits8 (fun HT_ HW_ => ?_)
      generalize w67.drew = w68 at HO_524002 HO_524003 HO532 HO535 BK512 BK513 BK514 BK523 HB hHeld ⊢
      refine pU 0 (some 36) #[true, false, false, false, false, false, false, false] ?_
      refine tK 1 (some 37) #[true, true, false, false, false, false, false, false] ?_
      refine tK 2 (some 38) #[true, true, true, false, false, false, false, false] ?_
      refine one_ (i := 3) (N := some 39) #[true, true, true, true, false, false, false, false] rfl rfl (one_of HT_.out (by kernel_rfl)) (by decide) (fun K hK => ?_)
      refine goes_ Try.func181 (by kernel_rfl) rfl #[.agg #[.slice A1_0 l1_0.length c1_0, .int .i64 a1_1, .int .i64 a1_2, .int .i64 a1_3, .int .i64 a1_4, .int .i64 a1_5]] (by rfl) rfl rfl (by (try simp only [List.map_toArray, List.map_cons, List.map_nil]); first | done | rfl | (simp only [List.length_drop, List.length_take]; rfl)) ?_
      with_reducible refine (spec_l07Shape.calls _ _ l1_0 a1_1 a1_2 a1_3 a1_4 a1_5 t536 t539 t540 t541 t542 t543 _ ?side1 ?side2 A49.out).mono ?_
      (case side1 => exact cS (Kd.C_below HR1_0.out HB.out))
      (case side2 => exact HC1_0.out)
      rintro e w69 ⟨v537, rfl, ho0, hb⟩
      refine ⟨_, rfl, ?_⟩
      have HO538 := Aside0.mk (Kd.R_lower ho0 (below_size bS))
      replace HO_524002 := sB HO_524002 hb
      replace HO_524003 := Aside0.mk (Kd.S_elder' (sS HO_524003) (Kd.R_base ho0) hb)
      replace HO532 := sB HO532 hb
      replace HO535 := Aside0.mk (Kd.S_elder' (sS HO535) (Kd.R_base ho0) hb)
      replace BK512 := kB (g := gb512) hb
      replace BK513 := kB (g := gb513) hb
      replace BK514 := kB (g := gb514) hb
      replace BK523 := kB (g := gb523) hb
      replace HB := hB hb
      (try clear hb)
      (try clear hb2)
      (try clear hk)
      (try clear hi)
      (try clear ho0)
      obtain ⟨Ao71, co71, eo71⟩ := Kd.R_slice HO538.out
      (first | subst eo71 | (injection eo71 with f1_ f2_ f3_; have f4_ := f1_.symm; have f5_ := f3_.symm; clear f1_ f2_ f3_; subst f4_; subst f5_))
      refine hK.out _ _ ⟨(blk_cell BK523.out 0).trans rfl, (blk_cell BK523.out 1).trans rfl, (blk_cell BK523.out 2).trans rfl, (blk_cell BK523.out 3).trans rfl, (blk_cell BK513.out 0).trans rfl, (blk_cell BK513.out 1).trans rfl, (blk_cell BK513.out 2).trans rfl, (blk_cell BK513.out 3).trans rfl, (blk_cell BK513.out 4).trans rfl, (blk_cell BK513.out 5).trans rfl⟩ (fun hHeld => ?_)
      clear hK K
      refine norm_ (a' := ?_) ?_ ?_
      rotate_left
      ·show Act.put _ (some 39) _ = _
       simp only [Act.put, List.setIfInBounds_toArray, List.set_cons_zero, List.set_cons_succ, i64_w, i32_w]
       rfl
      refine one_ (i := 4) (N := some 40) #[true, true, true, true, true, false, false, false] rfl rfl (one_of HT_.out (by kernel_rfl)) (by decide) (fun K hK => ?_)
      refine value_ (w1 := ?_) (v := ?_) (by rfl) rfl ?_ ?_
      rotate_left 2
      ·go_simp
       constructor
       ·rfl
       ·rfl
      refine hK.out _ _ ⟨(blk_cell (blk_alloc BK523.out _) 0).trans rfl, (blk_cell (blk_alloc BK523.out _) 1).trans rfl, (blk_cell (blk_alloc BK523.out _) 2).trans rfl, (blk_cell (blk_alloc BK523.out _) 3).trans rfl, (blk_cell (blk_alloc BK513.out _) 0).trans rfl, (blk_cell (blk_alloc BK513.out _) 1).trans rfl, (blk_cell (blk_alloc BK513.out _) 2).trans rfl, (blk_cell (blk_alloc BK513.out _) 3).trans rfl, (blk_cell (blk_alloc BK513.out _) 4).trans rfl, (blk_cell (blk_alloc BK513.out _) 5).trans rfl⟩ (fun hHeld => ?_)
      clear hK K
      refine norm_ (a' := ?_) ?_ ?_
      rotate_left
      ·show Act.put _ (some 40) _ = _
       simp only [Act.put, List.setIfInBounds_toArray, List.set_cons_zero, List.set_cons_succ, i64_w, i32_w]
       rfl
      refine one_ (i := 5) (N := some 41) #[true, true, true, true, true, true, false, false] rfl rfl (one_of HT_.out (by kernel_rfl)) (by decide) (fun K hK => ?_)
      refine Kd.S_append_step k45 (w0 := w) w.heap.size (by rfl) (.tmp 37) (.tmp 40) 24 45 (.agg #[(.slice none 0 0), (.int .i64 0), (.int .i64 0), (.int .i64 0), (.int .i64 0), (.int .i64 0)]) 64 rfl Try.underlying24 info45 rfl (by decide) (by omega) (.slice Ao66 t533.length co66) t533 (⟨t536, t539, (⟨t540, t541, t542, t543⟩ : S43)⟩ : S45) [.slice Ao71 t536.length co71, .int .i64 t539, .int .i64 t540, .int .i64 t541, .int .i64 t542, .int .i64 t543] (fun k_ => some k_ ≠ (.slice Ao18 t520.length co18 : Value).ownBlock ∧ k_ ≠ gb513) (fun k_ => some k_ = (.slice Ao71 t536.length co71 : Value).ownBlock) rfl rfl ?aP (fun k_ hk_ => ((Kd.R_mono (ok' := fun k_ => ((fun k_ => some k_ ≠ (.slice Ao18 t520.length co18 : Value).ownBlock ∧ k_ ≠ gb513)) k_ ∧ some k_ ≠ (.slice Ao66 t533.length co66 : Value).ownBlock) (Kd.R_types (Kd.R_apart' (Kd.R_apart' (HO538.out) (Kd.S_typed HO_524003.out) (by decide)) (Kd.S_typed HO535.out) (by decide)) BK513.out (by decide)) (fun k_ hk => ⟨⟨hk.1.1.2, hk.2⟩, hk.1.2⟩))).1 k_ hk_.symm) ?aF ?aO ?aB ?aS ?aL ?_
      (case aP => exact k45_mkM _ _ _ (⟨t536, t539, (⟨t540, t541, t542, t543⟩ : S43)⟩ : S45) (Kd.R_mono (Kd.R_tight rfl (Kd.R_mono (ok' := fun k_ => ((fun k_ => some k_ ≠ (.slice Ao18 t520.length co18 : Value).ownBlock ∧ k_ ≠ gb513)) k_ ∧ some k_ ≠ (.slice Ao66 t533.length co66 : Value).ownBlock) (Kd.R_types (Kd.R_apart' (Kd.R_apart' (HO538.out) (Kd.S_typed HO_524003.out) (by decide)) (Kd.S_typed HO535.out) (by decide)) BK513.out (by decide)) (fun k_ hk => ⟨⟨hk.1.1.2, hk.2⟩, hk.1.2⟩))) (fun _ h_ => h_)))
      (case aB => exact bS)
      (case aF => exact (fun k_ hk => ⟨Kd.fresh' (Kd.S_lt (sS HO_524003)) k_ hk, Kd.freshB (g := gb513) kS k_ hk⟩))
      (case aO => exact (by exact sT (Kd.S_mono HO535.out (fun k_ hk => ⟨⟨hk.1.1, hk.1.2⟩, fun e_ => hk.2 e_⟩))))
      (case aS => exact (below_size bS))
      (case aL => have := LMc50.out; omega)
      intro v545 w70 ho hb hg hat
      rw [← Ny544.out] at ho
      have HO546 := Aside0.mk (ho)
      replace HO_524002 := Aside0.mk (Kd.S_over' (sS HO_524002) (Kd.S_typed (sS HO535)) (by decide) hg)
      replace HO_524003 := Aside0.mk (Kd.S_after (ok := (fun k_ => some k_ ≠ (.slice Ao71 t536.length co71 : Value).ownBlock ∧ k_ ≠ gb513)) (by exact sT (Kd.S_mono HO_524003.out (fun _ hk => ⟨⟨hk.2, hk.1.2⟩, hk.1.1⟩))) hg hat)
      replace BK512 := Aside0.mk (blk_grown (g := gb512) kS hg (Kd.S_ne HO535.out BK512.out (by decide)))
      replace BK513 := Aside0.mk (blk_grown (g := gb513) kS hg (Kd.S_away HO535.out (fun _ hk => hk.1.2)))
      replace BK514 := Aside0.mk (blk_grown (g := gb514) kS hg (Kd.S_ne HO535.out BK514.out (by decide)))
      replace BK523 := Aside0.mk (blk_grown (g := gb523) kS hg (Kd.S_ne HO535.out BK523.out (by decide)))
      replace HO532 := Aside0.mk (Kd.S_over' (sS HO532) (Kd.S_typed (sS HO535)) (by decide) hg)
      replace HB := Aside0.mk (hb)
      clear HO535 HO538
      clear ho hb hg hat
      obtain ⟨Ao72, co72, eo72⟩ := Kd.S_slice HO546.out
      (first | subst eo72 | (injection eo72 with f1_ f2_ f3_; have f4_ := f1_.symm; have f5_ := f3_.symm; clear f1_ f2_ f3_; subst f4_; subst f5_))
      refine hK.out _ _ ⟨(blk_cell BK523.out 0).trans rfl, (blk_cell BK523.out 1).trans rfl, (blk_cell BK523.out 2).trans rfl, (blk_cell BK523.out 3).trans rfl, (blk_cell BK513.out 0).trans rfl, (blk_cell BK513.out 1).trans rfl, (blk_cell BK513.out 2).trans rfl, (blk_cell BK513.out 3).trans rfl, (blk_cell BK513.out 4).trans rfl, (blk_cell BK513.out 5).trans rfl⟩ (fun hHeld => ?_)
      clear hK K
      refine norm_ (a' := ?_) ?_ ?_
      rotate_left
      ·show Act.put _ (some 41) _ = _
       simp only [Act.put, List.setIfInBounds_toArray, List.set_cons_zero, List.set_cons_succ, i64_w, i32_w]
       rfl
      refine pU 6 (some 42) #[true, true, true, true, true, true, true, false] ?_
      refine last_ (i := 7) (N := none) #[true, true, true, true, true, true, true, true] rfl rfl (one_of HT_.out (by kernel_rfl)) (by decide) (fun K hK => ?_)
      have hs73 : w70.cell? ⟨gb523, 3, none⟩ = some (.slice Ao66 t533.length co66) := (blk_cell BK523.out 3).trans rfl
      have hfs73 := blk_frozen BK523.out 3
      have hns73_0 := NB512_523.out
      have hns73_1 := NB513_523.out
      have hns73_2 := NB514_523.out
      have hms73_0 := NB523_512.out
      have hms73_1 := NB523_513.out
      have hms73_2 := NB523_514.out
      refine skip_ (w1 := ?_) (by rfl) rfl ?_ ?_
      rotate_left
      ·go_simp
       rfl
      refine hK.out _ _ ?_
      clear hK K
      refine done_ (done_of HT_.out (by kernel_rfl)) ?_
      have hz74 := cz4 BK523
      have hz75 := cz4 BK514
      try go_wp2
      refine bodyPost_ret (results_ct rfl _ _ gb514 58 #[.int .i64 t528, .int .i64 t529, .slice Ao65 t530.length co65, .slice Ao72 y544.length co72] (0, 0) _ rfl kS Try.underlying58 rfl (by kernel_rfl)) rfl ?_
      exact ⟨_, _, eS, by exact sT (Kd.S_mono (Kd.S_far (p := ⟨gb514, 3, none⟩) (Kd.S_far (p := ⟨gb514, 2, none⟩) (Kd.S_far (p := ⟨gb514, 1, none⟩) (Kd.S_far (p := ⟨gb514, 0, none⟩) (Kd.S_far (p := ⟨gb523, 3, none⟩) (Kd.S_types (Kd.S_types HO532.out BK523.out (by decide)) BK514.out (by decide)) (fun _ hk => hk.1.2) (.slice Ao72 y544.length co72)) (fun _ hk => hk.2) (.int .i64 t528)) (fun _ hk => hk.2) (.int .i64 t529)) (fun _ hk => hk.2) (.slice Ao65 t530.length co65)) (fun _ hk => hk.2) (.slice Ao72 y544.length co72)) (fun _ hk => trivial)), by exact sT (Kd.S_mono (Kd.S_far (p := ⟨gb514, 3, none⟩) (Kd.S_far (p := ⟨gb514, 2, none⟩) (Kd.S_far (p := ⟨gb514, 1, none⟩) (Kd.S_far (p := ⟨gb514, 0, none⟩) (Kd.S_far (p := ⟨gb523, 3, none⟩) (Kd.S_types (Kd.S_types HO546.out BK523.out (by decide)) BK514.out (by decide)) (fun _ hk => hk.1.2) (.slice Ao72 y544.length co72)) (fun _ hk => hk.2) (.int .i64 t528)) (fun _ hk => hk.2) (.int .i64 t529)) (fun _ hk => hk.2) (.slice Ao65 t530.length co65)) (fun _ hk => hk.2) (.slice Ao72 y544.length co72)) (fun _ hk => trivial)), bS⟩
     ·rw [if_neg c47] at H
      have c47b0 : decide (60 < (wrap64 ((wrap64 (t527 + 2)) + (l1_0.length : Int)))) = false := decide_eq_false c47
      clear c47
      replace H := bN H
      obtain ⟨⟨t547, t550, t551, t552, t553, t554⟩, A76, H⟩ := H
      obtain ⟨LMc77, H⟩ := iL H
      obtain ⟨y555, hy555⟩ : ∃ y_ : List (S45), y_ = (t520 ++ [(⟨t547, t550, (⟨t551, t552, t553, t554⟩ : S43)⟩ : S45)]) := ⟨_, rfl⟩
      replace H : (some (t515, t516, t517, y555, true)) = some (r1, r2, r3, r4, r5) := by first | (rw [hy555]; with_reducible exact H) | (have H2_ := (Option.bind_some _ _).symm.trans H; rw [hy555]; with_reducible exact H2_) | (have H2_ := (Option.bind_some _ _).symm.trans H; with_reducible exact H2_) | with_reducible exact H | (rw [hy555]; exact H) | exact H
      have Ny555 := Aside0.mk hy555
      clear hy555
      obtain ⟨rfl, rfl, rfl, rfl, rfl⟩ := sI5 H
      have hnb78 := NB513_512.out
      have hnc78 := NB512_513.out
      have hnb79 := NB513_514.out
      have hnc79 := NB514_513.out
      have hnb80 := NB513_523.out
      have hnc80 := NB523_513.out
      have hz81 := cz6 BK513
      have hnb82 := NB512_514.out
      have hnc82 := NB514_512.out
      have hnb83 := NB512_523.out
      have hnc83 := NB523_512.out
      have hz84 := cz4 BK512
      try go_wp2_with (first | ((with_reducible refine gC 100 ?_); refine cL (some 23) Try.func100 #[.agg #[.slice A1_0 l1_0.length c1_0, .int .i64 a1_1, .int .i64 a1_2, .int .i64 a1_3, .int .i64 a1_4, .int .i64 a1_5], .int .i64 a0_0, .int .i64 a0_1] ?_; (with_reducible refine (spec_TouchesBand.calls kj3 _ _ l1_0 a1_1 a1_2 a1_3 a1_4 a1_5 a0_0 a0_1 _ _ (cS (Kd.C_below HR1_0.out HB.out)) HC1_0.out A44.out).mono ?_); rintro e w85 ⟨rfl, hb⟩; refine ⟨_, rfl, ?_⟩; replace HO_524002 := sB HO_524002 hb; replace HO_524003 := sB HO_524003 hb; replace BK512 := kB (g := gb512) hb; replace BK513 := kB (g := gb513) hb; replace BK514 := kB (g := gb514) hb; replace BK523 := kB (g := gb523) hb; replace HB := hB hb; (try clear hb); (try clear hb2); (try clear hk); (try clear hi)))
      replace HO_524002 := Aside0.mk (Kd.S_drew HO_524002.out)
      replace HO_524003 := Aside0.mk (Kd.S_drew HO_524003.out)
      replace BK512 := Aside0.mk (blk_drew BK512.out)
      replace BK513 := Aside0.mk (blk_drew BK513.out)
      replace BK514 := Aside0.mk (blk_drew BK514.out)
      replace BK523 := Aside0.mk (blk_drew BK523.out)
      replace HB := Aside0.mk (below_drew1 HB.out)
      refine start_ (n := 8) (S := fun w' => w'.cell? ⟨gb512, 0, none⟩ = some (.int .i64 a0_0) ∧ w'.cell? ⟨gb512, 1, none⟩ = some (.int .i64 a0_1) ∧ w'.cell? ⟨gb512, 2, none⟩ = some (.slice A0_2 l0_2.length c0_2) ∧ w'.cell? ⟨gb512, 3, none⟩ = some (.slice A0_3 l0_3.length c0_3) ∧ w'.cell? ⟨gb513, 0, none⟩ = some (.slice A1_0 l1_0.length c1_0) ∧ w'.cell? ⟨gb513, 1, none⟩ = some (.int .i64 a1_1) ∧ w'.cell? ⟨gb513, 2, none⟩ = some (.int .i64 a1_2) ∧ w'.cell? ⟨gb513, 3, none⟩ = some (.int .i64 a1_3) ∧ w'.cell? ⟨gb513, 4, none⟩ = some (.int .i64 a1_4) ∧ w'.cell? ⟨gb513, 5, none⟩ = some (.int .i64 a1_5)) (ds := []) #[false, false, false, false, false, false, false, false] (by kernel_rfl) rfl rfl ⟨(blk_cell BK512.out 0).trans rfl, (blk_cell BK512.out 1).trans rfl, (blk_cell BK512.out 2).trans rfl, (blk_cell BK512.out 3).trans rfl, (blk_cell BK513.out 0).trans rfl, (blk_cell BK513.out 1).trans rfl, (blk_cell BK513.out 2).trans rfl, (blk_cell BK513.out 3).trans rfl, (blk_cell BK513.out 4).trans rfl, (blk_cell BK513.out 5).trans rfl⟩ (fun hHeld => ?_); refine with_tabW spec_AddToBand.tab6 spec_AddToBand.bits6 (fun HT_ HW_ => ?_)
      generalize w85.drew = w86 at HO_524002 HO_524003 BK512 BK513 BK514 BK523 HB hHeld ⊢
      refine pU 3 (some 29) #[false, false, false, true, false, false, false, false] ?_
      refine tK 0 (some 26) #[true, false, false, true, false, false, false, false] ?_
      refine tK 4 (some 30) #[true, false, false, true, true, false, false, false] ?_
      refine pU 5 (some 31) #[true, false, false, true, true, true, false, false] ?_
      refine one_ (i := 1) (N := some 27) #[true, true, false, true, true, true, false, false] rfl rfl (one_of HT_.out (by kernel_rfl)) (by decide) (fun K hK => ?_)
      refine goes_ Try.func98 (by kernel_rfl) rfl #[.agg #[.int .i64 a0_0, .int .i64 a0_1, .slice A0_2 l0_2.length c0_2, .slice A0_3 l0_3.length c0_3]] (by rfl) rfl rfl (by (try simp only [List.map_toArray, List.map_cons, List.map_nil]); first | done | rfl | (simp only [List.length_drop, List.length_take]; rfl)) ?_
      with_reducible refine (spec_BandCells.calls kj3 a0_0 a0_1 _ _ l0_2 _ _ l0_3 t527 _ ?side1 ?side2 ?side3 ?side4 A46.out).mono ?_
      (case side1 => exact cS (Kd.C_below HR0_2.out HB.out))
      (case side2 => exact HC0_2.out)
      (case side3 => exact cS (Kd.C_below HR0_3.out HB.out))
      (case side4 => exact HC0_3.out)
      rintro e w87 ⟨rfl, hb⟩
      refine ⟨_, rfl, ?_⟩
      replace HO_524002 := sB HO_524002 hb
      replace HO_524003 := sB HO_524003 hb
      replace BK512 := kB (g := gb512) hb
      replace BK513 := kB (g := gb513) hb
      replace BK514 := kB (g := gb514) hb
      replace BK523 := kB (g := gb523) hb
      replace HB := hB hb
      (try clear hb)
      (try clear hb2)
      (try clear hk)
      (try clear hi)
      refine hK.out _ _ ⟨(blk_cell BK512.out 0).trans rfl, (blk_cell BK512.out 1).trans rfl, (blk_cell BK512.out 2).trans rfl, (blk_cell BK512.out 3).trans rfl, (blk_cell BK513.out 0).trans rfl, (blk_cell BK513.out 1).trans rfl, (blk_cell BK513.out 2).trans rfl, (blk_cell BK513.out 3).trans rfl, (blk_cell BK513.out 4).trans rfl, (blk_cell BK513.out 5).trans rfl⟩ (fun hHeld => ?_)
      clear hK K
      refine norm_ (a' := ?_) ?_ ?_
      rotate_left
      ·show Act.put _ (some 27) _ = _
       simp only [Act.put, List.setIfInBounds_toArray, List.set_cons_zero, List.set_cons_succ, i64_w, i32_w]
       rfl
      refine pU 2 (some 28) #[true, true, true, true, true, true, false, false] ?_
      refine pU 6 (some 32) #[true, true, true, true, true, true, true, false] ?_
      refine pU 7 (some 33) #[true, true, true, true, true, true, true, true] ?_
      refine done_ (done_of HT_.out (by kernel_rfl)) ?_
      try go_wp2
      replace HO_524002 := Aside0.mk (Kd.S_drew HO_524002.out)
      replace HO_524003 := Aside0.mk (Kd.S_drew HO_524003.out)
      replace BK512 := Aside0.mk (blk_drew BK512.out)
      replace BK513 := Aside0.mk (blk_drew BK513.out)
      replace BK514 := Aside0.mk (blk_drew BK514.out)
      replace BK523 := Aside0.mk (blk_drew BK523.out)
      replace HB := Aside0.mk (below_drew1 HB.out)
      refine start_ (n := 8) (S := fun w' => w'.cell? ⟨gb523, 0, none⟩ = some (.int .i64 t515) ∧ w'.cell? ⟨gb523, 1, none⟩ = some (.int .i64 t516) ∧ w'.cell? ⟨gb523, 2, none⟩ = some (.slice Ao17 t517.length co17) ∧ w'.cell? ⟨gb523, 3, none⟩ = some (.slice Ao18 t520.length co18) ∧ w'.cell? ⟨gb513, 0, none⟩ = some (.slice A1_0 l1_0.length c1_0) ∧ w'.cell? ⟨gb513, 1, none⟩ = some (.int .i64 a1_1) ∧ w'.cell? ⟨gb513, 2, none⟩ = some (.int .i64 a1_2) ∧ w'.cell? ⟨gb513, 3, none⟩ = some (.int .i64 a1_3) ∧ w'.cell? ⟨gb513, 4, none⟩ = some (.int .i64 a1_4) ∧ w'.cell? ⟨gb513, 5, none⟩ = some (.int .i64 a1_5)) (ds := [7]) #[false, false, false, false, false, false, false, false] (by kernel_rfl) rfl rfl ⟨(blk_cell BK523.out 0).trans rfl, (blk_cell BK523.out 1).trans rfl, (blk_cell BK523.out 2).trans rfl, (blk_cell BK523.out 3).trans rfl, (blk_cell BK513.out 0).trans rfl, (blk_cell BK513.out 1).trans rfl, (blk_cell BK513.out 2).trans rfl, (blk_cell BK513.out 3).trans rfl, (blk_cell BK513.out 4).trans rfl, (blk_cell BK513.out 5).trans rfl⟩ (fun hHeld => ?_); refine with_tabW spec_AddToBand.tab8 spec_AddToBand.bits8 (fun HT_ HW_ => ?_)
      generalize w87.drew = w88 at HO_524002 HO_524003 BK512 BK513 BK514 BK523 HB hHeld ⊢
      refine pU 0 (some 36) #[true, false, false, false, false, false, false, false] ?_
      refine tK 1 (some 37) #[true, true, false, false, false, false, false, false] ?_
      refine tK 2 (some 38) #[true, true, true, false, false, false, false, false] ?_
      refine one_ (i := 3) (N := some 39) #[true, true, true, true, false, false, false, false] rfl rfl (one_of HT_.out (by kernel_rfl)) (by decide) (fun K hK => ?_)
      refine goes_ Try.func181 (by kernel_rfl) rfl #[.agg #[.slice A1_0 l1_0.length c1_0, .int .i64 a1_1, .int .i64 a1_2, .int .i64 a1_3, .int .i64 a1_4, .int .i64 a1_5]] (by rfl) rfl rfl (by (try simp only [List.map_toArray, List.map_cons, List.map_nil]); first | done | rfl | (simp only [List.length_drop, List.length_take]; rfl)) ?_
      with_reducible refine (spec_l07Shape.calls _ _ l1_0 a1_1 a1_2 a1_3 a1_4 a1_5 t547 t550 t551 t552 t553 t554 _ ?side1 ?side2 A76.out).mono ?_
      (case side1 => exact cS (Kd.C_below HR1_0.out HB.out))
      (case side2 => exact HC1_0.out)
      rintro e w89 ⟨v548, rfl, ho0, hb⟩
      refine ⟨_, rfl, ?_⟩
      have HO549 := Aside0.mk (Kd.R_lower ho0 (below_size bS))
      replace HO_524002 := sB HO_524002 hb
      replace HO_524003 := Aside0.mk (Kd.S_elder' (sS HO_524003) (Kd.R_base ho0) hb)
      replace BK512 := kB (g := gb512) hb
      replace BK513 := kB (g := gb513) hb
      replace BK514 := kB (g := gb514) hb
      replace BK523 := kB (g := gb523) hb
      replace HB := hB hb
      (try clear hb)
      (try clear hb2)
      (try clear hk)
      (try clear hi)
      (try clear ho0)
      obtain ⟨Ao91, co91, eo91⟩ := Kd.R_slice HO549.out
      (first | subst eo91 | (injection eo91 with f1_ f2_ f3_; have f4_ := f1_.symm; have f5_ := f3_.symm; clear f1_ f2_ f3_; subst f4_; subst f5_))
      refine hK.out _ _ ⟨(blk_cell BK523.out 0).trans rfl, (blk_cell BK523.out 1).trans rfl, (blk_cell BK523.out 2).trans rfl, (blk_cell BK523.out 3).trans rfl, (blk_cell BK513.out 0).trans rfl, (blk_cell BK513.out 1).trans rfl, (blk_cell BK513.out 2).trans rfl, (blk_cell BK513.out 3).trans rfl, (blk_cell BK513.out 4).trans rfl, (blk_cell BK513.out 5).trans rfl⟩ (fun hHeld => ?_)
      clear hK K
      refine norm_ (a' := ?_) ?_ ?_
      rotate_left
      ·show Act.put _ (some 39) _ = _
       simp only [Act.put, List.setIfInBounds_toArray, List.set_cons_zero, List.set_cons_succ, i64_w, i32_w]
       rfl
      refine one_ (i := 4) (N := some 40) #[true, true, true, true, true, false, false, false] rfl rfl (one_of HT_.out (by kernel_rfl)) (by decide) (fun K hK => ?_)
      refine value_ (w1 := ?_) (v := ?_) (by rfl) rfl ?_ ?_
      rotate_left 2
      ·go_simp
       constructor
       ·rfl
       ·rfl
      refine hK.out _ _ ⟨(blk_cell (blk_alloc BK523.out _) 0).trans rfl, (blk_cell (blk_alloc BK523.out _) 1).trans rfl, (blk_cell (blk_alloc BK523.out _) 2).trans rfl, (blk_cell (blk_alloc BK523.out _) 3).trans rfl, (blk_cell (blk_alloc BK513.out _) 0).trans rfl, (blk_cell (blk_alloc BK513.out _) 1).trans rfl, (blk_cell (blk_alloc BK513.out _) 2).trans rfl, (blk_cell (blk_alloc BK513.out _) 3).trans rfl, (blk_cell (blk_alloc BK513.out _) 4).trans rfl, (blk_cell (blk_alloc BK513.out _) 5).trans rfl⟩ (fun hHeld => ?_)
      clear hK K
      refine norm_ (a' := ?_) ?_ ?_
      rotate_left
      ·show Act.put _ (some 40) _ = _
       simp only [Act.put, List.setIfInBounds_toArray, List.set_cons_zero, List.set_cons_succ, i64_w, i32_w]
       rfl
      refine one_ (i := 5) (N := some 41) #[true, true, true, true, true, true, false, false] rfl rfl (one_of HT_.out (by kernel_rfl)) (by decide) (fun K hK => ?_)
      refine Kd.S_append_step k45 (w0 := w) w.heap.size (by rfl) (.tmp 37) (.tmp 40) 24 45 (.agg #[(.slice none 0 0), (.int .i64 0), (.int .i64 0), (.int .i64 0), (.int .i64 0), (.int .i64 0)]) 64 rfl Try.underlying24 info45 rfl (by decide) (by omega) (.slice Ao18 t520.length co18) t520 (⟨t547, t550, (⟨t551, t552, t553, t554⟩ : S43)⟩ : S45) [.slice Ao91 t547.length co91, .int .i64 t550, .int .i64 t551, .int .i64 t552, .int .i64 t553, .int .i64 t554] (fun k_ => k_ ≠ gb513) (fun k_ => some k_ = (.slice Ao91 t547.length co91 : Value).ownBlock) rfl rfl ?aP (fun k_ hk_ => ((Kd.R_mono (ok' := fun k_ => ((fun k_ => k_ ≠ gb513)) k_ ∧ some k_ ≠ (.slice Ao18 t520.length co18 : Value).ownBlock) (Kd.R_types (Kd.R_apart' (HO549.out) (Kd.S_typed HO_524003.out) (by decide)) BK513.out (by decide)) (fun k_ hk => ⟨hk.2, hk.1.2⟩))).1 k_ hk_.symm) ?aF ?aO ?aB ?aS ?aL ?_
      (case aP => exact k45_mkM _ _ _ (⟨t547, t550, (⟨t551, t552, t553, t554⟩ : S43)⟩ : S45) (Kd.R_mono (Kd.R_tight rfl (Kd.R_mono (ok' := fun k_ => ((fun k_ => k_ ≠ gb513)) k_ ∧ some k_ ≠ (.slice Ao18 t520.length co18 : Value).ownBlock) (Kd.R_types (Kd.R_apart' (HO549.out) (Kd.S_typed HO_524003.out) (by decide)) BK513.out (by decide)) (fun k_ hk => ⟨hk.2, hk.1.2⟩))) (fun _ h_ => h_)))
      (case aB => exact bS)
      (case aF => exact (fun k_ hk => Kd.freshB (g := gb513) kS k_ hk))
      (case aO => exact (by exact sT (Kd.S_mono HO_524003.out (fun k_ hk => ⟨hk.1, fun e_ => hk.2 e_⟩))))
      (case aS => exact (below_size bS))
      (case aL => have := LMc77.out; omega)
      intro v556 w90 ho hb hg hat
      rw [← Ny555.out] at ho
      have HO557 := Aside0.mk (ho)
      replace HO_524002 := Aside0.mk (Kd.S_over' (sS HO_524002) (Kd.S_typed (sS HO_524003)) (by decide) hg)
      replace BK512 := Aside0.mk (blk_grown (g := gb512) kS hg (Kd.S_ne HO_524003.out BK512.out (by decide)))
      replace BK513 := Aside0.mk (blk_grown (g := gb513) kS hg (Kd.S_away HO_524003.out (fun _ hk => hk.1)))
      replace BK514 := Aside0.mk (blk_grown (g := gb514) kS hg (Kd.S_ne HO_524003.out BK514.out (by decide)))
      replace BK523 := Aside0.mk (blk_grown (g := gb523) kS hg (Kd.S_ne HO_524003.out BK523.out (by decide)))
      replace HB := Aside0.mk (hb)
      clear HO_524003 HO549
      clear ho hb hg hat
      obtain ⟨Ao92, co92, eo92⟩ := Kd.S_slice HO557.out
      (first | subst eo92 | (injection eo92 with f1_ f2_ f3_; have f4_ := f1_.symm; have f5_ := f3_.symm; clear f1_ f2_ f3_; subst f4_; subst f5_))
      refine hK.out _ _ ⟨(blk_cell BK523.out 0).trans rfl, (blk_cell BK523.out 1).trans rfl, (blk_cell BK523.out 2).trans rfl, (blk_cell BK523.out 3).trans rfl, (blk_cell BK513.out 0).trans rfl, (blk_cell BK513.out 1).trans rfl, (blk_cell BK513.out 2).trans rfl, (blk_cell BK513.out 3).trans rfl, (blk_cell BK513.out 4).trans rfl, (blk_cell BK513.out 5).trans rfl⟩ (fun hHeld => ?_)
      clear hK K
      refine norm_ (a' := ?_) ?_ ?_
      rotate_left
      ·show Act.put _ (some 41) _ = _
       simp only [Act.put, List.setIfInBounds_toArray, List.set_cons_zero, List.set_cons_succ, i64_w, i32_w]
       rfl
      refine pU 6 (some 42) #[true, true, true, true, true, true, true, false] ?_
      refine last_ (i := 7) (N := none) #[true, true, true, true, true, true, true, true] rfl rfl (one_of HT_.out (by kernel_rfl)) (by decide) (fun K hK => ?_)
      have hs93 : w90.cell? ⟨gb523, 3, none⟩ = some (.slice Ao18 t520.length co18) := (blk_cell BK523.out 3).trans rfl
      have hfs93 := blk_frozen BK523.out 3
      have hns93_0 := NB512_523.out
      have hns93_1 := NB513_523.out
      have hns93_2 := NB514_523.out
      have hms93_0 := NB523_512.out
      have hms93_1 := NB523_513.out
      have hms93_2 := NB523_514.out
      refine skip_ (w1 := ?_) (by rfl) rfl ?_ ?_
      rotate_left
      ·go_simp
       rfl
      refine hK.out _ _ ?_
      clear hK K
      refine done_ (done_of HT_.out (by kernel_rfl)) ?_
      have hnb94 := NB523_514.out
      have hnc94 := NB514_523.out
      have hz95 := cz4 BK523
      have hz96 := cz4 BK514
      try go_wp2
      refine bodyPost_ret (results_ct rfl _ _ gb514 58 #[.int .i64 t515, .int .i64 t516, .slice Ao17 t517.length co17, .slice Ao92 y555.length co92] (0, 0) _ rfl kS Try.underlying58 rfl (by kernel_rfl)) rfl ?_
      exact ⟨_, _, eS, by exact sT (Kd.S_mono (Kd.S_far (p := ⟨gb514, 3, none⟩) (Kd.S_far (p := ⟨gb514, 2, none⟩) (Kd.S_far (p := ⟨gb514, 1, none⟩) (Kd.S_far (p := ⟨gb514, 0, none⟩) (Kd.S_far (p := ⟨gb523, 3, none⟩) (Kd.S_types (Kd.S_types HO_524002.out BK523.out (by decide)) BK514.out (by decide)) (fun _ hk => hk.1.2) (.slice Ao92 y555.length co92)) (fun _ hk => hk.2) (.int .i64 t515)) (fun _ hk => hk.2) (.int .i64 t516)) (fun _ hk => hk.2) (.slice Ao17 t517.length co17)) (fun _ hk => hk.2) (.slice Ao92 y555.length co92)) (fun _ hk => trivial)), by exact sT (Kd.S_mono (Kd.S_far (p := ⟨gb514, 3, none⟩) (Kd.S_far (p := ⟨gb514, 2, none⟩) (Kd.S_far (p := ⟨gb514, 1, none⟩) (Kd.S_far (p := ⟨gb514, 0, none⟩) (Kd.S_far (p := ⟨gb523, 3, none⟩) (Kd.S_types (Kd.S_types HO557.out BK523.out (by decide)) BK514.out (by decide)) (fun _ hk => hk.1.2) (.slice Ao92 y555.length co92)) (fun _ hk => hk.2) (.int .i64 t515)) (fun _ hk => hk.2) (.int .i64 t516)) (fun _ hk => hk.2) (.slice Ao17 t517.length co17)) (fun _ hk => hk.2) (.slice Ao92 y555.length co92)) (fun _ hk => trivial)), bS⟩
    ·obtain rfl := Bool.eq_false_iff.mpr c45
     rw [if_neg nF] at H
     obtain ⟨rfl, rfl, rfl, rfl, rfl⟩ := sI5 H
     have hnb97 := NB513_512.out
     have hnc97 := NB512_513.out
     have hnb98 := NB513_514.out
     have hnc98 := NB514_513.out
     have hnb99 := NB513_523.out
     have hnc99 := NB523_513.out
     have hz100 := cz6 BK513
     have hnb101 := NB512_514.out
     have hnc101 := NB514_512.out
     have hnb102 := NB512_523.out
     have hnc102 := NB523_512.out
     have hz103 := cz4 BK512
     go_wp2_with (first | ((with_reducible refine gC 100 ?_); refine cL (some 23) Try.func100 #[.agg #[.slice A1_0 l1_0.length c1_0, .int .i64 a1_1, .int .i64 a1_2, .int .i64 a1_3, .int .i64 a1_4, .int .i64 a1_5], .int .i64 a0_0, .int .i64 a0_1] ?_; (with_reducible refine (spec_TouchesBand.calls kj3 _ _ l1_0 a1_1 a1_2 a1_3 a1_4 a1_5 a0_0 a0_1 _ _ (cS (Kd.C_below HR1_0.out HB.out)) HC1_0.out A44.out).mono ?_); rintro e w104 ⟨rfl, hb⟩; refine ⟨_, rfl, ?_⟩; replace HO_524002 := sB HO_524002 hb; replace HO_524003 := sB HO_524003 hb; replace BK512 := kB (g := gb512) hb; replace BK513 := kB (g := gb513) hb; replace BK514 := kB (g := gb514) hb; replace BK523 := kB (g := gb523) hb; replace HB := hB hb; (try clear hb); (try clear hb2); (try clear hk); (try clear hi); have hnb105 := NB523_514.out; have hnc105 := NB514_523.out; have hz106 := cz4 BK523; have hz107 := cz4 BK514))
     refine bodyPost_ret (results_ct rfl _ _ gb514 58 #[.int .i64 t515, .int .i64 t516, .slice Ao17 t517.length co17, .slice Ao18 t520.length co18] (0, 0) _ rfl kS Try.underlying58 rfl (by kernel_rfl)) rfl ?_
     exact ⟨_, _, eS, by exact sT (Kd.S_mono (Kd.S_far (p := ⟨gb514, 3, none⟩) (Kd.S_far (p := ⟨gb514, 2, none⟩) (Kd.S_far (p := ⟨gb514, 1, none⟩) (Kd.S_far (p := ⟨gb514, 0, none⟩) (Kd.S_types HO_524002.out BK514.out (by decide)) (fun _ hk => hk.2) (.int .i64 t515)) (fun _ hk => hk.2) (.int .i64 t516)) (fun _ hk => hk.2) (.slice Ao17 t517.length co17)) (fun _ hk => hk.2) (.slice Ao18 t520.length co18)) (fun _ hk => trivial)), by exact sT (Kd.S_mono (Kd.S_far (p := ⟨gb514, 3, none⟩) (Kd.S_far (p := ⟨gb514, 2, none⟩) (Kd.S_far (p := ⟨gb514, 1, none⟩) (Kd.S_far (p := ⟨gb514, 0, none⟩) (Kd.S_types HO_524003.out BK514.out (by decide)) (fun _ hk => hk.2) (.int .i64 t515)) (fun _ hk => hk.2) (.int .i64 t516)) (fun _ hk => hk.2) (.slice Ao17 t517.length co17)) (fun _ hk => hk.2) (.slice Ao18 t520.length co18)) (fun _ hk => trivial)), bS⟩

end Go.Proofs.Ytigodjcnkgebaaa.QFnMerges
