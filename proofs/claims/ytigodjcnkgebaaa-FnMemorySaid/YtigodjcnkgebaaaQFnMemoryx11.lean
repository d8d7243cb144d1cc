-- Made out of the translation by a program of this session (a changed copy of the print). Not trusted: Lean checks it.
import Derived.Test.YtigodjcnkgebaaaQFnMemoryx0
import Derived.Test.YtigodjcnkgebaaaQFnMemoryx2
import Derived.Test.YtigodjcnkgebaaaQFnMemoryx3
import Derived.Test.YtigodjcnkgebaaaQFnMemoryx4
import Derived.Test.YtigodjcnkgebaaaQFnMemoryx9
import Derived.Test.YtigodjcnkgebaaaQFnMemoryx10
namespace Go.Proofs.Ytigodjcnkgebaaa.QFnMemory
open Go.RowKit Go.Proofs.YtigodjcnkgebaaaW.PrintWords Go.Proofs.YtigodjcnkgebaaaW.PrintLast Go.Proofs.YtigodjcnkgebaaaW.PrintMore
attribute [local go_sem] max2_int min2_int max_two min_two max_three min_three max_four min_four   -- for this text's walks alone
set_option linter.unusedVariables false
set_option linter.unusedSimpArgs false
set_option maxHeartbeats 8000000
set_option maxRecDepth 100000

/-! ### impl_AddToBand: function 69 -/
def impl_AddToBand.j0 : Nat → Bool → Int → Int → List (List Int) → List (S45) → List (S171) → Int → Int → Int → Int → Int → Option (Int × Int × (List (List Int)) × (List (S45)) × Bool)
 | 0, _, _, _, _, _, _, _, _, _, _, _ => none
 | k + 1, x14, x528000, x528001, x528002, x528003, x529000, x529001, x529002, x529003, x529004, x529005 => if x14 = true then ((impl_copyBand.f k x528000 x528001 x528002 x528003).bind fun bt532 => (some (bt532.1, bt532.2.1, bt532.2.2.1, bt532.2.2.2, false))) else ((impl_TouchesBand.f k x529000 x529001 x529002 x529003 x529004 x529005 x528000 x528001).bind fun t540 => (if t540 = true then ((impl_copyBand.f k x528000 x528001 x528002 x528003).bind fun bt549 => ((impl_BandCells.f k x528000 x528001 x528002 x528003).bind fun t558 => (if (wrap64 ((wrap64 (t558 + 2)) + (x529000.length : Int))) > 60 then ((impl_MergeBand.f k x528000 x528001 x528002 x528003).bind fun bt559 => ((impl_copyObject.f x529000 x529001 x529002 x529003 x529004 x529005).bind fun bt567 => (if bt559.2.2.2.length < 2199023255552 then (some (bt559.1, bt559.2.1, bt559.2.2.1, (bt559.2.2.2 ++ [(⟨bt567.1, bt567.2.1, (⟨bt567.2.2.1, bt567.2.2.2.1, bt567.2.2.2.2.1, bt567.2.2.2.2.2⟩ : S43)⟩ : S45)]), true)) else (none)))) else ((impl_copyObject.f x529000 x529001 x529002 x529003 x529004 x529005).bind fun bt578 => (if bt549.2.2.2.length < 2199023255552 then (some (bt549.1, bt549.2.1, bt549.2.2.1, (bt549.2.2.2 ++ [(⟨bt578.1, bt578.2.1, (⟨bt578.2.2.1, bt578.2.2.2.1, bt578.2.2.2.2.1, bt578.2.2.2.2.2⟩ : S43)⟩ : S45)]), true)) else (none)))))) else ((impl_copyBand.f k x528000 x528001 x528002 x528003).bind fun bt541 => (some (bt541.1, bt541.2.1, bt541.2.2.1, bt541.2.2.2, true)))))
def impl_AddToBand.f (k : Nat) (a0_0 : Int) (a0_1 : Int) (l0_2 : List (List Int)) (l0_3 : List (S45)) (l1_0 : List (S171)) (a1_1 : Int) (a1_2 : Int) (a1_3 : Int) (a1_4 : Int) (a1_5 : Int) : Option (Int × Int × (List (List Int)) × (List (S45)) × Bool) := (impl_BandOk.f k a0_0 a0_1 l0_2 l0_3).bind fun t530 => (if t530 = true then ((impl_ObjectOk.f k l1_0 a1_1 a1_2 a1_3 a1_4 a1_5).bind fun t531 => (impl_AddToBand.j0 k (!t531) a0_0 a0_1 l0_2 l0_3 l1_0 a1_1 a1_2 a1_3 a1_4 a1_5)) else (impl_AddToBand.j0 k true a0_0 a0_1 l0_2 l0_3 l1_0 a1_1 a1_2 a1_3 a1_4 a1_5))
def impl_AddToBand.T6 : Bool × List (List Nat × List Nat) := (true, [([], []), ([0], [0]), ([1], [1]), ([], []), ([3], [3]), ([4], [4]), ([2, 5], [2, 5]), ([6], [6])])
def impl_AddToBand.B6 : List Nat := [0, 1, 3, 0, 8, 24, 63, 127]
theorem impl_AddToBand.tab6 : rtab .any (opsOf Try.f69 6) = impl_AddToBand.T6 := by kernel_rfl
theorem impl_AddToBand.bits6 : waitsOk impl_AddToBand.T6.2 impl_AddToBand.B6 = true := by kernel_rfl
def impl_AddToBand.T8 : Bool × List (List Nat × List Nat) := (true, [([], []), ([0], [0]), ([], []), ([2], [2]), ([3], [3]), ([1, 4, 3], [1, 4]), ([0, 1, 2, 3, 4, 5], []), ([6, 5, 5, 0, 1, 2, 3, 4, 5], [5, 6])])
def impl_AddToBand.B8 : List Nat := [0, 1, 0, 4, 12, 31, 63, 127]
theorem impl_AddToBand.tab8 : rtab .any (opsOf Try.f69 8) = impl_AddToBand.T8 := by kernel_rfl
theorem impl_AddToBand.bits8 : waitsOk impl_AddToBand.T8.2 impl_AddToBand.B8 = true := by kernel_rfl
theorem impl_AddToBand.calls (k : Nat) (a0_0 : Int) (a0_1 : Int) (A0_2 : Option Addr) (c0_2 : Nat) (l0_2 : List (List Int)) (A0_3 : Option Addr) (c0_3 : Nat) (l0_3 : List (S45)) (A1_0 : Option Addr) (c1_0 : Nat) (l1_0 : List (S171)) (a1_1 : Int) (a1_2 : Int) (a1_3 : Int) (a1_4 : Int) (a1_5 : Int) (r1 : Int) (r2 : Int) (r3 : List (List Int)) (r4 : List (S45)) (r5 : Bool) (w : World) (hr0_2 : Kd.C (Kd.slice 3 (Kd.int .i64)) w A0_2 l0_2.length l0_2) (hc0_2 : l0_2.length ≤ c0_2) (hr0_3 : Kd.C k45 w A0_3 l0_3.length l0_3) (hc0_3 : l0_3.length ≤ c0_3) (hr1_0 : Kd.C k171 w A1_0 l1_0.length l1_0) (hc1_0 : l1_0.length ≤ c1_0) (h : impl_AddToBand.f k a0_0 a0_1 l0_2 l0_3 l1_0 a1_1 a1_2 a1_3 a1_4 a1_5 = some (r1, r2, r3, r4, r5)) :
  Calls Try.prog 69 #[.agg #[.int .i64 a0_0, .int .i64 a0_1, .slice A0_2 l0_2.length c0_2, .slice A0_3 l0_3.length c0_3], .agg #[.slice A1_0 l1_0.length c1_0, .int .i64 a1_1, .int .i64 a1_2, .int .i64 a1_3, .int .i64 a1_4, .int .i64 a1_5]] w fun e w' => ∃ v2_ v3_ : Value, e = .returned (.tuple #[.agg #[.int .i64 r1, .int .i64 r2, v2_, v3_], .bool r5]) ∧ Kd.S (Kd.slice 3 (Kd.int .i64)) 71 w' w.heap.size (fun _ => True) v2_ r3 ∧ Kd.S k45 45 w' w.heap.size (fun _ => True) v3_ r4 ∧ Below w.heap.size w w' := by
 have hu58 := Try.underlying58
 have hu45 := Try.underlying45
 have HR0_2 := Aside0.mk hr0_2
 have HC0_2 := Aside0.mk hc0_2
 clear hr0_2 hc0_2
 have HR0_3 := Aside0.mk hr0_3
 have HC0_3 := Aside0.mk hc0_3
 clear hr0_3 hc0_3
 have HR1_0 := Aside0.mk hr1_0
 have HC1_0 := Aside0.mk hc1_0
 clear hr1_0 hc1_0
 have HB := Aside0.mk (Below.refl w.heap.size w)
 have H : ((impl_BandOk.f k a0_0 a0_1 l0_2 l0_3).bind fun t530 => (if t530 = true then ((impl_ObjectOk.f k l1_0 a1_1 a1_2 a1_3 a1_4 a1_5).bind fun t531 => (impl_AddToBand.j0 k (!t531) a0_0 a0_1 l0_2 l0_3 l1_0 a1_1 a1_2 a1_3 a1_4 a1_5)) else (impl_AddToBand.j0 k true a0_0 a0_1 l0_2 l0_3 l1_0 a1_1 a1_2 a1_3 a1_4 a1_5))) = some (r1, r2, r3, r4, r5) := h
 clear h
 have HC3 := Aside0.mk H
 clear H
 go_enter Try.func69, Try.ntmps69
 go_upto_region 1 with (first | ((with_reducible refine gD 2 ?_); refine bxE #[.int .i64 a0_0, .int .i64 a0_1, .slice A0_2 l0_2.length c0_2, .slice A0_3 l0_3.length c0_3] 58 ?_; intro gb527 hg w4 BK527 hb; have GW527 := gE hg; have GE527 := gE hg; replace HB := hB hb; clear hb hg) | ((with_reducible refine gD 3 ?_); refine bxE #[.slice A1_0 l1_0.length c1_0, .int .i64 a1_1, .int .i64 a1_2, .int .i64 a1_3, .int .i64 a1_4, .int .i64 a1_5] 45 ?_; intro gb528 hg w5 BK528 hb; have GW528 := gE hg; have GE528 := gE hg; have NB527_528 := nL (g := gb527) hg; have NB528_527 := nG (g := gb527) hg; replace BK527 := kB (g := gb527) hb; replace HB := hB hb; clear hb hg) | ((with_reducible refine gD 4 ?_); refine bxE #[.int .i64 0, .int .i64 0, .slice none 0 0, .slice none 0 0] 58 ?_; intro gb529 hg w6 BK529 hb; have GW529 := gE hg; have GE529 := gE hg; have NB527_529 := nL (g := gb527) hg; have NB529_527 := nG (g := gb527) hg; have NB528_529 := nL (g := gb528) hg; have NB529_528 := nG (g := gb528) hg; replace BK527 := kB (g := gb527) hb; replace BK528 := kB (g := gb528) hb; replace HB := hB hb; clear hb hg))
 (try simp only [Act.put, List.setIfInBounds_toArray, List.set_cons_zero, List.set_cons_succ])
 go_cut [14] (fun v14 wc => ∃ (kq : Nat) (x14_2 : Bool), v14 = .bool x14_2 ∧ Aside0 (impl_AddToBand.j0 kq x14_2 a0_0 a0_1 l0_2 l0_3 l1_0 a1_1 a1_2 a1_3 a1_4 a1_5 = some (r1, r2, r3, r4, r5)) ∧ Aside0 (kq ≤ k) ∧ Aside0 (wc.heap[gb527]? = some (.cells #[.int .i64 a0_0, .int .i64 a0_1, (.slice A0_2 l0_2.length c0_2), (.slice A0_3 l0_3.length c0_3)] 58 (0, 0))) ∧ Aside0 (wc.heap[gb528]? = some (.cells #[(.slice A1_0 l1_0.length c1_0), .int .i64 a1_1, .int .i64 a1_2, .int .i64 a1_3, .int .i64 a1_4, .int .i64 a1_5] 45 (0, 0))) ∧ Aside0 (wc.heap[gb529]? = some (.cells #[.int .i64 0, .int .i64 0, (.slice none 0 0), (.slice none 0 0)] 58 (0, 0))) ∧ Aside0 (Below w.heap.size w wc))
 case first =>
  have H := HC3.out
  clear HC3
  replace H := bN H
  obtain ⟨t530, A7, H⟩ := H
  by_cases c8 : t530 = true
  ·subst c8
   rw [if_pos rfl] at H
   replace H := bN H
   obtain ⟨t531, A9, H⟩ := H
   have H' := Aside0.mk H
   clear H
   have hnb10 := NB527_528.out
   have hnc10 := NB528_527.out
   have hnb11 := NB527_529.out
   have hnc11 := NB529_527.out
   have hcz12_0 : w6.cell? ⟨gb527, 0, none⟩ = some (.int .i64 a0_0) := (blk_cell BK527.out 0).trans rfl
   have hcz12_1 : w6.cell? ⟨gb527, 1, none⟩ = some (.int .i64 a0_1) := (blk_cell BK527.out 1).trans rfl
   have hcz12_2 : w6.cell? ⟨gb527, 2, none⟩ = some (.slice A0_2 l0_2.length c0_2) := (blk_cell BK527.out 2).trans rfl
   have hcz12_3 : w6.cell? ⟨gb527, 3, none⟩ = some (.slice A0_3 l0_3.length c0_3) := (blk_cell BK527.out 3).trans rfl
   have hfz12_0 := blk_frozen BK527.out 0
   have hfz12_1 := blk_frozen BK527.out 1
   have hfz12_2 := blk_frozen BK527.out 2
   have hfz12_3 := blk_frozen BK527.out 3
   go_wp2_with (first | ((with_reducible refine gC 35 ?_); refine cL (some 8) Try.func35 #[.agg #[.int .i64 a0_0, .int .i64 a0_1, .slice A0_2 l0_2.length c0_2, .slice A0_3 l0_3.length c0_3]] ?_; (with_reducible refine (impl_BandOk.calls k a0_0 a0_1 _ _ l0_2 _ _ l0_3 _ _ ?side1 ?side2 ?side3 ?side4 A7.out).mono ?_); (case side1 => exact cS (Kd.C_below HR0_2.out HB.out)); (case side2 => exact HC0_2.out); (case side3 => exact cS (Kd.C_below HR0_3.out HB.out)); (case side4 => exact HC0_3.out); rintro e w13 ⟨rfl, hb⟩; refine ⟨_, rfl, ?_⟩; replace BK527 := kB (g := gb527) hb; replace BK528 := kB (g := gb528) hb; replace BK529 := kB (g := gb529) hb; replace HB := hB hb; (try clear hb); (try clear hb2); (try clear hk); (try clear hi); have hnb14 := NB528_529.out; have hnc14 := NB529_528.out; have hcz15_0 : w13.cell? ⟨gb528, 0, none⟩ = some (.slice A1_0 l1_0.length c1_0) := (blk_cell BK528.out 0).trans rfl; have hcz15_1 : w13.cell? ⟨gb528, 1, none⟩ = some (.int .i64 a1_1) := (blk_cell BK528.out 1).trans rfl; have hcz15_2 : w13.cell? ⟨gb528, 2, none⟩ = some (.int .i64 a1_2) := (blk_cell BK528.out 2).trans rfl; have hcz15_3 : w13.cell? ⟨gb528, 3, none⟩ = some (.int .i64 a1_3) := (blk_cell BK528.out 3).trans rfl; have hcz15_4 : w13.cell? ⟨gb528, 4, none⟩ = some (.int .i64 a1_4) := (blk_cell BK528.out 4).trans rfl; have hcz15_5 : w13.cell? ⟨gb528, 5, none⟩ = some (.int .i64 a1_5) := (blk_cell BK528.out 5).trans rfl; have hfz15_0 := blk_frozen BK528.out 0; have hfz15_1 := blk_frozen BK528.out 1; have hfz15_2 := blk_frozen BK528.out 2; have hfz15_3 := blk_frozen BK528.out 3; have hfz15_4 := blk_frozen BK528.out 4; have hfz15_5 := blk_frozen BK528.out 5) | (go_at_call 87; (with_reducible refine (impl_ObjectOk.calls k _ _ l1_0 a1_1 a1_2 a1_3 a1_4 a1_5 t531 _ ?side1 ?side2 A9.out).mono ?_); (case side1 => exact cS (Kd.C_below HR1_0.out HB.out)); (case side2 => exact HC1_0.out); rintro e w16 ⟨rfl, hb⟩; replace BK527 := kB (g := gb527) hb; replace BK528 := kB (g := gb528) hb; replace BK529 := kB (g := gb529) hb; replace HB := hB hb; (try clear hb); (try clear hb2); (try clear hk); (try clear hi)))
   go_meet
   case rel => exact ⟨_, (!t531), (by first | rfl | (simp; done) | (simp [*]; done)), H', ⟨by first | omega | exact Nat.le_refl _⟩, ⟨kS⟩, ⟨kS⟩, ⟨kS⟩, ⟨bS⟩⟩
  ·obtain rfl := Bool.eq_false_iff.mpr c8
   rw [if_neg nF] at H
   have H' := Aside0.mk H
   clear H
   have hnb17 := NB527_528.out
   have hnc17 := NB528_527.out
   have hnb18 := NB527_529.out
   have hnc18 := NB529_527.out
   have hcz19_0 : w6.cell? ⟨gb527, 0, none⟩ = some (.int .i64 a0_0) := (blk_cell BK527.out 0).trans rfl
   have hcz19_1 : w6.cell? ⟨gb527, 1, none⟩ = some (.int .i64 a0_1) := (blk_cell BK527.out 1).trans rfl
   have hcz19_2 : w6.cell? ⟨gb527, 2, none⟩ = some (.slice A0_2 l0_2.length c0_2) := (blk_cell BK527.out 2).trans rfl
   have hcz19_3 : w6.cell? ⟨gb527, 3, none⟩ = some (.slice A0_3 l0_3.length c0_3) := (blk_cell BK527.out 3).trans rfl
   have hfz19_0 := blk_frozen BK527.out 0
   have hfz19_1 := blk_frozen BK527.out 1
   have hfz19_2 := blk_frozen BK527.out 2
   have hfz19_3 := blk_frozen BK527.out 3
   go_wp2_with (first | ((with_reducible refine gC 35 ?_); refine cL (some 8) Try.func35 #[.agg #[.int .i64 a0_0, .int .i64 a0_1, .slice A0_2 l0_2.length c0_2, .slice A0_3 l0_3.length c0_3]] ?_; (with_reducible refine (impl_BandOk.calls k a0_0 a0_1 _ _ l0_2 _ _ l0_3 _ _ ?side1 ?side2 ?side3 ?side4 A7.out).mono ?_); (case side1 => exact cS (Kd.C_below HR0_2.out HB.out)); (case side2 => exact HC0_2.out); (case side3 => exact cS (Kd.C_below HR0_3.out HB.out)); (case side4 => exact HC0_3.out); rintro e w20 ⟨rfl, hb⟩; refine ⟨_, rfl, ?_⟩; replace BK527 := kB (g := gb527) hb; replace BK528 := kB (g := gb528) hb; replace BK529 := kB (g := gb529) hb; replace HB := hB hb; (try clear hb); (try clear hb2); (try clear hk); (try clear hi)))
   go_meet
   case rel => exact ⟨_, (true), (by first | rfl | (simp; done) | (simp [*]; done)), H', ⟨by first | omega | exact Nat.le_refl _⟩, ⟨kS⟩, ⟨kS⟩, ⟨kS⟩, ⟨bS⟩⟩
 case rest =>
  clear HC3
  try clear c1
  try clear p2
  try clear c3
  try clear c6
  try clear c8
  try clear c10
  try clear c11
  try clear c14
  try clear c17
  try clear c18
  try clear hcz12_0
  try clear hcz12_1
  try clear hcz12_2
  try clear hcz12_3
  try clear hcz15_0
  try clear hcz15_1
  try clear hcz15_2
  try clear hcz15_3
  try clear hcz15_4
  try clear hcz15_5
  try clear hcz19_0
  try clear hcz19_1
  try clear hcz19_2
  try clear hcz19_3
  try clear hfz12_0
  try clear hfz12_1
  try clear hfz12_2
  try clear hfz12_3
  try clear hfz15_0
  try clear hfz15_1
  try clear hfz15_2
  try clear hfz15_3
  try clear hfz15_4
  try clear hfz15_5
  try clear hfz19_0
  try clear hfz19_1
  try clear hfz19_2
  try clear hfz19_3
  obtain ⟨kq, x14_2, rfl, HA, HJ2, BK527, BK528, BK529, HB⟩ := hcut
  cases kq with
  | zero => exact absurd HA.out (by simp [impl_AddToBand.j0])
  | succ kj2 =>
   have H := HA.out
   clear HA
   simp only [impl_AddToBand.j0] at H
   by_cases c21 : x14_2 = true
   ·subst c21
    rw [if_pos rfl] at H
    replace H := bN H
    obtain ⟨⟨t532, t533, t534, t537⟩, A22, H⟩ := H
    simp only [Option.some.injEq, Prod.mk.injEq] at H
    obtain ⟨rfl, rfl, rfl, rfl, rfl⟩ := H
    have hnb23 := NB527_528.out
    have hnc23 := NB528_527.out
    have hnb24 := NB527_529.out
    have hnc24 := NB529_527.out
    have hz25 := cz4 BK527
    go_wp2_with (first | ((with_reducible refine gC 133 ?_); refine cL (some 16) Try.func133 #[.agg #[.int .i64 a0_0, .int .i64 a0_1, .slice A0_2 l0_2.length c0_2, .slice A0_3 l0_3.length c0_3]] ?_; (with_reducible refine (impl_copyBand.calls kj2 a0_0 a0_1 _ _ l0_2 _ _ l0_3 t532 t533 t534 t537 _ ?side1 ?side2 ?side3 ?side4 A22.out).mono ?_); (case side1 => exact cS (Kd.C_below HR0_2.out HB.out)); (case side2 => exact HC0_2.out); (case side3 => exact cS (Kd.C_below HR0_3.out HB.out)); (case side4 => exact HC0_3.out); rintro e w26 ⟨v535, v538, rfl, ho0, ho1, hb⟩; refine ⟨_, rfl, ?_⟩; have HO536 := Aside0.mk (Kd.S_lower ho0 (below_size bS)); have HO539 := Aside0.mk (Kd.S_lower (Kd.S_newB ho1 (g := gb528) kS) (below_size bS)); replace BK527 := kB (g := gb527) hb; replace BK528 := kB (g := gb528) hb; replace BK529 := kB (g := gb529) hb; replace HB := hB hb; (try clear hb); (try clear hb2); (try clear hk); (try clear hi); (try clear ho0); (try clear ho1); have hnb27 := NB529_528.out; have hnc27 := NB528_529.out; have hz28 := cz4 BK529; obtain ⟨Ao29, co29, eo29⟩ := Kd.S_slice HO536.out; subst eo29; obtain ⟨Ao30, co30, eo30⟩ := Kd.S_slice HO539.out; subst eo30))
    refine bodyPost_ret (results_ct rfl _ _ gb529 58 #[.int .i64 t532, .int .i64 t533, .slice Ao29 t534.length co29, .slice Ao30 t537.length co30] (0, 0) _ rfl kS Try.underlying58 rfl (by kernel_rfl)) rfl ?_
    exact ⟨_, _, eS, by (with_reducible repeat (first | apply Kd.S_alloc | apply Kd.S_drewN | apply Kd.S_drew)); exact Kd.S_mono (Kd.S_far (p := ⟨gb529, 3, none⟩) (Kd.S_far (p := ⟨gb529, 2, none⟩) (Kd.S_far (p := ⟨gb529, 1, none⟩) (Kd.S_far (p := ⟨gb529, 0, none⟩) (Kd.S_types HO536.out BK529.out (by decide)) (fun _ hk => hk.2) (.int .i64 t532)) (fun _ hk => hk.2) (.int .i64 t533)) (fun _ hk => hk.2) (.slice Ao29 t534.length co29)) (fun _ hk => hk.2) (.slice Ao30 t537.length co30)) (fun _ hk => trivial), by (with_reducible repeat (first | apply Kd.S_alloc | apply Kd.S_drewN | apply Kd.S_drew)); exact Kd.S_mono (Kd.S_far (p := ⟨gb529, 3, none⟩) (Kd.S_far (p := ⟨gb529, 2, none⟩) (Kd.S_far (p := ⟨gb529, 1, none⟩) (Kd.S_far (p := ⟨gb529, 0, none⟩) (Kd.S_types HO539.out BK529.out (by decide)) (fun _ hk => hk.2) (.int .i64 t532)) (fun _ hk => hk.2) (.int .i64 t533)) (fun _ hk => hk.2) (.slice Ao29 t534.length co29)) (fun _ hk => hk.2) (.slice Ao30 t537.length co30)) (fun _ hk => trivial), bS⟩
   ·obtain rfl := Bool.eq_false_iff.mpr c21
    rw [if_neg nF] at H
    replace H := bN H
    obtain ⟨t540, A31, H⟩ := H
    by_cases c32 : t540 = true
    ·subst c32
     rw [if_pos rfl] at H
     replace H := bN H
     obtain ⟨⟨t549, t550, t551, t554⟩, A33, H⟩ := H
     replace H := bN H
     obtain ⟨t558, A34, H⟩ := H
     by_cases c35 : (wrap64 ((wrap64 (t558 + 2)) + (l1_0.length : Int))) > 60
     ·rw [if_pos c35] at H
      have c35b0 : decide (60 < (wrap64 ((wrap64 (t558 + 2)) + (l1_0.length : Int)))) = true := decide_eq_true c35
      clear c35
      replace H := bN H
      obtain ⟨⟨t559, t560, t561, t564⟩, A36, H⟩ := H
      replace H := bN H
      obtain ⟨⟨t567, t570, t571, t572, t573, t574⟩, A37, H⟩ := H
      by_cases c38 : t564.length < 2199023255552
      ·rw [if_pos c38] at H
       have LMc38 := Aside0.mk c38
       clear c38
       obtain ⟨y575, hy575⟩ : ∃ y_ : List (S45), y_ = (t564 ++ [(⟨t567, t570, (⟨t571, t572, t573, t574⟩ : S43)⟩ : S45)]) := ⟨_, rfl⟩
       replace H : (some (t559, t560, t561, y575, true)) = some (r1, r2, r3, r4, r5) := by first | (rw [hy575]; with_reducible exact H) | (have H2_ := (Option.bind_some _ _).symm.trans H; rw [hy575]; with_reducible exact H2_) | (have H2_ := (Option.bind_some _ _).symm.trans H; with_reducible exact H2_) | with_reducible exact H | (rw [hy575]; exact H) | exact H
       have Ny575 := Aside0.mk hy575
       clear hy575
       simp only [Option.some.injEq, Prod.mk.injEq] at H
       obtain ⟨rfl, rfl, rfl, rfl, rfl⟩ := H
       have hnb39 := NB528_527.out
       have hnc39 := NB527_528.out
       have hnb40 := NB528_529.out
       have hnc40 := NB529_528.out
       have hz41 := cz6 BK528
       have hnb42 := NB527_529.out
       have hnc42 := NB529_527.out
       have hz43 := cz4 BK527
       try go_wp2_with (first | ((with_reducible refine gC 102 ?_); refine cL (some 22) Try.func102 #[.agg #[.slice A1_0 l1_0.length c1_0, .int .i64 a1_1, .int .i64 a1_2, .int .i64 a1_3, .int .i64 a1_4, .int .i64 a1_5], .int .i64 a0_0, .int .i64 a0_1] ?_; (with_reducible refine (impl_TouchesBand.calls kj2 _ _ l1_0 a1_1 a1_2 a1_3 a1_4 a1_5 a0_0 a0_1 _ _ ?side1 ?side2 A31.out).mono ?_); (case side1 => exact cS (Kd.C_below HR1_0.out HB.out)); (case side2 => exact HC1_0.out); rintro e w44 ⟨rfl, hb⟩; refine ⟨_, rfl, ?_⟩; replace BK527 := kB (g := gb527) hb; replace BK528 := kB (g := gb528) hb; replace BK529 := kB (g := gb529) hb; replace HB := hB hb; (try clear hb); (try clear hb2); (try clear hk); (try clear hi); have hz45 := cz4 BK527) | ((with_reducible refine gC 133 ?_); refine cL (some 27) Try.func133 #[.agg #[.int .i64 a0_0, .int .i64 a0_1, .slice A0_2 l0_2.length c0_2, .slice A0_3 l0_3.length c0_3]] ?_; (with_reducible refine (impl_copyBand.calls kj2 a0_0 a0_1 _ _ l0_2 _ _ l0_3 t549 t550 t551 t554 _ ?side1 ?side2 ?side3 ?side4 A33.out).mono ?_); (case side1 => exact cS (Kd.C_below HR0_2.out HB.out)); (case side2 => exact HC0_2.out); (case side3 => exact cS (Kd.C_below HR0_3.out HB.out)); (case side4 => exact HC0_3.out); rintro e w46 ⟨v552, v555, rfl, ho0, ho1, hb⟩; refine ⟨_, rfl, ?_⟩; have HO553 := Aside0.mk (Kd.S_lower ho0 (below_size bS)); have HO556 := Aside0.mk (Kd.S_lower (Kd.S_newB ho1 (g := gb528) kS) (below_size bS)); replace BK527 := kB (g := gb527) hb; replace BK528 := kB (g := gb528) hb; replace BK529 := kB (g := gb529) hb; replace HB := hB hb; (try clear hb); (try clear hb2); (try clear hk); (try clear hi); (try clear ho0); (try clear ho1)) | ((with_reducible refine gD 6 ?_); refine bxE #[.int .i64 0, .int .i64 0, .slice none 0 0, .slice none 0 0] 58 ?_; intro gb557 hg w47 BK557 hb; have GW557 := gE hg; have GE557 := gE hg; have NB527_557 := nL (g := gb527) hg; have NB557_527 := nG (g := gb527) hg; have NB528_557 := nL (g := gb528) hg; have NB557_528 := nG (g := gb528) hg; have NB529_557 := nL (g := gb529) hg; have NB557_529 := nG (g := gb529) hg; replace HO553 := Aside0.mk (Kd.S_below (by (with_reducible repeat (first | apply Kd.S_alloc | apply Kd.S_drewN | apply Kd.S_drew)); exact HO553.out) hb); replace HO556 := Aside0.mk (Kd.S_below (by (with_reducible repeat (first | apply Kd.S_alloc | apply Kd.S_drewN | apply Kd.S_drew)); exact HO556.out) hb); replace BK527 := kB (g := gb527) hb; replace BK528 := kB (g := gb528) hb; replace BK529 := kB (g := gb529) hb; replace HB := hB hb; clear hb hg; have hnb48 := NB557_527.out; have hnc48 := NB527_557.out; have hnb49 := NB557_528.out; have hnc49 := NB528_557.out; have hnb50 := NB557_529.out; have hnc50 := NB529_557.out; have hz51 := cz4 BK557; obtain ⟨Ao52, co52, eo52⟩ := Kd.S_slice HO553.out; subst eo52; obtain ⟨Ao53, co53, eo53⟩ := Kd.S_slice HO556.out; subst eo53))
       have n0_ : Aside0 (Kd.S (Kd.slice 3 (Kd.int .i64)) 71 ((((w47.setCell ⟨gb557, 0, none⟩ (.int .i64 t549)).setCell ⟨gb557, 1, none⟩ (.int .i64 t550)).setCell ⟨gb557, 2, none⟩ (.slice Ao52 t551.length co52)).setCell ⟨gb557, 3, none⟩ (.slice Ao53 t554.length co53)) w.heap.size (fun _ => True) (.slice Ao52 t551.length co52) t551) := ⟨by (with_reducible repeat (first | apply Kd.S_alloc | apply Kd.S_drewN | apply Kd.S_drew)); exact Kd.S_mono (Kd.S_far (p := ⟨gb557, 3, none⟩) (Kd.S_far (p := ⟨gb557, 2, none⟩) (Kd.S_far (p := ⟨gb557, 1, none⟩) (Kd.S_far (p := ⟨gb557, 0, none⟩) (Kd.S_types HO553.out BK557.out (by decide)) (fun _ hk => hk.2) (.int .i64 t549)) (fun _ hk => hk.2) (.int .i64 t550)) (fun _ hk => hk.2) (.slice Ao52 t551.length co52)) (fun _ hk => hk.2) (.slice Ao53 t554.length co53)) (fun _ hk => trivial)⟩
       have n1_ : Aside0 (Kd.S k45 45 ((((w47.setCell ⟨gb557, 0, none⟩ (.int .i64 t549)).setCell ⟨gb557, 1, none⟩ (.int .i64 t550)).setCell ⟨gb557, 2, none⟩ (.slice Ao52 t551.length co52)).setCell ⟨gb557, 3, none⟩ (.slice Ao53 t554.length co53)) w.heap.size (fun k_ => k_ ≠ gb528) (.slice Ao53 t554.length co53) t554) := ⟨by (with_reducible repeat (first | apply Kd.S_alloc | apply Kd.S_drewN | apply Kd.S_drew)); exact Kd.S_mono (Kd.S_far (p := ⟨gb557, 3, none⟩) (Kd.S_far (p := ⟨gb557, 2, none⟩) (Kd.S_far (p := ⟨gb557, 1, none⟩) (Kd.S_far (p := ⟨gb557, 0, none⟩) (Kd.S_types HO556.out BK557.out (by decide)) (fun _ hk => hk.2) (.int .i64 t549)) (fun _ hk => hk.2) (.int .i64 t550)) (fun _ hk => hk.2) (.slice Ao52 t551.length co52)) (fun _ hk => hk.2) (.slice Ao53 t554.length co53)) (fun _ hk => hk.1.2)⟩
       have n2_ : Aside0 (((((w47.setCell ⟨gb557, 0, none⟩ (.int .i64 t549)).setCell ⟨gb557, 1, none⟩ (.int .i64 t550)).setCell ⟨gb557, 2, none⟩ (.slice Ao52 t551.length co52)).setCell ⟨gb557, 3, none⟩ (.slice Ao53 t554.length co53)).heap[gb527]? = some (.cells #[.int .i64 a0_0, .int .i64 a0_1, .slice A0_2 l0_2.length c0_2, .slice A0_3 l0_3.length c0_3] 58 (0, 0))) := ⟨kS⟩
       have n3_ : Aside0 (((((w47.setCell ⟨gb557, 0, none⟩ (.int .i64 t549)).setCell ⟨gb557, 1, none⟩ (.int .i64 t550)).setCell ⟨gb557, 2, none⟩ (.slice Ao52 t551.length co52)).setCell ⟨gb557, 3, none⟩ (.slice Ao53 t554.length co53)).heap[gb528]? = some (.cells #[.slice A1_0 l1_0.length c1_0, .int .i64 a1_1, .int .i64 a1_2, .int .i64 a1_3, .int .i64 a1_4, .int .i64 a1_5] 45 (0, 0))) := ⟨kS⟩
       have n4_ : Aside0 (((((w47.setCell ⟨gb557, 0, none⟩ (.int .i64 t549)).setCell ⟨gb557, 1, none⟩ (.int .i64 t550)).setCell ⟨gb557, 2, none⟩ (.slice Ao52 t551.length co52)).setCell ⟨gb557, 3, none⟩ (.slice Ao53 t554.length co53)).heap[gb529]? = some (.cells #[.int .i64 0, .int .i64 0, .slice none 0 0, .slice none 0 0] 58 (0, 0))) := ⟨kS⟩
       have n5_ : Aside0 (((((w47.setCell ⟨gb557, 0, none⟩ (.int .i64 t549)).setCell ⟨gb557, 1, none⟩ (.int .i64 t550)).setCell ⟨gb557, 2, none⟩ (.slice Ao52 t551.length co52)).setCell ⟨gb557, 3, none⟩ (.slice Ao53 t554.length co53)).heap[gb557]? = some (.cells #[.int .i64 t549, .int .i64 t550, .slice Ao52 t551.length co52, .slice Ao53 t554.length co53] 58 (0, 0))) := ⟨kS⟩
       have n6_ : Aside0 (Below w.heap.size w ((((w47.setCell ⟨gb557, 0, none⟩ (.int .i64 t549)).setCell ⟨gb557, 1, none⟩ (.int .i64 t550)).setCell ⟨gb557, 2, none⟩ (.slice Ao52 t551.length co52)).setCell ⟨gb557, 3, none⟩ (.slice Ao53 t554.length co53))) := ⟨bS⟩
       (try clear HO553)
       (try clear HO556)
       (try clear BK527)
       (try clear BK528)
       (try clear BK529)
       (try clear BK557)
       (try clear HB)
       generalize ((((w47.setCell ⟨gb557, 0, none⟩ (.int .i64 t549)).setCell ⟨gb557, 1, none⟩ (.int .i64 t550)).setCell ⟨gb557, 2, none⟩ (.slice Ao52 t551.length co52)).setCell ⟨gb557, 3, none⟩ (.slice Ao53 t554.length co53)) = w54 at n0_ n1_ n2_ n3_ n4_ n5_ n6_ ⊢
       have HO553 := n0_
       have HO556 := n1_
       have BK527 := n2_
       have BK528 := n3_
       have BK529 := n4_
       have BK557 := n5_
       have HB := n6_
       clear n0_ n1_ n2_ n3_ n4_ n5_ n6_
       replace HO553 := Aside0.mk (Kd.S_drew HO553.out)
       replace HO556 := Aside0.mk (Kd.S_drew HO556.out)
       replace BK527 := Aside0.mk (blk_drew BK527.out)
       replace BK528 := Aside0.mk (blk_drew BK528.out)
       replace BK529 := Aside0.mk (blk_drew BK529.out)
       replace BK557 := Aside0.mk (blk_drew BK557.out)
       replace HB := Aside0.mk (below_drew1 HB.out)
       refine start_ (n := 8) (S := fun w' => w'.cell? ⟨gb527, 0, none⟩ = some (.int .i64 a0_0) ∧ w'.cell? ⟨gb527, 1, none⟩ = some (.int .i64 a0_1) ∧ w'.cell? ⟨gb527, 2, none⟩ = some (.slice A0_2 l0_2.length c0_2) ∧ w'.cell? ⟨gb527, 3, none⟩ = some (.slice A0_3 l0_3.length c0_3) ∧ w'.cell? ⟨gb528, 0, none⟩ = some (.slice A1_0 l1_0.length c1_0) ∧ w'.cell? ⟨gb528, 1, none⟩ = some (.int .i64 a1_1) ∧ w'.cell? ⟨gb528, 2, none⟩ = some (.int .i64 a1_2) ∧ w'.cell? ⟨gb528, 3, none⟩ = some (.int .i64 a1_3) ∧ w'.cell? ⟨gb528, 4, none⟩ = some (.int .i64 a1_4) ∧ w'.cell? ⟨gb528, 5, none⟩ = some (.int .i64 a1_5)) (ds := []) #[false, false, false, false, false, false, false, false] (by kernel_rfl) rfl rfl ⟨(blk_cell BK527.out 0).trans rfl, (blk_cell BK527.out 1).trans rfl, (blk_cell BK527.out 2).trans rfl, (blk_cell BK527.out 3).trans rfl, (blk_cell BK528.out 0).trans rfl, (blk_cell BK528.out 1).trans rfl, (blk_cell BK528.out 2).trans rfl, (blk_cell BK528.out 3).trans rfl, (blk_cell BK528.out 4).trans rfl, (blk_cell BK528.out 5).trans rfl⟩ (fun hHeld => ?_); refine with_tabW impl_AddToBand.tab6 impl_AddToBand.bits6 (fun HT_ HW_ => ?_)
       generalize w54.drew = w55 at HO553 HO556 BK527 BK528 BK529 BK557 HB hHeld ⊢
       refine pU 3 (some 31) #[false, false, false, true, false, false, false, false] ?_
       refine tK 0 (some 28) #[true, false, false, true, false, false, false, false] ?_
       refine tK 4 (some 32) #[true, false, false, true, true, false, false, false] ?_
       refine pU 5 (some 33) #[true, false, false, true, true, true, false, false] ?_
       refine one_ (i := 1) (N := some 29) #[true, true, false, true, true, true, false, false] rfl rfl (one_of HT_.out (by kernel_rfl)) (by decide) (fun K hK => ?_)
       refine goes_ Try.func63 (by kernel_rfl) rfl #[.agg #[.int .i64 a0_0, .int .i64 a0_1, .slice A0_2 l0_2.length c0_2, .slice A0_3 l0_3.length c0_3]] (by rfl) rfl rfl (by (try simp only [List.map_toArray, List.map_cons, List.map_nil]); first | done | rfl | (simp only [List.length_drop, List.length_take]; rfl)) ?_
       with_reducible refine (impl_BandCells.calls kj2 a0_0 a0_1 _ _ l0_2 _ _ l0_3 t558 _ ?side1 ?side2 ?side3 ?side4 A34.out).mono ?_
       (case side1 => exact cS (Kd.C_below HR0_2.out HB.out))
       (case side2 => exact HC0_2.out)
       (case side3 => exact cS (Kd.C_below HR0_3.out HB.out))
       (case side4 => exact HC0_3.out)
       rintro e w56 ⟨rfl, hb⟩
       refine ⟨_, rfl, ?_⟩
       replace HO553 := Aside0.mk (Kd.S_below (by (with_reducible repeat (first | apply Kd.S_alloc | apply Kd.S_drewN | apply Kd.S_drew)); exact HO553.out) hb)
       replace HO556 := Aside0.mk (Kd.S_below (by (with_reducible repeat (first | apply Kd.S_alloc | apply Kd.S_drewN | apply Kd.S_drew)); exact HO556.out) hb)
       replace BK527 := kB (g := gb527) hb
       replace BK528 := kB (g := gb528) hb
       replace BK529 := kB (g := gb529) hb
       replace BK557 := kB (g := gb557) hb
       replace HB := hB hb
       (try clear hb)
       (try clear hb2)
       (try clear hk)
       (try clear hi)
       refine hK.out _ _ ⟨(blk_cell BK527.out 0).trans rfl, (blk_cell BK527.out 1).trans rfl, (blk_cell BK527.out 2).trans rfl, (blk_cell BK527.out 3).trans rfl, (blk_cell BK528.out 0).trans rfl, (blk_cell BK528.out 1).trans rfl, (blk_cell BK528.out 2).trans rfl, (blk_cell BK528.out 3).trans rfl, (blk_cell BK528.out 4).trans rfl, (blk_cell BK528.out 5).trans rfl⟩ (fun hHeld => ?_)
       clear hK K
       refine norm_ (a' := ?_) ?_ ?_
       rotate_left
       ·show Act.put _ (some 29) _ = _
        simp only [Act.put, List.setIfInBounds_toArray, List.set_cons_zero, List.set_cons_succ, i64_w, i32_w]
        rfl
       refine pU 2 (some 30) #[true, true, true, true, true, true, false, false] ?_
       refine pU 6 (some 34) #[true, true, true, true, true, true, true, false] ?_
       refine pU 7 (some 35) #[true, true, true, true, true, true, true, true] ?_
       refine done_ (done_of HT_.out (by kernel_rfl)) ?_
       have hz57 := cz4 BK527
       try go_wp2_with (first | ((with_reducible refine gC 62 ?_); refine cL (some 37) Try.func62 #[.agg #[.int .i64 a0_0, .int .i64 a0_1, .slice A0_2 l0_2.length c0_2, .slice A0_3 l0_3.length c0_3]] ?_; (with_reducible refine (impl_MergeBand.calls kj2 a0_0 a0_1 _ _ l0_2 _ _ l0_3 t559 t560 t561 t564 _ ?side1 ?side2 ?side3 ?side4 A36.out).mono ?_); (case side1 => exact cS (Kd.C_below HR0_2.out HB.out)); (case side2 => exact HC0_2.out); (case side3 => exact cS (Kd.C_below HR0_3.out HB.out)); (case side4 => exact HC0_3.out); rintro e w58 ⟨v562, v565, rfl, ho0, ho1, hb⟩; refine ⟨_, rfl, ?_⟩; have HO563 := Aside0.mk (Kd.S_lower (Kd.S_new' ho0 (Kd.S_lt (by (with_reducible repeat (first | apply Kd.S_alloc | apply Kd.S_drewN | apply Kd.S_drew)); exact HO553.out))) (below_size bS)); have HO566 := Aside0.mk (Kd.S_lower (Kd.S_newB (Kd.S_new' ho1 (Kd.S_lt (by (with_reducible repeat (first | apply Kd.S_alloc | apply Kd.S_drewN | apply Kd.S_drew)); exact HO556.out))) (g := gb528) kS) (below_size bS)); replace HO553 := Aside0.mk (Kd.S_elder' (by (with_reducible repeat (first | apply Kd.S_alloc | apply Kd.S_drewN | apply Kd.S_drew)); exact HO553.out) (Kd.S_base ho0) hb); replace HO556 := Aside0.mk (Kd.S_elder' (by (with_reducible repeat (first | apply Kd.S_alloc | apply Kd.S_drewN | apply Kd.S_drew)); exact HO556.out) (Kd.S_base ho1) hb); replace BK527 := kB (g := gb527) hb; replace BK528 := kB (g := gb528) hb; replace BK529 := kB (g := gb529) hb; replace BK557 := kB (g := gb557) hb; replace HB := hB hb; (try clear hb); (try clear hb2); (try clear hk); (try clear hi); (try clear ho0); (try clear ho1); have hz59 := cz4 BK557; obtain ⟨Ao60, co60, eo60⟩ := Kd.S_slice HO563.out; subst eo60; obtain ⟨Ao61, co61, eo61⟩ := Kd.S_slice HO566.out; subst eo61))
       have n0_ : Aside0 (Kd.S (Kd.slice 3 (Kd.int .i64)) 71 ((((w58.setCell ⟨gb557, 0, none⟩ (.int .i64 t559)).setCell ⟨gb557, 1, none⟩ (.int .i64 t560)).setCell ⟨gb557, 2, none⟩ (.slice Ao60 t561.length co60)).setCell ⟨gb557, 3, none⟩ (.slice Ao61 t564.length co61)) w.heap.size (fun k_ => some k_ ≠ (.slice Ao60 t561.length co60 : Value).ownBlock) (.slice Ao52 t551.length co52) t551) := ⟨by (with_reducible repeat (first | apply Kd.S_alloc | apply Kd.S_drewN | apply Kd.S_drew)); exact Kd.S_mono (Kd.S_far (p := ⟨gb557, 3, none⟩) (Kd.S_far (p := ⟨gb557, 2, none⟩) (Kd.S_far (p := ⟨gb557, 1, none⟩) (Kd.S_far (p := ⟨gb557, 0, none⟩) (Kd.S_types HO553.out BK557.out (by decide)) (fun _ hk => hk.2) (.int .i64 t559)) (fun _ hk => hk.2) (.int .i64 t560)) (fun _ hk => hk.2) (.slice Ao60 t561.length co60)) (fun _ hk => hk.2) (.slice Ao61 t564.length co61)) (fun _ hk => hk.1.2)⟩
       have n1_ : Aside0 (Kd.S k45 45 ((((w58.setCell ⟨gb557, 0, none⟩ (.int .i64 t559)).setCell ⟨gb557, 1, none⟩ (.int .i64 t560)).setCell ⟨gb557, 2, none⟩ (.slice Ao60 t561.length co60)).setCell ⟨gb557, 3, none⟩ (.slice Ao61 t564.length co61)) w.heap.size (fun k_ => some k_ ≠ (.slice Ao61 t564.length co61 : Value).ownBlock ∧ k_ ≠ gb528) (.slice Ao53 t554.length co53) t554) := ⟨by (with_reducible repeat (first | apply Kd.S_alloc | apply Kd.S_drewN | apply Kd.S_drew)); exact Kd.S_mono (Kd.S_far (p := ⟨gb557, 3, none⟩) (Kd.S_far (p := ⟨gb557, 2, none⟩) (Kd.S_far (p := ⟨gb557, 1, none⟩) (Kd.S_far (p := ⟨gb557, 0, none⟩) (Kd.S_types HO556.out BK557.out (by decide)) (fun _ hk => hk.2) (.int .i64 t559)) (fun _ hk => hk.2) (.int .i64 t560)) (fun _ hk => hk.2) (.slice Ao60 t561.length co60)) (fun _ hk => hk.2) (.slice Ao61 t564.length co61)) (fun _ hk => ⟨hk.1.2, hk.1.1⟩)⟩
       have n2_ : Aside0 (Kd.S (Kd.slice 3 (Kd.int .i64)) 71 ((((w58.setCell ⟨gb557, 0, none⟩ (.int .i64 t559)).setCell ⟨gb557, 1, none⟩ (.int .i64 t560)).setCell ⟨gb557, 2, none⟩ (.slice Ao60 t561.length co60)).setCell ⟨gb557, 3, none⟩ (.slice Ao61 t564.length co61)) w.heap.size (fun k_ => some k_ ≠ (.slice Ao52 t551.length co52 : Value).ownBlock) (.slice Ao60 t561.length co60) t561) := ⟨by (with_reducible repeat (first | apply Kd.S_alloc | apply Kd.S_drewN | apply Kd.S_drew)); exact Kd.S_mono (Kd.S_far (p := ⟨gb557, 3, none⟩) (Kd.S_far (p := ⟨gb557, 2, none⟩) (Kd.S_far (p := ⟨gb557, 1, none⟩) (Kd.S_far (p := ⟨gb557, 0, none⟩) (Kd.S_types HO563.out BK557.out (by decide)) (fun _ hk => hk.2) (.int .i64 t559)) (fun _ hk => hk.2) (.int .i64 t560)) (fun _ hk => hk.2) (.slice Ao60 t561.length co60)) (fun _ hk => hk.2) (.slice Ao61 t564.length co61)) (fun _ hk => hk.1.2)⟩
       have n3_ : Aside0 (Kd.S k45 45 ((((w58.setCell ⟨gb557, 0, none⟩ (.int .i64 t559)).setCell ⟨gb557, 1, none⟩ (.int .i64 t560)).setCell ⟨gb557, 2, none⟩ (.slice Ao60 t561.length co60)).setCell ⟨gb557, 3, none⟩ (.slice Ao61 t564.length co61)) w.heap.size (fun k_ => some k_ ≠ (.slice Ao53 t554.length co53 : Value).ownBlock ∧ k_ ≠ gb528) (.slice Ao61 t564.length co61) t564) := ⟨by (with_reducible repeat (first | apply Kd.S_alloc | apply Kd.S_drewN | apply Kd.S_drew)); exact Kd.S_mono (Kd.S_far (p := ⟨gb557, 3, none⟩) (Kd.S_far (p := ⟨gb557, 2, none⟩) (Kd.S_far (p := ⟨gb557, 1, none⟩) (Kd.S_far (p := ⟨gb557, 0, none⟩) (Kd.S_types HO566.out BK557.out (by decide)) (fun _ hk => hk.2) (.int .i64 t559)) (fun _ hk => hk.2) (.int .i64 t560)) (fun _ hk => hk.2) (.slice Ao60 t561.length co60)) (fun _ hk => hk.2) (.slice Ao61 t564.length co61)) (fun _ hk => ⟨hk.1.1.2, hk.1.2⟩)⟩
       have n4_ : Aside0 (((((w58.setCell ⟨gb557, 0, none⟩ (.int .i64 t559)).setCell ⟨gb557, 1, none⟩ (.int .i64 t560)).setCell ⟨gb557, 2, none⟩ (.slice Ao60 t561.length co60)).setCell ⟨gb557, 3, none⟩ (.slice Ao61 t564.length co61)).heap[gb527]? = some (.cells #[.int .i64 a0_0, .int .i64 a0_1, .slice A0_2 l0_2.length c0_2, .slice A0_3 l0_3.length c0_3] 58 (0, 0))) := ⟨kS⟩
       have n5_ : Aside0 (((((w58.setCell ⟨gb557, 0, none⟩ (.int .i64 t559)).setCell ⟨gb557, 1, none⟩ (.int .i64 t560)).setCell ⟨gb557, 2, none⟩ (.slice Ao60 t561.length co60)).setCell ⟨gb557, 3, none⟩ (.slice Ao61 t564.length co61)).heap[gb528]? = some (.cells #[.slice A1_0 l1_0.length c1_0, .int .i64 a1_1, .int .i64 a1_2, .int .i64 a1_3, .int .i64 a1_4, .int .i64 a1_5] 45 (0, 0))) := ⟨kS⟩
       have n6_ : Aside0 (((((w58.setCell ⟨gb557, 0, none⟩ (.int .i64 t559)).setCell ⟨gb557, 1, none⟩ (.int .i64 t560)).setCell ⟨gb557, 2, none⟩ (.slice Ao60 t561.length co60)).setCell ⟨gb557, 3, none⟩ (.slice Ao61 t564.length co61)).heap[gb529]? = some (.cells #[.int .i64 0, .int .i64 0, .slice none 0 0, .slice none 0 0] 58 (0, 0))) := ⟨kS⟩
       have n7_ : Aside0 (((((w58.setCell ⟨gb557, 0, none⟩ (.int .i64 t559)).setCell ⟨gb557, 1, none⟩ (.int .i64 t560)).setCell ⟨gb557, 2, none⟩ (.slice Ao60 t561.length co60)).setCell ⟨gb557, 3, none⟩ (.slice Ao61 t564.length co61)).heap[gb557]? = some (.cells #[.int .i64 t559, .int .i64 t560, .slice Ao60 t561.length co60, .slice Ao61 t564.length co61] 58 (0, 0))) := ⟨kS⟩
       have n8_ : Aside0 (Below w.heap.size w ((((w58.setCell ⟨gb557, 0, none⟩ (.int .i64 t559)).setCell ⟨gb557, 1, none⟩ (.int .i64 t560)).setCell ⟨gb557, 2, none⟩ (.slice Ao60 t561.length co60)).setCell ⟨gb557, 3, none⟩ (.slice Ao61 t564.length co61))) := ⟨bS⟩
       (try clear HO553)
       (try clear HO556)
       (try clear HO563)
       (try clear HO566)
       (try clear BK527)
       (try clear BK528)
       (try clear BK529)
       (try clear BK557)
       (try clear HB)
       generalize ((((w58.setCell ⟨gb557, 0, none⟩ (.int .i64 t559)).setCell ⟨gb557, 1, none⟩ (.int .i64 t560)).setCell ⟨gb557, 2, none⟩ (.slice Ao60 t561.length co60)).setCell ⟨gb557, 3, none⟩ (.slice Ao61 t564.length co61)) = w62 at n0_ n1_ n2_ n3_ n4_ n5_ n6_ n7_ n8_ ⊢
       have HO553 := n0_
       have HO556 := n1_
       have HO563 := n2_
       have HO566 := n3_
       have BK527 := n4_
       have BK528 := n5_
       have BK529 := n6_
       have BK557 := n7_
       have HB := n8_
       clear n0_ n1_ n2_ n3_ n4_ n5_ n6_ n7_ n8_
       replace HO553 := Aside0.mk (Kd.S_drew HO553.out)
       replace HO556 := Aside0.mk (Kd.S_drew HO556.out)
       replace HO563 := Aside0.mk (Kd.S_drew HO563.out)
       replace HO566 := Aside0.mk (Kd.S_drew HO566.out)
       replace BK527 := Aside0.mk (blk_drew BK527.out)
       replace BK528 := Aside0.mk (blk_drew BK528.out)
       replace BK529 := Aside0.mk (blk_drew BK529.out)
       replace BK557 := Aside0.mk (blk_drew BK557.out)
       replace HB := Aside0.mk (below_drew1 HB.out)
       refine start_ (n := 8) (S := fun w' => w'.cell? ⟨gb557, 0, none⟩ = some (.int .i64 t559) ∧ w'.cell? ⟨gb557, 1, none⟩ = some (.int .i64 t560) ∧ w'.cell? ⟨gb557, 2, none⟩ = some (.slice Ao60 t561.length co60) ∧ w'.cell? ⟨gb557, 3, none⟩ = some (.slice Ao61 t564.length co61) ∧ w'.cell? ⟨gb528, 0, none⟩ = some (.slice A1_0 l1_0.length c1_0) ∧ w'.cell? ⟨gb528, 1, none⟩ = some (.int .i64 a1_1) ∧ w'.cell? ⟨gb528, 2, none⟩ = some (.int .i64 a1_2) ∧ w'.cell? ⟨gb528, 3, none⟩ = some (.int .i64 a1_3) ∧ w'.cell? ⟨gb528, 4, none⟩ = some (.int .i64 a1_4) ∧ w'.cell? ⟨gb528, 5, none⟩ = some (.int .i64 a1_5)) (ds := [7]) #[false, false, false, false, false, false, false, false] (by kernel_rfl) rfl rfl ⟨(blk_cell BK557.out 0).trans rfl, (blk_cell BK557.out 1).trans rfl, (blk_cell BK557.out 2).trans rfl, (blk_cell BK557.out 3).trans rfl, (blk_cell BK528.out 0).trans rfl, (blk_cell BK528.out 1).trans rfl, (blk_cell BK528.out 2).trans rfl, (blk_cell BK528.out 3).trans rfl, (blk_cell BK528.out 4).trans rfl, (blk_cell BK528.out 5).trans rfl⟩ (fun hHeld => ?_); refine with_tabW impl_AddToBand.tab8 impl_AddToBand.bits8 (fun HT_ HW_ => ?_)
       generalize w62.drew = w63 at HO553 HO556 HO563 HO566 BK527 BK528 BK529 BK557 HB hHeld ⊢
       refine pU 0 (some 38) #[true, false, false, false, false, false, false, false] ?_
       refine tK 1 (some 39) #[true, true, false, false, false, false, false, false] ?_
       refine tK 2 (some 40) #[true, true, true, false, false, false, false, false] ?_
       refine one_ (i := 3) (N := some 41) #[true, true, true, true, false, false, false, false] rfl rfl (one_of HT_.out (by kernel_rfl)) (by decide) (fun K hK => ?_)
       refine goes_ Try.func138 (by kernel_rfl) rfl #[.agg #[.slice A1_0 l1_0.length c1_0, .int .i64 a1_1, .int .i64 a1_2, .int .i64 a1_3, .int .i64 a1_4, .int .i64 a1_5]] (by rfl) rfl rfl (by (try simp only [List.map_toArray, List.map_cons, List.map_nil]); first | done | rfl | (simp only [List.length_drop, List.length_take]; rfl)) ?_
       with_reducible refine (impl_copyObject.calls _ _ l1_0 a1_1 a1_2 a1_3 a1_4 a1_5 t567 t570 t571 t572 t573 t574 _ ?side1 ?side2 A37.out).mono ?_
       (case side1 => exact cS (Kd.C_below HR1_0.out HB.out))
       (case side2 => exact HC1_0.out)
       rintro e w64 ⟨v568, rfl, ho0, hb⟩
       refine ⟨_, rfl, ?_⟩
       have HO569 := Aside0.mk (Kd.R_lower ho0 (below_size bS))
       replace HO553 := Aside0.mk (Kd.S_below (by (with_reducible repeat (first | apply Kd.S_alloc | apply Kd.S_drewN | apply Kd.S_drew)); exact HO553.out) hb)
       replace HO556 := Aside0.mk (Kd.S_elder' (by (with_reducible repeat (first | apply Kd.S_alloc | apply Kd.S_drewN | apply Kd.S_drew)); exact HO556.out) (Kd.R_base ho0) hb)
       replace HO563 := Aside0.mk (Kd.S_below (by (with_reducible repeat (first | apply Kd.S_alloc | apply Kd.S_drewN | apply Kd.S_drew)); exact HO563.out) hb)
       replace HO566 := Aside0.mk (Kd.S_elder' (by (with_reducible repeat (first | apply Kd.S_alloc | apply Kd.S_drewN | apply Kd.S_drew)); exact HO566.out) (Kd.R_base ho0) hb)
       replace BK527 := kB (g := gb527) hb
       replace BK528 := kB (g := gb528) hb
       replace BK529 := kB (g := gb529) hb
       replace BK557 := kB (g := gb557) hb
       replace HB := hB hb
       (try clear hb)
       (try clear hb2)
       (try clear hk)
       (try clear hi)
       (try clear ho0)
       obtain ⟨Ao66, co66, eo66⟩ := Kd.R_slice HO569.out
       (first | subst eo66 | (injection eo66 with f1_ f2_ f3_; have f4_ := f1_.symm; have f5_ := f3_.symm; clear f1_ f2_ f3_; subst f4_; subst f5_))
       refine hK.out _ _ ⟨(blk_cell BK557.out 0).trans rfl, (blk_cell BK557.out 1).trans rfl, (blk_cell BK557.out 2).trans rfl, (blk_cell BK557.out 3).trans rfl, (blk_cell BK528.out 0).trans rfl, (blk_cell BK528.out 1).trans rfl, (blk_cell BK528.out 2).trans rfl, (blk_cell BK528.out 3).trans rfl, (blk_cell BK528.out 4).trans rfl, (blk_cell BK528.out 5).trans rfl⟩ (fun hHeld => ?_)
       clear hK K
       refine norm_ (a' := ?_) ?_ ?_
       rotate_left
       ·show Act.put _ (some 41) _ = _
        simp only [Act.put, List.setIfInBounds_toArray, List.set_cons_zero, List.set_cons_succ, i64_w, i32_w]
        rfl
       refine one_ (i := 4) (N := some 42) #[true, true, true, true, true, false, false, false] rfl rfl (one_of HT_.out (by kernel_rfl)) (by decide) (fun K hK => ?_)
       refine value_ (w1 := ?_) (v := ?_) (by rfl) rfl ?_ ?_
       rotate_left 2
       ·go_simp
        constructor
        ·rfl
        ·rfl
       refine hK.out _ _ ⟨(blk_cell (blk_alloc BK557.out _) 0).trans rfl, (blk_cell (blk_alloc BK557.out _) 1).trans rfl, (blk_cell (blk_alloc BK557.out _) 2).trans rfl, (blk_cell (blk_alloc BK557.out _) 3).trans rfl, (blk_cell (blk_alloc BK528.out _) 0).trans rfl, (blk_cell (blk_alloc BK528.out _) 1).trans rfl, (blk_cell (blk_alloc BK528.out _) 2).trans rfl, (blk_cell (blk_alloc BK528.out _) 3).trans rfl, (blk_cell (blk_alloc BK528.out _) 4).trans rfl, (blk_cell (blk_alloc BK528.out _) 5).trans rfl⟩ (fun hHeld => ?_)
       clear hK K
       refine norm_ (a' := ?_) ?_ ?_
       rotate_left
       ·show Act.put _ (some 42) _ = _
        simp only [Act.put, List.setIfInBounds_toArray, List.set_cons_zero, List.set_cons_succ, i64_w, i32_w]
        rfl
       refine one_ (i := 5) (N := some 43) #[true, true, true, true, true, true, false, false] rfl rfl (one_of HT_.out (by kernel_rfl)) (by decide) (fun K hK => ?_)
       refine Kd.S_append_step k45 (w0 := w) w.heap.size (by rfl) (.tmp 39) (.tmp 42) 24 45 (.agg #[(.slice none 0 0), (.int .i64 0), (.int .i64 0), (.int .i64 0), (.int .i64 0), (.int .i64 0)]) 64 rfl Try.underlying24 info45 rfl (by decide) (by omega) (.slice Ao61 t564.length co61) t564 (⟨t567, t570, (⟨t571, t572, t573, t574⟩ : S43)⟩ : S45) [.slice Ao66 t567.length co66, .int .i64 t570, .int .i64 t571, .int .i64 t572, .int .i64 t573, .int .i64 t574] (fun k_ => some k_ ≠ (.slice Ao53 t554.length co53 : Value).ownBlock ∧ k_ ≠ gb528) (fun k_ => some k_ = (.slice Ao66 t567.length co66 : Value).ownBlock) rfl rfl ?aP (fun k_ hk_ => ((Kd.R_mono (ok' := fun k_ => ((fun k_ => some k_ ≠ (.slice Ao53 t554.length co53 : Value).ownBlock ∧ k_ ≠ gb528)) k_ ∧ some k_ ≠ (.slice Ao61 t564.length co61 : Value).ownBlock) (Kd.R_types (Kd.R_apart' (Kd.R_apart' (HO569.out) (Kd.S_typed HO556.out) (by decide)) (Kd.S_typed HO566.out) (by decide)) BK528.out (by decide)) (fun k_ hk => ⟨⟨hk.1.1.2, hk.2⟩, hk.1.2⟩))).1 k_ hk_.symm) ?aF ?aO ?aB ?aS ?aL ?_
       (case aP => exact k45_mkM _ _ _ (⟨t567, t570, (⟨t571, t572, t573, t574⟩ : S43)⟩ : S45) (Kd.R_mono (Kd.R_tight rfl (Kd.R_mono (ok' := fun k_ => ((fun k_ => some k_ ≠ (.slice Ao53 t554.length co53 : Value).ownBlock ∧ k_ ≠ gb528)) k_ ∧ some k_ ≠ (.slice Ao61 t564.length co61 : Value).ownBlock) (Kd.R_types (Kd.R_apart' (Kd.R_apart' (HO569.out) (Kd.S_typed HO556.out) (by decide)) (Kd.S_typed HO566.out) (by decide)) BK528.out (by decide)) (fun k_ hk => ⟨⟨hk.1.1.2, hk.2⟩, hk.1.2⟩))) (fun _ h_ => h_)))
       (case aB => exact bS)
       (case aF => exact (fun k_ hk => ⟨Kd.fresh' (Kd.S_lt (by (with_reducible repeat (first | apply Kd.S_alloc | apply Kd.S_drewN | apply Kd.S_drew)); exact HO556.out)) k_ hk, Kd.freshB (g := gb528) kS k_ hk⟩))
       (case aO => exact (by (with_reducible repeat (first | apply Kd.S_alloc | apply Kd.S_drewN | apply Kd.S_drew)); exact Kd.S_mono HO566.out (fun k_ hk => ⟨⟨hk.1.1, hk.1.2⟩, fun e_ => hk.2 e_⟩)))
       (case aS => exact (below_size bS))
       (case aL => have := LMc38.out; omega)
       intro v576 w65 ho hb hg hat
       rw [← Ny575.out] at ho
       have HO577 := Aside0.mk (ho)
       replace BK527 := Aside0.mk (blk_grown (g := gb527) kS hg (Kd.S_ne HO566.out BK527.out (by decide)))
       replace BK528 := Aside0.mk (blk_grown (g := gb528) kS hg (Kd.S_away HO566.out (fun _ hk => hk.1.2)))
       replace BK529 := Aside0.mk (blk_grown (g := gb529) kS hg (Kd.S_ne HO566.out BK529.out (by decide)))
       replace HO553 := Aside0.mk (Kd.S_over' (by (with_reducible repeat (first | apply Kd.S_alloc | apply Kd.S_drewN | apply Kd.S_drew)); exact HO553.out) (Kd.S_typed (by (with_reducible repeat (first | apply Kd.S_alloc | apply Kd.S_drewN | apply Kd.S_drew)); exact HO566.out)) (by decide) hg)
       replace HO556 := Aside0.mk (Kd.S_after (ok := (fun k_ => some k_ ≠ (.slice Ao66 t567.length co66 : Value).ownBlock ∧ k_ ≠ gb528)) (by (with_reducible repeat (first | apply Kd.S_alloc | apply Kd.S_drewN | apply Kd.S_drew)); exact Kd.S_mono HO556.out (fun _ hk => ⟨⟨hk.2, hk.1.2⟩, hk.1.1⟩)) hg hat)
       replace BK557 := Aside0.mk (blk_grown (g := gb557) kS hg (Kd.S_ne HO566.out BK557.out (by decide)))
       replace HO563 := Aside0.mk (Kd.S_over' (by (with_reducible repeat (first | apply Kd.S_alloc | apply Kd.S_drewN | apply Kd.S_drew)); exact HO563.out) (Kd.S_typed (by (with_reducible repeat (first | apply Kd.S_alloc | apply Kd.S_drewN | apply Kd.S_drew)); exact HO566.out)) (by decide) hg)
       replace HB := Aside0.mk (hb)
       clear HO566 HO569
       clear ho hb hg hat
       obtain ⟨Ao67, co67, eo67⟩ := Kd.S_slice HO577.out
       (first | subst eo67 | (injection eo67 with f1_ f2_ f3_; have f4_ := f1_.symm; have f5_ := f3_.symm; clear f1_ f2_ f3_; subst f4_; subst f5_))
       refine hK.out _ _ ⟨(blk_cell BK557.out 0).trans rfl, (blk_cell BK557.out 1).trans rfl, (blk_cell BK557.out 2).trans rfl, (blk_cell BK557.out 3).trans rfl, (blk_cell BK528.out 0).trans rfl, (blk_cell BK528.out 1).trans rfl, (blk_cell BK528.out 2).trans rfl, (blk_cell BK528.out 3).trans rfl, (blk_cell BK528.out 4).trans rfl, (blk_cell BK528.out 5).trans rfl⟩ (fun hHeld => ?_)
       clear hK K
       refine norm_ (a' := ?_) ?_ ?_
       rotate_left
       ·show Act.put _ (some 43) _ = _
        simp only [Act.put, List.setIfInBounds_toArray, List.set_cons_zero, List.set_cons_succ, i64_w, i32_w]
        rfl
       refine pU 6 (some 44) #[true, true, true, true, true, true, true, false] ?_
       refine last_ (i := 7) (N := none) #[true, true, true, true, true, true, true, true] rfl rfl (one_of HT_.out (by kernel_rfl)) (by decide) (fun K hK => ?_)
       have hs68 : w65.cell? ⟨gb557, 3, none⟩ = some (.slice Ao61 t564.length co61) := (blk_cell BK557.out 3).trans rfl
       have hfs68 := blk_frozen BK557.out 3
       have hns68_0 := NB527_557.out
       have hns68_1 := NB528_557.out
       have hns68_2 := NB529_557.out
       have hms68_0 := NB557_527.out
       have hms68_1 := NB557_528.out
       have hms68_2 := NB557_529.out
       refine skip_ (w1 := ?_) (by rfl) rfl ?_ ?_
       rotate_left
       ·go_simp
        rfl
       refine hK.out _ _ ?_
       clear hK K
       refine done_ (done_of HT_.out (by kernel_rfl)) ?_
       have hz69 := cz4 BK557
       have hz70 := cz4 BK529
       try go_wp2
       refine bodyPost_ret (results_ct rfl _ _ gb529 58 #[.int .i64 t559, .int .i64 t560, .slice Ao60 t561.length co60, .slice Ao67 y575.length co67] (0, 0) _ rfl kS Try.underlying58 rfl (by kernel_rfl)) rfl ?_
       exact ⟨_, _, eS, by (with_reducible repeat (first | apply Kd.S_alloc | apply Kd.S_drewN | apply Kd.S_drew)); exact Kd.S_mono (Kd.S_far (p := ⟨gb529, 3, none⟩) (Kd.S_far (p := ⟨gb529, 2, none⟩) (Kd.S_far (p := ⟨gb529, 1, none⟩) (Kd.S_far (p := ⟨gb529, 0, none⟩) (Kd.S_far (p := ⟨gb557, 3, none⟩) (Kd.S_types (Kd.S_types HO563.out BK557.out (by decide)) BK529.out (by decide)) (fun _ hk => hk.1.2) (.slice Ao67 y575.length co67)) (fun _ hk => hk.2) (.int .i64 t559)) (fun _ hk => hk.2) (.int .i64 t560)) (fun _ hk => hk.2) (.slice Ao60 t561.length co60)) (fun _ hk => hk.2) (.slice Ao67 y575.length co67)) (fun _ hk => trivial), by (with_reducible repeat (first | apply Kd.S_alloc | apply Kd.S_drewN | apply Kd.S_drew)); exact Kd.S_mono (Kd.S_far (p := ⟨gb529, 3, none⟩) (Kd.S_far (p := ⟨gb529, 2, none⟩) (Kd.S_far (p := ⟨gb529, 1, none⟩) (Kd.S_far (p := ⟨gb529, 0, none⟩) (Kd.S_far (p := ⟨gb557, 3, none⟩) (Kd.S_types (Kd.S_types HO577.out BK557.out (by decide)) BK529.out (by decide)) (fun _ hk => hk.1.2) (.slice Ao67 y575.length co67)) (fun _ hk => hk.2) (.int .i64 t559)) (fun _ hk => hk.2) (.int .i64 t560)) (fun _ hk => hk.2) (.slice Ao60 t561.length co60)) (fun _ hk => hk.2) (.slice Ao67 y575.length co67)) (fun _ hk => trivial), bS⟩
      ·rw [if_neg c38] at H
       exact absurd H (by simp)
     ·rw [if_neg c35] at H
      have c35b0 : decide (60 < (wrap64 ((wrap64 (t558 + 2)) + (l1_0.length : Int)))) = false := decide_eq_false c35
      clear c35
      replace H := bN H
      obtain ⟨⟨t578, t581, t582, t583, t584, t585⟩, A71, H⟩ := H
      by_cases c72 : t554.length < 2199023255552
      ·rw [if_pos c72] at H
       have LMc72 := Aside0.mk c72
       clear c72
       obtain ⟨y586, hy586⟩ : ∃ y_ : List (S45), y_ = (t554 ++ [(⟨t578, t581, (⟨t582, t583, t584, t585⟩ : S43)⟩ : S45)]) := ⟨_, rfl⟩
       replace H : (some (t549, t550, t551, y586, true)) = some (r1, r2, r3, r4, r5) := by first | (rw [hy586]; with_reducible exact H) | (have H2_ := (Option.bind_some _ _).symm.trans H; rw [hy586]; with_reducible exact H2_) | (have H2_ := (Option.bind_some _ _).symm.trans H; with_reducible exact H2_) | with_reducible exact H | (rw [hy586]; exact H) | exact H
       have Ny586 := Aside0.mk hy586
       clear hy586
       simp only [Option.some.injEq, Prod.mk.injEq] at H
       obtain ⟨rfl, rfl, rfl, rfl, rfl⟩ := H
       have hnb73 := NB528_527.out
       have hnc73 := NB527_528.out
       have hnb74 := NB528_529.out
       have hnc74 := NB529_528.out
       have hz75 := cz6 BK528
       have hnb76 := NB527_529.out
       have hnc76 := NB529_527.out
       have hz77 := cz4 BK527
       try go_wp2_with (first | ((with_reducible refine gC 102 ?_); refine cL (some 22) Try.func102 #[.agg #[.slice A1_0 l1_0.length c1_0, .int .i64 a1_1, .int .i64 a1_2, .int .i64 a1_3, .int .i64 a1_4, .int .i64 a1_5], .int .i64 a0_0, .int .i64 a0_1] ?_; (with_reducible refine (impl_TouchesBand.calls kj2 _ _ l1_0 a1_1 a1_2 a1_3 a1_4 a1_5 a0_0 a0_1 _ _ ?side1 ?side2 A31.out).mono ?_); (case side1 => exact cS (Kd.C_below HR1_0.out HB.out)); (case side2 => exact HC1_0.out); rintro e w78 ⟨rfl, hb⟩; refine ⟨_, rfl, ?_⟩; replace BK527 := kB (g := gb527) hb; replace BK528 := kB (g := gb528) hb; replace BK529 := kB (g := gb529) hb; replace HB := hB hb; (try clear hb); (try clear hb2); (try clear hk); (try clear hi); have hz79 := cz4 BK527) | ((with_reducible refine gC 133 ?_); refine cL (some 27) Try.func133 #[.agg #[.int .i64 a0_0, .int .i64 a0_1, .slice A0_2 l0_2.length c0_2, .slice A0_3 l0_3.length c0_3]] ?_; (with_reducible refine (impl_copyBand.calls kj2 a0_0 a0_1 _ _ l0_2 _ _ l0_3 t549 t550 t551 t554 _ ?side1 ?side2 ?side3 ?side4 A33.out).mono ?_); (case side1 => exact cS (Kd.C_below HR0_2.out HB.out)); (case side2 => exact HC0_2.out); (case side3 => exact cS (Kd.C_below HR0_3.out HB.out)); (case side4 => exact HC0_3.out); rintro e w80 ⟨v552, v555, rfl, ho0, ho1, hb⟩; refine ⟨_, rfl, ?_⟩; have HO553 := Aside0.mk (Kd.S_lower ho0 (below_size bS)); have HO556 := Aside0.mk (Kd.S_lower (Kd.S_newB ho1 (g := gb528) kS) (below_size bS)); replace BK527 := kB (g := gb527) hb; replace BK528 := kB (g := gb528) hb; replace BK529 := kB (g := gb529) hb; replace HB := hB hb; (try clear hb); (try clear hb2); (try clear hk); (try clear hi); (try clear ho0); (try clear ho1)) | ((with_reducible refine gD 6 ?_); refine bxE #[.int .i64 0, .int .i64 0, .slice none 0 0, .slice none 0 0] 58 ?_; intro gb557 hg w81 BK557 hb; have GW557 := gE hg; have GE557 := gE hg; have NB527_557 := nL (g := gb527) hg; have NB557_527 := nG (g := gb527) hg; have NB528_557 := nL (g := gb528) hg; have NB557_528 := nG (g := gb528) hg; have NB529_557 := nL (g := gb529) hg; have NB557_529 := nG (g := gb529) hg; replace HO553 := Aside0.mk (Kd.S_below (by (with_reducible repeat (first | apply Kd.S_alloc | apply Kd.S_drewN | apply Kd.S_drew)); exact HO553.out) hb); replace HO556 := Aside0.mk (Kd.S_below (by (with_reducible repeat (first | apply Kd.S_alloc | apply Kd.S_drewN | apply Kd.S_drew)); exact HO556.out) hb); replace BK527 := kB (g := gb527) hb; replace BK528 := kB (g := gb528) hb; replace BK529 := kB (g := gb529) hb; replace HB := hB hb; clear hb hg; have hnb82 := NB557_527.out; have hnc82 := NB527_557.out; have hnb83 := NB557_528.out; have hnc83 := NB528_557.out; have hnb84 := NB557_529.out; have hnc84 := NB529_557.out; have hz85 := cz4 BK557; obtain ⟨Ao86, co86, eo86⟩ := Kd.S_slice HO553.out; subst eo86; obtain ⟨Ao87, co87, eo87⟩ := Kd.S_slice HO556.out; subst eo87))
       have n0_ : Aside0 (Kd.S (Kd.slice 3 (Kd.int .i64)) 71 ((((w81.setCell ⟨gb557, 0, none⟩ (.int .i64 t549)).setCell ⟨gb557, 1, none⟩ (.int .i64 t550)).setCell ⟨gb557, 2, none⟩ (.slice Ao86 t551.length co86)).setCell ⟨gb557, 3, none⟩ (.slice Ao87 t554.length co87)) w.heap.size (fun _ => True) (.slice Ao86 t551.length co86) t551) := ⟨by (with_reducible repeat (first | apply Kd.S_alloc | apply Kd.S_drewN | apply Kd.S_drew)); exact Kd.S_mono (Kd.S_far (p := ⟨gb557, 3, none⟩) (Kd.S_far (p := ⟨gb557, 2, none⟩) (Kd.S_far (p := ⟨gb557, 1, none⟩) (Kd.S_far (p := ⟨gb557, 0, none⟩) (Kd.S_types HO553.out BK557.out (by decide)) (fun _ hk => hk.2) (.int .i64 t549)) (fun _ hk => hk.2) (.int .i64 t550)) (fun _ hk => hk.2) (.slice Ao86 t551.length co86)) (fun _ hk => hk.2) (.slice Ao87 t554.length co87)) (fun _ hk => trivial)⟩
       have n1_ : Aside0 (Kd.S k45 45 ((((w81.setCell ⟨gb557, 0, none⟩ (.int .i64 t549)).setCell ⟨gb557, 1, none⟩ (.int .i64 t550)).setCell ⟨gb557, 2, none⟩ (.slice Ao86 t551.length co86)).setCell ⟨gb557, 3, none⟩ (.slice Ao87 t554.length co87)) w.heap.size (fun k_ => k_ ≠ gb528) (.slice Ao87 t554.length co87) t554) := ⟨by (with_reducible repeat (first | apply Kd.S_alloc | apply Kd.S_drewN | apply Kd.S_drew)); exact Kd.S_mono (Kd.S_far (p := ⟨gb557, 3, none⟩) (Kd.S_far (p := ⟨gb557, 2, none⟩) (Kd.S_far (p := ⟨gb557, 1, none⟩) (Kd.S_far (p := ⟨gb557, 0, none⟩) (Kd.S_types HO556.out BK557.out (by decide)) (fun _ hk => hk.2) (.int .i64 t549)) (fun _ hk => hk.2) (.int .i64 t550)) (fun _ hk => hk.2) (.slice Ao86 t551.length co86)) (fun _ hk => hk.2) (.slice Ao87 t554.length co87)) (fun _ hk => hk.1.2)⟩
       have n2_ : Aside0 (((((w81.setCell ⟨gb557, 0, none⟩ (.int .i64 t549)).setCell ⟨gb557, 1, none⟩ (.int .i64 t550)).setCell ⟨gb557, 2, none⟩ (.slice Ao86 t551.length co86)).setCell ⟨gb557, 3, none⟩ (.slice Ao87 t554.length co87)).heap[gb527]? = some (.cells #[.int .i64 a0_0, .int .i64 a0_1, .slice A0_2 l0_2.length c0_2, .slice A0_3 l0_3.length c0_3] 58 (0, 0))) := ⟨kS⟩
       have n3_ : Aside0 (((((w81.setCell ⟨gb557, 0, none⟩ (.int .i64 t549)).setCell ⟨gb557, 1, none⟩ (.int .i64 t550)).setCell ⟨gb557, 2, none⟩ (.slice Ao86 t551.length co86)).setCell ⟨gb557, 3, none⟩ (.slice Ao87 t554.length co87)).heap[gb528]? = some (.cells #[.slice A1_0 l1_0.length c1_0, .int .i64 a1_1, .int .i64 a1_2, .int .i64 a1_3, .int .i64 a1_4, .int .i64 a1_5] 45 (0, 0))) := ⟨kS⟩
       have n4_ : Aside0 (((((w81.setCell ⟨gb557, 0, none⟩ (.int .i64 t549)).setCell ⟨gb557, 1, none⟩ (.int .i64 t550)).setCell ⟨gb557, 2, none⟩ (.slice Ao86 t551.length co86)).setCell ⟨gb557, 3, none⟩ (.slice Ao87 t554.length co87)).heap[gb529]? = some (.cells #[.int .i64 0, .int .i64 0, .slice none 0 0, .slice none 0 0] 58 (0, 0))) := ⟨kS⟩
       have n5_ : Aside0 (((((w81.setCell ⟨gb557, 0, none⟩ (.int .i64 t549)).setCell ⟨gb557, 1, none⟩ (.int .i64 t550)).setCell ⟨gb557, 2, none⟩ (.slice Ao86 t551.length co86)).setCell ⟨gb557, 3, none⟩ (.slice Ao87 t554.length co87)).heap[gb557]? = some (.cells #[.int .i64 t549, .int .i64 t550, .slice Ao86 t551.length co86, .slice Ao87 t554.length co87] 58 (0, 0))) := ⟨kS⟩
       have n6_ : Aside0 (Below w.heap.size w ((((w81.setCell ⟨gb557, 0, none⟩ (.int .i64 t549)).setCell ⟨gb557, 1, none⟩ (.int .i64 t550)).setCell ⟨gb557, 2, none⟩ (.slice Ao86 t551.length co86)).setCell ⟨gb557, 3, none⟩ (.slice Ao87 t554.length co87))) := ⟨bS⟩
       (try clear HO553)
       (try clear HO556)
       (try clear BK527)
       (try clear BK528)
       (try clear BK529)
       (try clear BK557)
       (try clear HB)
       generalize ((((w81.setCell ⟨gb557, 0, none⟩ (.int .i64 t549)).setCell ⟨gb557, 1, none⟩ (.int .i64 t550)).setCell ⟨gb557, 2, none⟩ (.slice Ao86 t551.length co86)).setCell ⟨gb557, 3, none⟩ (.slice Ao87 t554.length co87)) = w88 at n0_ n1_ n2_ n3_ n4_ n5_ n6_ ⊢
       have HO553 := n0_
       have HO556 := n1_
       have BK527 := n2_
       have BK528 := n3_
       have BK529 := n4_
       have BK557 := n5_
       have HB := n6_
       clear n0_ n1_ n2_ n3_ n4_ n5_ n6_
       replace HO553 := Aside0.mk (Kd.S_drew HO553.out)
       replace HO556 := Aside0.mk (Kd.S_drew HO556.out)
       replace BK527 := Aside0.mk (blk_drew BK527.out)
       replace BK528 := Aside0.mk (blk_drew BK528.out)
       replace BK529 := Aside0.mk (blk_drew BK529.out)
       replace BK557 := Aside0.mk (blk_drew BK557.out)
       replace HB := Aside0.mk (below_drew1 HB.out)
       refine start_ (n := 8) (S := fun w' => w'.cell? ⟨gb527, 0, none⟩ = some (.int .i64 a0_0) ∧ w'.cell? ⟨gb527, 1, none⟩ = some (.int .i64 a0_1) ∧ w'.cell? ⟨gb527, 2, none⟩ = some (.slice A0_2 l0_2.length c0_2) ∧ w'.cell? ⟨gb527, 3, none⟩ = some (.slice A0_3 l0_3.length c0_3) ∧ w'.cell? ⟨gb528, 0, none⟩ = some (.slice A1_0 l1_0.length c1_0) ∧ w'.cell? ⟨gb528, 1, none⟩ = some (.int .i64 a1_1) ∧ w'.cell? ⟨gb528, 2, none⟩ = some (.int .i64 a1_2) ∧ w'.cell? ⟨gb528, 3, none⟩ = some (.int .i64 a1_3) ∧ w'.cell? ⟨gb528, 4, none⟩ = some (.int .i64 a1_4) ∧ w'.cell? ⟨gb528, 5, none⟩ = some (.int .i64 a1_5)) (ds := []) #[false, false, false, false, false, false, false, false] (by kernel_rfl) rfl rfl ⟨(blk_cell BK527.out 0).trans rfl, (blk_cell BK527.out 1).trans rfl, (blk_cell BK527.out 2).trans rfl, (blk_cell BK527.out 3).trans rfl, (blk_cell BK528.out 0).trans rfl, (blk_cell BK528.out 1).trans rfl, (blk_cell BK528.out 2).trans rfl, (blk_cell BK528.out 3).trans rfl, (blk_cell BK528.out 4).trans rfl, (blk_cell BK528.out 5).trans rfl⟩ (fun hHeld => ?_); refine with_tabW impl_AddToBand.tab6 impl_AddToBand.bits6 (fun HT_ HW_ => ?_)
       generalize w88.drew = w89 at HO553 HO556 BK527 BK528 BK529 BK557 HB hHeld ⊢
       refine pU 3 (some 31) #[false, false, false, true, false, false, false, false] ?_
       refine tK 0 (some 28) #[true, false, false, true, false, false, false, false] ?_
       refine tK 4 (some 32) #[true, false, false, true, true, false, false, false] ?_
       refine pU 5 (some 33) #[true, false, false, true, true, true, false, false] ?_
       refine one_ (i := 1) (N := some 29) #[true, true, false, true, true, true, false, false] rfl rfl (one_of HT_.out (by kernel_rfl)) (by decide) (fun K hK => ?_)
       refine goes_ Try.func63 (by kernel_rfl) rfl #[.agg #[.int .i64 a0_0, .int .i64 a0_1, .slice A0_2 l0_2.length c0_2, .slice A0_3 l0_3.length c0_3]] (by rfl) rfl rfl (by (try simp only [List.map_toArray, List.map_cons, List.map_nil]); first | done | rfl | (simp only [List.length_drop, List.length_take]; rfl)) ?_
       with_reducible refine (impl_BandCells.calls kj2 a0_0 a0_1 _ _ l0_2 _ _ l0_3 t558 _ ?side1 ?side2 ?side3 ?side4 A34.out).mono ?_
       (case side1 => exact cS (Kd.C_below HR0_2.out HB.out))
       (case side2 => exact HC0_2.out)
       (case side3 => exact cS (Kd.C_below HR0_3.out HB.out))
       (case side4 => exact HC0_3.out)
       rintro e w90 ⟨rfl, hb⟩
       refine ⟨_, rfl, ?_⟩
       replace HO553 := Aside0.mk (Kd.S_below (by (with_reducible repeat (first | apply Kd.S_alloc | apply Kd.S_drewN | apply Kd.S_drew)); exact HO553.out) hb)
       replace HO556 := Aside0.mk (Kd.S_below (by (with_reducible repeat (first | apply Kd.S_alloc | apply Kd.S_drewN | apply Kd.S_drew)); exact HO556.out) hb)
       replace BK527 := kB (g := gb527) hb
       replace BK528 := kB (g := gb528) hb
       replace BK529 := kB (g := gb529) hb
       replace BK557 := kB (g := gb557) hb
       replace HB := hB hb
       (try clear hb)
       (try clear hb2)
       (try clear hk)
       (try clear hi)
       refine hK.out _ _ ⟨(blk_cell BK527.out 0).trans rfl, (blk_cell BK527.out 1).trans rfl, (blk_cell BK527.out 2).trans rfl, (blk_cell BK527.out 3).trans rfl, (blk_cell BK528.out 0).trans rfl, (blk_cell BK528.out 1).trans rfl, (blk_cell BK528.out 2).trans rfl, (blk_cell BK528.out 3).trans rfl, (blk_cell BK528.out 4).trans rfl, (blk_cell BK528.out 5).trans rfl⟩ (fun hHeld => ?_)
       clear hK K
       refine norm_ (a' := ?_) ?_ ?_
       rotate_left
       ·show Act.put _ (some 29) _ = _
        simp only [Act.put, List.setIfInBounds_toArray, List.set_cons_zero, List.set_cons_succ, i64_w, i32_w]
        rfl
       refine pU 2 (some 30) #[true, true, true, true, true, true, false, false] ?_
       refine pU 6 (some 34) #[true, true, true, true, true, true, true, false] ?_
       refine pU 7 (some 35) #[true, true, true, true, true, true, true, true] ?_
       refine done_ (done_of HT_.out (by kernel_rfl)) ?_
       try go_wp2
       replace HO553 := Aside0.mk (Kd.S_drew HO553.out)
       replace HO556 := Aside0.mk (Kd.S_drew HO556.out)
       replace BK527 := Aside0.mk (blk_drew BK527.out)
       replace BK528 := Aside0.mk (blk_drew BK528.out)
       replace BK529 := Aside0.mk (blk_drew BK529.out)
       replace BK557 := Aside0.mk (blk_drew BK557.out)
       replace HB := Aside0.mk (below_drew1 HB.out)
       refine start_ (n := 8) (S := fun w' => w'.cell? ⟨gb557, 0, none⟩ = some (.int .i64 t549) ∧ w'.cell? ⟨gb557, 1, none⟩ = some (.int .i64 t550) ∧ w'.cell? ⟨gb557, 2, none⟩ = some (.slice Ao86 t551.length co86) ∧ w'.cell? ⟨gb557, 3, none⟩ = some (.slice Ao87 t554.length co87) ∧ w'.cell? ⟨gb528, 0, none⟩ = some (.slice A1_0 l1_0.length c1_0) ∧ w'.cell? ⟨gb528, 1, none⟩ = some (.int .i64 a1_1) ∧ w'.cell? ⟨gb528, 2, none⟩ = some (.int .i64 a1_2) ∧ w'.cell? ⟨gb528, 3, none⟩ = some (.int .i64 a1_3) ∧ w'.cell? ⟨gb528, 4, none⟩ = some (.int .i64 a1_4) ∧ w'.cell? ⟨gb528, 5, none⟩ = some (.int .i64 a1_5)) (ds := [7]) #[false, false, false, false, false, false, false, false] (by kernel_rfl) rfl rfl ⟨(blk_cell BK557.out 0).trans rfl, (blk_cell BK557.out 1).trans rfl, (blk_cell BK557.out 2).trans rfl, (blk_cell BK557.out 3).trans rfl, (blk_cell BK528.out 0).trans rfl, (blk_cell BK528.out 1).trans rfl, (blk_cell BK528.out 2).trans rfl, (blk_cell BK528.out 3).trans rfl, (blk_cell BK528.out 4).trans rfl, (blk_cell BK528.out 5).trans rfl⟩ (fun hHeld => ?_); refine with_tabW impl_AddToBand.tab8 impl_AddToBand.bits8 (fun HT_ HW_ => ?_)
       generalize w90.drew = w91 at HO553 HO556 BK527 BK528 BK529 BK557 HB hHeld ⊢
       refine pU 0 (some 38) #[true, false, false, false, false, false, false, false] ?_
       refine tK 1 (some 39) #[true, true, false, false, false, false, false, false] ?_
       refine tK 2 (some 40) #[true, true, true, false, false, false, false, false] ?_
       refine one_ (i := 3) (N := some 41) #[true, true, true, true, false, false, false, false] rfl rfl (one_of HT_.out (by kernel_rfl)) (by decide) (fun K hK => ?_)
       refine goes_ Try.func138 (by kernel_rfl) rfl #[.agg #[.slice A1_0 l1_0.length c1_0, .int .i64 a1_1, .int .i64 a1_2, .int .i64 a1_3, .int .i64 a1_4, .int .i64 a1_5]] (by rfl) rfl rfl (by (try simp only [List.map_toArray, List.map_cons, List.map_nil]); first | done | rfl | (simp only [List.length_drop, List.length_take]; rfl)) ?_
       with_reducible refine (impl_copyObject.calls _ _ l1_0 a1_1 a1_2 a1_3 a1_4 a1_5 t578 t581 t582 t583 t584 t585 _ ?side1 ?side2 A71.out).mono ?_
       (case side1 => exact cS (Kd.C_below HR1_0.out HB.out))
       (case side2 => exact HC1_0.out)
       rintro e w92 ⟨v579, rfl, ho0, hb⟩
       refine ⟨_, rfl, ?_⟩
       have HO580 := Aside0.mk (Kd.R_lower ho0 (below_size bS))
       replace HO553 := Aside0.mk (Kd.S_below (by (with_reducible repeat (first | apply Kd.S_alloc | apply Kd.S_drewN | apply Kd.S_drew)); exact HO553.out) hb)
       replace HO556 := Aside0.mk (Kd.S_elder' (by (with_reducible repeat (first | apply Kd.S_alloc | apply Kd.S_drewN | apply Kd.S_drew)); exact HO556.out) (Kd.R_base ho0) hb)
       replace BK527 := kB (g := gb527) hb
       replace BK528 := kB (g := gb528) hb
       replace BK529 := kB (g := gb529) hb
       replace BK557 := kB (g := gb557) hb
       replace HB := hB hb
       (try clear hb)
       (try clear hb2)
       (try clear hk)
       (try clear hi)
       (try clear ho0)
       obtain ⟨Ao94, co94, eo94⟩ := Kd.R_slice HO580.out
       (first | subst eo94 | (injection eo94 with f1_ f2_ f3_; have f4_ := f1_.symm; have f5_ := f3_.symm; clear f1_ f2_ f3_; subst f4_; subst f5_))
       refine hK.out _ _ ⟨(blk_cell BK557.out 0).trans rfl, (blk_cell BK557.out 1).trans rfl, (blk_cell BK557.out 2).trans rfl, (blk_cell BK557.out 3).trans rfl, (blk_cell BK528.out 0).trans rfl, (blk_cell BK528.out 1).trans rfl, (blk_cell BK528.out 2).trans rfl, (blk_cell BK528.out 3).trans rfl, (blk_cell BK528.out 4).trans rfl, (blk_cell BK528.out 5).trans rfl⟩ (fun hHeld => ?_)
       clear hK K
       refine norm_ (a' := ?_) ?_ ?_
       rotate_left
       ·show Act.put _ (some 41) _ = _
        simp only [Act.put, List.setIfInBounds_toArray, List.set_cons_zero, List.set_cons_succ, i64_w, i32_w]
        rfl
       refine one_ (i := 4) (N := some 42) #[true, true, true, true, true, false, false, false] rfl rfl (one_of HT_.out (by kernel_rfl)) (by decide) (fun K hK => ?_)
       refine value_ (w1 := ?_) (v := ?_) (by rfl) rfl ?_ ?_
       rotate_left 2
       ·go_simp
        constructor
        ·rfl
        ·rfl
       refine hK.out _ _ ⟨(blk_cell (blk_alloc BK557.out _) 0).trans rfl, (blk_cell (blk_alloc BK557.out _) 1).trans rfl, (blk_cell (blk_alloc BK557.out _) 2).trans rfl, (blk_cell (blk_alloc BK557.out _) 3).trans rfl, (blk_cell (blk_alloc BK528.out _) 0).trans rfl, (blk_cell (blk_alloc BK528.out _) 1).trans rfl, (blk_cell (blk_alloc BK528.out _) 2).trans rfl, (blk_cell (blk_alloc BK528.out _) 3).trans rfl, (blk_cell (blk_alloc BK528.out _) 4).trans rfl, (blk_cell (blk_alloc BK528.out _) 5).trans rfl⟩ (fun hHeld => ?_)
       clear hK K
       refine norm_ (a' := ?_) ?_ ?_
       rotate_left
       ·show Act.put _ (some 42) _ = _
        simp only [Act.put, List.setIfInBounds_toArray, List.set_cons_zero, List.set_cons_succ, i64_w, i32_w]
        rfl
       refine one_ (i := 5) (N := some 43) #[true, true, true, true, true, true, false, false] rfl rfl (one_of HT_.out (by kernel_rfl)) (by decide) (fun K hK => ?_)
       refine Kd.S_append_step k45 (w0 := w) w.heap.size (by rfl) (.tmp 39) (.tmp 42) 24 45 (.agg #[(.slice none 0 0), (.int .i64 0), (.int .i64 0), (.int .i64 0), (.int .i64 0), (.int .i64 0)]) 64 rfl Try.underlying24 info45 rfl (by decide) (by omega) (.slice Ao87 t554.length co87) t554 (⟨t578, t581, (⟨t582, t583, t584, t585⟩ : S43)⟩ : S45) [.slice Ao94 t578.length co94, .int .i64 t581, .int .i64 t582, .int .i64 t583, .int .i64 t584, .int .i64 t585] (fun k_ => k_ ≠ gb528) (fun k_ => some k_ = (.slice Ao94 t578.length co94 : Value).ownBlock) rfl rfl ?aP (fun k_ hk_ => ((Kd.R_mono (ok' := fun k_ => ((fun k_ => k_ ≠ gb528)) k_ ∧ some k_ ≠ (.slice Ao87 t554.length co87 : Value).ownBlock) (Kd.R_types (Kd.R_apart' (HO580.out) (Kd.S_typed HO556.out) (by decide)) BK528.out (by decide)) (fun k_ hk => ⟨hk.2, hk.1.2⟩))).1 k_ hk_.symm) ?aF ?aO ?aB ?aS ?aL ?_
       (case aP => exact k45_mkM _ _ _ (⟨t578, t581, (⟨t582, t583, t584, t585⟩ : S43)⟩ : S45) (Kd.R_mono (Kd.R_tight rfl (Kd.R_mono (ok' := fun k_ => ((fun k_ => k_ ≠ gb528)) k_ ∧ some k_ ≠ (.slice Ao87 t554.length co87 : Value).ownBlock) (Kd.R_types (Kd.R_apart' (HO580.out) (Kd.S_typed HO556.out) (by decide)) BK528.out (by decide)) (fun k_ hk => ⟨hk.2, hk.1.2⟩))) (fun _ h_ => h_)))
       (case aB => exact bS)
       (case aF => exact (fun k_ hk => Kd.freshB (g := gb528) kS k_ hk))
       (case aO => exact (by (with_reducible repeat (first | apply Kd.S_alloc | apply Kd.S_drewN | apply Kd.S_drew)); exact Kd.S_mono HO556.out (fun k_ hk => ⟨hk.1, fun e_ => hk.2 e_⟩)))
       (case aS => exact (below_size bS))
       (case aL => have := LMc72.out; omega)
       intro v587 w93 ho hb hg hat
       rw [← Ny586.out] at ho
       have HO588 := Aside0.mk (ho)
       replace BK527 := Aside0.mk (blk_grown (g := gb527) kS hg (Kd.S_ne HO556.out BK527.out (by decide)))
       replace BK528 := Aside0.mk (blk_grown (g := gb528) kS hg (Kd.S_away HO556.out (fun _ hk => hk.1)))
       replace BK529 := Aside0.mk (blk_grown (g := gb529) kS hg (Kd.S_ne HO556.out BK529.out (by decide)))
       replace HO553 := Aside0.mk (Kd.S_over' (by (with_reducible repeat (first | apply Kd.S_alloc | apply Kd.S_drewN | apply Kd.S_drew)); exact HO553.out) (Kd.S_typed (by (with_reducible repeat (first | apply Kd.S_alloc | apply Kd.S_drewN | apply Kd.S_drew)); exact HO556.out)) (by decide) hg)
       replace BK557 := Aside0.mk (blk_grown (g := gb557) kS hg (Kd.S_ne HO556.out BK557.out (by decide)))
       replace HB := Aside0.mk (hb)
       clear HO556 HO580
       clear ho hb hg hat
       obtain ⟨Ao95, co95, eo95⟩ := Kd.S_slice HO588.out
       (first | subst eo95 | (injection eo95 with f1_ f2_ f3_; have f4_ := f1_.symm; have f5_ := f3_.symm; clear f1_ f2_ f3_; subst f4_; subst f5_))
       refine hK.out _ _ ⟨(blk_cell BK557.out 0).trans rfl, (blk_cell BK557.out 1).trans rfl, (blk_cell BK557.out 2).trans rfl, (blk_cell BK557.out 3).trans rfl, (blk_cell BK528.out 0).trans rfl, (blk_cell BK528.out 1).trans rfl, (blk_cell BK528.out 2).trans rfl, (blk_cell BK528.out 3).trans rfl, (blk_cell BK528.out 4).trans rfl, (blk_cell BK528.out 5).trans rfl⟩ (fun hHeld => ?_)
       clear hK K
       refine norm_ (a' := ?_) ?_ ?_
       rotate_left
       ·show Act.put _ (some 43) _ = _
        simp only [Act.put, List.setIfInBounds_toArray, List.set_cons_zero, List.set_cons_succ, i64_w, i32_w]
        rfl
       refine pU 6 (some 44) #[true, true, true, true, true, true, true, false] ?_
       refine last_ (i := 7) (N := none) #[true, true, true, true, true, true, true, true] rfl rfl (one_of HT_.out (by kernel_rfl)) (by decide) (fun K hK => ?_)
       have hs96 : w93.cell? ⟨gb557, 3, none⟩ = some (.slice Ao87 t554.length co87) := (blk_cell BK557.out 3).trans rfl
       have hfs96 := blk_frozen BK557.out 3
       have hns96_0 := NB527_557.out
       have hns96_1 := NB528_557.out
       have hns96_2 := NB529_557.out
       have hms96_0 := NB557_527.out
       have hms96_1 := NB557_528.out
       have hms96_2 := NB557_529.out
       refine skip_ (w1 := ?_) (by rfl) rfl ?_ ?_
       rotate_left
       ·go_simp
        rfl
       refine hK.out _ _ ?_
       clear hK K
       refine done_ (done_of HT_.out (by kernel_rfl)) ?_
       have hz97 := cz4 BK557
       have hz98 := cz4 BK529
       try go_wp2
       refine bodyPost_ret (results_ct rfl _ _ gb529 58 #[.int .i64 t549, .int .i64 t550, .slice Ao86 t551.length co86, .slice Ao95 y586.length co95] (0, 0) _ rfl kS Try.underlying58 rfl (by kernel_rfl)) rfl ?_
       exact ⟨_, _, eS, by (with_reducible repeat (first | apply Kd.S_alloc | apply Kd.S_drewN | apply Kd.S_drew)); exact Kd.S_mono (Kd.S_far (p := ⟨gb529, 3, none⟩) (Kd.S_far (p := ⟨gb529, 2, none⟩) (Kd.S_far (p := ⟨gb529, 1, none⟩) (Kd.S_far (p := ⟨gb529, 0, none⟩) (Kd.S_far (p := ⟨gb557, 3, none⟩) (Kd.S_types (Kd.S_types HO553.out BK557.out (by decide)) BK529.out (by decide)) (fun _ hk => hk.1.2) (.slice Ao95 y586.length co95)) (fun _ hk => hk.2) (.int .i64 t549)) (fun _ hk => hk.2) (.int .i64 t550)) (fun _ hk => hk.2) (.slice Ao86 t551.length co86)) (fun _ hk => hk.2) (.slice Ao95 y586.length co95)) (fun _ hk => trivial), by (with_reducible repeat (first | apply Kd.S_alloc | apply Kd.S_drewN | apply Kd.S_drew)); exact Kd.S_mono (Kd.S_far (p := ⟨gb529, 3, none⟩) (Kd.S_far (p := ⟨gb529, 2, none⟩) (Kd.S_far (p := ⟨gb529, 1, none⟩) (Kd.S_far (p := ⟨gb529, 0, none⟩) (Kd.S_far (p := ⟨gb557, 3, none⟩) (Kd.S_types (Kd.S_types HO588.out BK557.out (by decide)) BK529.out (by decide)) (fun _ hk => hk.1.2) (.slice Ao95 y586.length co95)) (fun _ hk => hk.2) (.int .i64 t549)) (fun _ hk => hk.2) (.int .i64 t550)) (fun _ hk => hk.2) (.slice Ao86 t551.length co86)) (fun _ hk => hk.2) (.slice Ao95 y586.length co95)) (fun _ hk => trivial), bS⟩
      ·rw [if_neg c72] at H
       exact absurd H (by simp)
    ·obtain rfl := Bool.eq_false_iff.mpr c32
     rw [if_neg nF] at H
     replace H := bN H
     obtain ⟨⟨t541, t542, t543, t546⟩, A99, H⟩ := H
     simp only [Option.some.injEq, Prod.mk.injEq] at H
     obtain ⟨rfl, rfl, rfl, rfl, rfl⟩ := H
     have hnb100 := NB528_527.out
     have hnc100 := NB527_528.out
     have hnb101 := NB528_529.out
     have hnc101 := NB529_528.out
     have hz102 := cz6 BK528
     have hnb103 := NB527_529.out
     have hnc103 := NB529_527.out
     have hz104 := cz4 BK527
     go_wp2_with (first | ((with_reducible refine gC 102 ?_); refine cL (some 22) Try.func102 #[.agg #[.slice A1_0 l1_0.length c1_0, .int .i64 a1_1, .int .i64 a1_2, .int .i64 a1_3, .int .i64 a1_4, .int .i64 a1_5], .int .i64 a0_0, .int .i64 a0_1] ?_; (with_reducible refine (impl_TouchesBand.calls kj2 _ _ l1_0 a1_1 a1_2 a1_3 a1_4 a1_5 a0_0 a0_1 _ _ ?side1 ?side2 A31.out).mono ?_); (case side1 => exact cS (Kd.C_below HR1_0.out HB.out)); (case side2 => exact HC1_0.out); rintro e w105 ⟨rfl, hb⟩; refine ⟨_, rfl, ?_⟩; replace BK527 := kB (g := gb527) hb; replace BK528 := kB (g := gb528) hb; replace BK529 := kB (g := gb529) hb; replace HB := hB hb; (try clear hb); (try clear hb2); (try clear hk); (try clear hi); have hz106 := cz4 BK527) | ((with_reducible refine gC 133 ?_); refine cL (some 25) Try.func133 #[.agg #[.int .i64 a0_0, .int .i64 a0_1, .slice A0_2 l0_2.length c0_2, .slice A0_3 l0_3.length c0_3]] ?_; (with_reducible refine (impl_copyBand.calls kj2 a0_0 a0_1 _ _ l0_2 _ _ l0_3 t541 t542 t543 t546 _ ?side1 ?side2 ?side3 ?side4 A99.out).mono ?_); (case side1 => exact cS (Kd.C_below HR0_2.out HB.out)); (case side2 => exact HC0_2.out); (case side3 => exact cS (Kd.C_below HR0_3.out HB.out)); (case side4 => exact HC0_3.out); rintro e w107 ⟨v544, v547, rfl, ho0, ho1, hb⟩; refine ⟨_, rfl, ?_⟩; have HO545 := Aside0.mk (Kd.S_lower ho0 (below_size bS)); have HO548 := Aside0.mk (Kd.S_lower (Kd.S_newB ho1 (g := gb528) kS) (below_size bS)); replace BK527 := kB (g := gb527) hb; replace BK528 := kB (g := gb528) hb; replace BK529 := kB (g := gb529) hb; replace HB := hB hb; (try clear hb); (try clear hb2); (try clear hk); (try clear hi); (try clear ho0); (try clear ho1); have hz108 := cz4 BK529; obtain ⟨Ao109, co109, eo109⟩ := Kd.S_slice HO545.out; subst eo109; obtain ⟨Ao110, co110, eo110⟩ := Kd.S_slice HO548.out; subst eo110))
     refine bodyPost_ret (results_ct rfl _ _ gb529 58 #[.int .i64 t541, .int .i64 t542, .slice Ao109 t543.length co109, .slice Ao110 t546.length co110] (0, 0) _ rfl kS Try.underlying58 rfl (by kernel_rfl)) rfl ?_
     exact ⟨_, _, eS, by (with_reducible repeat (first | apply Kd.S_alloc | apply Kd.S_drewN | apply Kd.S_drew)); exact Kd.S_mono (Kd.S_far (p := ⟨gb529, 3, none⟩) (Kd.S_far (p := ⟨gb529, 2, none⟩) (Kd.S_far (p := ⟨gb529, 1, none⟩) (Kd.S_far (p := ⟨gb529, 0, none⟩) (Kd.S_types HO545.out BK529.out (by decide)) (fun _ hk => hk.2) (.int .i64 t541)) (fun _ hk => hk.2) (.int .i64 t542)) (fun _ hk => hk.2) (.slice Ao109 t543.length co109)) (fun _ hk => hk.2) (.slice Ao110 t546.length co110)) (fun _ hk => trivial), by (with_reducible repeat (first | apply Kd.S_alloc | apply Kd.S_drewN | apply Kd.S_drew)); exact Kd.S_mono (Kd.S_far (p := ⟨gb529, 3, none⟩) (Kd.S_far (p := ⟨gb529, 2, none⟩) (Kd.S_far (p := ⟨gb529, 1, none⟩) (Kd.S_far (p := ⟨gb529, 0, none⟩) (Kd.S_types HO548.out BK529.out (by decide)) (fun _ hk => hk.2) (.int .i64 t541)) (fun _ hk => hk.2) (.int .i64 t542)) (fun _ hk => hk.2) (.slice Ao109 t543.length co109)) (fun _ hk => hk.2) (.slice Ao110 t546.length co110)) (fun _ hk => trivial), bS⟩

end Go.Proofs.Ytigodjcnkgebaaa.QFnMemory
