-- Made out of the translation by a program of this session (a changed copy of the print). Not trusted: Lean checks it.
import Derived.Test.YtncfipboidmfbaaGreatQFnExactRowsOfBandx0
import Derived.Test.YtncfipboidmfbaaGreatQFnExactRowsOfBandx11
namespace Go.Proofs.YtncfipboidmfbaaGreat.QFnExactRowsOfBand
open Go.RowKit Go.Proofs.YtncfipboidmfbaaGreatW.PrintWords Go.Proofs.YtncfipboidmfbaaGreatW.PrintLast Go.Proofs.YtncfipboidmfbaaGreatW.PrintMore
attribute [local go_sem] max2_int min2_int max_two min_two max_three min_three max_four min_four   -- for this text's walks alone
set_option linter.unusedVariables false
set_option linter.unusedSimpArgs false
set_option maxHeartbeats 8000000
set_option maxRecDepth 100000

/-! ### impl_BoxOf: function 152 -/
mutual
def impl_BoxOf.j0 : Nat → List (S151) → Bool → Option (Int × Int × Int × Int)
 | 0, _, _ => none
 | k + 1, x0, x13 => if x13 = true then (some (0, 0, 0, 0)) else (if 0 < (x0.length : Int) then (impl_BoxOf.l0 k x0 (x0.length : Int) 0 ((rd_T151 x0 0).f0) ((rd_T151 x0 0).f1) ((rd_T151 x0 0).f0) ((rd_T151 x0 0).f1)) else (none))
def impl_BoxOf.l0 : Nat → List (S151) → Int → Int → Int → Int → Int → Int → Option (Int × Int × Int × Int)
 | 0, _, _, _, _, _, _, _ => none
 | k + 1, x32, x33, x34, x496000, x496001, x496002, x496003 => if x34 < x33 then (if 0 ≤ x34 then (if x34 < (x32.length : Int) then (impl_BoxOf.l0 k x32 x33 (wrap64 (x34 + 1)) (mn x496000 ((rd_T151 x32 x34).f0)) (mn x496001 ((rd_T151 x32 x34).f1)) (mx x496002 ((rd_T151 x32 x34).f0)) (mx x496003 ((rd_T151 x32 x34).f1))) else (none)) else (none)) else (some (x496000, x496001, x496002, x496003))
end
def impl_BoxOf.f (k : Nat) (l0 : List (S151)) : Option (Int × Int × Int × Int) := if (l0.length : Int) = 0 then (impl_BoxOf.j0 k l0 true) else ((impl_pointsOk.f k l0).bind fun t490 => (impl_BoxOf.j0 k l0 (!t490)))
def impl_BoxOf.T3 : Bool × List (List Nat × List Nat) := (true, [([], []), ([0], [0]), ([1], [1]), ([2], [2]), ([], []), ([4], [4]), ([5], [5]), ([6], [6]), ([], []), ([8], [8]), ([9], [9]), ([10], [10]), ([], []), ([12], [12]), ([13], [13]), ([14], [14]), ([3, 7, 11, 15], [3, 7, 11, 15]), ([], []), ([17, 16, 0, 1, 2, 3, 4, 5, 6, 7, 8, 9, 10, 11, 12, 13, 14, 15, 16, 17], [16, 17])])
def impl_BoxOf.B3 : List Nat := [0, 1, 3, 7, 0, 16, 48, 112, 0, 256, 768, 1792, 0, 4096, 12288, 28672, 65535, 0, 262143]
theorem impl_BoxOf.tab3 : rtab .any (opsOf Tryz.f152 3) = impl_BoxOf.T3 := by kernel_rfl
theorem impl_BoxOf.bits3 : waitsOk impl_BoxOf.T3.2 impl_BoxOf.B3 = true := by kernel_rfl
def impl_BoxOf.T7 : Bool × List (List Nat × List Nat) := (true, [([], []), ([0], [0]), ([], []), ([2], [2]), ([1, 3], [1, 3]), ([], []), ([5], [5]), ([], []), ([7], [7]), ([6, 8], [6, 8]), ([0, 1, 2, 3, 4, 5, 6], []), ([10, 4, 0, 1, 2, 3, 4, 5, 6], [4, 10]), ([0, 1, 2, 3, 4, 5, 6, 7, 8, 9, 10, 11], []), ([12, 9, 11, 0, 1, 2, 3, 4, 5, 6, 7, 8, 9, 10, 11], [9, 12])])
def impl_BoxOf.B7 : List Nat := [0, 1, 0, 4, 15, 0, 32, 0, 128, 480, 127, 1151, 4095, 8191]
theorem impl_BoxOf.tab7 : rtab .any (opsOf Tryz.f152 7) = impl_BoxOf.T7 := by kernel_rfl
theorem impl_BoxOf.bits7 : waitsOk impl_BoxOf.T7.2 impl_BoxOf.B7 = true := by kernel_rfl
def impl_BoxOf.T8 : Bool × List (List Nat × List Nat) := (true, [([], []), ([0], [0]), ([], []), ([2], [2]), ([1, 3], [1, 3]), ([], []), ([5], [5]), ([], []), ([7], [7]), ([6, 8], [6, 8]), ([0, 1, 2, 3, 4, 5, 6], []), ([10, 4, 0, 1, 2, 3, 4, 5, 6], [4, 10]), ([0, 1, 2, 3, 4, 5, 6, 7, 8, 9, 10, 11], []), ([12, 9, 11, 0, 1, 2, 3, 4, 5, 6, 7, 8, 9, 10, 11], [9, 12])])
def impl_BoxOf.B8 : List Nat := [0, 1, 0, 4, 15, 0, 32, 0, 128, 480, 127, 1151, 4095, 8191]
theorem impl_BoxOf.tab8 : rtab .any (opsOf Tryz.f152 8) = impl_BoxOf.T8 := by kernel_rfl
theorem impl_BoxOf.bits8 : waitsOk impl_BoxOf.T8.2 impl_BoxOf.B8 = true := by kernel_rfl
theorem impl_BoxOf.calls (k : Nat) (A0 : Option Addr) (c0 : Nat) (l0 : List (S151)) (r1 : Int) (r2 : Int) (r3 : Int) (r4 : Int) (w : World) (hr0 : Kd.C k151 w A0 l0.length l0) (hc0 : l0.length ≤ c0) (h : impl_BoxOf.f k l0 = some (r1, r2, r3, r4)) :
  Calls Tryz.prog 152 #[.slice A0 l0.length c0] w fun e w' => e = .returned (.agg #[.int .i64 r1, .int .i64 r2, .int .i64 r3, .int .i64 r4]) ∧ Below w.heap.size w w' := by
 have hu47 := Tryz.underlying47
 have hu151 := Tryz.underlying151
 have HR0 := Aside0.mk hr0
 have HC0 := Aside0.mk hc0
 clear hr0 hc0
 have HB := Aside0.mk (Below.refl w.heap.size w)
 have H : (if (l0.length : Int) = 0 then (impl_BoxOf.j0 k l0 true) else ((impl_pointsOk.f k l0).bind fun t490 => (impl_BoxOf.j0 k l0 (!t490)))) = some (r1, r2, r3, r4) := h
 clear h
 have HC2 := Aside0.mk H
 clear H
 go_enter Tryz.func152, Tryz.ntmps152
 go_upto_region 1 with (first | ((with_reducible refine gD 2 ?_); refine bxE #[.int .i64 0, .int .i64 0, .int .i64 0, .int .i64 0] 47 ?_; intro gb489 hg w3 BK489 hb; have GW489 := gE hg; have GE489 := gE hg; replace HB := hB hb; clear hb hg))
 (try simp only [Act.put, List.setIfInBounds_toArray, List.set_cons_zero, List.set_cons_succ])
 go_cut [13] (fun v13 wc => ∃ (kq : Nat) (x13_1 : Bool), v13 = .bool x13_1 ∧ Aside0 (impl_BoxOf.j0 kq l0 x13_1 = some (r1, r2, r3, r4)) ∧ Aside0 (kq ≤ k) ∧ Aside0 (wc.heap[gb489]? = some (.cells #[.int .i64 0, .int .i64 0, .int .i64 0, .int .i64 0] 47 (0, 0))) ∧ Aside0 (Below w.heap.size w wc))
 case first =>
  have H := HC2.out
  clear HC2
  by_cases c4 : (l0.length : Int) = 0
  ·rw [if_pos c4] at H
   have c4b0 : ((l0.length : Int) == 0) = true := beq_iff_eq.mpr c4
   have c4b1 : ((l0.length : Int) != 0) = false := bne_eq_false_iff_eq.mpr c4
   clear c4
   (first | rw [c4b0] | (simp only [i64_w, i32_w]; rw [c4b0]) | skip)
   have H' := Aside0.mk H
   clear H
   go_wp2
   go_meet
   case rel => exact ⟨_, (true), (by first | rfl | (simp; done) | (simp [*]; done)), H', ⟨by first | omega | exact Nat.le_refl _⟩, ⟨kS⟩, ⟨bS⟩⟩
  ·rw [if_neg c4] at H
   have c4b0 : ((l0.length : Int) == 0) = false := beq_eq_false_iff_ne.mpr c4
   have c4b1 : ((l0.length : Int) != 0) = true := bne_iff_ne.mpr c4
   have c4b2 : ¬ (l0 = []) := fun h_ => c4 (by rw [h_]; rfl)
   (first | rw [c4b0] | (simp only [i64_w, i32_w]; rw [c4b0]) | skip)
   replace H := bN H
   obtain ⟨t490, A5, H⟩ := H
   have H' := Aside0.mk H
   clear H
   go_wp2_with (first | (go_at_call 125; (with_reducible refine (impl_pointsOk.calls k _ _ l0 t490 _ ?side1 ?side2 A5.out).mono ?_); (case side1 => exact cS (Kd.C_below HR0.out HB.out)); (case side2 => exact HC0.out); rintro e w6 ⟨rfl, hb⟩; replace BK489 := kB (g := gb489) hb; replace HB := hB hb; (try clear hb); (try clear hb2); (try clear hk); (try clear hi)))
   go_meet
   case rel => exact ⟨_, (!t490), (by first | rfl | (simp; done) | (simp [*]; done)), H', ⟨by first | omega | exact Nat.le_refl _⟩, ⟨kS⟩, ⟨bS⟩⟩
 case rest =>
  clear HC2
  try clear c1
  try clear p2
  try clear c4
  try clear c4b0
  try clear c4b1
  try clear c4b2
  obtain ⟨kq, x13_1, rfl, HA, HJ1, BK489, HB⟩ := hcut
  cases kq with
  | zero => exact absurd HA.out (by simp [impl_BoxOf.j0])
  | succ kj1 =>
   have H := HA.out
   clear HA
   simp only [impl_BoxOf.j0] at H
   by_cases c7 : x13_1 = true
   ·subst c7
    rw [if_pos rfl] at H
    simp only [Option.some.injEq, Prod.mk.injEq] at H
    obtain ⟨rfl, rfl, rfl, rfl⟩ := H
    have hcz8_0 : wc.cell? ⟨gb489, 0, none⟩ = some (.int .i64 0) := (blk_cell BK489.out 0).trans rfl
    have hcz8_1 : wc.cell? ⟨gb489, 1, none⟩ = some (.int .i64 0) := (blk_cell BK489.out 1).trans rfl
    have hcz8_2 : wc.cell? ⟨gb489, 2, none⟩ = some (.int .i64 0) := (blk_cell BK489.out 2).trans rfl
    have hcz8_3 : wc.cell? ⟨gb489, 3, none⟩ = some (.int .i64 0) := (blk_cell BK489.out 3).trans rfl
    have hfz8_0 := blk_frozen BK489.out 0
    have hfz8_1 := blk_frozen BK489.out 1
    have hfz8_2 := blk_frozen BK489.out 2
    have hfz8_3 := blk_frozen BK489.out 3
    go_wp2
    refine bodyPost_ret (results_cell_row rfl _ _ gb489 47 #[.int .i64 0, .int .i64 0, .int .i64 0, .int .i64 0] (0, 0) _ rfl kS Tryz.underlying47 rfl (by kernel_rfl)) rfl ?_
    exact ⟨eS, bS⟩
   ·obtain rfl := Bool.eq_false_iff.mpr c7
    rw [if_neg nF] at H
    by_cases c9 : 0 < (l0.length : Int)
    ·rw [if_pos c9] at H
     have c9b0 : decide (0 < (l0.length : Int)) = true := decide_eq_true c9
     have c9b1 : decide (0 < l0.length) = true := decide_eq_true (by omega)
     clear c9
     have H' := Aside0.mk H
     clear H
     try go_wp2
     replace BK489 := Aside0.mk (blk_drew BK489.out)
     replace HB := Aside0.mk (below_drew1 HB.out)
     have p491 : 0 ≤ (0 : Int) := (by omega)
     have q491 : 0 < (l0.length : Int) := of_decide_eq_true (by first | (with_reducible assumption) | assumption)
     obtain ⟨ad491, e491, hx491_0, hx491_1⟩ := at_T151 HR0.out 0 p491 q491
     have hw491_1 := hx491_1
     (try rw [show ((0 : Int)).toNat = 0 from rfl] at hw491_1)
     (try rw [show 0 * 2 = 0 from rfl] at hw491_1)
     (try rw [Addr.add_zero'] at hw491_1)
     have hw491_0 := hx491_0
     (try rw [show ((0 : Int)).toNat = 0 from rfl] at hw491_0)
     (try rw [show 0 * 2 = 0 from rfl] at hw491_0)
     (try rw [Addr.add_zero'] at hw491_0)
     cases e491
     have qi491 : (0 < l0.length) = True := eq_true (by omega)
     (try rw [show ((0 : Int)).toNat = 0 from rfl] at hx491_0)
     (try rw [show 0 * 2 = 0 from rfl] at hx491_0)
     (try rw [Addr.add_zero'] at hx491_0)
     (try rw [show ((0 : Int)).toNat = 0 from rfl] at hx491_1)
     (try rw [show 0 * 2 = 0 from rfl] at hx491_1)
     (try rw [Addr.add_zero'] at hx491_1)
     replace hx491_0 := (HB.out.cell (World.block_lt_of_cell? w _ hx491_0)).trans hx491_0
     replace hx491_1 := (HB.out.cell (World.block_lt_of_cell? w _ hx491_1)).trans hx491_1
     replace p491 := eq_true p491
     replace q491 := eq_true q491
     have p492 : 0 ≤ (0 : Int) := (by omega)
     have q492 : 0 < (l0.length : Int) := of_decide_eq_true (by first | (with_reducible assumption) | assumption)
     obtain ⟨ad492, e492, hx492_0, hx492_1⟩ := at_T151 HR0.out 0 p492 q492
     have hw492_1 := hx492_1
     (try rw [show ((0 : Int)).toNat = 0 from rfl] at hw492_1)
     (try rw [show 0 * 2 = 0 from rfl] at hw492_1)
     (try rw [Addr.add_zero'] at hw492_1)
     have hw492_0 := hx492_0
     (try rw [show ((0 : Int)).toNat = 0 from rfl] at hw492_0)
     (try rw [show 0 * 2 = 0 from rfl] at hw492_0)
     (try rw [Addr.add_zero'] at hw492_0)
     obtain rfl : ad491 = ad492 := (by injection e492)
     have qi492 : (0 < l0.length) = True := eq_true (by omega)
     (try rw [show ((0 : Int)).toNat = 0 from rfl] at hx492_0)
     (try rw [show 0 * 2 = 0 from rfl] at hx492_0)
     (try rw [Addr.add_zero'] at hx492_0)
     (try rw [show ((0 : Int)).toNat = 0 from rfl] at hx492_1)
     (try rw [show 0 * 2 = 0 from rfl] at hx492_1)
     (try rw [Addr.add_zero'] at hx492_1)
     replace hx492_0 := (HB.out.cell (World.block_lt_of_cell? w _ hx492_0)).trans hx492_0
     replace hx492_1 := (HB.out.cell (World.block_lt_of_cell? w _ hx492_1)).trans hx492_1
     replace p492 := eq_true p492
     replace q492 := eq_true q492
     have p493 : 0 ≤ (0 : Int) := (by omega)
     have q493 : 0 < (l0.length : Int) := of_decide_eq_true (by first | (with_reducible assumption) | assumption)
     obtain ⟨ad493, e493, hx493_0, hx493_1⟩ := at_T151 HR0.out 0 p493 q493
     have hw493_1 := hx493_1
     (try rw [show ((0 : Int)).toNat = 0 from rfl] at hw493_1)
     (try rw [show 0 * 2 = 0 from rfl] at hw493_1)
     (try rw [Addr.add_zero'] at hw493_1)
     have hw493_0 := hx493_0
     (try rw [show ((0 : Int)).toNat = 0 from rfl] at hw493_0)
     (try rw [show 0 * 2 = 0 from rfl] at hw493_0)
     (try rw [Addr.add_zero'] at hw493_0)
     obtain rfl : ad491 = ad493 := (by injection e493)
     have qi493 : (0 < l0.length) = True := eq_true (by omega)
     (try rw [show ((0 : Int)).toNat = 0 from rfl] at hx493_0)
     (try rw [show 0 * 2 = 0 from rfl] at hx493_0)
     (try rw [Addr.add_zero'] at hx493_0)
     (try rw [show ((0 : Int)).toNat = 0 from rfl] at hx493_1)
     (try rw [show 0 * 2 = 0 from rfl] at hx493_1)
     (try rw [Addr.add_zero'] at hx493_1)
     replace hx493_0 := (HB.out.cell (World.block_lt_of_cell? w _ hx493_0)).trans hx493_0
     replace hx493_1 := (HB.out.cell (World.block_lt_of_cell? w _ hx493_1)).trans hx493_1
     replace p493 := eq_true p493
     replace q493 := eq_true q493
     have p494 : 0 ≤ (0 : Int) := (by omega)
     have q494 : 0 < (l0.length : Int) := of_decide_eq_true (by first | (with_reducible assumption) | assumption)
     obtain ⟨ad494, e494, hx494_0, hx494_1⟩ := at_T151 HR0.out 0 p494 q494
     have hw494_1 := hx494_1
     (try rw [show ((0 : Int)).toNat = 0 from rfl] at hw494_1)
     (try rw [show 0 * 2 = 0 from rfl] at hw494_1)
     (try rw [Addr.add_zero'] at hw494_1)
     have hw494_0 := hx494_0
     (try rw [show ((0 : Int)).toNat = 0 from rfl] at hw494_0)
     (try rw [show 0 * 2 = 0 from rfl] at hw494_0)
     (try rw [Addr.add_zero'] at hw494_0)
     obtain rfl : ad491 = ad494 := (by injection e494)
     have qi494 : (0 < l0.length) = True := eq_true (by omega)
     (try rw [show ((0 : Int)).toNat = 0 from rfl] at hx494_0)
     (try rw [show 0 * 2 = 0 from rfl] at hx494_0)
     (try rw [Addr.add_zero'] at hx494_0)
     (try rw [show ((0 : Int)).toNat = 0 from rfl] at hx494_1)
     (try rw [show 0 * 2 = 0 from rfl] at hx494_1)
     (try rw [Addr.add_zero'] at hx494_1)
     replace hx494_0 := (HB.out.cell (World.block_lt_of_cell? w _ hx494_0)).trans hx494_0
     replace hx494_1 := (HB.out.cell (World.block_lt_of_cell? w _ hx494_1)).trans hx494_1
     replace p494 := eq_true p494
     replace q494 := eq_true q494
     refine start_ (n := 19) (S := fun w' => w'.cell? ad491 = some (.int .i64 ((rd_T151 l0 0).f0)) ∧ w'.cell? ⟨ad491.block, ad491.off + 1, none⟩ = some (.int .i64 ((rd_T151 l0 0).f1)) ∧ w'.cell? ad491 = some (.int .i64 ((rd_T151 l0 0).f0)) ∧ w'.cell? ⟨ad491.block, ad491.off + 1, none⟩ = some (.int .i64 ((rd_T151 l0 0).f1)) ∧ w'.cell? ad491 = some (.int .i64 ((rd_T151 l0 0).f0)) ∧ w'.cell? ⟨ad491.block, ad491.off + 1, none⟩ = some (.int .i64 ((rd_T151 l0 0).f1)) ∧ w'.cell? ad491 = some (.int .i64 ((rd_T151 l0 0).f0)) ∧ w'.cell? ⟨ad491.block, ad491.off + 1, none⟩ = some (.int .i64 ((rd_T151 l0 0).f1))) (ds := []) #[false, false, false, false, false, false, false, false, false, false, false, false, false, false, false, false, false, false, false] (by kernel_rfl) rfl rfl ⟨((HB.out.cell (World.block_lt_of_cell? w _ hw491_0)).trans hw491_0), ((HB.out.cell (World.block_lt_of_cell? w _ hw491_1)).trans hw491_1), ((HB.out.cell (World.block_lt_of_cell? w _ hw492_0)).trans hw492_0), ((HB.out.cell (World.block_lt_of_cell? w _ hw492_1)).trans hw492_1), ((HB.out.cell (World.block_lt_of_cell? w _ hw493_0)).trans hw493_0), ((HB.out.cell (World.block_lt_of_cell? w _ hw493_1)).trans hw493_1), ((HB.out.cell (World.block_lt_of_cell? w _ hw494_0)).trans hw494_0), ((HB.out.cell (World.block_lt_of_cell? w _ hw494_1)).trans hw494_1)⟩ (fun hHeld => ?_); refine with_tabW impl_BoxOf.tab3 impl_BoxOf.bits3 (fun HT_ HW_ => ?_)
     generalize wc.drew = w10 at BK489 HB hx491_0 hx491_1 hx492_0 hx492_1 hx493_0 hx493_1 hx494_0 hx494_1 hHeld ⊢
     refine pU 0 (some 15) #[true, false, false, false, false, false, false, false, false, false, false, false, false, false, false, false, false, false, false] ?_
     refine pU 1 (some 16) #[true, true, false, false, false, false, false, false, false, false, false, false, false, false, false, false, false, false, false] ?_
     refine pU 2 (some 17) #[true, true, true, false, false, false, false, false, false, false, false, false, false, false, false, false, false, false, false] ?_
     refine pU 4 (some 19) #[true, true, true, false, true, false, false, false, false, false, false, false, false, false, false, false, false, false, false] ?_
     refine pU 5 (some 20) #[true, true, true, false, true, true, false, false, false, false, false, false, false, false, false, false, false, false, false] ?_
     refine pU 6 (some 21) #[true, true, true, false, true, true, true, false, false, false, false, false, false, false, false, false, false, false, false] ?_
     refine pU 8 (some 23) #[true, true, true, false, true, true, true, false, true, false, false, false, false, false, false, false, false, false, false] ?_
     refine pU 9 (some 24) #[true, true, true, false, true, true, true, false, true, true, false, false, false, false, false, false, false, false, false] ?_
     refine pU 10 (some 25) #[true, true, true, false, true, true, true, false, true, true, true, false, false, false, false, false, false, false, false] ?_
     refine pU 12 (some 27) #[true, true, true, false, true, true, true, false, true, true, true, false, true, false, false, false, false, false, false] ?_
     refine pU 13 (some 28) #[true, true, true, false, true, true, true, false, true, true, true, false, true, true, false, false, false, false, false] ?_
     refine pU 14 (some 29) #[true, true, true, false, true, true, true, false, true, true, true, false, true, true, true, false, false, false, false] ?_
     refine tK 3 (some 18) #[true, true, true, true, true, true, true, false, true, true, true, false, true, true, true, false, false, false, false] ?_
     refine tK 7 (some 22) #[true, true, true, true, true, true, true, true, true, true, true, false, true, true, true, false, false, false, false] ?_
     refine tK 11 (some 26) #[true, true, true, true, true, true, true, true, true, true, true, true, true, true, true, false, false, false, false] ?_
     refine tK 15 (some 30) #[true, true, true, true, true, true, true, true, true, true, true, true, true, true, true, true, false, false, false] ?_
     refine pU 16 (some 31) #[true, true, true, true, true, true, true, true, true, true, true, true, true, true, true, true, true, false, false] ?_
     refine one_ (i := 17) (N := some 3) #[true, true, true, true, true, true, true, true, true, true, true, true, true, true, true, true, true, true, false] rfl rfl (one_of HT_.out (by kernel_rfl)) (by decide) (fun K hK => ?_)
     refine box_step ?hg (N := 3) ?hd (cs := #[.int .i64 0, .int .i64 0, .int .i64 0, .int .i64 0]) (t := 47) ?hr ?_; (case hd => rfl); (case hg => rfl); (case hr => first | (go_simp; done) | (go_simp; rfl))
     intro gb495 hg w11 hbox hb
     have BK495 := Aside0.mk (hbox)
     have GW495 := gE hg
     have GE495 := gE hg
     have NB489_495 := nL (g := gb489) hg
     have NB495_489 := nG (g := gb489) hg
     replace BK489 := kB (g := gb489) hb
     replace HB := hB hb
     clear hb hg
     refine hK.out _ _ ⟨((HB.out.cell (World.block_lt_of_cell? w _ hw491_0)).trans hw491_0), ((HB.out.cell (World.block_lt_of_cell? w _ hw491_1)).trans hw491_1), ((HB.out.cell (World.block_lt_of_cell? w _ hw492_0)).trans hw492_0), ((HB.out.cell (World.block_lt_of_cell? w _ hw492_1)).trans hw492_1), ((HB.out.cell (World.block_lt_of_cell? w _ hw493_0)).trans hw493_0), ((HB.out.cell (World.block_lt_of_cell? w _ hw493_1)).trans hw493_1), ((HB.out.cell (World.block_lt_of_cell? w _ hw494_0)).trans hw494_0), ((HB.out.cell (World.block_lt_of_cell? w _ hw494_1)).trans hw494_1)⟩ (fun hHeld => ?_)
     clear hK K
     refine norm_ (a' := ?_) ?_ ?_
     rotate_left
     ·show Act.put _ (some 3) _ = _
      simp only [Act.put, List.setIfInBounds_toArray, List.set_cons_zero, List.set_cons_succ, i64_w, i32_w]
      rfl
     refine one_ (i := 18) (N := none) #[true, true, true, true, true, true, true, true, true, true, true, true, true, true, true, true, true, true, true] rfl rfl (one_of HT_.out (by kernel_rfl)) (by decide) (fun K hK => ?_)
     have hs12 : w11.cell? ⟨gb495, 0, none⟩ = some (.int .i64 0) := (blk_cell BK495.out 0).trans rfl
     have hfs12 := blk_frozen BK495.out 0
     have hns12_0 := NB489_495.out
     have hms12_0 := NB495_489.out
     have hs13 : w11.cell? ⟨gb495, 1, none⟩ = some (.int .i64 0) := (blk_cell BK495.out 1).trans rfl
     have hfs13 := blk_frozen BK495.out 1
     have hns13_0 := NB489_495.out
     have hms13_0 := NB495_489.out
     have hs14 : w11.cell? ⟨gb495, 2, none⟩ = some (.int .i64 0) := (blk_cell BK495.out 2).trans rfl
     have hfs14 := blk_frozen BK495.out 2
     have hns14_0 := NB489_495.out
     have hms14_0 := NB495_489.out
     have hs15 : w11.cell? ⟨gb495, 3, none⟩ = some (.int .i64 0) := (blk_cell BK495.out 3).trans rfl
     have hfs15 := blk_frozen BK495.out 3
     have hns15_0 := NB489_495.out
     have hms15_0 := NB495_489.out
     refine skip_ (w1 := ?_) (by rfl) rfl ?_ ?_
     rotate_left
     ·go_simp
      rfl
     refine hK.out _ _ ⟨((cell_far (p := ⟨gb495, _, none⟩) (nA hw491_0 GW495) _).trans (((cell_far (p := ⟨gb495, _, none⟩) (nA hw491_0 GW495) _).trans (((cell_far (p := ⟨gb495, _, none⟩) (nA hw491_0 GW495) _).trans (((cell_far (p := ⟨gb495, _, none⟩) (nA hw491_0 GW495) _).trans (hHeld.1)))))))), ((cell_far (p := ⟨gb495, _, none⟩) (nA hw491_1 GW495) _).trans (((cell_far (p := ⟨gb495, _, none⟩) (nA hw491_1 GW495) _).trans (((cell_far (p := ⟨gb495, _, none⟩) (nA hw491_1 GW495) _).trans (((cell_far (p := ⟨gb495, _, none⟩) (nA hw491_1 GW495) _).trans (hHeld.2.1)))))))), ((cell_far (p := ⟨gb495, _, none⟩) (nA hw492_0 GW495) _).trans (((cell_far (p := ⟨gb495, _, none⟩) (nA hw492_0 GW495) _).trans (((cell_far (p := ⟨gb495, _, none⟩) (nA hw492_0 GW495) _).trans (((cell_far (p := ⟨gb495, _, none⟩) (nA hw492_0 GW495) _).trans (hHeld.2.2.1)))))))), ((cell_far (p := ⟨gb495, _, none⟩) (nA hw492_1 GW495) _).trans (((cell_far (p := ⟨gb495, _, none⟩) (nA hw492_1 GW495) _).trans (((cell_far (p := ⟨gb495, _, none⟩) (nA hw492_1 GW495) _).trans (((cell_far (p := ⟨gb495, _, none⟩) (nA hw492_1 GW495) _).trans (hHeld.2.2.2.1)))))))), ((cell_far (p := ⟨gb495, _, none⟩) (nA hw493_0 GW495) _).trans (((cell_far (p := ⟨gb495, _, none⟩) (nA hw493_0 GW495) _).trans (((cell_far (p := ⟨gb495, _, none⟩) (nA hw493_0 GW495) _).trans (((cell_far (p := ⟨gb495, _, none⟩) (nA hw493_0 GW495) _).trans (hHeld.2.2.2.2.1)))))))), ((cell_far (p := ⟨gb495, _, none⟩) (nA hw493_1 GW495) _).trans (((cell_far (p := ⟨gb495, _, none⟩) (nA hw493_1 GW495) _).trans (((cell_far (p := ⟨gb495, _, none⟩) (nA hw493_1 GW495) _).trans (((cell_far (p := ⟨gb495, _, none⟩) (nA hw493_1 GW495) _).trans (hHeld.2.2.2.2.2.1)))))))), ((cell_far (p := ⟨gb495, _, none⟩) (nA hw494_0 GW495) _).trans (((cell_far (p := ⟨gb495, _, none⟩) (nA hw494_0 GW495) _).trans (((cell_far (p := ⟨gb495, _, none⟩) (nA hw494_0 GW495) _).trans (((cell_far (p := ⟨gb495, _, none⟩) (nA hw494_0 GW495) _).trans (hHeld.2.2.2.2.2.2.1)))))))), ((cell_far (p := ⟨gb495, _, none⟩) (nA hw494_1 GW495) _).trans (((cell_far (p := ⟨gb495, _, none⟩) (nA hw494_1 GW495) _).trans (((cell_far (p := ⟨gb495, _, none⟩) (nA hw494_1 GW495) _).trans (((cell_far (p := ⟨gb495, _, none⟩) (nA hw494_1 GW495) _).trans (hHeld.2.2.2.2.2.2.2))))))))⟩ (fun hHeld => ?_)
     clear hK K
     refine done_ (done_of HT_.out (by kernel_rfl)) ?_
     try go_wp2
     go_loopg [34] kj1 (fun kq v34 w' => ∃ (x34_2 : Int) (x496000_2 : Int) (x496001_2 : Int) (x496002_2 : Int) (x496003_2 : Int), v34 = .int .i64 x34_2 ∧ Aside0 (impl_BoxOf.l0 kq l0 (l0.length : Int) x34_2 x496000_2 x496001_2 x496002_2 x496003_2 = some (r1, r2, r3, r4)) ∧ Aside0 (kq ≤ kj1) ∧ Aside0 (w'.heap[gb489]? = some (.cells #[.int .i64 0, .int .i64 0, .int .i64 0, .int .i64 0] 47 (0, 0))) ∧ Aside0 (w'.heap[gb495]? = some (.cells #[.int .i64 x496000_2, .int .i64 x496001_2, .int .i64 x496002_2, .int .i64 x496003_2] 47 (0, 0))) ∧ Aside0 (Below w.heap.size w w'))
     case atStart => exact ⟨(0), ((rd_T151 l0 0).f0), ((rd_T151 l0 0).f1), ((rd_T151 l0 0).f0), ((rd_T151 l0 0).f1), (by first | rfl | (simp; done) | (simp [*]; done)), H', ⟨Nat.le_refl _⟩, ⟨kS⟩, ⟨kS⟩, ⟨bS⟩⟩
     case round =>
      clear H'
      try clear c1
      try clear p2
      try clear c4
      try clear c4b0
      try clear c4b1
      try clear c4b2
      try clear p4
      try clear q4
      try clear hx4
      try clear qi4
      try clear c7
      try clear c9
      try clear c9b0
      try clear c9b1
      try clear c15
      try clear hcz8_0
      try clear hcz8_1
      try clear hcz8_2
      try clear hcz8_3
      try clear hfz8_0
      try clear hfz8_1
      try clear hfz8_2
      try clear hfz8_3
      try clear hx491_0
      try clear hx491_1
      try clear hx492_0
      try clear hx492_1
      try clear hx493_0
      try clear hx493_1
      try clear hx494_0
      try clear hx494_1
      try clear p2
      try clear p491
      try clear p492
      try clear p493
      try clear p494
      try clear q491
      try clear q492
      try clear q493
      try clear q494
      obtain ⟨x34_2, x496000_2, x496001_2, x496002_2, x496003_2, rfl, HA, HK2, BK489, BK495, HB⟩ := hrel
      cases gk with
      | zero => exact absurd HA.out (by simp [impl_BoxOf.l0])
      | succ k2 =>
       have H := HA.out
       clear HA
       simp only [impl_BoxOf.l0] at H
       by_cases c16 : x34_2 < (l0.length : Int)
       ·rw [if_pos c16] at H
        have c16b0 : decide (x34_2 < (l0.length : Int)) = true := decide_eq_true c16
        clear c16
        by_cases c17 : 0 ≤ x34_2
        ·rw [if_pos c17] at H
         have c17b0 : decide (0 ≤ x34_2) = true := decide_eq_true c17
         clear c17
         by_cases c18 : x34_2 < (l0.length : Int)
         ·rw [if_pos c18] at H
          have c18b0 : decide (x34_2 < (l0.length : Int)) = true := decide_eq_true c18
          clear c18
          obtain ⟨ji19, hji19⟩ : ∃ j_ : Int, (mn x496000_2 ((rd_T151 l0 x34_2).f0)) = j_ := ⟨_, rfl⟩
          replace H : (impl_BoxOf.l0 k2 l0 (l0.length : Int) (wrap64 (x34_2 + 1)) ji19 (mn x496001_2 ((rd_T151 l0 x34_2).f1)) (mx x496002_2 ((rd_T151 l0 x34_2).f0)) (mx x496003_2 ((rd_T151 l0 x34_2).f1))) = some (r1, r2, r3, r4) := by first | (rw [hji19] at H; exact H) | (simp only [hji19] at H ⊢; exact H)
          have hji19_ : (if ((rd_T151 l0 x34_2).f0) < x496000_2 then ((rd_T151 l0 x34_2).f0) else x496000_2) = ji19 := hji19
          obtain ⟨ji20, hji20⟩ : ∃ j_ : Int, (mn x496001_2 ((rd_T151 l0 x34_2).f1)) = j_ := ⟨_, rfl⟩
          replace H : (impl_BoxOf.l0 k2 l0 (l0.length : Int) (wrap64 (x34_2 + 1)) ji19 ji20 (mx x496002_2 ((rd_T151 l0 x34_2).f0)) (mx x496003_2 ((rd_T151 l0 x34_2).f1))) = some (r1, r2, r3, r4) := by first | (rw [hji20] at H; exact H) | (simp only [hji20] at H ⊢; exact H)
          have hji20_ : (if ((rd_T151 l0 x34_2).f1) < x496001_2 then ((rd_T151 l0 x34_2).f1) else x496001_2) = ji20 := hji20
          obtain ⟨ji21, hji21⟩ : ∃ j_ : Int, (mx x496002_2 ((rd_T151 l0 x34_2).f0)) = j_ := ⟨_, rfl⟩
          replace H : (impl_BoxOf.l0 k2 l0 (l0.length : Int) (wrap64 (x34_2 + 1)) ji19 ji20 ji21 (mx x496003_2 ((rd_T151 l0 x34_2).f1))) = some (r1, r2, r3, r4) := by first | (rw [hji21] at H; exact H) | (simp only [hji21] at H ⊢; exact H)
          have hji21_ : (if x496002_2 < ((rd_T151 l0 x34_2).f0) then ((rd_T151 l0 x34_2).f0) else x496002_2) = ji21 := hji21
          obtain ⟨ji22, hji22⟩ : ∃ j_ : Int, (mx x496003_2 ((rd_T151 l0 x34_2).f1)) = j_ := ⟨_, rfl⟩
          replace H : (impl_BoxOf.l0 k2 l0 (l0.length : Int) (wrap64 (x34_2 + 1)) ji19 ji20 ji21 ji22) = some (r1, r2, r3, r4) := by first | (rw [hji22] at H; exact H) | (simp only [hji22] at H ⊢; exact H)
          have hji22_ : (if x496003_2 < ((rd_T151 l0 x34_2).f1) then ((rd_T151 l0 x34_2).f1) else x496003_2) = ji22 := hji22
          have H' := Aside0.mk H
          clear H
          have p496 : 0 ≤ (x34_2 : Int) := of_decide_eq_true (by first | (with_reducible assumption) | assumption)
          have q496 : x34_2 < (l0.length : Int) := of_decide_eq_true (by first | (with_reducible assumption) | assumption)
          obtain ⟨ad496, e496, hx496_0, hx496_1⟩ := at_T151 HR0.out x34_2 p496 q496
          obtain rfl : ad491 = ad496 := (by injection e496)
          replace hx496_0 := (HB.out.cell (World.block_lt_of_cell? w _ hx496_0)).trans hx496_0
          replace hx496_1 := (HB.out.cell (World.block_lt_of_cell? w _ hx496_1)).trans hx496_1
          replace p496 := eq_true p496
          replace q496 := eq_true q496
          try go_wp2_with (first | ((with_reducible refine gD 5 ?_); refine bxE #[.int .i64 0, .int .i64 0] 151 ?_; intro gb497 hg w23 BK497 hb; have GW497 := gE hg; have GE497 := gE hg; have NB489_497 := nL (g := gb489) hg; have NB497_489 := nG (g := gb489) hg; have NB495_497 := nL (g := gb495) hg; have NB497_495 := nG (g := gb495) hg; replace BK489 := kB (g := gb489) hb; replace BK495 := kB (g := gb495) hb; replace HB := hB hb; clear hb hg; have hnb24 := NB497_489.out; have hnc24 := NB489_497.out; have hnb25 := NB497_495.out; have hnc25 := NB495_497.out; have hz26 := cz2 BK497))
          have n0_ : Aside0 (((w23.setCell ⟨gb497, 0, none⟩ (.int .i64 ((rd_T151 l0 x34_2).f0))).setCell ⟨gb497, 1, none⟩ (.int .i64 ((rd_T151 l0 x34_2).f1))).heap[gb489]? = some (.cells #[.int .i64 0, .int .i64 0, .int .i64 0, .int .i64 0] 47 (0, 0))) := ⟨kS⟩
          have n1_ : Aside0 (((w23.setCell ⟨gb497, 0, none⟩ (.int .i64 ((rd_T151 l0 x34_2).f0))).setCell ⟨gb497, 1, none⟩ (.int .i64 ((rd_T151 l0 x34_2).f1))).heap[gb495]? = some (.cells #[.int .i64 x496000_2, .int .i64 x496001_2, .int .i64 x496002_2, .int .i64 x496003_2] 47 (0, 0))) := ⟨kS⟩
          have n2_ : Aside0 (((w23.setCell ⟨gb497, 0, none⟩ (.int .i64 ((rd_T151 l0 x34_2).f0))).setCell ⟨gb497, 1, none⟩ (.int .i64 ((rd_T151 l0 x34_2).f1))).heap[gb497]? = some (.cells #[.int .i64 ((rd_T151 l0 x34_2).f0), .int .i64 ((rd_T151 l0 x34_2).f1)] 151 (0, 0))) := ⟨kS⟩
          have n3_ : Aside0 (Below w.heap.size w ((w23.setCell ⟨gb497, 0, none⟩ (.int .i64 ((rd_T151 l0 x34_2).f0))).setCell ⟨gb497, 1, none⟩ (.int .i64 ((rd_T151 l0 x34_2).f1)))) := ⟨bS⟩
          (try clear BK489)
          (try clear BK495)
          (try clear BK497)
          (try clear HB)
          generalize ((w23.setCell ⟨gb497, 0, none⟩ (.int .i64 ((rd_T151 l0 x34_2).f0))).setCell ⟨gb497, 1, none⟩ (.int .i64 ((rd_T151 l0 x34_2).f1))) = w27 at n0_ n1_ n2_ n3_ ⊢
          have BK489 := n0_
          have BK495 := n1_
          have BK497 := n2_
          have HB := n3_
          clear n0_ n1_ n2_ n3_
          replace BK489 := Aside0.mk (blk_drew BK489.out)
          replace BK495 := Aside0.mk (blk_drew BK495.out)
          replace BK497 := Aside0.mk (blk_drew BK497.out)
          replace HB := Aside0.mk (below_drew1 HB.out)
          refine start_ (n := 14) (S := fun w' => w'.cell? ⟨gb495, 1, none⟩ = some (.int .i64 x496001_2) ∧ w'.cell? ⟨gb495, 2, none⟩ = some (.int .i64 x496002_2) ∧ w'.cell? ⟨gb495, 3, none⟩ = some (.int .i64 x496003_2) ∧ w'.cell? ⟨gb497, 0, none⟩ = some (.int .i64 ((rd_T151 l0 x34_2).f0)) ∧ w'.cell? ⟨gb497, 1, none⟩ = some (.int .i64 ((rd_T151 l0 x34_2).f1))) (ds := [13]) #[false, false, false, false, false, false, false, false, false, false, false, false, false, false] (by kernel_rfl) rfl rfl ⟨(blk_cell BK495.out 1).trans rfl, (blk_cell BK495.out 2).trans rfl, (blk_cell BK495.out 3).trans rfl, (blk_cell BK497.out 0).trans rfl, (blk_cell BK497.out 1).trans rfl⟩ (fun hHeld => ?_); refine with_tabW impl_BoxOf.tab7 impl_BoxOf.bits7 (fun HT_ HW_ => ?_)
          generalize w27.drew = w28 at BK489 BK495 BK497 HB hHeld ⊢
          refine pU 0 (some 38) #[true, false, false, false, false, false, false, false, false, false, false, false, false, false] ?_
          refine pU 2 (some 40) #[true, false, true, false, false, false, false, false, false, false, false, false, false, false] ?_
          refine pU 5 (some 43) #[true, false, true, false, false, true, false, false, false, false, false, false, false, false] ?_
          refine pU 7 (some 45) #[true, false, true, false, false, true, false, true, false, false, false, false, false, false] ?_
          refine tK 3 (some 41) #[true, false, true, true, false, true, false, true, false, false, false, false, false, false] ?_
          refine tK 6 (some 44) #[true, false, true, true, false, true, true, true, false, false, false, false, false, false] ?_
          refine tK 8 (some 46) #[true, false, true, true, false, true, true, true, true, false, false, false, false, false] ?_
          refine pU 9 (some 47) #[true, false, true, true, false, true, true, true, true, true, false, false, false, false] ?_
          refine one_ (i := 1) (N := some 39) #[true, true, true, true, false, true, true, true, true, true, false, false, false, false] rfl rfl (one_of HT_.out (by kernel_rfl)) (by decide) (fun K hK => ?_)
          have hl1_ := (blk_cell BK495.out 0).trans (show _ = some (.int .i64 x496000_2) from rfl)
          refine value_ (w1 := ?_) (v := ?_) (by rfl) rfl ?_ ?_
          rotate_left 2
          ·go_simp
           constructor
           ·rfl
           ·rfl
          refine hK.out _ _ ⟨hHeld.1, hHeld.2.1, hHeld.2.2.1, hHeld.2.2.2.1, hHeld.2.2.2.2⟩ (fun hHeld => ?_)
          clear hK K
          refine norm_ (a' := ?_) ?_ ?_
          rotate_left
          ·show Act.put _ (some 39) _ = _
           simp only [Act.put, List.setIfInBounds_toArray, List.set_cons_zero, List.set_cons_succ, i64_w, i32_w]
           rfl
          refine pU 4 (some 42) #[true, true, true, true, true, true, true, true, true, true, false, false, false, false] ?_
          refine pU 10 (some 48) #[true, true, true, true, true, true, true, true, true, true, true, false, false, false] ?_
          refine one_ (i := 11) (N := none) #[true, true, true, true, true, true, true, true, true, true, true, true, false, false] rfl rfl (one_of HT_.out (by kernel_rfl)) (by decide) (fun K hK => ?_)
          have hs29 : w28.cell? ⟨gb495, 0, none⟩ = some (.int .i64 x496000_2) := (blk_cell BK495.out 0).trans rfl
          have hfs29 := blk_frozen BK495.out 0
          have hns29_0 := NB489_495.out
          have hns29_2 := NB497_495.out
          have hms29_0 := NB495_489.out
          have hms29_2 := NB495_497.out
          refine skip_ (w1 := ?_) (by rfl) rfl ?_ ?_
          rotate_left
          ·go_simp
           rfl
          refine hK.out _ _ ⟨(cell_off (by decide) _).trans (hHeld.1), (cell_off (by decide) _).trans (hHeld.2.1), (cell_off (by decide) _).trans (hHeld.2.2.1), ((cell_far (p := ⟨gb495, _, none⟩) NB497_495.out _).trans (hHeld.2.2.2.1)), ((cell_far (p := ⟨gb495, _, none⟩) NB497_495.out _).trans (hHeld.2.2.2.2))⟩ (fun hHeld => ?_)
          clear hK K
          refine pU 12 (some 49) #[true, true, true, true, true, true, true, true, true, true, true, true, true, false] ?_
          refine last_ (i := 13) (N := none) #[true, true, true, true, true, true, true, true, true, true, true, true, true, true] rfl rfl (one_of HT_.out (by kernel_rfl)) (by decide) (fun K hK => ?_)
          have hs30 : w28.cell? ⟨gb495, 1, none⟩ = some (.int .i64 x496001_2) := (blk_cell BK495.out 1).trans rfl
          have hfs30 := blk_frozen BK495.out 1
          have hns30_0 := NB489_495.out
          have hns30_2 := NB497_495.out
          have hms30_0 := NB495_489.out
          have hms30_2 := NB495_497.out
          refine skip_ (w1 := ?_) (by rfl) rfl ?_ ?_
          rotate_left
          ·go_simp
           rfl
          refine hK.out _ _ ?_
          clear hK K
          refine done_ (done_of HT_.out (by kernel_rfl)) ?_
          try go_wp2
          have n0_ : Aside0 (((w28.setCell ⟨gb495, 0, none⟩ (.int .i64 ji19)).setCell ⟨gb495, 1, none⟩ (.int .i64 ji20)).heap[gb489]? = some (.cells #[.int .i64 0, .int .i64 0, .int .i64 0, .int .i64 0] 47 (0, 0))) := ⟨kS⟩
          have n1_ : Aside0 (((w28.setCell ⟨gb495, 0, none⟩ (.int .i64 ji19)).setCell ⟨gb495, 1, none⟩ (.int .i64 ji20)).heap[gb495]? = some (.cells #[.int .i64 ji19, .int .i64 ji20, .int .i64 x496002_2, .int .i64 x496003_2] 47 (0, 0))) := ⟨kS⟩
          have n2_ : Aside0 (((w28.setCell ⟨gb495, 0, none⟩ (.int .i64 ji19)).setCell ⟨gb495, 1, none⟩ (.int .i64 ji20)).heap[gb497]? = some (.cells #[.int .i64 ((rd_T151 l0 x34_2).f0), .int .i64 ((rd_T151 l0 x34_2).f1)] 151 (0, 0))) := ⟨kS⟩
          have n3_ : Aside0 (Below w.heap.size w ((w28.setCell ⟨gb495, 0, none⟩ (.int .i64 ji19)).setCell ⟨gb495, 1, none⟩ (.int .i64 ji20))) := ⟨bS⟩
          (try clear BK489)
          (try clear BK495)
          (try clear BK497)
          (try clear HB)
          generalize ((w28.setCell ⟨gb495, 0, none⟩ (.int .i64 ji19)).setCell ⟨gb495, 1, none⟩ (.int .i64 ji20)) = w31 at n0_ n1_ n2_ n3_ ⊢
          have BK489 := n0_
          have BK495 := n1_
          have BK497 := n2_
          have HB := n3_
          clear n0_ n1_ n2_ n3_
          replace BK489 := Aside0.mk (blk_drew BK489.out)
          replace BK495 := Aside0.mk (blk_drew BK495.out)
          replace BK497 := Aside0.mk (blk_drew BK497.out)
          replace HB := Aside0.mk (below_drew1 HB.out)
          refine start_ (n := 14) (S := fun w' => w'.cell? ⟨gb495, 0, none⟩ = some (.int .i64 ji19) ∧ w'.cell? ⟨gb495, 1, none⟩ = some (.int .i64 ji20) ∧ w'.cell? ⟨gb495, 3, none⟩ = some (.int .i64 x496003_2) ∧ w'.cell? ⟨gb497, 0, none⟩ = some (.int .i64 ((rd_T151 l0 x34_2).f0)) ∧ w'.cell? ⟨gb497, 1, none⟩ = some (.int .i64 ((rd_T151 l0 x34_2).f1))) (ds := [13]) #[false, false, false, false, false, false, false, false, false, false, false, false, false, false] (by kernel_rfl) rfl rfl ⟨(blk_cell BK495.out 0).trans rfl, (blk_cell BK495.out 1).trans rfl, (blk_cell BK495.out 3).trans rfl, (blk_cell BK497.out 0).trans rfl, (blk_cell BK497.out 1).trans rfl⟩ (fun hHeld => ?_); refine with_tabW impl_BoxOf.tab8 impl_BoxOf.bits8 (fun HT_ HW_ => ?_)
          generalize w31.drew = w32 at BK489 BK495 BK497 HB hHeld ⊢
          refine pU 0 (some 50) #[true, false, false, false, false, false, false, false, false, false, false, false, false, false] ?_
          refine pU 2 (some 52) #[true, false, true, false, false, false, false, false, false, false, false, false, false, false] ?_
          refine pU 5 (some 55) #[true, false, true, false, false, true, false, false, false, false, false, false, false, false] ?_
          refine pU 7 (some 57) #[true, false, true, false, false, true, false, true, false, false, false, false, false, false] ?_
          refine tK 3 (some 53) #[true, false, true, true, false, true, false, true, false, false, false, false, false, false] ?_
          refine tK 6 (some 56) #[true, false, true, true, false, true, true, true, false, false, false, false, false, false] ?_
          refine tK 8 (some 58) #[true, false, true, true, false, true, true, true, true, false, false, false, false, false] ?_
          refine pU 9 (some 59) #[true, false, true, true, false, true, true, true, true, true, false, false, false, false] ?_
          refine one_ (i := 1) (N := some 51) #[true, true, true, true, false, true, true, true, true, true, false, false, false, false] rfl rfl (one_of HT_.out (by kernel_rfl)) (by decide) (fun K hK => ?_)
          have hl1_ := (blk_cell BK495.out 2).trans (show _ = some (.int .i64 x496002_2) from rfl)
          refine value_ (w1 := ?_) (v := ?_) (by rfl) rfl ?_ ?_
          rotate_left 2
          ·go_simp
           constructor
           ·rfl
           ·rfl
          refine hK.out _ _ ⟨hHeld.1, hHeld.2.1, hHeld.2.2.1, hHeld.2.2.2.1, hHeld.2.2.2.2⟩ (fun hHeld => ?_)
          clear hK K
          refine norm_ (a' := ?_) ?_ ?_
          rotate_left
          ·show Act.put _ (some 51) _ = _
           simp only [Act.put, List.setIfInBounds_toArray, List.set_cons_zero, List.set_cons_succ, i64_w, i32_w]
           rfl
          refine pU 4 (some 54) #[true, true, true, true, true, true, true, true, true, true, false, false, false, false] ?_
          refine pU 10 (some 60) #[true, true, true, true, true, true, true, true, true, true, true, false, false, false] ?_
          refine one_ (i := 11) (N := none) #[true, true, true, true, true, true, true, true, true, true, true, true, false, false] rfl rfl (one_of HT_.out (by kernel_rfl)) (by decide) (fun K hK => ?_)
          have hs33 : w32.cell? ⟨gb495, 2, none⟩ = some (.int .i64 x496002_2) := (blk_cell BK495.out 2).trans rfl
          have hfs33 := blk_frozen BK495.out 2
          have hns33_0 := NB489_495.out
          have hns33_2 := NB497_495.out
          have hms33_0 := NB495_489.out
          have hms33_2 := NB495_497.out
          refine skip_ (w1 := ?_) (by rfl) rfl ?_ ?_
          rotate_left
          ·go_simp
           rfl
          refine hK.out _ _ ⟨(cell_off (by decide) _).trans (hHeld.1), (cell_off (by decide) _).trans (hHeld.2.1), (cell_off (by decide) _).trans (hHeld.2.2.1), ((cell_far (p := ⟨gb495, _, none⟩) NB497_495.out _).trans (hHeld.2.2.2.1)), ((cell_far (p := ⟨gb495, _, none⟩) NB497_495.out _).trans (hHeld.2.2.2.2))⟩ (fun hHeld => ?_)
          clear hK K
          refine pU 12 (some 61) #[true, true, true, true, true, true, true, true, true, true, true, true, true, false] ?_
          refine last_ (i := 13) (N := none) #[true, true, true, true, true, true, true, true, true, true, true, true, true, true] rfl rfl (one_of HT_.out (by kernel_rfl)) (by decide) (fun K hK => ?_)
          have hs34 : w32.cell? ⟨gb495, 3, none⟩ = some (.int .i64 x496003_2) := (blk_cell BK495.out 3).trans rfl
          have hfs34 := blk_frozen BK495.out 3
          have hns34_0 := NB489_495.out
          have hns34_2 := NB497_495.out
          have hms34_0 := NB495_489.out
          have hms34_2 := NB495_497.out
          refine skip_ (w1 := ?_) (by rfl) rfl ?_ ?_
          rotate_left
          ·go_simp
           rfl
          refine hK.out _ _ ?_
          clear hK K
          refine done_ (done_of HT_.out (by kernel_rfl)) ?_
          try go_wp2
          go_roundg k2
          case measure => have := HJ1.out; have := HK2.out; omega
          case rel => exact ⟨(wrap64 (x34_2 + 1)), (ji19), (ji20), (ji21), (ji22), (by first | rfl | (simp; done) | (simp [*]; done)), H', ⟨by have := HJ1.out; have := HK2.out; omega⟩, ⟨kS⟩, ⟨kS⟩, ⟨bS⟩⟩
         ·rw [if_neg c18] at H
          exact absurd H (by simp)
        ·rw [if_neg c17] at H
         exact absurd H (by simp)
       ·rw [if_neg c16] at H
        have c16b0 : decide (x34_2 < (l0.length : Int)) = false := decide_eq_false c16
        clear c16
        simp only [Option.some.injEq, Prod.mk.injEq] at H
        obtain ⟨rfl, rfl, rfl, rfl⟩ := H
        have hnb35 := NB495_489.out
        have hnc35 := NB489_495.out
        have hz36 := cz4 BK495
        have hz37 := cz4 BK489
        go_wp2
        refine bodyPost_ret (results_cell_row rfl _ _ gb489 47 #[.int .i64 x496000_2, .int .i64 x496001_2, .int .i64 x496002_2, .int .i64 x496003_2] (0, 0) _ rfl kS Tryz.underlying47 rfl (by kernel_rfl)) rfl ?_
        exact ⟨eS, bS⟩
    ·rw [if_neg c9] at H
     exact absurd H (by simp)

/-! ### impl_pageBox: function 161 -/
def impl_pageBox.f  : Option (Int × Int × Int × Int) := some (0, 0, 32, 32)
theorem impl_pageBox.calls  (r1 : Int) (r2 : Int) (r3 : Int) (r4 : Int) (w : World) (h : impl_pageBox.f  = some (r1, r2, r3, r4)) :
  Calls Tryz.prog 161 #[] w fun e w' => e = .returned (.agg #[.int .i64 r1, .int .i64 r2, .int .i64 r3, .int .i64 r4]) ∧ Below w.heap.size w w' := by
 have hu47 := Tryz.underlying47
 have HB := Aside0.mk (Below.refl w.heap.size w)
 have H : (some (0, 0, 32, 32)) = some (r1, r2, r3, r4) := h
 clear h
 simp only [Option.some.injEq, Prod.mk.injEq] at H
 obtain ⟨rfl, rfl, rfl, rfl⟩ := H
 go_enter Tryz.func161, Tryz.ntmps161
 go_wp2_with (first | ((with_reducible refine gD 0 ?_); refine bxE #[.int .i64 0, .int .i64 0, .int .i64 0, .int .i64 0] 47 ?_; intro gb498 hg w1 BK498 hb; have GW498 := gE hg; have GE498 := gE hg; replace HB := hB hb; clear hb hg; have hz2 := cz4 BK498))
 refine bodyPost_ret (results_cell_row rfl _ _ gb498 47 #[.int .i64 0, .int .i64 0, .int .i64 32, .int .i64 32] (0, 0) _ rfl kS Tryz.underlying47 rfl (by kernel_rfl)) rfl ?_
 exact ⟨eS, bS⟩

end Go.Proofs.YtncfipboidmfbaaGreat.QFnExactRowsOfBand
