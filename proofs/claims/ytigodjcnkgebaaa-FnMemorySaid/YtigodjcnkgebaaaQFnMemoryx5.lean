-- Made out of the translation by a program of this session (a changed copy of the print). Not trusted: Lean checks it.
import Derived.Test.YtigodjcnkgebaaaQFnMemoryx0
import Derived.Test.YtigodjcnkgebaaaQFnMemoryx3
namespace Go.Proofs.Ytigodjcnkgebaaa.QFnMemory
open Go.RowKit Go.Proofs.YtigodjcnkgebaaaW.PrintWords Go.Proofs.YtigodjcnkgebaaaW.PrintLast Go.Proofs.YtigodjcnkgebaaaW.PrintMore
attribute [local go_sem] max2_int min2_int max_two min_two max_three min_three max_four min_four   -- for this text's walks alone
set_option linter.unusedVariables false
set_option linter.unusedSimpArgs false
set_option maxHeartbeats 8000000
set_option maxRecDepth 100000

/-! ### impl_BoxOf: function 154 -/
mutual
def impl_BoxOf.j0 : Nat → List (S171) → Bool → Option (Int × Int × Int × Int)
 | 0, _, _ => none
 | k + 1, x0, x13 => if x13 = true then (some (0, 0, 0, 0)) else (if 0 < (x0.length : Int) then (impl_BoxOf.l0 k x0 (x0.length : Int) 0 ((rd_T171 x0 0).f0) ((rd_T171 x0 0).f1) ((rd_T171 x0 0).f0) ((rd_T171 x0 0).f1)) else (none))
def impl_BoxOf.l0 : Nat → List (S171) → Int → Int → Int → Int → Int → Int → Option (Int × Int × Int × Int)
 | 0, _, _, _, _, _, _, _ => none
 | k + 1, x32, x33, x34, x345000, x345001, x345002, x345003 => if x34 < x33 then (if 0 ≤ x34 then (if x34 < (x32.length : Int) then (impl_BoxOf.l0 k x32 x33 (wrap64 (x34 + 1)) (mn x345000 ((rd_T171 x32 x34).f0)) (mn x345001 ((rd_T171 x32 x34).f1)) (mx x345002 ((rd_T171 x32 x34).f0)) (mx x345003 ((rd_T171 x32 x34).f1))) else (none)) else (none)) else (some (x345000, x345001, x345002, x345003))
end
def impl_BoxOf.f (k : Nat) (l0 : List (S171)) : Option (Int × Int × Int × Int) := if (l0.length : Int) = 0 then (impl_BoxOf.j0 k l0 true) else ((impl_pointsOk.f k l0).bind fun t339 => (impl_BoxOf.j0 k l0 (!t339)))
def impl_BoxOf.T3 : Bool × List (List Nat × List Nat) := (true, [([], []), ([0], [0]), ([1], [1]), ([2], [2]), ([], []), ([4], [4]), ([5], [5]), ([6], [6]), ([], []), ([8], [8]), ([9], [9]), ([10], [10]), ([], []), ([12], [12]), ([13], [13]), ([14], [14]), ([3, 7, 11, 15], [3, 7, 11, 15]), ([], []), ([17, 16, 0, 1, 2, 3, 4, 5, 6, 7, 8, 9, 10, 11, 12, 13, 14, 15, 16, 17], [16, 17])])
def impl_BoxOf.B3 : List Nat := [0, 1, 3, 7, 0, 16, 48, 112, 0, 256, 768, 1792, 0, 4096, 12288, 28672, 65535, 0, 262143]
theorem impl_BoxOf.tab3 : rtab .any (opsOf Try.f154 3) = impl_BoxOf.T3 := by kernel_rfl
theorem impl_BoxOf.bits3 : waitsOk impl_BoxOf.T3.2 impl_BoxOf.B3 = true := by kernel_rfl
def impl_BoxOf.T7 : Bool × List (List Nat × List Nat) := (true, [([], []), ([0], [0]), ([], []), ([2], [2]), ([1, 3], [1, 3]), ([], []), ([5], [5]), ([], []), ([7], [7]), ([6, 8], [6, 8]), ([0, 1, 2, 3, 4, 5, 6], []), ([10, 4, 0, 1, 2, 3, 4, 5, 6], [4, 10]), ([0, 1, 2, 3, 4, 5, 6, 7, 8, 9, 10, 11], []), ([12, 9, 11, 0, 1, 2, 3, 4, 5, 6, 7, 8, 9, 10, 11], [9, 12])])
def impl_BoxOf.B7 : List Nat := [0, 1, 0, 4, 15, 0, 32, 0, 128, 480, 127, 1151, 4095, 8191]
theorem impl_BoxOf.tab7 : rtab .any (opsOf Try.f154 7) = impl_BoxOf.T7 := by kernel_rfl
theorem impl_BoxOf.bits7 : waitsOk impl_BoxOf.T7.2 impl_BoxOf.B7 = true := by kernel_rfl
def impl_BoxOf.T8 : Bool × List (List Nat × List Nat) := (true, [([], []), ([0], [0]), ([], []), ([2], [2]), ([1, 3], [1, 3]), ([], []), ([5], [5]), ([], []), ([7], [7]), ([6, 8], [6, 8]), ([0, 1, 2, 3, 4, 5, 6], []), ([10, 4, 0, 1, 2, 3, 4, 5, 6], [4, 10]), ([0, 1, 2, 3, 4, 5, 6, 7, 8, 9, 10, 11], []), ([12, 9, 11, 0, 1, 2, 3, 4, 5, 6, 7, 8, 9, 10, 11], [9, 12])])
def impl_BoxOf.B8 : List Nat := [0, 1, 0, 4, 15, 0, 32, 0, 128, 480, 127, 1151, 4095, 8191]
theorem impl_BoxOf.tab8 : rtab .any (opsOf Try.f154 8) = impl_BoxOf.T8 := by kernel_rfl
theorem impl_BoxOf.bits8 : waitsOk impl_BoxOf.T8.2 impl_BoxOf.B8 = true := by kernel_rfl
theorem impl_BoxOf.calls (k : Nat) (A0 : Option Addr) (c0 : Nat) (l0 : List (S171)) (r1 : Int) (r2 : Int) (r3 : Int) (r4 : Int) (w : World) (hr0 : Kd.C k171 w A0 l0.length l0) (hc0 : l0.length ≤ c0) (h : impl_BoxOf.f k l0 = some (r1, r2, r3, r4)) :
  Calls Try.prog 154 #[.slice A0 l0.length c0] w fun e w' => e = .returned (.agg #[.int .i64 r1, .int .i64 r2, .int .i64 r3, .int .i64 r4]) ∧ Below w.heap.size w w' := by
 have hu43 := Try.underlying43
 have hu171 := Try.underlying171
 have HR0 := Aside0.mk hr0
 have HC0 := Aside0.mk hc0
 clear hr0 hc0
 have HB := Aside0.mk (Below.refl w.heap.size w)
 have H : (if (l0.length : Int) = 0 then (impl_BoxOf.j0 k l0 true) else ((impl_pointsOk.f k l0).bind fun t339 => (impl_BoxOf.j0 k l0 (!t339)))) = some (r1, r2, r3, r4) := h
 clear h
 have HC2 := Aside0.mk H
 clear H
 go_enter Try.func154, Try.ntmps154
 go_upto_region 1 with (first | ((with_reducible refine gD 2 ?_); refine bxE #[.int .i64 0, .int .i64 0, .int .i64 0, .int .i64 0] 43 ?_; intro gb338 hg w3 BK338 hb; have GW338 := gE hg; have GE338 := gE hg; replace HB := hB hb; clear hb hg))
 (try simp only [Act.put, List.setIfInBounds_toArray, List.set_cons_zero, List.set_cons_succ])
 go_cut [13] (fun v13 wc => ∃ (kq : Nat) (x13_1 : Bool), v13 = .bool x13_1 ∧ Aside0 (impl_BoxOf.j0 kq l0 x13_1 = some (r1, r2, r3, r4)) ∧ Aside0 (kq ≤ k) ∧ Aside0 (wc.heap[gb338]? = some (.cells #[.int .i64 0, .int .i64 0, .int .i64 0, .int .i64 0] 43 (0, 0))) ∧ Aside0 (Below w.heap.size w wc))
 case first =>
  have H := HC2.out
  clear HC2
  by_cases c4 : (l0.length : Int) = 0
  ·rw [if_pos c4] at H
   have c4b0 : ((l0.length : Int) == 0) = true := beq_iff_eq.mpr c4
   have c4b1 : ((l0.length : Int) != 0) = false := bne_eq_false_iff_eq.mpr c4
   clear c4
   (first | rw [c4b0] | (simp only [i64_w, i32_w]; rw [c4b0]) | skip)
   have H' := Aside0.mk H
   clear H
   go_wp2
   go_meet
   case rel => exact ⟨_, (true), (by first | rfl | (simp; done) | (simp [*]; done)), H', ⟨by first | omega | exact Nat.le_refl _⟩, ⟨kS⟩, ⟨bS⟩⟩
  ·rw [if_neg c4] at H
   have c4b0 : ((l0.length : Int) == 0) = false := beq_eq_false_iff_ne.mpr c4
   have c4b1 : ((l0.length : Int) != 0) = true := bne_iff_ne.mpr c4
   have c4b2 : ¬ (l0 = []) := fun h_ => c4 (by rw [h_]; rfl)
   (first | rw [c4b0] | (simp only [i64_w, i32_w]; rw [c4b0]) | skip)
   replace H := bN H
   obtain ⟨t339, A5, H⟩ := H
   have H' := Aside0.mk H
   clear H
   go_wp2_with (first | (go_at_call 151; (with_reducible refine (impl_pointsOk.calls k _ _ l0 t339 _ ?side1 ?side2 A5.out).mono ?_); (case side1 => exact cS (Kd.C_below HR0.out HB.out)); (case side2 => exact HC0.out); rintro e w6 ⟨rfl, hb⟩; replace BK338 := kB (g := gb338) hb; replace HB := hB hb; (try clear hb); (try clear hb2); (try clear hk); (try clear hi)))
   go_meet
   case rel => exact ⟨_, (!t339), (by first | rfl | (simp; done) | (simp [*]; done)), H', ⟨by first | omega | exact Nat.le_refl _⟩, ⟨kS⟩, ⟨bS⟩⟩
 case rest =>
  clear HC2
  try clear c1
  try clear p2
  try clear c4
  try clear c4b0
  try clear c4b1
  try clear c4b2
  obtain ⟨kq, x13_1, rfl, HA, HJ1, BK338, HB⟩ := hcut
  cases kq with
  | zero => exact absurd HA.out (by simp [impl_BoxOf.j0])
  | succ kj1 =>
   have H := HA.out
   clear HA
   simp only [impl_BoxOf.j0] at H
   by_cases c7 : x13_1 = true
   ·subst c7
    rw [if_pos rfl] at H
    simp only [Option.some.injEq, Prod.mk.injEq] at H
    obtain ⟨rfl, rfl, rfl, rfl⟩ := H
    have hcz8_0 : wc.cell? ⟨gb338, 0, none⟩ = some (.int .i64 0) := (blk_cell BK338.out 0).trans rfl
    have hcz8_1 : wc.cell? ⟨gb338, 1, none⟩ = some (.int .i64 0) := (blk_cell BK338.out 1).trans rfl
    have hcz8_2 : wc.cell? ⟨gb338, 2, none⟩ = some (.int .i64 0) := (blk_cell BK338.out 2).trans rfl
    have hcz8_3 : wc.cell? ⟨gb338, 3, none⟩ = some (.int .i64 0) := (blk_cell BK338.out 3).trans rfl
    have hfz8_0 := blk_frozen BK338.out 0
    have hfz8_1 := blk_frozen BK338.out 1
    have hfz8_2 := blk_frozen BK338.out 2
    have hfz8_3 := blk_frozen BK338.out 3
    go_wp2
    refine bodyPost_ret (results_cell_row rfl _ _ gb338 43 #[.int .i64 0, .int .i64 0, .int .i64 0, .int .i64 0] (0, 0) _ rfl kS Try.underlying43 rfl (by kernel_rfl)) rfl ?_
    exact ⟨eS, bS⟩
   ·obtain rfl := Bool.eq_false_iff.mpr c7
    rw [if_neg nF] at H
    by_cases c9 : 0 < (l0.length : Int)
    ·rw [if_pos c9] at H
     have c9b0 : decide (0 < (l0.length : Int)) = true := decide_eq_true c9
     have c9b1 : decide (0 < l0.length) = true := decide_eq_true (by omega)
     clear c9
     have H' := Aside0.mk H
     clear H
     try go_wp2
     replace BK338 := Aside0.mk (blk_drew BK338.out)
     replace HB := Aside0.mk (below_drew1 HB.out)
     have p340 : 0 ≤ (0 : Int) := (by omega)
     have q340 : 0 < (l0.length : Int) := of_decide_eq_true (by first | (with_reducible assumption) | assumption)
     obtain ⟨ad340, e340, hx340_0, hx340_1⟩ := at_T171 HR0.out 0 p340 q340
     have hw340_1 := hx340_1
     (try rw [show ((0 : Int)).toNat = 0 from rfl] at hw340_1)
     (try rw [show 0 * 2 = 0 from rfl] at hw340_1)
     (try rw [Addr.add_zero'] at hw340_1)
     have hw340_0 := hx340_0
     (try rw [show ((0 : Int)).toNat = 0 from rfl] at hw340_0)
     (try rw [show 0 * 2 = 0 from rfl] at hw340_0)
     (try rw [Addr.add_zero'] at hw340_0)
     cases e340
     have qi340 : (0 < l0.length) = True := eq_true (by omega)
     (try rw [show ((0 : Int)).toNat = 0 from rfl] at hx340_0)
     (try rw [show 0 * 2 = 0 from rfl] at hx340_0)
     (try rw [Addr.add_zero'] at hx340_0)
     (try rw [show ((0 : Int)).toNat = 0 from rfl] at hx340_1)
     (try rw [show 0 * 2 = 0 from rfl] at hx340_1)
     (try rw [Addr.add_zero'] at hx340_1)
     replace hx340_0 := (HB.out.cell (World.block_lt_of_cell? w _ hx340_0)).trans hx340_0
     replace hx340_1 := (HB.out.cell (World.block_lt_of_cell? w _ hx340_1)).trans hx340_1
     replace p340 := eq_true p340
     replace q340 := eq_true q340
     have p341 : 0 ≤ (0 : Int) := (by omega)
     have q341 : 0 < (l0.length : Int) := of_decide_eq_true (by first | (with_reducible assumption) | assumption)
     obtain ⟨ad341, e341, hx341_0, hx341_1⟩ := at_T171 HR0.out 0 p341 q341
     have hw341_1 := hx341_1
     (try rw [show ((0 : Int)).toNat = 0 from rfl] at hw341_1)
     (try rw [show 0 * 2 = 0 from rfl] at hw341_1)
     (try rw [Addr.add_zero'] at hw341_1)
     have hw341_0 := hx341_0
     (try rw [show ((0 : Int)).toNat = 0 from rfl] at hw341_0)
     (try rw [show 0 * 2 = 0 from rfl] at hw341_0)
     (try rw [Addr.add_zero'] at hw341_0)
     obtain rfl : ad340 = ad341 := (by injection e341)
     have qi341 : (0 < l0.length) = True := eq_true (by omega)
     (try rw [show ((0 : Int)).toNat = 0 from rfl] at hx341_0)
     (try rw [show 0 * 2 = 0 from rfl] at hx341_0)
     (try rw [Addr.add_zero'] at hx341_0)
     (try rw [show ((0 : Int)).toNat = 0 from rfl] at hx341_1)
     (try rw [show 0 * 2 = 0 from rfl] at hx341_1)
     (try rw [Addr.add_zero'] at hx341_1)
     replace hx341_0 := (HB.out.cell (World.block_lt_of_cell? w _ hx341_0)).trans hx341_0
     replace hx341_1 := (HB.out.cell (World.block_lt_of_cell? w _ hx341_1)).trans hx341_1
     replace p341 := eq_true p341
     replace q341 := eq_true q341
     have p342 : 0 ≤ (0 : Int) := (by omega)
     have q342 : 0 < (l0.length : Int) := of_decide_eq_true (by first | (with_reducible assumption) | assumption)
     obtain ⟨ad342, e342, hx342_0, hx342_1⟩ := at_T171 HR0.out 0 p342 q342
     have hw342_1 := hx342_1
     (try rw [show ((0 : Int)).toNat = 0 from rfl] at hw342_1)
     (try rw [show 0 * 2 = 0 from rfl] at hw342_1)
     (try rw [Addr.add_zero'] at hw342_1)
     have hw342_0 := hx342_0
     (try rw [show ((0 : Int)).toNat = 0 from rfl] at hw342_0)
     (try rw [show 0 * 2 = 0 from rfl] at hw342_0)
     (try rw [Addr.add_zero'] at hw342_0)
     obtain rfl : ad340 = ad342 := (by injection e342)
     have qi342 : (0 < l0.length) = True := eq_true (by omega)
     (try rw [show ((0 : Int)).toNat = 0 from rfl] at hx342_0)
     (try rw [show 0 * 2 = 0 from rfl] at hx342_0)
     (try rw [Addr.add_zero'] at hx342_0)
     (try rw [show ((0 : Int)).toNat = 0 from rfl] at hx342_1)
     (try rw [show 0 * 2 = 0 from rfl] at hx342_1)
     (try rw [Addr.add_zero'] at hx342_1)
     replace hx342_0 := (HB.out.cell (World.block_lt_of_cell? w _ hx342_0)).trans hx342_0
     replace hx342_1 := (HB.out.cell (World.block_lt_of_cell? w _ hx342_1)).trans hx342_1
     replace p342 := eq_true p342
     replace q342 := eq_true q342
     have p343 : 0 ≤ (0 : Int) := (by omega)
     have q343 : 0 < (l0.length : Int) := of_decide_eq_true (by first | (with_reducible assumption) | assumption)
     obtain ⟨ad343, e343, hx343_0, hx343_1⟩ := at_T171 HR0.out 0 p343 q343
     have hw343_1 := hx343_1
     (try rw [show ((0 : Int)).toNat = 0 from rfl] at hw343_1)
     (try rw [show 0 * 2 = 0 from rfl] at hw343_1)
     (try rw [Addr.add_zero'] at hw343_1)
     have hw343_0 := hx343_0
     (try rw [show ((0 : Int)).toNat = 0 from rfl] at hw343_0)
     (try rw [show 0 * 2 = 0 from rfl] at hw343_0)
     (try rw [Addr.add_zero'] at hw343_0)
     obtain rfl : ad340 = ad343 := (by injection e343)
     have qi343 : (0 < l0.length) = True := eq_true (by omega)
     (try rw [show ((0 : Int)).toNat = 0 from rfl] at hx343_0)
     (try rw [show 0 * 2 = 0 from rfl] at hx343_0)
     (try rw [Addr.add_zero'] at hx343_0)
     (try rw [show ((0 : Int)).toNat = 0 from rfl] at hx343_1)
     (try rw [show 0 * 2 = 0 from rfl] at hx343_1)
     (try rw [Addr.add_zero'] at hx343_1)
     replace hx343_0 := (HB.out.cell (World.block_lt_of_cell? w _ hx343_0)).trans hx343_0
     replace hx343_1 := (HB.out.cell (World.block_lt_of_cell? w _ hx343_1)).trans hx343_1
     replace p343 := eq_true p343
     replace q343 := eq_true q343
     refine start_ (n := 19) (S := fun w' => w'.cell? ad340 = some (.int .i64 ((rd_T171 l0 0).f0)) ∧ w'.cell? ⟨ad340.block, ad340.off + 1, none⟩ = some (.int .i64 ((rd_T171 l0 0).f1)) ∧ w'.cell? ad340 = some (.int .i64 ((rd_T171 l0 0).f0)) ∧ w'.cell? ⟨ad340.block, ad340.off + 1, none⟩ = some (.int .i64 ((rd_T171 l0 0).f1)) ∧ w'.cell? ad340 = some (.int .i64 ((rd_T171 l0 0).f0)) ∧ w'.cell? ⟨ad340.block, ad340.off + 1, none⟩ = some (.int .i64 ((rd_T171 l0 0).f1)) ∧ w'.cell? ad340 = some (.int .i64 ((rd_T171 l0 0).f0)) ∧ w'.cell? ⟨ad340.block, ad340.off + 1, none⟩ = some (.int .i64 ((rd_T171 l0 0).f1))) (ds := []) #[false, false, false, false, false, false, false, false, false, false, false, false, false, false, false, false, false, false, false] (by kernel_rfl) rfl rfl ⟨((HB.out.cell (World.block_lt_of_cell? w _ hw340_0)).trans hw340_0), ((HB.out.cell (World.block_lt_of_cell? w _ hw340_1)).trans hw340_1), ((HB.out.cell (World.block_lt_of_cell? w _ hw341_0)).trans hw341_0), ((HB.out.cell (World.block_lt_of_cell? w _ hw341_1)).trans hw341_1), ((HB.out.cell (World.block_lt_of_cell? w _ hw342_0)).trans hw342_0), ((HB.out.cell (World.block_lt_of_cell? w _ hw342_1)).trans hw342_1), ((HB.out.cell (World.block_lt_of_cell? w _ hw343_0)).trans hw343_0), ((HB.out.cell (World.block_lt_of_cell? w _ hw343_1)).trans hw343_1)⟩ (fun hHeld => ?_); refine with_tabW impl_BoxOf.tab3 impl_BoxOf.bits3 (fun HT_ HW_ => ?_)
     generalize wc.drew = w10 at BK338 HB hx340_0 hx340_1 hx341_0 hx341_1 hx342_0 hx342_1 hx343_0 hx343_1 hHeld ⊢
     refine pU 0 (some 15) #[true, false, false, false, false, false, false, false, false, false, false, false, false, false, false, false, false, false, false] ?_
     refine pU 1 (some 16) #[true, true, false, false, false, false, false, false, false, false, false, false, false, false, false, false, false, false, false] ?_
     refine pU 2 (some 17) #[true, true, true, false, false, false, false, false, false, false, false, false, false, false, false, false, false, false, false] ?_
     refine pU 4 (some 19) #[true, true, true, false, true, false, false, false, false, false, false, false, false, false, false, false, false, false, false] ?_
     refine pU 5 (some 20) #[true, true, true, false, true, true, false, false, false, false, false, false, false, false, false, false, false, false, false] ?_
     refine pU 6 (some 21) #[true, true, true, false, true, true, true, false, false, false, false, false, false, false, false, false, false, false, false] ?_
     refine pU 8 (some 23) #[true, true, true, false, true, true, true, false, true, false, false, false, false, false, false, false, false, false, false] ?_
     refine pU 9 (some 24) #[true, true, true, false, true, true, true, false, true, true, false, false, false, false, false, false, false, false, false] ?_
     refine pU 10 (some 25) #[true, true, true, false, true, true, true, false, true, true, true, false, false, false, false, false, false, false, false] ?_
     refine pU 12 (some 27) #[true, true, true, false, true, true, true, false, true, true, true, false, true, false, false, false, false, false, false] ?_
     refine pU 13 (some 28) #[true, true, true, false, true, true, true, false, true, true, true, false, true, true, false, false, false, false, false] ?_
     refine pU 14 (some 29) #[true, true, true, false, true, true, true, false, true, true, true, false, true, true, true, false, false, false, false] ?_
     refine tK 3 (some 18) #[true, true, true, true, true, true, true, false, true, true, true, false, true, true, true, false, false, false, false] ?_
     refine tK 7 (some 22) #[true, true, true, true, true, true, true, true, true, true, true, false, true, true, true, false, false, false, false] ?_
     refine tK 11 (some 26) #[true, true, true, true, true, true, true, true, true, true, true, true, true, true, true, false, false, false, false] ?_
     refine tK 15 (some 30) #[true, true, true, true, true, true, true, true, true, true, true, true, true, true, true, true, false, false, false] ?_
     refine pU 16 (some 31) #[true, true, true, true, true, true, true, true, true, true, true, true, true, true, true, true, true, false, false] ?_
     refine one_ (i := 17) (N := some 3) #[true, true, true, true, true, true, true, true, true, true, true, true, true, true, true, true, true, true, false] rfl rfl (one_of HT_.out (by kernel_rfl)) (by decide) (fun K hK => ?_)
     refine box_step ?hg (N := 3) ?hd (cs := #[.int .i64 0, .int .i64 0, .int .i64 0, .int .i64 0]) (t := 43) ?hr ?_; (case hd => rfl); (case hg => rfl); (case hr => first | (go_simp; done) | (go_simp; rfl))
     intro gb344 hg w11 hbox hb
     have BK344 := Aside0.mk (hbox)
     have GW344 := gE hg
     have GE344 := gE hg
     have NB338_344 := nL (g := gb338) hg
     have NB344_338 := nG (g := gb338) hg
     replace BK338 := kB (g := gb338) hb
     replace HB := hB hb
     clear hb hg
     refine hK.out _ _ ⟨((HB.out.cell (World.block_lt_of_cell? w _ hw340_0)).trans hw340_0), ((HB.out.cell (World.block_lt_of_cell? w _ hw340_1)).trans hw340_1), ((HB.out.cell (World.block_lt_of_cell? w _ hw341_0)).trans hw341_0), ((HB.out.cell (World.block_lt_of_cell? w _ hw341_1)).trans hw341_1), ((HB.out.cell (World.block_lt_of_cell? w _ hw342_0)).trans hw342_0), ((HB.out.cell (World.block_lt_of_cell? w _ hw342_1)).trans hw342_1), ((HB.out.cell (World.block_lt_of_cell? w _ hw343_0)).trans hw343_0), ((HB.out.cell (World.block_lt_of_cell? w _ hw343_1)).trans hw343_1)⟩ (fun hHeld => ?_)
     clear hK K
     refine norm_ (a' := ?_) ?_ ?_
     rotate_left
     ·show Act.put _ (some 3) _ = _
      simp only [Act.put, List.setIfInBounds_toArray, List.set_cons_zero, List.set_cons_succ, i64_w, i32_w]
      rfl
     refine one_ (i := 18) (N := none) #[true, true, true, true, true, true, true, true, true, true, true, true, true, true, true, true, true, true, true] rfl rfl (one_of HT_.out (by kernel_rfl)) (by decide) (fun K hK => ?_)
     have hs12 : w11.cell? ⟨gb344, 0, none⟩ = some (.int .i64 0) := (blk_cell BK344.out 0).trans rfl
     have hfs12 := blk_frozen BK344.out 0
     have hns12_0 := NB338_344.out
     have hms12_0 := NB344_338.out
     have hs13 : w11.cell? ⟨gb344, 1, none⟩ = some (.int .i64 0) := (blk_cell BK344.out 1).trans rfl
     have hfs13 := blk_frozen BK344.out 1
     have hns13_0 := NB338_344.out
     have hms13_0 := NB344_338.out
     have hs14 : w11.cell? ⟨gb344, 2, none⟩ = some (.int .i64 0) := (blk_cell BK344.out 2).trans rfl
     have hfs14 := blk_frozen BK344.out 2
     have hns14_0 := NB338_344.out
     have hms14_0 := NB344_338.out
     have hs15 : w11.cell? ⟨gb344, 3, none⟩ = some (.int .i64 0) := (blk_cell BK344.out 3).trans rfl
     have hfs15 := blk_frozen BK344.out 3
     have hns15_0 := NB338_344.out
     have hms15_0 := NB344_338.out
     refine skip_ (w1 := ?_) (by rfl) rfl ?_ ?_
     rotate_left
     ·go_simp
      rfl
     refine hK.out _ _ ⟨((cell_far (p := ⟨gb344, _, none⟩) (nA hw340_0 GW344) _).trans (((cell_far (p := ⟨gb344, _, none⟩) (nA hw340_0 GW344) _).trans (((cell_far (p := ⟨gb344, _, none⟩) (nA hw340_0 GW344) _).trans (((cell_far (p := ⟨gb344, _, none⟩) (nA hw340_0 GW344) _).trans (hHeld.1)))))))), ((cell_far (p := ⟨gb344, _, none⟩) (nA hw340_1 GW344) _).trans (((cell_far (p := ⟨gb344, _, none⟩) (nA hw340_1 GW344) _).trans (((cell_far (p := ⟨gb344, _, none⟩) (nA hw340_1 GW344) _).trans (((cell_far (p := ⟨gb344, _, none⟩) (nA hw340_1 GW344) _).trans (hHeld.2.1)))))))), ((cell_far (p := ⟨gb344, _, none⟩) (nA hw341_0 GW344) _).trans (((cell_far (p := ⟨gb344, _, none⟩) (nA hw341_0 GW344) _).trans (((cell_far (p := ⟨gb344, _, none⟩) (nA hw341_0 GW344) _).trans (((cell_far (p := ⟨gb344, _, none⟩) (nA hw341_0 GW344) _).trans (hHeld.2.2.1)))))))), ((cell_far (p := ⟨gb344, _, none⟩) (nA hw341_1 GW344) _).trans (((cell_far (p := ⟨gb344, _, none⟩) (nA hw341_1 GW344) _).trans (((cell_far (p := ⟨gb344, _, none⟩) (nA hw341_1 GW344) _).trans (((cell_far (p := ⟨gb344, _, none⟩) (nA hw341_1 GW344) _).trans (hHeld.2.2.2.1)))))))), ((cell_far (p := ⟨gb344, _, none⟩) (nA hw342_0 GW344) _).trans (((cell_far (p := ⟨gb344, _, none⟩) (nA hw342_0 GW344) _).trans (((cell_far (p := ⟨gb344, _, none⟩) (nA hw342_0 GW344) _).trans (((cell_far (p := ⟨gb344, _, none⟩) (nA hw342_0 GW344) _).trans (hHeld.2.2.2.2.1)))))))), ((cell_far (p := ⟨gb344, _, none⟩) (nA hw342_1 GW344) _).trans (((cell_far (p := ⟨gb344, _, none⟩) (nA hw342_1 GW344) _).trans (((cell_far (p := ⟨gb344, _, none⟩) (nA hw342_1 GW344) _).trans (((cell_far (p := ⟨gb344, _, none⟩) (nA hw342_1 GW344) _).trans (hHeld.2.2.2.2.2.1)))))))), ((cell_far (p := ⟨gb344, _, none⟩) (nA hw343_0 GW344) _).trans (((cell_far (p := ⟨gb344, _, none⟩) (nA hw343_0 GW344) _).trans (((cell_far (p := ⟨gb344, _, none⟩) (nA hw343_0 GW344) _).trans (((cell_far (p := ⟨gb344, _, none⟩) (nA hw343_0 GW344) _).trans (hHeld.2.2.2.2.2.2.1)))))))), ((cell_far (p := ⟨gb344, _, none⟩) (nA hw343_1 GW344) _).trans (((cell_far (p := ⟨gb344, _, none⟩) (nA hw343_1 GW344) _).trans (((cell_far (p := ⟨gb344, _, none⟩) (nA hw343_1 GW344) _).trans (((cell_far (p := ⟨gb344, _, none⟩) (nA hw343_1 GW344) _).trans (hHeld.2.2.2.2.2.2.2))))))))⟩ (fun hHeld => ?_)
     clear hK K
     refine done_ (done_of HT_.out (by kernel_rfl)) ?_
     try go_wp2
     go_loopg [34] kj1 (fun kq v34 w' => ∃ (x34_2 : Int) (x345000_2 : Int) (x345001_2 : Int) (x345002_2 : Int) (x345003_2 : Int), v34 = .int .i64 x34_2 ∧ Aside0 (impl_BoxOf.l0 kq l0 (l0.length : Int) x34_2 x345000_2 x345001_2 x345002_2 x345003_2 = some (r1, r2, r3, r4)) ∧ Aside0 (kq ≤ kj1) ∧ Aside0 (w'.heap[gb338]? = some (.cells #[.int .i64 0, .int .i64 0, .int .i64 0, .int .i64 0] 43 (0, 0))) ∧ Aside0 (w'.heap[gb344]? = some (.cells #[.int .i64 x345000_2, .int .i64 x345001_2, .int .i64 x345002_2, .int .i64 x345003_2] 43 (0, 0))) ∧ Aside0 (Below w.heap.size w w'))
     case atStart => exact ⟨(0), ((rd_T171 l0 0).f0), ((rd_T171 l0 0).f1), ((rd_T171 l0 0).f0), ((rd_T171 l0 0).f1), (by first | rfl | (simp; done) | (simp [*]; done)), H', ⟨Nat.le_refl _⟩, ⟨kS⟩, ⟨kS⟩, ⟨bS⟩⟩
     case round =>
      clear H'
      try clear c1
      try clear p2
      try clear p3
      try clear q3
      try clear hx3
      try clear qi3
      try clear c4
      try clear c4b0
      try clear c4b1
      try clear c4b2
      try clear c7
      try clear c9
      try clear c9b0
      try clear c9b1
      try clear c15
      try clear hcz8_0
      try clear hcz8_1
      try clear hcz8_2
      try clear hcz8_3
      try clear hfz8_0
      try clear hfz8_1
      try clear hfz8_2
      try clear hfz8_3
      try clear hx340_0
      try clear hx340_1
      try clear hx341_0
      try clear hx341_1
      try clear hx342_0
      try clear hx342_1
      try clear hx343_0
      try clear hx343_1
      try clear p2
      try clear p340
      try clear p341
      try clear p342
      try clear p343
      try clear q340
      try clear q341
      try clear q342
      try clear q343
      obtain ⟨x34_2, x345000_2, x345001_2, x345002_2, x345003_2, rfl, HA, HK2, BK338, BK344, HB⟩ := hrel
      cases gk with
      | zero => exact absurd HA.out (by simp [impl_BoxOf.l0])
      | succ k2 =>
       have H := HA.out
       clear HA
       simp only [impl_BoxOf.l0] at H
       by_cases c16 : x34_2 < (l0.length : Int)
       ·rw [if_pos c16] at H
        have c16b0 : decide (x34_2 < (l0.length : Int)) = true := decide_eq_true c16
        clear c16
        by_cases c17 : 0 ≤ x34_2
        ·rw [if_pos c17] at H
         have c17b0 : decide (0 ≤ x34_2) = true := decide_eq_true c17
         clear c17
         by_cases c18 : x34_2 < (l0.length : Int)
         ·rw [if_pos c18] at H
          have c18b0 : decide (x34_2 < (l0.length : Int)) = true := decide_eq_true c18
          clear c18
          obtain ⟨ji19, hji19⟩ : ∃ j_ : Int, (mn x345000_2 ((rd_T171 l0 x34_2).f0)) = j_ := ⟨_, rfl⟩
          replace H : (impl_BoxOf.l0 k2 l0 (l0.length : Int) (wrap64 (x34_2 + 1)) ji19 (mn x345001_2 ((rd_T171 l0 x34_2).f1)) (mx x345002_2 ((rd_T171 l0 x34_2).f0)) (mx x345003_2 ((rd_T171 l0 x34_2).f1))) = some (r1, r2, r3, r4) := by first | (rw [hji19] at H; exact H) | (simp only [hji19] at H ⊢; exact H)
          have hji19_ : (if ((rd_T171 l0 x34_2).f0) < x345000_2 then ((rd_T171 l0 x34_2).f0) else x345000_2) = ji19 := hji19
          obtain ⟨ji20, hji20⟩ : ∃ j_ : Int, (mn x345001_2 ((rd_T171 l0 x34_2).f1)) = j_ := ⟨_, rfl⟩
          replace H : (impl_BoxOf.l0 k2 l0 (l0.length : Int) (wrap64 (x34_2 + 1)) ji19 ji20 (mx x345002_2 ((rd_T171 l0 x34_2).f0)) (mx x345003_2 ((rd_T171 l0 x34_2).f1))) = some (r1, r2, r3, r4) := by first | (rw [hji20] at H; exact H) | (simp only [hji20] at H ⊢; exact H)
          have hji20_ : (if ((rd_T171 l0 x34_2).f1) < x345001_2 then ((rd_T171 l0 x34_2).f1) else x345001_2) = ji20 := hji20
          obtain ⟨ji21, hji21⟩ : ∃ j_ : Int, (mx x345002_2 ((rd_T171 l0 x34_2).f0)) = j_ := ⟨_, rfl⟩
          replace H : (impl_BoxOf.l0 k2 l0 (l0.length : Int) (wrap64 (x34_2 + 1)) ji19 ji20 ji21 (mx x345003_2 ((rd_T171 l0 x34_2).f1))) = some (r1, r2, r3, r4) := by first | (rw [hji21] at H; exact H) | (simp only [hji21] at H ⊢; exact H)
          have hji21_ : (if x345002_2 < ((rd_T171 l0 x34_2).f0) then ((rd_T171 l0 x34_2).f0) else x345002_2) = ji21 := hji21
          obtain ⟨ji22, hji22⟩ : ∃ j_ : Int, (mx x345003_2 ((rd_T171 l0 x34_2).f1)) = j_ := ⟨_, rfl⟩
          replace H : (impl_BoxOf.l0 k2 l0 (l0.length : Int) (wrap64 (x34_2 + 1)) ji19 ji20 ji21 ji22) = some (r1, r2, r3, r4) := by first | (rw [hji22] at H; exact H) | (simp only [hji22] at H ⊢; exact H)
          have hji22_ : (if x345003_2 < ((rd_T171 l0 x34_2).f1) then ((rd_T171 l0 x34_2).f1) else x345003_2) = ji22 := hji22
          have H' := Aside0.mk H
          clear H
          have p345 : 0 ≤ (x34_2 : Int) := of_decide_eq_true (by first | (with_reducible assumption) | assumption)
          have q345 : x34_2 < (l0.length : Int) := of_decide_eq_true (by first | (with_reducible assumption) | assumption)
          obtain ⟨ad345, e345, hx345_0, hx345_1⟩ := at_T171 HR0.out x34_2 p345 q345
          obtain rfl : ad340 = ad345 := (by injection e345)
          replace hx345_0 := (HB.out.cell (World.block_lt_of_cell? w _ hx345_0)).trans hx345_0
          replace hx345_1 := (HB.out.cell (World.block_lt_of_cell? w _ hx345_1)).trans hx345_1
          replace p345 := eq_true p345
          replace q345 := eq_true q345
          try go_wp2_with (first | ((with_reducible refine gD 5 ?_); refine bxE #[.int .i64 0, .int .i64 0] 171 ?_; intro gb346 hg w23 BK346 hb; have GW346 := gE hg; have GE346 := gE hg; have NB338_346 := nL (g := gb338) hg; have NB346_338 := nG (g := gb338) hg; have NB344_346 := nL (g := gb344) hg; have NB346_344 := nG (g := gb344) hg; replace BK338 := kB (g := gb338) hb; replace BK344 := kB (g := gb344) hb; replace HB := hB hb; clear hb hg; have hnb24 := NB346_338.out; have hnc24 := NB338_346.out; have hnb25 := NB346_344.out; have hnc25 := NB344_346.out; have hz26 := cz2 BK346))
          have n0_ : Aside0 (((w23.setCell ⟨gb346, 0, none⟩ (.int .i64 ((rd_T171 l0 x34_2).f0))).setCell ⟨gb346, 1, none⟩ (.int .i64 ((rd_T171 l0 x34_2).f1))).heap[gb338]? = some (.cells #[.int .i64 0, .int .i64 0, .int .i64 0, .int .i64 0] 43 (0, 0))) := ⟨kS⟩
          have n1_ : Aside0 (((w23.setCell ⟨gb346, 0, none⟩ (.int .i64 ((rd_T171 l0 x34_2).f0))).setCell ⟨gb346, 1, none⟩ (.int .i64 ((rd_T171 l0 x34_2).f1))).heap[gb344]? = some (.cells #[.int .i64 x345000_2, .int .i64 x345001_2, .int .i64 x345002_2, .int .i64 x345003_2] 43 (0, 0))) := ⟨kS⟩
          have n2_ : Aside0 (((w23.setCell ⟨gb346, 0, none⟩ (.int .i64 ((rd_T171 l0 x34_2).f0))).setCell ⟨gb346, 1, none⟩ (.int .i64 ((rd_T171 l0 x34_2).f1))).heap[gb346]? = some (.cells #[.int .i64 ((rd_T171 l0 x34_2).f0), .int .i64 ((rd_T171 l0 x34_2).f1)] 171 (0, 0))) := ⟨kS⟩
          have n3_ : Aside0 (Below w.heap.size w ((w23.setCell ⟨gb346, 0, none⟩ (.int .i64 ((rd_T171 l0 x34_2).f0))).setCell ⟨gb346, 1, none⟩ (.int .i64 ((rd_T171 l0 x34_2).f1)))) := ⟨bS⟩
          (try clear BK338)
          (try clear BK344)
          (try clear BK346)
          (try clear HB)
          generalize ((w23.setCell ⟨gb346, 0, none⟩ (.int .i64 ((rd_T171 l0 x34_2).f0))).setCell ⟨gb346, 1, none⟩ (.int .i64 ((rd_T171 l0 x34_2).f1))) = w27 at n0_ n1_ n2_ n3_ ⊢
          have BK338 := n0_
          have BK344 := n1_
          have BK346 := n2_
          have HB := n3_
          clear n0_ n1_ n2_ n3_
          replace BK338 := Aside0.mk (blk_drew BK338.out)
          replace BK344 := Aside0.mk (blk_drew BK344.out)
          replace BK346 := Aside0.mk (blk_drew BK346.out)
          replace HB := Aside0.mk (below_drew1 HB.out)
          refine start_ (n := 14) (S := fun w' => w'.cell? ⟨gb344, 1, none⟩ = some (.int .i64 x345001_2) ∧ w'.cell? ⟨gb344, 2, none⟩ = some (.int .i64 x345002_2) ∧ w'.cell? ⟨gb344, 3, none⟩ = some (.int .i64 x345003_2) ∧ w'.cell? ⟨gb346, 0, none⟩ = some (.int .i64 ((rd_T171 l0 x34_2).f0)) ∧ w'.cell? ⟨gb346, 1, none⟩ = some (.int .i64 ((rd_T171 l0 x34_2).f1))) (ds := [13]) #[false, false, false, false, false, false, false, false, false, false, false, false, false, false] (by kernel_rfl) rfl rfl ⟨(blk_cell BK344.out 1).trans rfl, (blk_cell BK344.out 2).trans rfl, (blk_cell BK344.out 3).trans rfl, (blk_cell BK346.out 0).trans rfl, (blk_cell BK346.out 1).trans rfl⟩ (fun hHeld => ?_); refine with_tabW impl_BoxOf.tab7 impl_BoxOf.bits7 (fun HT_ HW_ => ?_)
          generalize w27.drew = w28 at BK338 BK344 BK346 HB hHeld ⊢
          refine pU 0 (some 38) #[true, false, false, false, false, false, false, false, false, false, false, false, false, false] ?_
          refine pU 2 (some 40) #[true, false, true, false, false, false, false, false, false, false, false, false, false, false] ?_
          refine pU 5 (some 43) #[true, false, true, false, false, true, false, false, false, false, false, false, false, false] ?_
          refine pU 7 (some 45) #[true, false, true, false, false, true, false, true, false, false, false, false, false, false] ?_
          refine tK 3 (some 41) #[true, false, true, true, false, true, false, true, false, false, false, false, false, false] ?_
          refine tK 6 (some 44) #[true, false, true, true, false, true, true, true, false, false, false, false, false, false] ?_
          refine tK 8 (some 46) #[true, false, true, true, false, true, true, true, true, false, false, false, false, false] ?_
          refine pU 9 (some 47) #[true, false, true, true, false, true, true, true, true, true, false, false, false, false] ?_
          refine one_ (i := 1) (N := some 39) #[true, true, true, true, false, true, true, true, true, true, false, false, false, false] rfl rfl (one_of HT_.out (by kernel_rfl)) (by decide) (fun K hK => ?_)
          have hl1_ := (blk_cell BK344.out 0).trans (show _ = some (.int .i64 x345000_2) from rfl)
          refine value_ (w1 := ?_) (v := ?_) (by rfl) rfl ?_ ?_
          rotate_left 2
          ·go_simp
           constructor
           ·rfl
           ·rfl
          refine hK.out _ _ ⟨hHeld.1, hHeld.2.1, hHeld.2.2.1, hHeld.2.2.2.1, hHeld.2.2.2.2⟩ (fun hHeld => ?_)
          clear hK K
          refine norm_ (a' := ?_) ?_ ?_
          rotate_left
          ·show Act.put _ (some 39) _ = _
           simp only [Act.put, List.setIfInBounds_toArray, List.set_cons_zero, List.set_cons_succ, i64_w, i32_w]
           rfl
          refine pU 4 (some 42) #[true, true, true, true, true, true, true, true, true, true, false, false, false, false] ?_
          refine pU 10 (some 48) #[true, true, true, true, true, true, true, true, true, true, true, false, false, false] ?_
          refine one_ (i := 11) (N := none) #[true, true, true, true, true, true, true, true, true, true, true, true, false, false] rfl rfl (one_of HT_.out (by kernel_rfl)) (by decide) (fun K hK => ?_)
          have hs29 : w28.cell? ⟨gb344, 0, none⟩ = some (.int .i64 x345000_2) := (blk_cell BK344.out 0).trans rfl
          have hfs29 := blk_frozen BK344.out 0
          have hns29_0 := NB338_344.out
          have hns29_2 := NB346_344.out
          have hms29_0 := NB344_338.out
          have hms29_2 := NB344_346.out
          refine skip_ (w1 := ?_) (by rfl) rfl ?_ ?_
          rotate_left
          ·go_simp
           rfl
          refine hK.out _ _ ⟨(cell_off (by decide) _).trans (hHeld.1), (cell_off (by decide) _).trans (hHeld.2.1), (cell_off (by decide) _).trans (hHeld.2.2.1), ((cell_far (p := ⟨gb344, _, none⟩) NB346_344.out _).trans (hHeld.2.2.2.1)), ((cell_far (p := ⟨gb344, _, none⟩) NB346_344.out _).trans (hHeld.2.2.2.2))⟩ (fun hHeld => ?_)
          clear hK K
          refine pU 12 (some 49) #[true, true, true, true, true, true, true, true, true, true, true, true, true, false] ?_
          refine last_ (i := 13) (N := none) #[true, true, true, true, true, true, true, true, true, true, true, true, true, true] rfl rfl (one_of HT_.out (by kernel_rfl)) (by decide) (fun K hK => ?_)
          have hs30 : w28.cell? ⟨gb344, 1, none⟩ = some (.int .i64 x345001_2) := (blk_cell BK344.out 1).trans rfl
          have hfs30 := blk_frozen BK344.out 1
          have hns30_0 := NB338_344.out
          have hns30_2 := NB346_344.out
          have hms30_0 := NB344_338.out
          have hms30_2 := NB344_346.out
          refine skip_ (w1 := ?_) (by rfl) rfl ?_ ?_
          rotate_left
          ·go_simp
           rfl
          refine hK.out _ _ ?_
          clear hK K
          refine done_ (done_of HT_.out (by kernel_rfl)) ?_
          try go_wp2
          have n0_ : Aside0 (((w28.setCell ⟨gb344, 0, none⟩ (.int .i64 ji19)).setCell ⟨gb344, 1, none⟩ (.int .i64 ji20)).heap[gb338]? = some (.cells #[.int .i64 0, .int .i64 0, .int .i64 0, .int .i64 0] 43 (0, 0))) := ⟨kS⟩
          have n1_ : Aside0 (((w28.setCell ⟨gb344, 0, none⟩ (.int .i64 ji19)).setCell ⟨gb344, 1, none⟩ (.int .i64 ji20)).heap[gb344]? = some (.cells #[.int .i64 ji19, .int .i64 ji20, .int .i64 x345002_2, .int .i64 x345003_2] 43 (0, 0))) := ⟨kS⟩
          have n2_ : Aside0 (((w28.setCell ⟨gb344, 0, none⟩ (.int .i64 ji19)).setCell ⟨gb344, 1, none⟩ (.int .i64 ji20)).heap[gb346]? = some (.cells #[.int .i64 ((rd_T171 l0 x34_2).f0), .int .i64 ((rd_T171 l0 x34_2).f1)] 171 (0, 0))) := ⟨kS⟩
          have n3_ : Aside0 (Below w.heap.size w ((w28.setCell ⟨gb344, 0, none⟩ (.int .i64 ji19)).setCell ⟨gb344, 1, none⟩ (.int .i64 ji20))) := ⟨bS⟩
          (try clear BK338)
          (try clear BK344)
          (try clear BK346)
          (try clear HB)
          generalize ((w28.setCell ⟨gb344, 0, none⟩ (.int .i64 ji19)).setCell ⟨gb344, 1, none⟩ (.int .i64 ji20)) = w31 at n0_ n1_ n2_ n3_ ⊢
          have BK338 := n0_
          have BK344 := n1_
          have BK346 := n2_
          have HB := n3_
          clear n0_ n1_ n2_ n3_
          replace BK338 := Aside0.mk (blk_drew BK338.out)
          replace BK344 := Aside0.mk (blk_drew BK344.out)
          replace BK346 := Aside0.mk (blk_drew BK346.out)
          replace HB := Aside0.mk (below_drew1 HB.out)
          refine start_ (n := 14) (S := fun w' => w'.cell? ⟨gb344, 0, none⟩ = some (.int .i64 ji19) ∧ w'.cell? ⟨gb344, 1, none⟩ = some (.int .i64 ji20) ∧ w'.cell? ⟨gb344, 3, none⟩ = some (.int .i64 x345003_2) ∧ w'.cell? ⟨gb346, 0, none⟩ = some (.int .i64 ((rd_T171 l0 x34_2).f0)) ∧ w'.cell? ⟨gb346, 1, none⟩ = some (.int .i64 ((rd_T171 l0 x34_2).f1))) (ds := [13]) #[false, false, false, false, false, false, false, false, false, false, false, false, false, false] (by kernel_rfl) rfl rfl ⟨(blk_cell BK344.out 0).trans rfl, (blk_cell BK344.out 1).trans rfl, (blk_cell BK344.out 3).trans rfl, (blk_cell BK346.out 0).trans rfl, (blk_cell BK346.out 1).trans rfl⟩ (fun hHeld => ?_); refine with_tabW impl_BoxOf.tab8 impl_BoxOf.bits8 (fun HT_ HW_ => ?_)
          generalize w31.drew = w32 at BK338 BK344 BK346 HB hHeld ⊢
          refine pU 0 (some 50) #[true, false, false, false, false, false, false, false, false, false, false, false, false, false] ?_
          refine pU 2 (some 52) #[true, false, true, false, false, false, false, false, false, false, false, false, false, false] ?_
          refine pU 5 (some 55) #[true, false, true, false, false, true, false, false, false, false, false, false, false, false] ?_
          refine pU 7 (some 57) #[true, false, true, false, false, true, false, true, false, false, false, false, false, false] ?_
          refine tK 3 (some 53) #[true, false, true, true, false, true, false, true, false, false, false, false, false, false] ?_
          refine tK 6 (some 56) #[true, false, true, true, false, true, true, true, false, false, false, false, false, false] ?_
          refine tK 8 (some 58) #[true, false, true, true, false, true, true, true, true, false, false, false, false, false] ?_
          refine pU 9 (some 59) #[true, false, true, true, false, true, true, true, true, true, false, false, false, false] ?_
          refine one_ (i := 1) (N := some 51) #[true, true, true, true, false, true, true, true, true, true, false, false, false, false] rfl rfl (one_of HT_.out (by kernel_rfl)) (by decide) (fun K hK => ?_)
          have hl1_ := (blk_cell BK344.out 2).trans (show _ = some (.int .i64 x345002_2) from rfl)
          refine value_ (w1 := ?_) (v := ?_) (by rfl) rfl ?_ ?_
          rotate_left 2
          ·go_simp
           constructor
           ·rfl
           ·rfl
          refine hK.out _ _ ⟨hHeld.1, hHeld.2.1, hHeld.2.2.1, hHeld.2.2.2.1, hHeld.2.2.2.2⟩ (fun hHeld => ?_)
          clear hK K
          refine norm_ (a' := ?_) ?_ ?_
          rotate_left
          ·show Act.put _ (some 51) _ = _
           simp only [Act.put, List.setIfInBounds_toArray, List.set_cons_zero, List.set_cons_succ, i64_w, i32_w]
           rfl
          refine pU 4 (some 54) #[true, true, true, true, true, true, true, true, true, true, false, false, false, false] ?_
          refine pU 10 (some 60) #[true, true, true, true, true, true, true, true, true, true, true, false, false, false] ?_
          refine one_ (i := 11) (N := none) #[true, true, true, true, true, true, true, true, true, true, true, true, false, false] rfl rfl (one_of HT_.out (by kernel_rfl)) (by decide) (fun K hK => ?_)
          have hs33 : w32.cell? ⟨gb344, 2, none⟩ = some (.int .i64 x345002_2) := (blk_cell BK344.out 2).trans rfl
          have hfs33 := blk_frozen BK344.out 2
          have hns33_0 := NB338_344.out
          have hns33_2 := NB346_344.out
          have hms33_0 := NB344_338.out
          have hms33_2 := NB344_346.out
          refine skip_ (w1 := ?_) (by rfl) rfl ?_ ?_
          rotate_left
          ·go_simp
           rfl
          refine hK.out _ _ ⟨(cell_off (by decide) _).trans (hHeld.1), (cell_off (by decide) _).trans (hHeld.2.1), (cell_off (by decide) _).trans (hHeld.2.2.1), ((cell_far (p := ⟨gb344, _, none⟩) NB346_344.out _).trans (hHeld.2.2.2.1)), ((cell_far (p := ⟨gb344, _, none⟩) NB346_344.out _).trans (hHeld.2.2.2.2))⟩ (fun hHeld => ?_)
          clear hK K
          refine pU 12 (some 61) #[true, true, true, true, true, true, true, true, true, true, true, true, true, false] ?_
          refine last_ (i := 13) (N := none) #[true, true, true, true, true, true, true, true, true, true, true, true, true, true] rfl rfl (one_of HT_.out (by kernel_rfl)) (by decide) (fun K hK => ?_)
          have hs34 : w32.cell? ⟨gb344, 3, none⟩ = some (.int .i64 x345003_2) := (blk_cell BK344.out 3).trans rfl
          have hfs34 := blk_frozen BK344.out 3
          have hns34_0 := NB338_344.out
          have hns34_2 := NB346_344.out
          have hms34_0 := NB344_338.out
          have hms34_2 := NB344_346.out
          refine skip_ (w1 := ?_) (by rfl) rfl ?_ ?_
          rotate_left
          ·go_simp
           rfl
          refine hK.out _ _ ?_
          clear hK K
          refine done_ (done_of HT_.out (by kernel_rfl)) ?_
          try go_wp2
          go_roundg k2
          case measure => have := HJ1.out; have := HK2.out; omega
          case rel => exact ⟨(wrap64 (x34_2 + 1)), (ji19), (ji20), (ji21), (ji22), (by first | rfl | (simp; done) | (simp [*]; done)), H', ⟨by have := HJ1.out; have := HK2.out; omega⟩, ⟨kS⟩, ⟨kS⟩, ⟨bS⟩⟩
         ·rw [if_neg c18] at H
          exact absurd H (by simp)
        ·rw [if_neg c17] at H
         exact absurd H (by simp)
       ·rw [if_neg c16] at H
        have c16b0 : decide (x34_2 < (l0.length : Int)) = false := decide_eq_false c16
        clear c16
        simp only [Option.some.injEq, Prod.mk.injEq] at H
        obtain ⟨rfl, rfl, rfl, rfl⟩ := H
        have hnb35 := NB344_338.out
        have hnc35 := NB338_344.out
        have hz36 := cz4 BK344
        have hz37 := cz4 BK338
        go_wp2
        refine bodyPost_ret (results_cell_row rfl _ _ gb338 43 #[.int .i64 x345000_2, .int .i64 x345001_2, .int .i64 x345002_2, .int .i64 x345003_2] (0, 0) _ rfl kS Try.underlying43 rfl (by kernel_rfl)) rfl ?_
        exact ⟨eS, bS⟩
    ·rw [if_neg c9] at H
     exact absurd H (by simp)

end Go.Proofs.Ytigodjcnkgebaaa.QFnMemory
