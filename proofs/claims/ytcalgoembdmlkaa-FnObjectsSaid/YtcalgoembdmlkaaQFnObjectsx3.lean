-- Made out of the translation by a program of this session (a changed copy of the print). Not trusted: Lean checks it.
import Derived.Test.YtcalgoembdmlkaaQFnObjectsx0
import Derived.Test.YtcalgoembdmlkaaQFnObjectsx1
namespace Go.Proofs.Ytcalgoembdmlkaa.QFnObjects
open Go.RowKit Go.Proofs.YtcalgoembdmlkaaW.PrintWords Go.Proofs.YtcalgoembdmlkaaW.PrintLast Go.Proofs.YtcalgoembdmlkaaW.PrintMore
attribute [local go_sem] max2_int min2_int max_two min_two max_three min_three max_four min_four   -- for this text's walks alone
set_option linter.unusedVariables false
set_option linter.unusedSimpArgs false
set_option maxHeartbeats 8000000
set_option maxRecDepth 100000

/-! ### impl_BoxOf: function 107 -/
mutual
def impl_BoxOf.j0 : Nat → List (S130) → Bool → Option (Int × Int × Int × Int)
 | 0, _, _ => none
 | k + 1, x0, x13 => if x13 = true then (some (0, 0, 0, 0)) else (if 0 < (x0.length : Int) then (impl_BoxOf.l0 k x0 (x0.length : Int) 0 ((rd_T130 x0 0).f0) ((rd_T130 x0 0).f1) ((rd_T130 x0 0).f0) ((rd_T130 x0 0).f1)) else (none))
def impl_BoxOf.l0 : Nat → List (S130) → Int → Int → Int → Int → Int → Int → Option (Int × Int × Int × Int)
 | 0, _, _, _, _, _, _, _ => none
 | k + 1, x32, x33, x34, x163000, x163001, x163002, x163003 => if x34 < x33 then (if 0 ≤ x34 then (if x34 < (x32.length : Int) then (impl_BoxOf.l0 k x32 x33 (wrap64 (x34 + 1)) (mn x163000 ((rd_T130 x32 x34).f0)) (mn x163001 ((rd_T130 x32 x34).f1)) (mx x163002 ((rd_T130 x32 x34).f0)) (mx x163003 ((rd_T130 x32 x34).f1))) else (none)) else (none)) else (some (x163000, x163001, x163002, x163003))
end
def impl_BoxOf.f (k : Nat) (l0 : List (S130)) : Option (Int × Int × Int × Int) := if (l0.length : Int) = 0 then (impl_BoxOf.j0 k l0 true) else ((impl_pointsOk.f k l0).bind fun t157 => (impl_BoxOf.j0 k l0 (!t157)))
def impl_BoxOf.T3 : Bool × List (List Nat × List Nat) := (true, [([], []), ([0], [0]), ([1], [1]), ([2], [2]), ([], []), ([4], [4]), ([5], [5]), ([6], [6]), ([], []), ([8], [8]), ([9], [9]), ([10], [10]), ([], []), ([12], [12]), ([13], [13]), ([14], [14]), ([3, 7, 11, 15], [3, 7, 11, 15]), ([], []), ([17, 16, 0, 1, 2, 3, 4, 5, 6, 7, 8, 9, 10, 11, 12, 13, 14, 15, 16, 17], [16, 17])])
def impl_BoxOf.B3 : List Nat := [0, 1, 3, 7, 0, 16, 48, 112, 0, 256, 768, 1792, 0, 4096, 12288, 28672, 65535, 0, 262143]
theorem impl_BoxOf.tab3 : rtab .any (opsOf Try.f107 3) = impl_BoxOf.T3 := by kernel_rfl
theorem impl_BoxOf.bits3 : waitsOk impl_BoxOf.T3.2 impl_BoxOf.B3 = true := by kernel_rfl
def impl_BoxOf.T7 : Bool × List (List Nat × List Nat) := (true, [([], []), ([0], [0]), ([], []), ([2], [2]), ([1, 3], [1, 3]), ([], []), ([5], [5]), ([], []), ([7], [7]), ([6, 8], [6, 8]), ([0, 1, 2, 3, 4, 5, 6], []), ([10, 4, 0, 1, 2, 3, 4, 5, 6], [4, 10]), ([0, 1, 2, 3, 4, 5, 6, 7, 8, 9, 10, 11], []), ([12, 9, 11, 0, 1, 2, 3, 4, 5, 6, 7, 8, 9, 10, 11], [9, 12])])
def impl_BoxOf.B7 : List Nat := [0, 1, 0, 4, 15, 0, 32, 0, 128, 480, 127, 1151, 4095, 8191]
theorem impl_BoxOf.tab7 : rtab .any (opsOf Try.f107 7) = impl_BoxOf.T7 := by kernel_rfl
theorem impl_BoxOf.bits7 : waitsOk impl_BoxOf.T7.2 impl_BoxOf.B7 = true := by kernel_rfl
def impl_BoxOf.T8 : Bool × List (List Nat × List Nat) := (true, [([], []), ([0], [0]), ([], []), ([2], [2]), ([1, 3], [1, 3]), ([], []), ([5], [5]), ([], []), ([7], [7]), ([6, 8], [6, 8]), ([0, 1, 2, 3, 4, 5, 6], []), ([10, 4, 0, 1, 2, 3, 4, 5, 6], [4, 10]), ([0, 1, 2, 3, 4, 5, 6, 7, 8, 9, 10, 11], []), ([12, 9, 11, 0, 1, 2, 3, 4, 5, 6, 7, 8, 9, 10, 11], [9, 12])])
def impl_BoxOf.B8 : List Nat := [0, 1, 0, 4, 15, 0, 32, 0, 128, 480, 127, 1151, 4095, 8191]
theorem impl_BoxOf.tab8 : rtab .any (opsOf Try.f107 8) = impl_BoxOf.T8 := by kernel_rfl
theorem impl_BoxOf.bits8 : waitsOk impl_BoxOf.T8.2 impl_BoxOf.B8 = true := by kernel_rfl
theorem impl_BoxOf.calls (k : Nat) (A0 : Option Addr) (c0 : Nat) (l0 : List (S130)) (r1 : Int) (r2 : Int) (r3 : Int) (r4 : Int) (w : World) (hr0 : Kd.C k130 w A0 l0.length l0) (hc0 : l0.length ≤ c0) (h : impl_BoxOf.f k l0 = some (r1, r2, r3, r4)) :
  Calls Try.prog 107 #[.slice A0 l0.length c0] w fun e w' => e = .returned (.agg #[.int .i64 r1, .int .i64 r2, .int .i64 r3, .int .i64 r4]) ∧ Below w.heap.size w w' := by
 have hu52 := Try.underlying52
 have hu130 := Try.underlying130
 have HR0 := Aside0.mk hr0
 have HC0 := Aside0.mk hc0
 clear hr0 hc0
 have HB := Aside0.mk (Below.refl w.heap.size w)
 have H : (if (l0.length : Int) = 0 then (impl_BoxOf.j0 k l0 true) else ((impl_pointsOk.f k l0).bind fun t157 => (impl_BoxOf.j0 k l0 (!t157)))) = some (r1, r2, r3, r4) := h
 clear h
 have HC2 := Aside0.mk H
 clear H
 go_enter Try.func107, Try.ntmps107
 go_upto_region 1 with (first | ((with_reducible refine gD 2 ?_); refine bxE #[.int .i64 0, .int .i64 0, .int .i64 0, .int .i64 0] 52 ?_; intro gb156 hg w3 BK156 hb; have GW156 := gE hg; have GE156 := gE hg; replace HB := hB hb; clear hb hg))
 (try simp only [Act.put, List.setIfInBounds_toArray, List.set_cons_zero, List.set_cons_succ])
 go_cut [13] (fun v13 wc => ∃ (kq : Nat) (x13_1 : Bool), v13 = .bool x13_1 ∧ Aside0 (impl_BoxOf.j0 kq l0 x13_1 = some (r1, r2, r3, r4)) ∧ Aside0 (kq ≤ k) ∧ Aside0 (wc.heap[gb156]? = some (.cells #[.int .i64 0, .int .i64 0, .int .i64 0, .int .i64 0] 52 (0, 0))) ∧ Aside0 (Below w.heap.size w wc))
 case first =>
  have H := HC2.out
  clear HC2
  by_cases c4 : (l0.length : Int) = 0
  ·rw [if_pos c4] at H
   have c4b0 : ((l0.length : Int) == 0) = true := beq_iff_eq.mpr c4
   have c4b1 : ((l0.length : Int) != 0) = false := bne_eq_false_iff_eq.mpr c4
   clear c4
   (first | rw [c4b0] | (simp only [i64_w, i32_w]; rw [c4b0]) | skip)
   have H' := Aside0.mk H
   clear H
   go_wp2
   go_meet
   case rel => exact ⟨_, (true), (by first | rfl | (simp; done) | (simp [*]; done)), H', ⟨by first | omega | exact Nat.le_refl _⟩, ⟨kS⟩, ⟨bS⟩⟩
  ·rw [if_neg c4] at H
   have c4b0 : ((l0.length : Int) == 0) = false := beq_eq_false_iff_ne.mpr c4
   have c4b1 : ((l0.length : Int) != 0) = true := bne_iff_ne.mpr c4
   have c4b2 : ¬ (l0 = []) := fun h_ => c4 (by rw [h_]; rfl)
   (first | rw [c4b0] | (simp only [i64_w, i32_w]; rw [c4b0]) | skip)
   replace H := bN H
   obtain ⟨t157, A5, H⟩ := H
   have H' := Aside0.mk H
   clear H
   go_wp2_with (first | (go_at_call 142; (with_reducible refine (impl_pointsOk.calls k _ _ l0 t157 _ ?side1 ?side2 A5.out).mono ?_); (case side1 => exact cS (Kd.C_below HR0.out HB.out)); (case side2 => exact HC0.out); rintro e w6 ⟨rfl, hb⟩; replace BK156 := kB (g := gb156) hb; replace HB := hB hb; (try clear hb); (try clear hb2); (try clear hk); (try clear hi)))
   go_meet
   case rel => exact ⟨_, (!t157), (by first | rfl | (simp; done) | (simp [*]; done)), H', ⟨by first | omega | exact Nat.le_refl _⟩, ⟨kS⟩, ⟨bS⟩⟩
 case rest =>
  clear HC2
  try clear c1
  try clear p2
  try clear c4
  try clear c4b0
  try clear c4b1
  try clear c4b2
  obtain ⟨kq, x13_1, rfl, HA, HJ1, BK156, HB⟩ := hcut
  cases kq with
  | zero => exact absurd HA.out (by simp [impl_BoxOf.j0])
  | succ kj1 =>
   have H := HA.out
   clear HA
   simp only [impl_BoxOf.j0] at H
   by_cases c7 : x13_1 = true
   ·subst c7
    rw [if_pos rfl] at H
    simp only [Option.some.injEq, Prod.mk.injEq] at H
    obtain ⟨rfl, rfl, rfl, rfl⟩ := H
    have hcz8_0 : wc.cell? ⟨gb156, 0, none⟩ = some (.int .i64 0) := (blk_cell BK156.out 0).trans rfl
    have hcz8_1 : wc.cell? ⟨gb156, 1, none⟩ = some (.int .i64 0) := (blk_cell BK156.out 1).trans rfl
    have hcz8_2 : wc.cell? ⟨gb156, 2, none⟩ = some (.int .i64 0) := (blk_cell BK156.out 2).trans rfl
    have hcz8_3 : wc.cell? ⟨gb156, 3, none⟩ = some (.int .i64 0) := (blk_cell BK156.out 3).trans rfl
    have hfz8_0 := blk_frozen BK156.out 0
    have hfz8_1 := blk_frozen BK156.out 1
    have hfz8_2 := blk_frozen BK156.out 2
    have hfz8_3 := blk_frozen BK156.out 3
    go_wp2
    refine bodyPost_ret (results_cell_row rfl _ _ gb156 52 #[.int .i64 0, .int .i64 0, .int .i64 0, .int .i64 0] (0, 0) _ rfl kS Try.underlying52 rfl (by kernel_rfl)) rfl ?_
    exact ⟨eS, bS⟩
   ·obtain rfl := Bool.eq_false_iff.mpr c7
    rw [if_neg nF] at H
    by_cases c9 : 0 < (l0.length : Int)
    ·rw [if_pos c9] at H
     have c9b0 : decide (0 < (l0.length : Int)) = true := decide_eq_true c9
     have c9b1 : decide (0 < l0.length) = true := decide_eq_true (by omega)
     clear c9
     have H' := Aside0.mk H
     clear H
     try go_wp2
     replace BK156 := Aside0.mk (blk_drew BK156.out)
     replace HB := Aside0.mk (below_drew1 HB.out)
     have p158 : 0 ≤ (0 : Int) := (by omega)
     have q158 : 0 < (l0.length : Int) := of_decide_eq_true (by first | (with_reducible assumption) | assumption)
     obtain ⟨ad158, e158, hx158_0, hx158_1⟩ := at_T130 HR0.out 0 p158 q158
     have hw158_1 := hx158_1
     (try rw [show ((0 : Int)).toNat = 0 from rfl] at hw158_1)
     (try rw [show 0 * 2 = 0 from rfl] at hw158_1)
     (try rw [Addr.add_zero'] at hw158_1)
     have hw158_0 := hx158_0
     (try rw [show ((0 : Int)).toNat = 0 from rfl] at hw158_0)
     (try rw [show 0 * 2 = 0 from rfl] at hw158_0)
     (try rw [Addr.add_zero'] at hw158_0)
     cases e158
     have qi158 : (0 < l0.length) = True := eq_true (by omega)
     (try rw [show ((0 : Int)).toNat = 0 from rfl] at hx158_0)
     (try rw [show 0 * 2 = 0 from rfl] at hx158_0)
     (try rw [Addr.add_zero'] at hx158_0)
     (try rw [show ((0 : Int)).toNat = 0 from rfl] at hx158_1)
     (try rw [show 0 * 2 = 0 from rfl] at hx158_1)
     (try rw [Addr.add_zero'] at hx158_1)
     replace hx158_0 := (HB.out.cell (World.block_lt_of_cell? w _ hx158_0)).trans hx158_0
     replace hx158_1 := (HB.out.cell (World.block_lt_of_cell? w _ hx158_1)).trans hx158_1
     replace p158 := eq_true p158
     replace q158 := eq_true q158
     have p159 : 0 ≤ (0 : Int) := (by omega)
     have q159 : 0 < (l0.length : Int) := of_decide_eq_true (by first | (with_reducible assumption) | assumption)
     obtain ⟨ad159, e159, hx159_0, hx159_1⟩ := at_T130 HR0.out 0 p159 q159
     have hw159_1 := hx159_1
     (try rw [show ((0 : Int)).toNat = 0 from rfl] at hw159_1)
     (try rw [show 0 * 2 = 0 from rfl] at hw159_1)
     (try rw [Addr.add_zero'] at hw159_1)
     have hw159_0 := hx159_0
     (try rw [show ((0 : Int)).toNat = 0 from rfl] at hw159_0)
     (try rw [show 0 * 2 = 0 from rfl] at hw159_0)
     (try rw [Addr.add_zero'] at hw159_0)
     obtain rfl : ad158 = ad159 := (by injection e159)
     have qi159 : (0 < l0.length) = True := eq_true (by omega)
     (try rw [show ((0 : Int)).toNat = 0 from rfl] at hx159_0)
     (try rw [show 0 * 2 = 0 from rfl] at hx159_0)
     (try rw [Addr.add_zero'] at hx159_0)
     (try rw [show ((0 : Int)).toNat = 0 from rfl] at hx159_1)
     (try rw [show 0 * 2 = 0 from rfl] at hx159_1)
     (try rw [Addr.add_zero'] at hx159_1)
     replace hx159_0 := (HB.out.cell (World.block_lt_of_cell? w _ hx159_0)).trans hx159_0
     replace hx159_1 := (HB.out.cell (World.block_lt_of_cell? w _ hx159_1)).trans hx159_1
     replace p159 := eq_true p159
     replace q159 := eq_true q159
     have p160 : 0 ≤ (0 : Int) := (by omega)
     have q160 : 0 < (l0.length : Int) := of_decide_eq_true (by first | (with_reducible assumption) | assumption)
     obtain ⟨ad160, e160, hx160_0, hx160_1⟩ := at_T130 HR0.out 0 p160 q160
     have hw160_1 := hx160_1
     (try rw [show ((0 : Int)).toNat = 0 from rfl] at hw160_1)
     (try rw [show 0 * 2 = 0 from rfl] at hw160_1)
     (try rw [Addr.add_zero'] at hw160_1)
     have hw160_0 := hx160_0
     (try rw [show ((0 : Int)).toNat = 0 from rfl] at hw160_0)
     (try rw [show 0 * 2 = 0 from rfl] at hw160_0)
     (try rw [Addr.add_zero'] at hw160_0)
     obtain rfl : ad158 = ad160 := (by injection e160)
     have qi160 : (0 < l0.length) = True := eq_true (by omega)
     (try rw [show ((0 : Int)).toNat = 0 from rfl] at hx160_0)
     (try rw [show 0 * 2 = 0 from rfl] at hx160_0)
     (try rw [Addr.add_zero'] at hx160_0)
     (try rw [show ((0 : Int)).toNat = 0 from rfl] at hx160_1)
     (try rw [show 0 * 2 = 0 from rfl] at hx160_1)
     (try rw [Addr.add_zero'] at hx160_1)
     replace hx160_0 := (HB.out.cell (World.block_lt_of_cell? w _ hx160_0)).trans hx160_0
     replace hx160_1 := (HB.out.cell (World.block_lt_of_cell? w _ hx160_1)).trans hx160_1
     replace p160 := eq_true p160
     replace q160 := eq_true q160
     have p161 : 0 ≤ (0 : Int) := (by omega)
     have q161 : 0 < (l0.length : Int) := of_decide_eq_true (by first | (with_reducible assumption) | assumption)
     obtain ⟨ad161, e161, hx161_0, hx161_1⟩ := at_T130 HR0.out 0 p161 q161
     have hw161_1 := hx161_1
     (try rw [show ((0 : Int)).toNat = 0 from rfl] at hw161_1)
     (try rw [show 0 * 2 = 0 from rfl] at hw161_1)
     (try rw [Addr.add_zero'] at hw161_1)
     have hw161_0 := hx161_0
     (try rw [show ((0 : Int)).toNat = 0 from rfl] at hw161_0)
     (try rw [show 0 * 2 = 0 from rfl] at hw161_0)
     (try rw [Addr.add_zero'] at hw161_0)
     obtain rfl : ad158 = ad161 := (by injection e161)
     have qi161 : (0 < l0.length) = True := eq_true (by omega)
     (try rw [show ((0 : Int)).toNat = 0 from rfl] at hx161_0)
     (try rw [show 0 * 2 = 0 from rfl] at hx161_0)
     (try rw [Addr.add_zero'] at hx161_0)
     (try rw [show ((0 : Int)).toNat = 0 from rfl] at hx161_1)
     (try rw [show 0 * 2 = 0 from rfl] at hx161_1)
     (try rw [Addr.add_zero'] at hx161_1)
     replace hx161_0 := (HB.out.cell (World.block_lt_of_cell? w _ hx161_0)).trans hx161_0
     replace hx161_1 := (HB.out.cell (World.block_lt_of_cell? w _ hx161_1)).trans hx161_1
     replace p161 := eq_true p161
     replace q161 := eq_true q161
     refine start_ (n := 19) (S := fun w' => w'.cell? ad158 = some (.int .i64 ((rd_T130 l0 0).f0)) ∧ w'.cell? ⟨ad158.block, ad158.off + 1, none⟩ = some (.int .i64 ((rd_T130 l0 0).f1)) ∧ w'.cell? ad158 = some (.int .i64 ((rd_T130 l0 0).f0)) ∧ w'.cell? ⟨ad158.block, ad158.off + 1, none⟩ = some (.int .i64 ((rd_T130 l0 0).f1)) ∧ w'.cell? ad158 = some (.int .i64 ((rd_T130 l0 0).f0)) ∧ w'.cell? ⟨ad158.block, ad158.off + 1, none⟩ = some (.int .i64 ((rd_T130 l0 0).f1)) ∧ w'.cell? ad158 = some (.int .i64 ((rd_T130 l0 0).f0)) ∧ w'.cell? ⟨ad158.block, ad158.off + 1, none⟩ = some (.int .i64 ((rd_T130 l0 0).f1))) (ds := []) #[false, false, false, false, false, false, false, false, false, false, false, false, false, false, false, false, false, false, false] (by kernel_rfl) rfl rfl ⟨((HB.out.cell (World.block_lt_of_cell? w _ hw158_0)).trans hw158_0), ((HB.out.cell (World.block_lt_of_cell? w _ hw158_1)).trans hw158_1), ((HB.out.cell (World.block_lt_of_cell? w _ hw159_0)).trans hw159_0), ((HB.out.cell (World.block_lt_of_cell? w _ hw159_1)).trans hw159_1), ((HB.out.cell (World.block_lt_of_cell? w _ hw160_0)).trans hw160_0), ((HB.out.cell (World.block_lt_of_cell? w _ hw160_1)).trans hw160_1), ((HB.out.cell (World.block_lt_of_cell? w _ hw161_0)).trans hw161_0), ((HB.out.cell (World.block_lt_of_cell? w _ hw161_1)).trans hw161_1)⟩ (fun hHeld => ?_); refine with_tabW impl_BoxOf.tab3 impl_BoxOf.bits3 (fun HT_ HW_ => ?_)
     generalize wc.drew = w10 at BK156 HB hx158_0 hx158_1 hx159_0 hx159_1 hx160_0 hx160_1 hx161_0 hx161_1 hHeld ⊢
     refine pU 0 (some 15) #[true, false, false, false, false, false, false, false, false, false, false, false, false, false, false, false, false, false, false] ?_
     refine pU 1 (some 16) #[true, true, false, false, false, false, false, false, false, false, false, false, false, false, false, false, false, false, false] ?_
     refine pU 2 (some 17) #[true, true, true, false, false, false, false, false, false, false, false, false, false, false, false, false, false, false, false] ?_
     refine pU 4 (some 19) #[true, true, true, false, true, false, false, false, false, false, false, false, false, false, false, false, false, false, false] ?_
     refine pU 5 (some 20) #[true, true, true, false, true, true, false, false, false, false, false, false, false, false, false, false, false, false, false] ?_
     refine pU 6 (some 21) #[true, true, true, false, true, true, true, false, false, false, false, false, false, false, false, false, false, false, false] ?_
     refine pU 8 (some 23) #[true, true, true, false, true, true, true, false, true, false, false, false, false, false, false, false, false, false, false] ?_
     refine pU 9 (some 24) #[true, true, true, false, true, true, true, false, true, true, false, false, false, false, false, false, false, false, false] ?_
     refine pU 10 (some 25) #[true, true, true, false, true, true, true, false, true, true, true, false, false, false, false, false, false, false, false] ?_
     refine pU 12 (some 27) #[true, true, true, false, true, true, true, false, true, true, true, false, true, false, false, false, false, false, false] ?_
     refine pU 13 (some 28) #[true, true, true, false, true, true, true, false, true, true, true, false, true, true, false, false, false, false, false] ?_
     refine pU 14 (some 29) #[true, true, true, false, true, true, true, false, true, true, true, false, true, true, true, false, false, false, false] ?_
     refine tK 3 (some 18) #[true, true, true, true, true, true, true, false, true, true, true, false, true, true, true, false, false, false, false] ?_
     refine tK 7 (some 22) #[true, true, true, true, true, true, true, true, true, true, true, false, true, true, true, false, false, false, false] ?_
     refine tK 11 (some 26) #[true, true, true, true, true, true, true, true, true, true, true, true, true, true, true, false, false, false, false] ?_
     refine tK 15 (some 30) #[true, true, true, true, true, true, true, true, true, true, true, true, true, true, true, true, false, false, false] ?_
     refine pU 16 (some 31) #[true, true, true, true, true, true, true, true, true, true, true, true, true, true, true, true, true, false, false] ?_
     refine one_ (i := 17) (N := some 3) #[true, true, true, true, true, true, true, true, true, true, true, true, true, true, true, true, true, true, false] rfl rfl (one_of HT_.out (by kernel_rfl)) (by decide) (fun K hK => ?_)
     refine box_step ?hg (N := 3) ?hd (cs := #[.int .i64 0, .int .i64 0, .int .i64 0, .int .i64 0]) (t := 52) ?hr ?_; (case hd => rfl); (case hg => rfl); (case hr => first | (go_simp; done) | (go_simp; rfl))
     intro gb162 hg w11 hbox hb
     have BK162 := Aside0.mk (hbox)
     have GW162 := gE hg
     have GE162 := gE hg
     have NB156_162 := nL (g := gb156) hg
     have NB162_156 := nG (g := gb156) hg
     replace BK156 := kB (g := gb156) hb
     replace HB := hB hb
     clear hb hg
     refine hK.out _ _ ⟨((HB.out.cell (World.block_lt_of_cell? w _ hw158_0)).trans hw158_0), ((HB.out.cell (World.block_lt_of_cell? w _ hw158_1)).trans hw158_1), ((HB.out.cell (World.block_lt_of_cell? w _ hw159_0)).trans hw159_0), ((HB.out.cell (World.block_lt_of_cell? w _ hw159_1)).trans hw159_1), ((HB.out.cell (World.block_lt_of_cell? w _ hw160_0)).trans hw160_0), ((HB.out.cell (World.block_lt_of_cell? w _ hw160_1)).trans hw160_1), ((HB.out.cell (World.block_lt_of_cell? w _ hw161_0)).trans hw161_0), ((HB.out.cell (World.block_lt_of_cell? w _ hw161_1)).trans hw161_1)⟩ (fun hHeld => ?_)
     clear hK K
     refine norm_ (a' := ?_) ?_ ?_
     rotate_left
     ·show Act.put _ (some 3) _ = _
      simp only [Act.put, List.setIfInBounds_toArray, List.set_cons_zero, List.set_cons_succ, i64_w, i32_w]
      rfl
     refine one_ (i := 18) (N := none) #[true, true, true, true, true, true, true, true, true, true, true, true, true, true, true, true, true, true, true] rfl rfl (one_of HT_.out (by kernel_rfl)) (by decide) (fun K hK => ?_)
     have hs12 : w11.cell? ⟨gb162, 0, none⟩ = some (.int .i64 0) := (blk_cell BK162.out 0).trans rfl
     have hfs12 := blk_frozen BK162.out 0
     have hns12_0 := NB156_162.out
     have hms12_0 := NB162_156.out
     have hs13 : w11.cell? ⟨gb162, 1, none⟩ = some (.int .i64 0) := (blk_cell BK162.out 1).trans rfl
     have hfs13 := blk_frozen BK162.out 1
     have hns13_0 := NB156_162.out
     have hms13_0 := NB162_156.out
     have hs14 : w11.cell? ⟨gb162, 2, none⟩ = some (.int .i64 0) := (blk_cell BK162.out 2).trans rfl
     have hfs14 := blk_frozen BK162.out 2
     have hns14_0 := NB156_162.out
     have hms14_0 := NB162_156.out
     have hs15 : w11.cell? ⟨gb162, 3, none⟩ = some (.int .i64 0) := (blk_cell BK162.out 3).trans rfl
     have hfs15 := blk_frozen BK162.out 3
     have hns15_0 := NB156_162.out
     have hms15_0 := NB162_156.out
     refine skip_ (w1 := ?_) (by rfl) rfl ?_ ?_
     rotate_left
     ·go_simp
      rfl
     refine hK.out _ _ ⟨((cell_far (p := ⟨gb162, _, none⟩) (nA hw158_0 GW162) _).trans (((cell_far (p := ⟨gb162, _, none⟩) (nA hw158_0 GW162) _).trans (((cell_far (p := ⟨gb162, _, none⟩) (nA hw158_0 GW162) _).trans (((cell_far (p := ⟨gb162, _, none⟩) (nA hw158_0 GW162) _).trans (hHeld.1)))))))), ((cell_far (p := ⟨gb162, _, none⟩) (nA hw158_1 GW162) _).trans (((cell_far (p := ⟨gb162, _, none⟩) (nA hw158_1 GW162) _).trans (((cell_far (p := ⟨gb162, _, none⟩) (nA hw158_1 GW162) _).trans (((cell_far (p := ⟨gb162, _, none⟩) (nA hw158_1 GW162) _).trans (hHeld.2.1)))))))), ((cell_far (p := ⟨gb162, _, none⟩) (nA hw159_0 GW162) _).trans (((cell_far (p := ⟨gb162, _, none⟩) (nA hw159_0 GW162) _).trans (((cell_far (p := ⟨gb162, _, none⟩) (nA hw159_0 GW162) _).trans (((cell_far (p := ⟨gb162, _, none⟩) (nA hw159_0 GW162) _).trans (hHeld.2.2.1)))))))), ((cell_far (p := ⟨gb162, _, none⟩) (nA hw159_1 GW162) _).trans (((cell_far (p := ⟨gb162, _, none⟩) (nA hw159_1 GW162) _).trans (((cell_far (p := ⟨gb162, _, none⟩) (nA hw159_1 GW162) _).trans (((cell_far (p := ⟨gb162, _, none⟩) (nA hw159_1 GW162) _).trans (hHeld.2.2.2.1)))))))), ((cell_far (p := ⟨gb162, _, none⟩) (nA hw160_0 GW162) _).trans (((cell_far (p := ⟨gb162, _, none⟩) (nA hw160_0 GW162) _).trans (((cell_far (p := ⟨gb162, _, none⟩) (nA hw160_0 GW162) _).trans (((cell_far (p := ⟨gb162, _, none⟩) (nA hw160_0 GW162) _).trans (hHeld.2.2.2.2.1)))))))), ((cell_far (p := ⟨gb162, _, none⟩) (nA hw160_1 GW162) _).trans (((cell_far (p := ⟨gb162, _, none⟩) (nA hw160_1 GW162) _).trans (((cell_far (p := ⟨gb162, _, none⟩) (nA hw160_1 GW162) _).trans (((cell_far (p := ⟨gb162, _, none⟩) (nA hw160_1 GW162) _).trans (hHeld.2.2.2.2.2.1)))))))), ((cell_far (p := ⟨gb162, _, none⟩) (nA hw161_0 GW162) _).trans (((cell_far (p := ⟨gb162, _, none⟩) (nA hw161_0 GW162) _).trans (((cell_far (p := ⟨gb162, _, none⟩) (nA hw161_0 GW162) _).trans (((cell_far (p := ⟨gb162, _, none⟩) (nA hw161_0 GW162) _).trans (hHeld.2.2.2.2.2.2.1)))))))), ((cell_far (p := ⟨gb162, _, none⟩) (nA hw161_1 GW162) _).trans (((cell_far (p := ⟨gb162, _, none⟩) (nA hw161_1 GW162) _).trans (((cell_far (p := ⟨gb162, _, none⟩) (nA hw161_1 GW162) _).trans (((cell_far (p := ⟨gb162, _, none⟩) (nA hw161_1 GW162) _).trans (hHeld.2.2.2.2.2.2.2))))))))⟩ (fun hHeld => ?_)
     clear hK K
     refine done_ (done_of HT_.out (by kernel_rfl)) ?_
     try go_wp2
     go_loopg [34] kj1 (fun kq v34 w' => ∃ (x34_2 : Int) (x163000_2 : Int) (x163001_2 : Int) (x163002_2 : Int) (x163003_2 : Int), v34 = .int .i64 x34_2 ∧ Aside0 (impl_BoxOf.l0 kq l0 (l0.length : Int) x34_2 x163000_2 x163001_2 x163002_2 x163003_2 = some (r1, r2, r3, r4)) ∧ Aside0 (kq ≤ kj1) ∧ Aside0 (w'.heap[gb156]? = some (.cells #[.int .i64 0, .int .i64 0, .int .i64 0, .int .i64 0] 52 (0, 0))) ∧ Aside0 (w'.heap[gb162]? = some (.cells #[.int .i64 x163000_2, .int .i64 x163001_2, .int .i64 x163002_2, .int .i64 x163003_2] 52 (0, 0))) ∧ Aside0 (Below w.heap.size w w'))
     case atStart => exact ⟨(0), ((rd_T130 l0 0).f0), ((rd_T130 l0 0).f1), ((rd_T130 l0 0).f0), ((rd_T130 l0 0).f1), (by first | rfl | (simp; done) | (simp [*]; done)), H', ⟨Nat.le_refl _⟩, ⟨kS⟩, ⟨kS⟩, ⟨bS⟩⟩
     case round =>
      clear H'
      try clear c1
      try clear p1
      try clear q1
      try clear hx1
      try clear qi1
      try clear p2
      try clear c4
      try clear c4b0
      try clear c4b1
      try clear c4b2
      try clear c7
      try clear c9
      try clear c9b0
      try clear c9b1
      try clear c10
      try clear p15
      try clear q15
      try clear hx15
      try clear qi15
      try clear hcz8_0
      try clear hcz8_1
      try clear hcz8_2
      try clear hcz8_3
      try clear hfz8_0
      try clear hfz8_1
      try clear hfz8_2
      try clear hfz8_3
      try clear hx158_0
      try clear hx158_1
      try clear hx159_0
      try clear hx159_1
      try clear hx160_0
      try clear hx160_1
      try clear hx161_0
      try clear hx161_1
      try clear p158
      try clear p159
      try clear p160
      try clear p161
      try clear p2
      try clear q158
      try clear q159
      try clear q160
      try clear q161
      obtain ⟨x34_2, x163000_2, x163001_2, x163002_2, x163003_2, rfl, HA, HK2, BK156, BK162, HB⟩ := hrel
      cases gk with
      | zero => exact absurd HA.out (by simp [impl_BoxOf.l0])
      | succ k2 =>
       have H := HA.out
       clear HA
       simp only [impl_BoxOf.l0] at H
       by_cases c16 : x34_2 < (l0.length : Int)
       ·rw [if_pos c16] at H
        have c16b0 : decide (x34_2 < (l0.length : Int)) = true := decide_eq_true c16
        clear c16
        by_cases c17 : 0 ≤ x34_2
        ·rw [if_pos c17] at H
         have c17b0 : decide (0 ≤ x34_2) = true := decide_eq_true c17
         clear c17
         by_cases c18 : x34_2 < (l0.length : Int)
         ·rw [if_pos c18] at H
          have c18b0 : decide (x34_2 < (l0.length : Int)) = true := decide_eq_true c18
          clear c18
          obtain ⟨ji19, hji19⟩ : ∃ j_ : Int, (mn x163000_2 ((rd_T130 l0 x34_2).f0)) = j_ := ⟨_, rfl⟩
          replace H : (impl_BoxOf.l0 k2 l0 (l0.length : Int) (wrap64 (x34_2 + 1)) ji19 (mn x163001_2 ((rd_T130 l0 x34_2).f1)) (mx x163002_2 ((rd_T130 l0 x34_2).f0)) (mx x163003_2 ((rd_T130 l0 x34_2).f1))) = some (r1, r2, r3, r4) := by first | (rw [hji19] at H; exact H) | (simp only [hji19] at H ⊢; exact H)
          have hji19_ : (if ((rd_T130 l0 x34_2).f0) < x163000_2 then ((rd_T130 l0 x34_2).f0) else x163000_2) = ji19 := hji19
          obtain ⟨ji20, hji20⟩ : ∃ j_ : Int, (mn x163001_2 ((rd_T130 l0 x34_2).f1)) = j_ := ⟨_, rfl⟩
          replace H : (impl_BoxOf.l0 k2 l0 (l0.length : Int) (wrap64 (x34_2 + 1)) ji19 ji20 (mx x163002_2 ((rd_T130 l0 x34_2).f0)) (mx x163003_2 ((rd_T130 l0 x34_2).f1))) = some (r1, r2, r3, r4) := by first | (rw [hji20] at H; exact H) | (simp only [hji20] at H ⊢; exact H)
          have hji20_ : (if ((rd_T130 l0 x34_2).f1) < x163001_2 then ((rd_T130 l0 x34_2).f1) else x163001_2) = ji20 := hji20
          obtain ⟨ji21, hji21⟩ : ∃ j_ : Int, (mx x163002_2 ((rd_T130 l0 x34_2).f0)) = j_ := ⟨_, rfl⟩
          replace H : (impl_BoxOf.l0 k2 l0 (l0.length : Int) (wrap64 (x34_2 + 1)) ji19 ji20 ji21 (mx x163003_2 ((rd_T130 l0 x34_2).f1))) = some (r1, r2, r3, r4) := by first | (rw [hji21] at H; exact H) | (simp only [hji21] at H ⊢; exact H)
          have hji21_ : (if x163002_2 < ((rd_T130 l0 x34_2).f0) then ((rd_T130 l0 x34_2).f0) else x163002_2) = ji21 := hji21
          obtain ⟨ji22, hji22⟩ : ∃ j_ : Int, (mx x163003_2 ((rd_T130 l0 x34_2).f1)) = j_ := ⟨_, rfl⟩
          replace H : (impl_BoxOf.l0 k2 l0 (l0.length : Int) (wrap64 (x34_2 + 1)) ji19 ji20 ji21 ji22) = some (r1, r2, r3, r4) := by first | (rw [hji22] at H; exact H) | (simp only [hji22] at H ⊢; exact H)
          have hji22_ : (if x163003_2 < ((rd_T130 l0 x34_2).f1) then ((rd_T130 l0 x34_2).f1) else x163003_2) = ji22 := hji22
          have H' := Aside0.mk H
          clear H
          have p163 : 0 ≤ (x34_2 : Int) := of_decide_eq_true (by first | (with_reducible assumption) | assumption)
          have q163 : x34_2 < (l0.length : Int) := of_decide_eq_true (by first | (with_reducible assumption) | assumption)
          obtain ⟨ad163, e163, hx163_0, hx163_1⟩ := at_T130 HR0.out x34_2 p163 q163
          obtain rfl : ad158 = ad163 := (by injection e163)
          replace hx163_0 := (HB.out.cell (World.block_lt_of_cell? w _ hx163_0)).trans hx163_0
          replace hx163_1 := (HB.out.cell (World.block_lt_of_cell? w _ hx163_1)).trans hx163_1
          replace p163 := eq_true p163
          replace q163 := eq_true q163
          try go_wp2_with (first | ((with_reducible refine gD 5 ?_); refine bxE #[.int .i64 0, .int .i64 0] 130 ?_; intro gb164 hg w23 BK164 hb; have GW164 := gE hg; have GE164 := gE hg; have NB156_164 := nL (g := gb156) hg; have NB164_156 := nG (g := gb156) hg; have NB162_164 := nL (g := gb162) hg; have NB164_162 := nG (g := gb162) hg; replace BK156 := kB (g := gb156) hb; replace BK162 := kB (g := gb162) hb; replace HB := hB hb; clear hb hg; have hnb24 := NB164_156.out; have hnc24 := NB156_164.out; have hnb25 := NB164_162.out; have hnc25 := NB162_164.out; have hz26 := cz2 BK164))
          have n0_ : Aside0 (((w23.setCell ⟨gb164, 0, none⟩ (.int .i64 ((rd_T130 l0 x34_2).f0))).setCell ⟨gb164, 1, none⟩ (.int .i64 ((rd_T130 l0 x34_2).f1))).heap[gb156]? = some (.cells #[.int .i64 0, .int .i64 0, .int .i64 0, .int .i64 0] 52 (0, 0))) := ⟨kS⟩
          have n1_ : Aside0 (((w23.setCell ⟨gb164, 0, none⟩ (.int .i64 ((rd_T130 l0 x34_2).f0))).setCell ⟨gb164, 1, none⟩ (.int .i64 ((rd_T130 l0 x34_2).f1))).heap[gb162]? = some (.cells #[.int .i64 x163000_2, .int .i64 x163001_2, .int .i64 x163002_2, .int .i64 x163003_2] 52 (0, 0))) := ⟨kS⟩
          have n2_ : Aside0 (((w23.setCell ⟨gb164, 0, none⟩ (.int .i64 ((rd_T130 l0 x34_2).f0))).setCell ⟨gb164, 1, none⟩ (.int .i64 ((rd_T130 l0 x34_2).f1))).heap[gb164]? = some (.cells #[.int .i64 ((rd_T130 l0 x34_2).f0), .int .i64 ((rd_T130 l0 x34_2).f1)] 130 (0, 0))) := ⟨kS⟩
          have n3_ : Aside0 (Below w.heap.size w ((w23.setCell ⟨gb164, 0, none⟩ (.int .i64 ((rd_T130 l0 x34_2).f0))).setCell ⟨gb164, 1, none⟩ (.int .i64 ((rd_T130 l0 x34_2).f1)))) := ⟨bS⟩
          (try clear BK156)
          (try clear BK162)
          (try clear BK164)
          (try clear HB)
          generalize ((w23.setCell ⟨gb164, 0, none⟩ (.int .i64 ((rd_T130 l0 x34_2).f0))).setCell ⟨gb164, 1, none⟩ (.int .i64 ((rd_T130 l0 x34_2).f1))) = w27 at n0_ n1_ n2_ n3_ ⊢
          have BK156 := n0_
          have BK162 := n1_
          have BK164 := n2_
          have HB := n3_
          clear n0_ n1_ n2_ n3_
          replace BK156 := Aside0.mk (blk_drew BK156.out)
          replace BK162 := Aside0.mk (blk_drew BK162.out)
          replace BK164 := Aside0.mk (blk_drew BK164.out)
          replace HB := Aside0.mk (below_drew1 HB.out)
          refine start_ (n := 14) (S := fun w' => w'.cell? ⟨gb162, 1, none⟩ = some (.int .i64 x163001_2) ∧ w'.cell? ⟨gb162, 2, none⟩ = some (.int .i64 x163002_2) ∧ w'.cell? ⟨gb162, 3, none⟩ = some (.int .i64 x163003_2) ∧ w'.cell? ⟨gb164, 0, none⟩ = some (.int .i64 ((rd_T130 l0 x34_2).f0)) ∧ w'.cell? ⟨gb164, 1, none⟩ = some (.int .i64 ((rd_T130 l0 x34_2).f1))) (ds := [13]) #[false, false, false, false, false, false, false, false, false, false, false, false, false, false] (by kernel_rfl) rfl rfl ⟨(blk_cell BK162.out 1).trans rfl, (blk_cell BK162.out 2).trans rfl, (blk_cell BK162.out 3).trans rfl, (blk_cell BK164.out 0).trans rfl, (blk_cell BK164.out 1).trans rfl⟩ (fun hHeld => ?_); refine with_tabW impl_BoxOf.tab7 impl_BoxOf.bits7 (fun HT_ HW_ => ?_)
          generalize w27.drew = w28 at BK156 BK162 BK164 HB hHeld ⊢
          refine pU 0 (some 38) #[true, false, false, false, false, false, false, false, false, false, false, false, false, false] ?_
          refine pU 2 (some 40) #[true, false, true, false, false, false, false, false, false, false, false, false, false, false] ?_
          refine pU 5 (some 43) #[true, false, true, false, false, true, false, false, false, false, false, false, false, false] ?_
          refine pU 7 (some 45) #[true, false, true, false, false, true, false, true, false, false, false, false, false, false] ?_
          refine tK 3 (some 41) #[true, false, true, true, false, true, false, true, false, false, false, false, false, false] ?_
          refine tK 6 (some 44) #[true, false, true, true, false, true, true, true, false, false, false, false, false, false] ?_
          refine tK 8 (some 46) #[true, false, true, true, false, true, true, true, true, false, false, false, false, false] ?_
          refine pU 9 (some 47) #[true, false, true, true, false, true, true, true, true, true, false, false, false, false] ?_
          refine one_ (i := 1) (N := some 39) #[true, true, true, true, false, true, true, true, true, true, false, false, false, false] rfl rfl (one_of HT_.out (by kernel_rfl)) (by decide) (fun K hK => ?_)
          have hl1_ := (blk_cell BK162.out 0).trans (show _ = some (.int .i64 x163000_2) from rfl)
          refine value_ (w1 := ?_) (v := ?_) (by rfl) rfl ?_ ?_
          rotate_left 2
          ·go_simp
           constructor
           ·rfl
           ·rfl
          refine hK.out _ _ ⟨hHeld.1, hHeld.2.1, hHeld.2.2.1, hHeld.2.2.2.1, hHeld.2.2.2.2⟩ (fun hHeld => ?_)
          clear hK K
          refine norm_ (a' := ?_) ?_ ?_
          rotate_left
          ·show Act.put _ (some 39) _ = _
           simp only [Act.put, List.setIfInBounds_toArray, List.set_cons_zero, List.set_cons_succ, i64_w, i32_w]
           rfl
          refine pU 4 (some 42) #[true, true, true, true, true, true, true, true, true, true, false, false, false, false] ?_
          refine pU 10 (some 48) #[true, true, true, true, true, true, true, true, true, true, true, false, false, false] ?_
          refine one_ (i := 11) (N := none) #[true, true, true, true, true, true, true, true, true, true, true, true, false, false] rfl rfl (one_of HT_.out (by kernel_rfl)) (by decide) (fun K hK => ?_)
          have hs29 : w28.cell? ⟨gb162, 0, none⟩ = some (.int .i64 x163000_2) := (blk_cell BK162.out 0).trans rfl
          have hfs29 := blk_frozen BK162.out 0
          have hns29_0 := NB156_162.out
          have hns29_2 := NB164_162.out
          have hms29_0 := NB162_156.out
          have hms29_2 := NB162_164.out
          refine skip_ (w1 := ?_) (by rfl) rfl ?_ ?_
          rotate_left
          ·go_simp
           rfl
          refine hK.out _ _ ⟨(cell_off (by decide) _).trans (hHeld.1), (cell_off (by decide) _).trans (hHeld.2.1), (cell_off (by decide) _).trans (hHeld.2.2.1), ((cell_far (p := ⟨gb162, _, none⟩) NB164_162.out _).trans (hHeld.2.2.2.1)), ((cell_far (p := ⟨gb162, _, none⟩) NB164_162.out _).trans (hHeld.2.2.2.2))⟩ (fun hHeld => ?_)
          clear hK K
          refine pU 12 (some 49) #[true, true, true, true, true, true, true, true, true, true, true, true, true, false] ?_
          refine last_ (i := 13) (N := none) #[true, true, true, true, true, true, true, true, true, true, true, true, true, true] rfl rfl (one_of HT_.out (by kernel_rfl)) (by decide) (fun K hK => ?_)
          have hs30 : w28.cell? ⟨gb162, 1, none⟩ = some (.int .i64 x163001_2) := (blk_cell BK162.out 1).trans rfl
          have hfs30 := blk_frozen BK162.out 1
          have hns30_0 := NB156_162.out
          have hns30_2 := NB164_162.out
          have hms30_0 := NB162_156.out
          have hms30_2 := NB162_164.out
          refine skip_ (w1 := ?_) (by rfl) rfl ?_ ?_
          rotate_left
          ·go_simp
           rfl
          refine hK.out _ _ ?_
          clear hK K
          refine done_ (done_of HT_.out (by kernel_rfl)) ?_
          try go_wp2
          have n0_ : Aside0 (((w28.setCell ⟨gb162, 0, none⟩ (.int .i64 ji19)).setCell ⟨gb162, 1, none⟩ (.int .i64 ji20)).heap[gb156]? = some (.cells #[.int .i64 0, .int .i64 0, .int .i64 0, .int .i64 0] 52 (0, 0))) := ⟨kS⟩
          have n1_ : Aside0 (((w28.setCell ⟨gb162, 0, none⟩ (.int .i64 ji19)).setCell ⟨gb162, 1, none⟩ (.int .i64 ji20)).heap[gb162]? = some (.cells #[.int .i64 ji19, .int .i64 ji20, .int .i64 x163002_2, .int .i64 x163003_2] 52 (0, 0))) := ⟨kS⟩
          have n2_ : Aside0 (((w28.setCell ⟨gb162, 0, none⟩ (.int .i64 ji19)).setCell ⟨gb162, 1, none⟩ (.int .i64 ji20)).heap[gb164]? = some (.cells #[.int .i64 ((rd_T130 l0 x34_2).f0), .int .i64 ((rd_T130 l0 x34_2).f1)] 130 (0, 0))) := ⟨kS⟩
          have n3_ : Aside0 (Below w.heap.size w ((w28.setCell ⟨gb162, 0, none⟩ (.int .i64 ji19)).setCell ⟨gb162, 1, none⟩ (.int .i64 ji20))) := ⟨bS⟩
          (try clear BK156)
          (try clear BK162)
          (try clear BK164)
          (try clear HB)
          generalize ((w28.setCell ⟨gb162, 0, none⟩ (.int .i64 ji19)).setCell ⟨gb162, 1, none⟩ (.int .i64 ji20)) = w31 at n0_ n1_ n2_ n3_ ⊢
          have BK156 := n0_
          have BK162 := n1_
          have BK164 := n2_
          have HB := n3_
          clear n0_ n1_ n2_ n3_
          replace BK156 := Aside0.mk (blk_drew BK156.out)
          replace BK162 := Aside0.mk (blk_drew BK162.out)
          replace BK164 := Aside0.mk (blk_drew BK164.out)
          replace HB := Aside0.mk (below_drew1 HB.out)
          refine start_ (n := 14) (S := fun w' => w'.cell? ⟨gb162, 0, none⟩ = some (.int .i64 ji19) ∧ w'.cell? ⟨gb162, 1, none⟩ = some (.int .i64 ji20) ∧ w'.cell? ⟨gb162, 3, none⟩ = some (.int .i64 x163003_2) ∧ w'.cell? ⟨gb164, 0, none⟩ = some (.int .i64 ((rd_T130 l0 x34_2).f0)) ∧ w'.cell? ⟨gb164, 1, none⟩ = some (.int .i64 ((rd_T130 l0 x34_2).f1))) (ds := [13]) #[false, false, false, false, false, false, false, false, false, false, false, false, false, false] (by kernel_rfl) rfl rfl ⟨(blk_cell BK162.out 0).trans rfl, (blk_cell BK162.out 1).trans rfl, (blk_cell BK162.out 3).trans rfl, (blk_cell BK164.out 0).trans rfl, (blk_cell BK164.out 1).trans rfl⟩ (fun hHeld => ?_); refine with_tabW impl_BoxOf.tab8 impl_BoxOf.bits8 (fun HT_ HW_ => ?_)
          generalize w31.drew = w32 at BK156 BK162 BK164 HB hHeld ⊢
          refine pU 0 (some 50) #[true, false, false, false, false, false, false, false, false, false, false, false, false, false] ?_
          refine pU 2 (some 52) #[true, false, true, false, false, false, false, false, false, false, false, false, false, false] ?_
          refine pU 5 (some 55) #[true, false, true, false, false, true, false, false, false, false, false, false, false, false] ?_
          refine pU 7 (some 57) #[true, false, true, false, false, true, false, true, false, false, false, false, false, false] ?_
          refine tK 3 (some 53) #[true, false, true, true, false, true, false, true, false, false, false, false, false, false] ?_
          refine tK 6 (some 56) #[true, false, true, true, false, true, true, true, false, false, false, false, false, false] ?_
          refine tK 8 (some 58) #[true, false, true, true, false, true, true, true, true, false, false, false, false, false] ?_
          refine pU 9 (some 59) #[true, false, true, true, false, true, true, true, true, true, false, false, false, false] ?_
          refine one_ (i := 1) (N := some 51) #[true, true, true, true, false, true, true, true, true, true, false, false, false, false] rfl rfl (one_of HT_.out (by kernel_rfl)) (by decide) (fun K hK => ?_)
          have hl1_ := (blk_cell BK162.out 2).trans (show _ = some (.int .i64 x163002_2) from rfl)
          refine value_ (w1 := ?_) (v := ?_) (by rfl) rfl ?_ ?_
          rotate_left 2
          ·go_simp
           constructor
           ·rfl
           ·rfl
          refine hK.out _ _ ⟨hHeld.1, hHeld.2.1, hHeld.2.2.1, hHeld.2.2.2.1, hHeld.2.2.2.2⟩ (fun hHeld => ?_)
          clear hK K
          refine norm_ (a' := ?_) ?_ ?_
          rotate_left
          ·show Act.put _ (some 51) _ = _
           simp only [Act.put, List.setIfInBounds_toArray, List.set_cons_zero, List.set_cons_succ, i64_w, i32_w]
           rfl
          refine pU 4 (some 54) #[true, true, true, true, true, true, true, true, true, true, false, false, false, false] ?_
          refine pU 10 (some 60) #[true, true, true, true, true, true, true, true, true, true, true, false, false, false] ?_
          refine one_ (i := 11) (N := none) #[true, true, true, true, true, true, true, true, true, true, true, true, false, false] rfl rfl (one_of HT_.out (by kernel_rfl)) (by decide) (fun K hK => ?_)
          have hs33 : w32.cell? ⟨gb162, 2, none⟩ = some (.int .i64 x163002_2) := (blk_cell BK162.out 2).trans rfl
          have hfs33 := blk_frozen BK162.out 2
          have hns33_0 := NB156_162.out
          have hns33_2 := NB164_162.out
          have hms33_0 := NB162_156.out
          have hms33_2 := NB162_164.out
          refine skip_ (w1 := ?_) (by rfl) rfl ?_ ?_
          rotate_left
          ·go_simp
           rfl
          refine hK.out _ _ ⟨(cell_off (by decide) _).trans (hHeld.1), (cell_off (by decide) _).trans (hHeld.2.1), (cell_off (by decide) _).trans (hHeld.2.2.1), ((cell_far (p := ⟨gb162, _, none⟩) NB164_162.out _).trans (hHeld.2.2.2.1)), ((cell_far (p := ⟨gb162, _, none⟩) NB164_162.out _).trans (hHeld.2.2.2.2))⟩ (fun hHeld => ?_)
          clear hK K
          refine pU 12 (some 61) #[true, true, true, true, true, true, true, true, true, true, true, true, true, false] ?_
          refine last_ (i := 13) (N := none) #[true, true, true, true, true, true, true, true, true, true, true, true, true, true] rfl rfl (one_of HT_.out (by kernel_rfl)) (by decide) (fun K hK => ?_)
          have hs34 : w32.cell? ⟨gb162, 3, none⟩ = some (.int .i64 x163003_2) := (blk_cell BK162.out 3).trans rfl
          have hfs34 := blk_frozen BK162.out 3
          have hns34_0 := NB156_162.out
          have hns34_2 := NB164_162.out
          have hms34_0 := NB162_156.out
          have hms34_2 := NB162_164.out
          refine skip_ (w1 := ?_) (by rfl) rfl ?_ ?_
          rotate_left
          ·go_simp
           rfl
          refine hK.out _ _ ?_
          clear hK K
          refine done_ (done_of HT_.out (by kernel_rfl)) ?_
          try go_wp2
          go_roundg k2
          case measure => have := HJ1.out; have := HK2.out; omega
          case rel => exact ⟨(wrap64 (x34_2 + 1)), (ji19), (ji20), (ji21), (ji22), (by first | rfl | (simp; done) | (simp [*]; done)), H', ⟨by have := HJ1.out; have := HK2.out; omega⟩, ⟨kS⟩, ⟨kS⟩, ⟨bS⟩⟩
         ·rw [if_neg c18] at H
          exact absurd H (by simp)
        ·rw [if_neg c17] at H
         exact absurd H (by simp)
       ·rw [if_neg c16] at H
        have c16b0 : decide (x34_2 < (l0.length : Int)) = false := decide_eq_false c16
        clear c16
        simp only [Option.some.injEq, Prod.mk.injEq] at H
        obtain ⟨rfl, rfl, rfl, rfl⟩ := H
        have hnb35 := NB162_156.out
        have hnc35 := NB156_162.out
        have hz36 := cz4 BK162
        have hz37 := cz4 BK156
        go_wp2
        refine bodyPost_ret (results_cell_row rfl _ _ gb156 52 #[.int .i64 x163000_2, .int .i64 x163001_2, .int .i64 x163002_2, .int .i64 x163003_2] (0, 0) _ rfl kS Try.underlying52 rfl (by kernel_rfl)) rfl ?_
        exact ⟨eS, bS⟩
    ·rw [if_neg c9] at H
     exact absurd H (by simp)

/-! ### impl_pageBox: function 108 -/
def impl_pageBox.f  : Option (Int × Int × Int × Int) := some (0, 0, 32, 32)
theorem impl_pageBox.calls  (r1 : Int) (r2 : Int) (r3 : Int) (r4 : Int) (w : World) (h : impl_pageBox.f  = some (r1, r2, r3, r4)) :
  Calls Try.prog 108 #[] w fun e w' => e = .returned (.agg #[.int .i64 r1, .int .i64 r2, .int .i64 r3, .int .i64 r4]) ∧ Below w.heap.size w w' := by
 have hu52 := Try.underlying52
 have HB := Aside0.mk (Below.refl w.heap.size w)
 have H : (some (0, 0, 32, 32)) = some (r1, r2, r3, r4) := h
 clear h
 simp only [Option.some.injEq, Prod.mk.injEq] at H
 obtain ⟨rfl, rfl, rfl, rfl⟩ := H
 go_enter Try.func108, Try.ntmps108
 go_wp2_with (first | ((with_reducible refine gD 0 ?_); refine bxE #[.int .i64 0, .int .i64 0, .int .i64 0, .int .i64 0] 52 ?_; intro gb165 hg w1 BK165 hb; have GW165 := gE hg; have GE165 := gE hg; replace HB := hB hb; clear hb hg; have hz2 := cz4 BK165))
 refine bodyPost_ret (results_cell_row rfl _ _ gb165 52 #[.int .i64 0, .int .i64 0, .int .i64 32, .int .i64 32] (0, 0) _ rfl kS Try.underlying52 rfl (by kernel_rfl)) rfl ?_
 exact ⟨eS, bS⟩

end Go.Proofs.Ytcalgoembdmlkaa.QFnObjects
