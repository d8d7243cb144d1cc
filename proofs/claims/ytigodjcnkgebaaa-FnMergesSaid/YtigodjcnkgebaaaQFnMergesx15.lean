-- Made out of the translation by a program of this session (a changed copy of the print). Not trusted: Lean checks it.
import Derived.Test.YtigodjcnkgebaaaQFnMergesx0
import Derived.Test.YtigodjcnkgebaaaQFnMergesx2
namespace Go.Proofs.Ytigodjcnkgebaaa.QFnMerges
open Go.RowKit Go.Proofs.YtigodjcnkgebaaaW.PrintWords Go.Proofs.YtigodjcnkgebaaaW.PrintLast Go.Proofs.YtigodjcnkgebaaaW.PrintMore
attribute [local go_sem] max2_int min2_int max_two min_two max_three min_three max_four min_four   -- for this text's walks alone
set_option linter.unusedVariables false
set_option linter.unusedSimpArgs false
set_option maxHeartbeats 8000000
set_option maxRecDepth 100000

/-! ### impl_BoxOf: function 154 -/
mutual
def impl_BoxOf.j0 : Nat → List (S171) → Bool → Option (Int × Int × Int × Int)
 | 0, _, _ => none
 | k + 1, x0, x13 => if x13 = true then (some (0, 0, 0, 0)) else (if 0 < (x0.length : Int) then (impl_BoxOf.l0 k x0 (x0.length : Int) 0 ((rd_T171 x0 0).f0) ((rd_T171 x0 0).f1) ((rd_T171 x0 0).f0) ((rd_T171 x0 0).f1)) else (none))
def impl_BoxOf.l0 : Nat → List (S171) → Int → Int → Int → Int → Int → Int → Option (Int × Int × Int × Int)
 | 0, _, _, _, _, _, _, _ => none
 | k + 1, x32, x33, x34, x627000, x627001, x627002, x627003 => if x34 < x33 then (if 0 ≤ x34 then (if x34 < (x32.length : Int) then (impl_BoxOf.l0 k x32 x33 (wrap64 (x34 + 1)) (mn x627000 ((rd_T171 x32 x34).f0)) (mn x627001 ((rd_T171 x32 x34).f1)) (mx x627002 ((rd_T171 x32 x34).f0)) (mx x627003 ((rd_T171 x32 x34).f1))) else (none)) else (none)) else (some (x627000, x627001, x627002, x627003))
end
def impl_BoxOf.f (k : Nat) (l0 : List (S171)) : Option (Int × Int × Int × Int) := if (l0.length : Int) = 0 then (impl_BoxOf.j0 k l0 true) else ((impl_pointsOk.f k l0).bind fun t621 => (impl_BoxOf.j0 k l0 (!t621)))
def impl_BoxOf.T3 : Bool × List (List Nat × List Nat) := (true, [([], []), ([0], [0]), ([1], [1]), ([2], [2]), ([], []), ([4], [4]), ([5], [5]), ([6], [6]), ([], []), ([8], [8]), ([9], [9]), ([10], [10]), ([], []), ([12], [12]), ([13], [13]), ([14], [14]), ([3, 7, 11, 15], [3, 7, 11, 15]), ([], []), ([17, 16, 0, 1, 2, 3, 4, 5, 6, 7, 8, 9, 10, 11, 12, 13, 14, 15, 16, 17], [16, 17])])
def impl_BoxOf.B3 : List Nat := [0, 1, 3, 7, 0, 16, 48, 112, 0, 256, 768, 1792, 0, 4096, 12288, 28672, 65535, 0, 262143]
theorem impl_BoxOf.tab3 : rtab .any (opsOf Try.f154 3) = impl_BoxOf.T3 := by kernel_rfl
theorem impl_BoxOf.bits3 : waitsOk impl_BoxOf.T3.2 impl_BoxOf.B3 = true := by kernel_rfl
def impl_BoxOf.T7 : Bool × List (List Nat × List Nat) := (true, [([], []), ([0], [0]), ([], []), ([2], [2]), ([1, 3], [1, 3]), ([], []), ([5], [5]), ([], []), ([7], [7]), ([6, 8], [6, 8]), ([0, 1, 2, 3, 4, 5, 6], []), ([10, 4, 0, 1, 2, 3, 4, 5, 6], [4, 10]), ([0, 1, 2, 3, 4, 5, 6, 7, 8, 9, 10, 11], []), ([12, 9, 11, 0, 1, 2, 3, 4, 5, 6, 7, 8, 9, 10, 11], [9, 12])])
def impl_BoxOf.B7 : List Nat := [0, 1, 0, 4, 15, 0, 32, 0, 128, 480, 127, 1151, 4095, 8191]
theorem impl_BoxOf.tab7 : rtab .any (opsOf Try.f154 7) = impl_BoxOf.T7 := by kernel_rfl
theorem impl_BoxOf.bits7 : waitsOk impl_BoxOf.T7.2 impl_BoxOf.B7 = true := by kernel_rfl
def impl_BoxOf.T8 : Bool × List (List Nat × List Nat) := (true, [([], []), ([0], [0]), ([], []), ([2], [2]), ([1, 3], [1, 3]), ([], []), ([5], [5]), ([], []), ([7], [7]), ([6, 8], [6, 8]), ([0, 1, 2, 3, 4, 5, 6], []), ([10, 4, 0, 1, 2, 3, 4, 5, 6], [4, 10]), ([0, 1, 2, 3, 4, 5, 6, 7, 8, 9, 10, 11], []), ([12, 9, 11, 0, 1, 2, 3, 4, 5, 6, 7, 8, 9, 10, 11], [9, 12])])
def impl_BoxOf.B8 : List Nat := [0, 1, 0, 4, 15, 0, 32, 0, 128, 480, 127, 1151, 4095, 8191]
theorem impl_BoxOf.tab8 : rtab .any (opsOf Try.f154 8) = impl_BoxOf.T8 := by kernel_rfl
theorem impl_BoxOf.bits8 : waitsOk impl_BoxOf.T8.2 impl_BoxOf.B8 = true := by kernel_rfl
theorem impl_BoxOf.calls (k : Nat) (A0 : Option Addr) (c0 : Nat) (l0 : List (S171)) (r1 : Int) (r2 : Int) (r3 : Int) (r4 : Int) (w : World) (hr0 : Kd.C k171 w A0 l0.length l0) (hc0 : l0.length ≤ c0) (h : impl_BoxOf.f k l0 = some (r1, r2, r3, r4)) :
  Calls Try.prog 154 #[.slice A0 l0.length c0] w fun e w' => e = .returned (.agg #[.int .i64 r1, .int .i64 r2, .int .i64 r3, .int .i64 r4]) ∧ Below w.heap.size w w' := by
 have hu43 := Try.underlying43
 have hu171 := Try.underlying171
 have HR0 := Aside0.mk hr0
 have HC0 := Aside0.mk hc0
 clear hr0 hc0
 have HB := Aside0.mk (Below.refl w.heap.size w)
 have H : (if (l0.length : Int) = 0 then (impl_BoxOf.j0 k l0 true) else ((impl_pointsOk.f k l0).bind fun t621 => (impl_BoxOf.j0 k l0 (!t621)))) = some (r1, r2, r3, r4) := h
 clear h
 have HC2 := Aside0.mk H
 clear H
 go_enter Try.func154, Try.ntmps154
 go_upto_region 1 with (first | ((with_reducible refine gD 2 ?_); refine bxE #[.int .i64 0, .int .i64 0, .int .i64 0, .int .i64 0] 43 ?_; intro gb620 hg w3 BK620 hb; have GW620 := gE hg; have GE620 := gE hg; replace HB := hB hb; clear hb hg))
 (try simp only [Act.put, List.setIfInBounds_toArray, List.set_cons_zero, List.set_cons_succ])
 go_cut [13] (fun v13 wc => ∃ (kq : Nat) (x13_1 : Bool), v13 = .bool x13_1 ∧ Aside0 (impl_BoxOf.j0 kq l0 x13_1 = some (r1, r2, r3, r4)) ∧ Aside0 (kq ≤ k) ∧ Aside0 (wc.heap[gb620]? = some (.cells #[.int .i64 0, .int .i64 0, .int .i64 0, .int .i64 0] 43 (0, 0))) ∧ Aside0 (Below w.heap.size w wc))
 case first =>
  have H := HC2.out
  clear HC2
  by_cases c4 : (l0.length : Int) = 0
  ·rw [if_pos c4] at H
   have c4b0 : ((l0.length : Int) == 0) = true := beq_iff_eq.mpr c4
   have c4b1 : ((l0.length : Int) != 0) = false := bne_eq_false_iff_eq.mpr c4
   clear c4
   (first | rw [c4b0] | (simp only [i64_w, i32_w]; rw [c4b0]) | skip)
   have H' := Aside0.mk H
   clear H
   go_wp2
   go_meet
   case rel => exact ⟨_, (true), fS, H', ⟨by first | omega | exact Nat.le_refl _⟩, ⟨kS⟩, ⟨bS⟩⟩
  ·rw [if_neg c4] at H
   have c4b0 : ((l0.length : Int) == 0) = false := beq_eq_false_iff_ne.mpr c4
   have c4b1 : ((l0.length : Int) != 0) = true := bne_iff_ne.mpr c4
   have c4b2 : ¬ (l0 = []) := fun h_ => c4 (by rw [h_]; rfl)
   (first | rw [c4b0] | (simp only [i64_w, i32_w]; rw [c4b0]) | skip)
   replace H := bN H
   obtain ⟨t621, A5, H⟩ := H
   have H' := Aside0.mk H
   clear H
   go_wp2_with (first | (go_at_call 151; (with_reducible refine (impl_pointsOk.calls k _ _ l0 t621 _ (cS (Kd.C_below HR0.out HB.out)) HC0.out A5.out).mono ?_); rintro e w6 ⟨rfl, hb⟩; replace BK620 := kB (g := gb620) hb; replace HB := hB hb; (try clear hb); (try clear hb2); (try clear hk); (try clear hi)))
   go_meet
   case rel => exact ⟨_, (!t621), fS, H', ⟨by first | omega | exact Nat.le_refl _⟩, ⟨kS⟩, ⟨bS⟩⟩
 case rest =>
  clear HC2
  try clear c1
  try clear p2
  try clear c4
  try clear c4b0
  try clear c4b1
  try clear c4b2
  obtain ⟨kq, x13_1, rfl, HA, HJ1, BK620, HB⟩ := hcut
  cases kq with
  | zero => exact absurd HA.out (by simp [impl_BoxOf.j0])
  | succ kj1 =>
   have H := HA.out
   clear HA
   simp only [impl_BoxOf.j0] at H
   by_cases c7 : x13_1 = true
   ·subst c7
    rw [if_pos rfl] at H
    obtain ⟨rfl, rfl, rfl, rfl⟩ := sI4 H
    have hcz8_0 : wc.cell? ⟨gb620, 0, none⟩ = some (.int .i64 0) := (blk_cell BK620.out 0).trans rfl
    have hcz8_1 : wc.cell? ⟨gb620, 1, none⟩ = some (.int .i64 0) := (blk_cell BK620.out 1).trans rfl
    have hcz8_2 : wc.cell? ⟨gb620, 2, none⟩ = some (.int .i64 0) := (blk_cell BK620.out 2).trans rfl
    have hcz8_3 : wc.cell? ⟨gb620, 3, none⟩ = some (.int .i64 0) := (blk_cell BK620.out 3).trans rfl
    have hfz8_0 := blk_frozen BK620.out 0
    have hfz8_1 := blk_frozen BK620.out 1
    have hfz8_2 := blk_frozen BK620.out 2
    have hfz8_3 := blk_frozen BK620.out 3
    go_wp2
    refine bodyPost_ret (results_cell_row rfl _ _ gb620 43 #[.int .i64 0, .int .i64 0, .int .i64 0, .int .i64 0] (0, 0) _ rfl kS Try.underlying43 rfl (by kernel_rfl)) rfl ?_
    exact ⟨eS, bS⟩
   ·obtain rfl := Bool.eq_false_iff.mpr c7
    rw [if_neg nF] at H
    by_cases c9 : 0 < (l0.length : Int)
    ·rw [if_pos c9] at H
     have c9b0 : decide (0 < (l0.length : Int)) = true := decide_eq_true c9
     have c9b1 : decide (0 < l0.length) = true := decide_eq_true (by omega)
     clear c9
     have H' := Aside0.mk H
     clear H
     try go_wp2
     replace BK620 := Aside0.mk (blk_drew BK620.out)
     replace HB := Aside0.mk (below_drew1 HB.out)
     have p622 : 0 ≤ (0 : Int) := (by omega)
     have q622 : 0 < (l0.length : Int) := dA
     obtain ⟨ad622, e622, hx622_0, hx622_1⟩ := at_T171 HR0.out 0 p622 q622
     have hw622_1 := hx622_1
     (try rw [show ((0 : Int)).toNat = 0 from rfl] at hw622_1)
     (try rw [show 0 * 2 = 0 from rfl] at hw622_1)
     (try rw [Addr.add_zero'] at hw622_1)
     have hw622_0 := hx622_0
     (try rw [show ((0 : Int)).toNat = 0 from rfl] at hw622_0)
     (try rw [show 0 * 2 = 0 from rfl] at hw622_0)
     (try rw [Addr.add_zero'] at hw622_0)
     cases e622
     have qi622 : (0 < l0.length) = True := eq_true (by omega)
     (try rw [show ((0 : Int)).toNat = 0 from rfl] at hx622_0)
     (try rw [show 0 * 2 = 0 from rfl] at hx622_0)
     (try rw [Addr.add_zero'] at hx622_0)
     (try rw [show ((0 : Int)).toNat = 0 from rfl] at hx622_1)
     (try rw [show 0 * 2 = 0 from rfl] at hx622_1)
     (try rw [Addr.add_zero'] at hx622_1)
     replace hx622_0 := cB HB hx622_0
     replace hx622_1 := cB HB hx622_1
     replace p622 := eq_true p622
     replace q622 := eq_true q622
     have p623 : 0 ≤ (0 : Int) := (by omega)
     have q623 : 0 < (l0.length : Int) := dA
     obtain ⟨ad623, e623, hx623_0, hx623_1⟩ := at_T171 HR0.out 0 p623 q623
     have hw623_1 := hx623_1
     (try rw [show ((0 : Int)).toNat = 0 from rfl] at hw623_1)
     (try rw [show 0 * 2 = 0 from rfl] at hw623_1)
     (try rw [Addr.add_zero'] at hw623_1)
     have hw623_0 := hx623_0
     (try rw [show ((0 : Int)).toNat = 0 from rfl] at hw623_0)
     (try rw [show 0 * 2 = 0 from rfl] at hw623_0)
     (try rw [Addr.add_zero'] at hw623_0)
     obtain rfl : ad622 = ad623 := (by injection e623)
     have qi623 : (0 < l0.length) = True := eq_true (by omega)
     (try rw [show ((0 : Int)).toNat = 0 from rfl] at hx623_0)
     (try rw [show 0 * 2 = 0 from rfl] at hx623_0)
     (try rw [Addr.add_zero'] at hx623_0)
     (try rw [show ((0 : Int)).toNat = 0 from rfl] at hx623_1)
     (try rw [show 0 * 2 = 0 from rfl] at hx623_1)
     (try rw [Addr.add_zero'] at hx623_1)
     replace hx623_0 := cB HB hx623_0
     replace hx623_1 := cB HB hx623_1
     replace p623 := eq_true p623
     replace q623 := eq_true q623
     have p624 : 0 ≤ (0 : Int) := (by omega)
     have q624 : 0 < (l0.length : Int) := dA
     obtain ⟨ad624, e624, hx624_0, hx624_1⟩ := at_T171 HR0.out 0 p624 q624
     have hw624_1 := hx624_1
     (try rw [show ((0 : Int)).toNat = 0 from rfl] at hw624_1)
     (try rw [show 0 * 2 = 0 from rfl] at hw624_1)
     (try rw [Addr.add_zero'] at hw624_1)
     have hw624_0 := hx624_0
     (try rw [show ((0 : Int)).toNat = 0 from rfl] at hw624_0)
     (try rw [show 0 * 2 = 0 from rfl] at hw624_0)
     (try rw [Addr.add_zero'] at hw624_0)
     obtain rfl : ad622 = ad624 := (by injection e624)
     have qi624 : (0 < l0.length) = True := eq_true (by omega)
     (try rw [show ((0 : Int)).toNat = 0 from rfl] at hx624_0)
     (try rw [show 0 * 2 = 0 from rfl] at hx624_0)
     (try rw [Addr.add_zero'] at hx624_0)
     (try rw [show ((0 : Int)).toNat = 0 from rfl] at hx624_1)
     (try rw [show 0 * 2 = 0 from rfl] at hx624_1)
     (try rw [Addr.add_zero'] at hx624_1)
     replace hx624_0 := cB HB hx624_0
     replace hx624_1 := cB HB hx624_1
     replace p624 := eq_true p624
     replace q624 := eq_true q624
     have p625 : 0 ≤ (0 : Int) := (by omega)
     have q625 : 0 < (l0.length : Int) := dA
     obtain ⟨ad625, e625, hx625_0, hx625_1⟩ := at_T171 HR0.out 0 p625 q625
     have hw625_1 := hx625_1
     (try rw [show ((0 : Int)).toNat = 0 from rfl] at hw625_1)
     (try rw [show 0 * 2 = 0 from rfl] at hw625_1)
     (try rw [Addr.add_zero'] at hw625_1)
     have hw625_0 := hx625_0
     (try rw [show ((0 : Int)).toNat = 0 from rfl] at hw625_0)
     (try rw [show 0 * 2 = 0 from rfl] at hw625_0)
     (try rw [Addr.add_zero'] at hw625_0)
     obtain rfl : ad622 = ad625 := (by injection e625)
     have qi625 : (0 < l0.length) = True := eq_true (by omega)
     (try rw [show ((0 : Int)).toNat = 0 from rfl] at hx625_0)
     (try rw [show 0 * 2 = 0 from rfl] at hx625_0)
     (try rw [Addr.add_zero'] at hx625_0)
     (try rw [show ((0 : Int)).toNat = 0 from rfl] at hx625_1)
     (try rw [show 0 * 2 = 0 from rfl] at hx625_1)
     (try rw [Addr.add_zero'] at hx625_1)
     replace hx625_0 := cB HB hx625_0
     replace hx625_1 := cB HB hx625_1
     replace p625 := eq_true p625
     replace q625 := eq_true q625
     refine start_ (n := 19) (S := fun w' => w'.cell? ad622 = some (.int .i64 ((rd_T171 l0 0).f0)) ∧ w'.cell? ⟨ad622.block, ad622.off + 1, none⟩ = some (.int .i64 ((rd_T171 l0 0).f1)) ∧ w'.cell? ad622 = some (.int .i64 ((rd_T171 l0 0).f0)) ∧ w'.cell? ⟨ad622.block, ad622.off + 1, none⟩ = some (.int .i64 ((rd_T171 l0 0).f1)) ∧ w'.cell? ad622 = some (.int .i64 ((rd_T171 l0 0).f0)) ∧ w'.cell? ⟨ad622.block, ad622.off + 1, none⟩ = some (.int .i64 ((rd_T171 l0 0).f1)) ∧ w'.cell? ad622 = some (.int .i64 ((rd_T171 l0 0).f0)) ∧ w'.cell? ⟨ad622.block, ad622.off + 1, none⟩ = some (.int .i64 ((rd_T171 l0 0).f1))) (ds := []) #[false, false, false, false, false, false, false, false, false, false, false, false, false, false, false, false, false, false, false] (by kernel_rfl) rfl rfl ⟨(cB HB hw622_0), (cB HB hw622_1), (cB HB hw623_0), (cB HB hw623_1), (cB HB hw624_0), (cB HB hw624_1), (cB HB hw625_0), (cB HB hw625_1)⟩ (fun hHeld => ?_); refine with_tabW impl_BoxOf.tab3 impl_BoxOf.bits3 (fun HT_ HW_ => ?_)
     generalize wc.drew = w10 at BK620 HB hx622_0 hx622_1 hx623_0 hx623_1 hx624_0 hx624_1 hx625_0 hx625_1 hHeld ⊢
     refine pU 0 (some 15) #[true, false, false, false, false, false, false, false, false, false, false, false, false, false, false, false, false, false, false] ?_
     refine pU 1 (some 16) #[true, true, false, false, false, false, false, false, false, false, false, false, false, false, false, false, false, false, false] ?_
     refine pU 2 (some 17) #[true, true, true, false, false, false, false, false, false, false, false, false, false, false, false, false, false, false, false] ?_
     refine pU 4 (some 19) #[true, true, true, false, true, false, false, false, false, false, false, false, false, false, false, false, false, false, false] ?_
     refine pU 5 (some 20) #[true, true, true, false, true, true, false, false, false, false, false, false, false, false, false, false, false, false, false] ?_
     refine pU 6 (some 21) #[true, true, true, false, true, true, true, false, false, false, false, false, false, false, false, false, false, false, false] ?_
     refine pU 8 (some 23) #[true, true, true, false, true, true, true, false, true, false, false, false, false, false, false, false, false, false, false] ?_
     refine pU 9 (some 24) #[true, true, true, false, true, true, true, false, true, true, false, false, false, false, false, false, false, false, false] ?_
     refine pU 10 (some 25) #[true, true, true, false, true, true, true, false, true, true, true, false, false, false, false, false, false, false, false] ?_
     refine pU 12 (some 27) #[true, true, true, false, true, true, true, false, true, true, true, false, true, false, false, false, false, false, false] ?_
     refine pU 13 (some 28) #[true, true, true, false, true, true, true, false, true, true, true, false, true, true, false, false, false, false, false] ?_
     refine pU 14 (some 29) #[true, true, true, false, true, true, true, false, true, true, true, false, true, true, true, false, false, false, false] ?_
     refine tK 3 (some 18) #[true, true, true, true, true, true, true, false, true, true, true, false, true, true, true, false, false, false, false] ?_
     refine tK 7 (some 22) #[true, true, true, true, true, true, true, true, true, true, true, false, true, true, true, false, false, false, false] ?_
     refine tK 11 (some 26) #[true, true, true, true, true, true, true, true, true, true, true, true, true, true, true, false, false, false, false] ?_
     refine tK 15 (some 30) #[true, true, true, true, true, true, true, true, true, true, true, true, true, true, true, true, false, false, false] ?_
     refine pU 16 (some 31) #[true, true, true, true, true, true, true, true, true, true, true, true, true, true, true, true, true, false, false] ?_
     refine one_ (i := 17) (N := some 3) #[true, true, true, true, true, true, true, true, true, true, true, true, true, true, true, true, true, true, false] rfl rfl (one_of HT_.out (by kernel_rfl)) (by decide) (fun K hK => ?_)
     refine box_step ?hg (N := 3) ?hd (cs := #[.int .i64 0, .int .i64 0, .int .i64 0, .int .i64 0]) (t := 43) ?hr ?_; (case hd => rfl); (case hg => rfl); (case hr => first | (go_simp; done) | (go_simp; rfl))
     intro gb626 hg w11 hbox hb
     have BK626 := Aside0.mk (hbox)
     have GW626 := gE hg
     have GE626 := gE hg
     have NB620_626 := nL (g := gb620) hg
     have NB626_620 := nG (g := gb620) hg
     replace BK620 := kB (g := gb620) hb
     replace HB := hB hb
     clear hb hg
     refine hK.out _ _ ⟨(cB HB hw622_0), (cB HB hw622_1), (cB HB hw623_0), (cB HB hw623_1), (cB HB hw624_0), (cB HB hw624_1), (cB HB hw625_0), (cB HB hw625_1)⟩ (fun hHeld => ?_)
     clear hK K
     refine norm_ (a' := ?_) ?_ ?_
     rotate_left
     ·show Act.put _ (some 3) _ = _
      simp only [Act.put, List.setIfInBounds_toArray, List.set_cons_zero, List.set_cons_succ, i64_w, i32_w]
      rfl
     refine one_ (i := 18) (N := none) #[true, true, true, true, true, true, true, true, true, true, true, true, true, true, true, true, true, true, true] rfl rfl (one_of HT_.out (by kernel_rfl)) (by decide) (fun K hK => ?_)
     have hs12 : w11.cell? ⟨gb626, 0, none⟩ = some (.int .i64 0) := (blk_cell BK626.out 0).trans rfl
     have hfs12 := blk_frozen BK626.out 0
     have hns12_0 := NB620_626.out
     have hms12_0 := NB626_620.out
     have hs13 : w11.cell? ⟨gb626, 1, none⟩ = some (.int .i64 0) := (blk_cell BK626.out 1).trans rfl
     have hfs13 := blk_frozen BK626.out 1
     have hns13_0 := NB620_626.out
     have hms13_0 := NB626_620.out
     have hs14 : w11.cell? ⟨gb626, 2, none⟩ = some (.int .i64 0) := (blk_cell BK626.out 2).trans rfl
     have hfs14 := blk_frozen BK626.out 2
     have hns14_0 := NB620_626.out
     have hms14_0 := NB626_620.out
     have hs15 : w11.cell? ⟨gb626, 3, none⟩ = some (.int .i64 0) := (blk_cell BK626.out 3).trans rfl
     have hfs15 := blk_frozen BK626.out 3
     have hns15_0 := NB620_626.out
     have hms15_0 := NB626_620.out
     refine skip_ (w1 := ?_) (by rfl) rfl ?_ ?_
     rotate_left
     ·go_simp
      rfl
     refine hK.out _ _ ⟨((cell_far (p := ⟨gb626, _, none⟩) (nA hw622_0 GW626) _).trans (((cell_far (p := ⟨gb626, _, none⟩) (nA hw622_0 GW626) _).trans (((cell_far (p := ⟨gb626, _, none⟩) (nA hw622_0 GW626) _).trans (((cell_far (p := ⟨gb626, _, none⟩) (nA hw622_0 GW626) _).trans (hHeld.1)))))))), ((cell_far (p := ⟨gb626, _, none⟩) (nA hw622_1 GW626) _).trans (((cell_far (p := ⟨gb626, _, none⟩) (nA hw622_1 GW626) _).trans (((cell_far (p := ⟨gb626, _, none⟩) (nA hw622_1 GW626) _).trans (((cell_far (p := ⟨gb626, _, none⟩) (nA hw622_1 GW626) _).trans (hHeld.2.1)))))))), ((cell_far (p := ⟨gb626, _, none⟩) (nA hw623_0 GW626) _).trans (((cell_far (p := ⟨gb626, _, none⟩) (nA hw623_0 GW626) _).trans (((cell_far (p := ⟨gb626, _, none⟩) (nA hw623_0 GW626) _).trans (((cell_far (p := ⟨gb626, _, none⟩) (nA hw623_0 GW626) _).trans (hHeld.2.2.1)))))))), ((cell_far (p := ⟨gb626, _, none⟩) (nA hw623_1 GW626) _).trans (((cell_far (p := ⟨gb626, _, none⟩) (nA hw623_1 GW626) _).trans (((cell_far (p := ⟨gb626, _, none⟩) (nA hw623_1 GW626) _).trans (((cell_far (p := ⟨gb626, _, none⟩) (nA hw623_1 GW626) _).trans (hHeld.2.2.2.1)))))))), ((cell_far (p := ⟨gb626, _, none⟩) (nA hw624_0 GW626) _).trans (((cell_far (p := ⟨gb626, _, none⟩) (nA hw624_0 GW626) _).trans (((cell_far (p := ⟨gb626, _, none⟩) (nA hw624_0 GW626) _).trans (((cell_far (p := ⟨gb626, _, none⟩) (nA hw624_0 GW626) _).trans (hHeld.2.2.2.2.1)))))))), ((cell_far (p := ⟨gb626, _, none⟩) (nA hw624_1 GW626) _).trans (((cell_far (p := ⟨gb626, _, none⟩) (nA hw624_1 GW626) _).trans (((cell_far (p := ⟨gb626, _, none⟩) (nA hw624_1 GW626) _).trans (((cell_far (p := ⟨gb626, _, none⟩) (nA hw624_1 GW626) _).trans (hHeld.2.2.2.2.2.1)))))))), ((cell_far (p := ⟨gb626, _, none⟩) (nA hw625_0 GW626) _).trans (((cell_far (p := ⟨gb626, _, none⟩) (nA hw625_0 GW626) _).trans (((cell_far (p := ⟨gb626, _, none⟩) (nA hw625_0 GW626) _).trans (((cell_far (p := ⟨gb626, _, none⟩) (nA hw625_0 GW626) _).trans (hHeld.2.2.2.2.2.2.1)))))))), ((cell_far (p := ⟨gb626, _, none⟩) (nA hw625_1 GW626) _).trans (((cell_far (p := ⟨gb626, _, none⟩) (nA hw625_1 GW626) _).trans (((cell_far (p := ⟨gb626, _, none⟩) (nA hw625_1 GW626) _).trans (((cell_far (p := ⟨gb626, _, none⟩) (nA hw625_1 GW626) _).trans (hHeld.2.2.2.2.2.2.2))))))))⟩ (fun hHeld => ?_)
     clear hK K
     refine done_ (done_of HT_.out (by kernel_rfl)) ?_
     try go_wp2
     go_loopg [34] kj1 (fun kq v34 w' => ∃ (x34_2 : Int) (x627000_2 : Int) (x627001_2 : Int) (x627002_2 : Int) (x627003_2 : Int), v34 = .int .i64 x34_2 ∧ Aside0 (impl_BoxOf.l0 kq l0 (l0.length : Int) x34_2 x627000_2 x627001_2 x627002_2 x627003_2 = some (r1, r2, r3, r4)) ∧ Aside0 (kq ≤ kj1) ∧ Aside0 (w'.heap[gb620]? = some (.cells #[.int .i64 0, .int .i64 0, .int .i64 0, .int .i64 0] 43 (0, 0))) ∧ Aside0 (w'.heap[gb626]? = some (.cells #[.int .i64 x627000_2, .int .i64 x627001_2, .int .i64 x627002_2, .int .i64 x627003_2] 43 (0, 0))) ∧ Aside0 (Below w.heap.size w w'))
     case atStart => exact ⟨(0), ((rd_T171 l0 0).f0), ((rd_T171 l0 0).f1), ((rd_T171 l0 0).f0), ((rd_T171 l0 0).f1), fS, H', ⟨Nat.le_refl _⟩, ⟨kS⟩, ⟨kS⟩, ⟨bS⟩⟩
     case round =>
      clear H'
      try clear c1
      try clear p2
      try clear c4
      try clear c4b0
      try clear c4b1
      try clear c4b2
      try clear p6
      try clear q6
      try clear hx6
      try clear qi6
      try clear c7
      try clear c9
      try clear c9b0
      try clear c9b1
      try clear c15
      try clear hcz8_0
      try clear hcz8_1
      try clear hcz8_2
      try clear hcz8_3
      try clear hfz8_0
      try clear hfz8_1
      try clear hfz8_2
      try clear hfz8_3
      try clear hx622_0
      try clear hx622_1
      try clear hx623_0
      try clear hx623_1
      try clear hx624_0
      try clear hx624_1
      try clear hx625_0
      try clear hx625_1
      try clear p2
      try clear p622
      try clear p623
      try clear p624
      try clear p625
      try clear q622
      try clear q623
      try clear q624
      try clear q625
      obtain ⟨x34_2, x627000_2, x627001_2, x627002_2, x627003_2, rfl, HA, HK2, BK620, BK626, HB⟩ := hrel
      cases gk with
      | zero => exact absurd HA.out (by simp [impl_BoxOf.l0])
      | succ k2 =>
       have H := HA.out
       clear HA
       simp only [impl_BoxOf.l0] at H
       rcases iD H with ⟨c16b0, H⟩ | ⟨c16b0, H⟩
       ·obtain ⟨c17b0, H⟩ := iT H
        obtain ⟨c18b0, H⟩ := iT H
        obtain ⟨ji19, hji19⟩ : ∃ j_ : Int, (mn x627000_2 ((rd_T171 l0 x34_2).f0)) = j_ := ⟨_, rfl⟩
        replace H : (impl_BoxOf.l0 k2 l0 (l0.length : Int) (wrap64 (x34_2 + 1)) ji19 (mn x627001_2 ((rd_T171 l0 x34_2).f1)) (mx x627002_2 ((rd_T171 l0 x34_2).f0)) (mx x627003_2 ((rd_T171 l0 x34_2).f1))) = some (r1, r2, r3, r4) := by first | (rw [hji19] at H; exact H) | (simp only [hji19] at H ⊢; exact H)
        have hji19_ : (if ((rd_T171 l0 x34_2).f0) < x627000_2 then ((rd_T171 l0 x34_2).f0) else x627000_2) = ji19 := hji19
        obtain ⟨ji20, hji20⟩ : ∃ j_ : Int, (mn x627001_2 ((rd_T171 l0 x34_2).f1)) = j_ := ⟨_, rfl⟩
        replace H : (impl_BoxOf.l0 k2 l0 (l0.length : Int) (wrap64 (x34_2 + 1)) ji19 ji20 (mx x627002_2 ((rd_T171 l0 x34_2).f0)) (mx x627003_2 ((rd_T171 l0 x34_2).f1))) = some (r1, r2, r3, r4) := by first | (rw [hji20] at H; exact H) | (simp only [hji20] at H ⊢; exact H)
        have hji20_ : (if ((rd_T171 l0 x34_2).f1) < x627001_2 then ((rd_T171 l0 x34_2).f1) else x627001_2) = ji20 := hji20
        obtain ⟨ji21, hji21⟩ : ∃ j_ : Int, (mx x627002_2 ((rd_T171 l0 x34_2).f0)) = j_ := ⟨_, rfl⟩
        replace H : (impl_BoxOf.l0 k2 l0 (l0.length : Int) (wrap64 (x34_2 + 1)) ji19 ji20 ji21 (mx x627003_2 ((rd_T171 l0 x34_2).f1))) = some (r1, r2, r3, r4) := by first | (rw [hji21] at H; exact H) | (simp only [hji21] at H ⊢; exact H)
        have hji21_ : (if x627002_2 < ((rd_T171 l0 x34_2).f0) then ((rd_T171 l0 x34_2).f0) else x627002_2) = ji21 := hji21
        obtain ⟨ji22, hji22⟩ : ∃ j_ : Int, (mx x627003_2 ((rd_T171 l0 x34_2).f1)) = j_ := ⟨_, rfl⟩
        replace H : (impl_BoxOf.l0 k2 l0 (l0.length : Int) (wrap64 (x34_2 + 1)) ji19 ji20 ji21 ji22) = some (r1, r2, r3, r4) := by first | (rw [hji22] at H; exact H) | (simp only [hji22] at H ⊢; exact H)
        have hji22_ : (if x627003_2 < ((rd_T171 l0 x34_2).f1) then ((rd_T171 l0 x34_2).f1) else x627003_2) = ji22 := hji22
        have H' := Aside0.mk H
        clear H
        have p627 : 0 ≤ (x34_2 : Int) := dA
        have q627 : x34_2 < (l0.length : Int) := dA
        obtain ⟨ad627, e627, hx627_0, hx627_1⟩ := at_T171 HR0.out x34_2 p627 q627
        obtain rfl : ad622 = ad627 := (by injection e627)
        replace hx627_0 := cB HB hx627_0
        replace hx627_1 := cB HB hx627_1
        replace p627 := eq_true p627
        replace q627 := eq_true q627
        try go_wp2_with (first | ((with_reducible refine gD 5 ?_); refine bxE #[.int .i64 0, .int .i64 0] 171 ?_; intro gb628 hg w23 BK628 hb; have GW628 := gE hg; have GE628 := gE hg; have NB620_628 := nL (g := gb620) hg; have NB628_620 := nG (g := gb620) hg; have NB626_628 := nL (g := gb626) hg; have NB628_626 := nG (g := gb626) hg; replace BK620 := kB (g := gb620) hb; replace BK626 := kB (g := gb626) hb; replace HB := hB hb; clear hb hg; have hnb24 := NB628_620.out; have hnc24 := NB620_628.out; have hnb25 := NB628_626.out; have hnc25 := NB626_628.out; have hz26 := cz2 BK628))
        have n0_ : Aside0 (((w23.setCell ⟨gb628, 0, none⟩ (.int .i64 ((rd_T171 l0 x34_2).f0))).setCell ⟨gb628, 1, none⟩ (.int .i64 ((rd_T171 l0 x34_2).f1))).heap[gb620]? = some (.cells #[.int .i64 0, .int .i64 0, .int .i64 0, .int .i64 0] 43 (0, 0))) := ⟨kS⟩
        have n1_ : Aside0 (((w23.setCell ⟨gb628, 0, none⟩ (.int .i64 ((rd_T171 l0 x34_2).f0))).setCell ⟨gb628, 1, none⟩ (.int .i64 ((rd_T171 l0 x34_2).f1))).heap[gb626]? = some (.cells #[.int .i64 x627000_2, .int .i64 x627001_2, .int .i64 x627002_2, .int .i64 x627003_2] 43 (0, 0))) := ⟨kS⟩
        have n2_ : Aside0 (((w23.setCell ⟨gb628, 0, none⟩ (.int .i64 ((rd_T171 l0 x34_2).f0))).setCell ⟨gb628, 1, none⟩ (.int .i64 ((rd_T171 l0 x34_2).f1))).heap[gb628]? = some (.cells #[.int .i64 ((rd_T171 l0 x34_2).f0), .int .i64 ((rd_T171 l0 x34_2).f1)] 171 (0, 0))) := ⟨kS⟩
        have n3_ : Aside0 (Below w.heap.size w ((w23.setCell ⟨gb628, 0, none⟩ (.int .i64 ((rd_T171 l0 x34_2).f0))).setCell ⟨gb628, 1, none⟩ (.int .i64 ((rd_T171 l0 x34_2).f1)))) := ⟨bS⟩
        (try clear BK620)
        (try clear BK626)
        (try clear BK628)
        (try clear HB)
        generalize ((w23.setCell ⟨gb628, 0, none⟩ (.int .i64 ((rd_T171 l0 x34_2).f0))).setCell ⟨gb628, 1, none⟩ (.int .i64 ((rd_T171 l0 x34_2).f1))) = w27 at n0_ n1_ n2_ n3_ ⊢
        have BK620 := n0_
        have BK626 := n1_
        have BK628 := n2_
        have HB := n3_
        clear n0_ n1_ n2_ n3_
        replace BK620 := Aside0.mk (blk_drew BK620.out)
        replace BK626 := Aside0.mk (blk_drew BK626.out)
        replace BK628 := Aside0.mk (blk_drew BK628.out)
        replace HB := Aside0.mk (below_drew1 HB.out)
        refine start_ (n := 14) (S := fun w' => w'.cell? ⟨gb626, 1, none⟩ = some (.int .i64 x627001_2) ∧ w'.cell? ⟨gb626, 2, none⟩ = some (.int .i64 x627002_2) ∧ w'.cell? ⟨gb626, 3, none⟩ = some (.int .i64 x627003_2) ∧ w'.cell? ⟨gb628, 0, none⟩ = some (.int .i64 ((rd_T171 l0 x34_2).f0)) ∧ w'.cell? ⟨gb628, 1, none⟩ = some (.int .i64 ((rd_T171 l0 x34_2).f1))) (ds := [13]) #[false, false, false, false, false, false, false, false, false, false, false, false, false, false] (by kernel_rfl) rfl rfl ⟨(blk_cell BK626.out 1).trans rfl, (blk_cell BK626.out 2).trans rfl, (blk_cell BK626.out 3).trans rfl, (blk_cell BK628.out 0).trans rfl, (blk_cell BK628.out 1).trans rfl⟩ (fun hHeld => ?_); refine with_tabW impl_BoxOf.tab7 impl_BoxOf.bits7 (fun HT_ HW_ => ?_)
        generalize w27.drew = w28 at BK620 BK626 BK628 HB hHeld ⊢
        refine pU 0 (some 38) #[true, false, false, false, false, false, false, false, false, false, false, false, false, false] ?_
        refine pU 2 (some 40) #[true, false, true, false, false, false, false, false, false, false, false, false, false, false] ?_
        refine pU 5 (some 43) #[true, false, true, false, false, true, false, false, false, false, false, false, false, false] ?_
        refine pU 7 (some 45) #[true, false, true, false, false, true, false, true, false, false, false, false, false, false] ?_
        refine tK 3 (some 41) #[true, false, true, true, false, true, false, true, false, false, false, false, false, false] ?_
        refine tK 6 (some 44) #[true, false, true, true, false, true, true, true, false, false, false, false, false, false] ?_
        refine tK 8 (some 46) #[true, false, true, true, false, true, true, true, true, false, false, false, false, false] ?_
        refine pU 9 (some 47) #[true, false, true, true, false, true, true, true, true, true, false, false, false, false] ?_
        refine one_ (i := 1) (N := some 39) #[true, true, true, true, false, true, true, true, true, true, false, false, false, false] rfl rfl (one_of HT_.out (by kernel_rfl)) (by decide) (fun K hK => ?_)
        have hl1_ := (blk_cell BK626.out 0).trans (show _ = some (.int .i64 x627000_2) from rfl)
        refine value_ (w1 := ?_) (v := ?_) (by rfl) rfl ?_ ?_
        rotate_left 2
        ·go_simp
         constructor
         ·rfl
         ·rfl
        refine hK.out _ _ ⟨hHeld.1, hHeld.2.1, hHeld.2.2.1, hHeld.2.2.2.1, hHeld.2.2.2.2⟩ (fun hHeld => ?_)
        clear hK K
        refine norm_ (a' := ?_) ?_ ?_
        rotate_left
        ·show Act.put _ (some 39) _ = _
         simp only [Act.put, List.setIfInBounds_toArray, List.set_cons_zero, List.set_cons_succ, i64_w, i32_w]
         rfl
        refine pU 4 (some 42) #[true, true, true, true, true, true, true, true, true, true, false, false, false, false] ?_
        refine pU 10 (some 48) #[true, true, true, true, true, true, true, true, true, true, true, false, false, false] ?_
        refine one_ (i := 11) (N := none) #[true, true, true, true, true, true, true, true, true, true, true, true, false, false] rfl rfl (one_of HT_.out (by kernel_rfl)) (by decide) (fun K hK => ?_)
        have hs29 : w28.cell? ⟨gb626, 0, none⟩ = some (.int .i64 x627000_2) := (blk_cell BK626.out 0).trans rfl
        have hfs29 := blk_frozen BK626.out 0
        have hns29_0 := NB620_626.out
        have hns29_2 := NB628_626.out
        have hms29_0 := NB626_620.out
        have hms29_2 := NB626_628.out
        refine skip_ (w1 := ?_) (by rfl) rfl ?_ ?_
        rotate_left
        ·go_simp
         rfl
        refine hK.out _ _ ⟨(cell_off (by decide) _).trans (hHeld.1), (cell_off (by decide) _).trans (hHeld.2.1), (cell_off (by decide) _).trans (hHeld.2.2.1), ((cell_far (p := ⟨gb626, _, none⟩) NB628_626.out _).trans (hHeld.2.2.2.1)), ((cell_far (p := ⟨gb626, _, none⟩) NB628_626.out _).trans (hHeld.2.2.2.2))⟩ (fun hHeld => ?_)
        clear hK K
        refine pU 12 (some 49) #[true, true, true, true, true, true, true, true, true, true, true, true, true, false] ?_
        refine last_ (i := 13) (N := none) #[true, true, true, true, true, true, true, true, true, true, true, true, true, true] rfl rfl (one_of HT_.out (by kernel_rfl)) (by decide) (fun K hK => ?_)
        have hs30 : w28.cell? ⟨gb626, 1, none⟩ = some (.int .i64 x627001_2) := (blk_cell BK626.out 1).trans rfl
        have hfs30 := blk_frozen BK626.out 1
        have hns30_0 := NB620_626.out
        have hns30_2 := NB628_626.out
        have hms30_0 := NB626_620.out
        have hms30_2 := NB626_628.out
        refine skip_ (w1 := ?_) (by rfl) rfl ?_ ?_
        rotate_left
        ·go_simp
         rfl
        refine hK.out _ _ ?_
        clear hK K
        refine done_ (done_of HT_.out (by kernel_rfl)) ?_
        try go_wp2
        have n0_ : Aside0 (((w28.setCell ⟨gb626, 0, none⟩ (.int .i64 ji19)).setCell ⟨gb626, 1, none⟩ (.int .i64 ji20)).heap[gb620]? = some (.cells #[.int .i64 0, .int .i64 0, .int .i64 0, .int .i64 0] 43 (0, 0))) := ⟨kS⟩
        have n1_ : Aside0 (((w28.setCell ⟨gb626, 0, none⟩ (.int .i64 ji19)).setCell ⟨gb626, 1, none⟩ (.int .i64 ji20)).heap[gb626]? = some (.cells #[.int .i64 ji19, .int .i64 ji20, .int .i64 x627002_2, .int .i64 x627003_2] 43 (0, 0))) := ⟨kS⟩
        have n2_ : Aside0 (((w28.setCell ⟨gb626, 0, none⟩ (.int .i64 ji19)).setCell ⟨gb626, 1, none⟩ (.int .i64 ji20)).heap[gb628]? = some (.cells #[.int .i64 ((rd_T171 l0 x34_2).f0), .int .i64 ((rd_T171 l0 x34_2).f1)] 171 (0, 0))) := ⟨kS⟩
        have n3_ : Aside0 (Below w.heap.size w ((w28.setCell ⟨gb626, 0, none⟩ (.int .i64 ji19)).setCell ⟨gb626, 1, none⟩ (.int .i64 ji20))) := ⟨bS⟩
        (try clear BK620)
        (try clear BK626)
        (try clear BK628)
        (try clear HB)
        generalize ((w28.setCell ⟨gb626, 0, none⟩ (.int .i64 ji19)).setCell ⟨gb626, 1, none⟩ (.int .i64 ji20)) = w31 at n0_ n1_ n2_ n3_ ⊢
        have BK620 := n0_
        have BK626 := n1_
        have BK628 := n2_
        have HB := n3_
        clear n0_ n1_ n2_ n3_
        replace BK620 := Aside0.mk (blk_drew BK620.out)
        replace BK626 := Aside0.mk (blk_drew BK626.out)
        replace BK628 := Aside0.mk (blk_drew BK628.out)
        replace HB := Aside0.mk (below_drew1 HB.out)
        refine start_ (n := 14) (S := fun w' => w'.cell? ⟨gb626, 0, none⟩ = some (.int .i64 ji19) ∧ w'.cell? ⟨gb626, 1, none⟩ = some (.int .i64 ji20) ∧ w'.cell? ⟨gb626, 3, none⟩ = some (.int .i64 x627003_2) ∧ w'.cell? ⟨gb628, 0, none⟩ = some (.int .i64 ((rd_T171 l0 x34_2).f0)) ∧ w'.cell? ⟨gb628, 1, none⟩ = some (.int .i64 ((rd_T171 l0 x34_2).f1))) (ds := [13]) #[false, false, false, false, false, false, false, false, false, false, false, false, false, false] (by kernel_rfl) rfl rfl ⟨(blk_cell BK626.out 0).trans rfl, (blk_cell BK626.out 1).trans rfl, (blk_cell BK626.out 3).trans rfl, (blk_cell BK628.out 0).trans rfl, (blk_cell BK628.out 1).trans rfl⟩ (fun hHeld => ?_); refine with_tabW impl_BoxOf.tab8 impl_BoxOf.bits8 (fun HT_ HW_ => ?_)
        generalize w31.drew = w32 at BK620 BK626 BK628 HB hHeld ⊢
        refine pU 0 (some 50) #[true, false, false, false, false, false, false, false, false, false, false, false, false, false] ?_
        refine pU 2 (some 52) #[true, false, true, false, false, false, false, false, false, false, false, false, false, false] ?_
        refine pU 5 (some 55) #[true, false, true, false, false, true, false, false, false, false, false, false, false, false] ?_
        refine pU 7 (some 57) #[true, false, true, false, false, true, false, true, false, false, false, false, false, false] ?_
        refine tK 3 (some 53) #[true, false, true, true, false, true, false, true, false, false, false, false, false, false] ?_
        refine tK 6 (some 56) #[true, false, true, true, false, true, true, true, false, false, false, false, false, false] ?_
        refine tK 8 (some 58) #[true, false, true, true, false, true, true, true, true, false, false, false, false, false] ?_
        refine pU 9 (some 59) #[true, false, true, true, false, true, true, true, true, true, false, false, false, false] ?_
        refine one_ (i := 1) (N := some 51) #[true, true, true, true, false, true, true, true, true, true, false, false, false, false] rfl rfl (one_of HT_.out (by kernel_rfl)) (by decide) (fun K hK => ?_)
        have hl1_ := (blk_cell BK626.out 2).trans (show _ = some (.int .i64 x627002_2) from rfl)
        refine value_ (w1 := ?_) (v := ?_) (by rfl) rfl ?_ ?_
        rotate_left 2
        ·go_simp
         constructor
         ·rfl
         ·rfl
        refine hK.out _ _ ⟨hHeld.1, hHeld.2.1, hHeld.2.2.1, hHeld.2.2.2.1, hHeld.2.2.2.2⟩ (fun hHeld => ?_)
        clear hK K
        refine norm_ (a' := ?_) ?_ ?_
        rotate_left
        ·show Act.put _ (some 51) _ = _
         simp only [Act.put, List.setIfInBounds_toArray, List.set_cons_zero, List.set_cons_succ, i64_w, i32_w]
         rfl
        refine pU 4 (some 54) #[true, true, true, true, true, true, true, true, true, true, false, false, false, false] ?_
        refine pU 10 (some 60) #[true, true, true, true, true, true, true, true, true, true, true, false, false, false] ?_
        refine one_ (i := 11) (N := none) #[true, true, true, true, true, true, true, true, true, true, true, true, false, false] rfl rfl (one_of HT_.out (by kernel_rfl)) (by decide) (fun K hK => ?_)
        have hs33 : w32.cell? ⟨gb626, 2, none⟩ = some (.int .i64 x627002_2) := (blk_cell BK626.out 2).trans rfl
        have hfs33 := blk_frozen BK626.out 2
        have hns33_0 := NB620_626.out
        have hns33_2 := NB628_626.out
        have hms33_0 := NB626_620.out
        have hms33_2 := NB626_628.out
        refine skip_ (w1 := ?_) (by rfl) rfl ?_ ?_
        rotate_left
        ·go_simp
         rfl
        refine hK.out _ _ ⟨(cell_off (by decide) _).trans (hHeld.1), (cell_off (by decide) _).trans (hHeld.2.1), (cell_off (by decide) _).trans (hHeld.2.2.1), ((cell_far (p := ⟨gb626, _, none⟩) NB628_626.out _).trans (hHeld.2.2.2.1)), ((cell_far (p := ⟨gb626, _, none⟩) NB628_626.out _).trans (hHeld.2.2.2.2))⟩ (fun hHeld => ?_)
        clear hK K
        refine pU 12 (some 61) #[true, true, true, true, true, true, true, true, true, true, true, true, true, false] ?_
        refine last_ (i := 13) (N := none) #[true, true, true, true, true, true, true, true, true, true, true, true, true, true] rfl rfl (one_of HT_.out (by kernel_rfl)) (by decide) (fun K hK => ?_)
        have hs34 : w32.cell? ⟨gb626, 3, none⟩ = some (.int .i64 x627003_2) := (blk_cell BK626.out 3).trans rfl
        have hfs34 := blk_frozen BK626.out 3
        have hns34_0 := NB620_626.out
        have hns34_2 := NB628_626.out
        have hms34_0 := NB626_620.out
        have hms34_2 := NB626_628.out
        refine skip_ (w1 := ?_) (by rfl) rfl ?_ ?_
        rotate_left
        ·go_simp
         rfl
        refine hK.out _ _ ?_
        clear hK K
        refine done_ (done_of HT_.out (by kernel_rfl)) ?_
        try go_wp2
        go_roundg k2
        case measure => have := HJ1.out; have := HK2.out; omega
        case rel => exact ⟨(wrap64 (x34_2 + 1)), (ji19), (ji20), (ji21), (ji22), fS, H', ⟨by have := HJ1.out; have := HK2.out; omega⟩, ⟨kS⟩, ⟨kS⟩, ⟨bS⟩⟩
       ·obtain ⟨rfl, rfl, rfl, rfl⟩ := sI4 H
        have hnb35 := NB626_620.out
        have hnc35 := NB620_626.out
        have hz36 := cz4 BK626
        have hz37 := cz4 BK620
        go_wp2
        refine bodyPost_ret (results_cell_row rfl _ _ gb620 43 #[.int .i64 x627000_2, .int .i64 x627001_2, .int .i64 x627002_2, .int .i64 x627003_2] (0, 0) _ rfl kS Try.underlying43 rfl (by kernel_rfl)) rfl ?_
        exact ⟨eS, bS⟩
    ·rw [if_neg c9] at H
     exact absurd H (by simp)

end Go.Proofs.Ytigodjcnkgebaaa.QFnMerges
