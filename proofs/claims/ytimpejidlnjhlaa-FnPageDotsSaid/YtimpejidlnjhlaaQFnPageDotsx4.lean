-- Made out of the translation by a program of this session (a changed copy of the print). Not trusted: Lean checks it.
import Derived.Test.YtimpejidlnjhlaaQFnPageDotsx0
import Derived.Test.YtimpejidlnjhlaaQFnPageDotsx2
namespace Go.Proofs.Ytimpejidlnjhlaa.QFnPageDots
open Go.RowKit Go.Proofs.YtimpejidlnjhlaaW.PrintWords Go.Proofs.YtimpejidlnjhlaaW.PrintLast Go.Proofs.YtimpejidlnjhlaaW.PrintMore
attribute [local go_sem] max2_int min2_int max_two min_two max_three min_three max_four min_four   -- for this text's walks alone
set_option linter.unusedVariables false
set_option linter.unusedSimpArgs false
set_option maxHeartbeats 8000000
set_option maxRecDepth 100000

/-! ### impl_BoxOf: function 151 -/
mutual
def impl_BoxOf.j0 : Nat → List (S166) → Bool → Option (Int × Int × Int × Int)
 | 0, _, _ => none
 | k + 1, x0, x13 => if x13 = true then (some (0, 0, 0, 0)) else (if 0 < (x0.length : Int) then (impl_BoxOf.l0 k x0 (x0.length : Int) 0 ((rd_T166 x0 0).f0) ((rd_T166 x0 0).f1) ((rd_T166 x0 0).f0) ((rd_T166 x0 0).f1)) else (none))
def impl_BoxOf.l0 : Nat → List (S166) → Int → Int → Int → Int → Int → Int → Option (Int × Int × Int × Int)
 | 0, _, _, _, _, _, _, _ => none
 | k + 1, x32, x33, x34, x281000, x281001, x281002, x281003 => if x34 < x33 then (if 0 ≤ x34 then (if x34 < (x32.length : Int) then (impl_BoxOf.l0 k x32 x33 (wrap64 (x34 + 1)) (mn x281000 ((rd_T166 x32 x34).f0)) (mn x281001 ((rd_T166 x32 x34).f1)) (mx x281002 ((rd_T166 x32 x34).f0)) (mx x281003 ((rd_T166 x32 x34).f1))) else (none)) else (none)) else (some (x281000, x281001, x281002, x281003))
end
def impl_BoxOf.f (k : Nat) (l0 : List (S166)) : Option (Int × Int × Int × Int) := if (l0.length : Int) = 0 then (impl_BoxOf.j0 k l0 true) else ((impl_pointsOk.f k l0).bind fun t275 => (impl_BoxOf.j0 k l0 (!t275)))
def impl_BoxOf.T3 : Bool × List (List Nat × List Nat) := (true, [([], []), ([0], [0]), ([1], [1]), ([2], [2]), ([], []), ([4], [4]), ([5], [5]), ([6], [6]), ([], []), ([8], [8]), ([9], [9]), ([10], [10]), ([], []), ([12], [12]), ([13], [13]), ([14], [14]), ([3, 7, 11, 15], [3, 7, 11, 15]), ([], []), ([17, 16, 0, 1, 2, 3, 4, 5, 6, 7, 8, 9, 10, 11, 12, 13, 14, 15, 16, 17], [16, 17])])
def impl_BoxOf.B3 : List Nat := [0, 1, 3, 7, 0, 16, 48, 112, 0, 256, 768, 1792, 0, 4096, 12288, 28672, 65535, 0, 262143]
theorem impl_BoxOf.tab3 : rtab .any (opsOf Try.f151 3) = impl_BoxOf.T3 := by kernel_rfl
theorem impl_BoxOf.bits3 : waitsOk impl_BoxOf.T3.2 impl_BoxOf.B3 = true := by kernel_rfl
def impl_BoxOf.T7 : Bool × List (List Nat × List Nat) := (true, [([], []), ([0], [0]), ([], []), ([2], [2]), ([1, 3], [1, 3]), ([], []), ([5], [5]), ([], []), ([7], [7]), ([6, 8], [6, 8]), ([0, 1, 2, 3, 4, 5, 6], []), ([10, 4, 0, 1, 2, 3, 4, 5, 6], [4, 10]), ([0, 1, 2, 3, 4, 5, 6, 7, 8, 9, 10, 11], []), ([12, 9, 11, 0, 1, 2, 3, 4, 5, 6, 7, 8, 9, 10, 11], [9, 12])])
def impl_BoxOf.B7 : List Nat := [0, 1, 0, 4, 15, 0, 32, 0, 128, 480, 127, 1151, 4095, 8191]
theorem impl_BoxOf.tab7 : rtab .any (opsOf Try.f151 7) = impl_BoxOf.T7 := by kernel_rfl
theorem impl_BoxOf.bits7 : waitsOk impl_BoxOf.T7.2 impl_BoxOf.B7 = true := by kernel_rfl
def impl_BoxOf.T8 : Bool × List (List Nat × List Nat) := (true, [([], []), ([0], [0]), ([], []), ([2], [2]), ([1, 3], [1, 3]), ([], []), ([5], [5]), ([], []), ([7], [7]), ([6, 8], [6, 8]), ([0, 1, 2, 3, 4, 5, 6], []), ([10, 4, 0, 1, 2, 3, 4, 5, 6], [4, 10]), ([0, 1, 2, 3, 4, 5, 6, 7, 8, 9, 10, 11], []), ([12, 9, 11, 0, 1, 2, 3, 4, 5, 6, 7, 8, 9, 10, 11], [9, 12])])
def impl_BoxOf.B8 : List Nat := [0, 1, 0, 4, 15, 0, 32, 0, 128, 480, 127, 1151, 4095, 8191]
theorem impl_BoxOf.tab8 : rtab .any (opsOf Try.f151 8) = impl_BoxOf.T8 := by kernel_rfl
theorem impl_BoxOf.bits8 : waitsOk impl_BoxOf.T8.2 impl_BoxOf.B8 = true := by kernel_rfl
theorem impl_BoxOf.calls (k : Nat) (A0 : Option Addr) (c0 : Nat) (l0 : List (S166)) (r1 : Int) (r2 : Int) (r3 : Int) (r4 : Int) (w : World) (hr0 : Kd.C k166 w A0 l0.length l0) (hc0 : l0.length ≤ c0) (h : impl_BoxOf.f k l0 = some (r1, r2, r3, r4)) :
  Calls Try.prog 151 #[.slice A0 l0.length c0] w fun e w' => e = .returned (.agg #[.int .i64 r1, .int .i64 r2, .int .i64 r3, .int .i64 r4]) ∧ Below w.heap.size w w' := by
 have hu39 := Try.underlying39
 have hu166 := Try.underlying166
 have HR0 := Aside0.mk hr0
 have HC0 := Aside0.mk hc0
 clear hr0 hc0
 have HB := Aside0.mk (Below.refl w.heap.size w)
 have H : (if (l0.length : Int) = 0 then (impl_BoxOf.j0 k l0 true) else ((impl_pointsOk.f k l0).bind fun t275 => (impl_BoxOf.j0 k l0 (!t275)))) = some (r1, r2, r3, r4) := h
 clear h
 have HC2 := Aside0.mk H
 clear H
 go_enter Try.func151, Try.ntmps151
 go_upto_region 1 with (first | ((with_reducible refine gD 2 ?_); refine bxE #[.int .i64 0, .int .i64 0, .int .i64 0, .int .i64 0] 39 ?_; intro gb274 hg w3 BK274 hb; have GW274 := gE hg; have GE274 := gE hg; replace HB := hB hb; clear hb hg))
 (try simp only [Act.put, List.setIfInBounds_toArray, List.set_cons_zero, List.set_cons_succ])
 go_cut [13] (fun v13 wc => ∃ (kq : Nat) (x13_1 : Bool), v13 = .bool x13_1 ∧ Aside0 (impl_BoxOf.j0 kq l0 x13_1 = some (r1, r2, r3, r4)) ∧ Aside0 (kq ≤ k) ∧ Aside0 (wc.heap[gb274]? = some (.cells #[.int .i64 0, .int .i64 0, .int .i64 0, .int .i64 0] 39 (0, 0))) ∧ Aside0 (Below w.heap.size w wc))
 case first =>
  have H := HC2.out
  clear HC2
  by_cases c4 : (l0.length : Int) = 0
  ·rw [if_pos c4] at H
   have c4b0 : ((l0.length : Int) == 0) = true := beq_iff_eq.mpr c4
   have c4b1 : ((l0.length : Int) != 0) = false := bne_eq_false_iff_eq.mpr c4
   clear c4
   (first | rw [c4b0] | (simp only [i64_w, i32_w]; rw [c4b0]) | skip)
   have H' := Aside0.mk H
   clear H
   go_wp2
   go_meet
   case rel => exact ⟨_, (true), fS, H', ⟨by first | omega | exact Nat.le_refl _⟩, ⟨kS⟩, ⟨bS⟩⟩
  ·rw [if_neg c4] at H
   have c4b0 : ((l0.length : Int) == 0) = false := beq_eq_false_iff_ne.mpr c4
   have c4b1 : ((l0.length : Int) != 0) = true := bne_iff_ne.mpr c4
   have c4b2 : ¬ (l0 = []) := fun h_ => c4 (by rw [h_]; rfl)
   (first | rw [c4b0] | (simp only [i64_w, i32_w]; rw [c4b0]) | skip)
   replace H := bN H
   obtain ⟨t275, A5, H⟩ := H
   have H' := Aside0.mk H
   clear H
   go_wp2_with (first | (go_at_call 156; (with_reducible refine (impl_pointsOk.calls k _ _ l0 t275 _ (cS (Kd.C_below HR0.out HB.out)) HC0.out A5.out).mono ?_); rintro e w6 ⟨rfl, hb⟩; replace BK274 := kB (g := gb274) hb; replace HB := hB hb; (try clear hb); (try clear hb2); (try clear hk); (try clear hi)))
   go_meet
   case rel => exact ⟨_, (!t275), fS, H', ⟨by first | omega | exact Nat.le_refl _⟩, ⟨kS⟩, ⟨bS⟩⟩
 case rest =>
  clear HC2
  try clear c1
  try clear p2
  try clear c4
  try clear c4b0
  try clear c4b1
  try clear c4b2
  obtain ⟨kq, x13_1, rfl, HA, HJ1, BK274, HB⟩ := hcut
  cases kq with
  | zero => exact absurd HA.out (by simp [impl_BoxOf.j0])
  | succ kj1 =>
   have H := HA.out
   clear HA
   simp only [impl_BoxOf.j0] at H
   by_cases c7 : x13_1 = true
   ·subst c7
    rw [if_pos rfl] at H
    obtain ⟨rfl, rfl, rfl, rfl⟩ := sI4 H
    have hcz8_0 : wc.cell? ⟨gb274, 0, none⟩ = some (.int .i64 0) := (blk_cell BK274.out 0).trans rfl
    have hcz8_1 : wc.cell? ⟨gb274, 1, none⟩ = some (.int .i64 0) := (blk_cell BK274.out 1).trans rfl
    have hcz8_2 : wc.cell? ⟨gb274, 2, none⟩ = some (.int .i64 0) := (blk_cell BK274.out 2).trans rfl
    have hcz8_3 : wc.cell? ⟨gb274, 3, none⟩ = some (.int .i64 0) := (blk_cell BK274.out 3).trans rfl
    have hfz8_0 := blk_frozen BK274.out 0
    have hfz8_1 := blk_frozen BK274.out 1
    have hfz8_2 := blk_frozen BK274.out 2
    have hfz8_3 := blk_frozen BK274.out 3
    go_wp2
    refine bodyPost_ret (results_cell_row rfl _ _ gb274 39 #[.int .i64 0, .int .i64 0, .int .i64 0, .int .i64 0] (0, 0) _ rfl kS Try.underlying39 rfl (by kernel_rfl)) rfl ?_
    exact ⟨eS, bS⟩
   ·obtain rfl := Bool.eq_false_iff.mpr c7
    rw [if_neg nF] at H
    by_cases c9 : 0 < (l0.length : Int)
    ·rw [if_pos c9] at H
     have c9b0 : decide (0 < (l0.length : Int)) = true := decide_eq_true c9
     have c9b1 : decide (0 < l0.length) = true := decide_eq_true (by omega)
     clear c9
     have H' := Aside0.mk H
     clear H
     try go_wp2
     replace BK274 := Aside0.mk (blk_drew BK274.out)
     replace HB := Aside0.mk (below_drew1 HB.out)
     have p276 : 0 ≤ (0 : Int) := (by omega)
     have q276 : 0 < (l0.length : Int) := dA
     obtain ⟨ad276, e276, hx276_0, hx276_1⟩ := at_T166 HR0.out 0 p276 q276
     have hw276_1 := hx276_1
     (try rw [show ((0 : Int)).toNat = 0 from rfl] at hw276_1)
     (try rw [show 0 * 2 = 0 from rfl] at hw276_1)
     (try rw [Addr.add_zero'] at hw276_1)
     have hw276_0 := hx276_0
     (try rw [show ((0 : Int)).toNat = 0 from rfl] at hw276_0)
     (try rw [show 0 * 2 = 0 from rfl] at hw276_0)
     (try rw [Addr.add_zero'] at hw276_0)
     cases e276
     have qi276 : (0 < l0.length) = True := eq_true (by omega)
     (try rw [show ((0 : Int)).toNat = 0 from rfl] at hx276_0)
     (try rw [show 0 * 2 = 0 from rfl] at hx276_0)
     (try rw [Addr.add_zero'] at hx276_0)
     (try rw [show ((0 : Int)).toNat = 0 from rfl] at hx276_1)
     (try rw [show 0 * 2 = 0 from rfl] at hx276_1)
     (try rw [Addr.add_zero'] at hx276_1)
     replace hx276_0 := cB HB hx276_0
     replace hx276_1 := cB HB hx276_1
     replace p276 := eq_true p276
     replace q276 := eq_true q276
     have p277 : 0 ≤ (0 : Int) := (by omega)
     have q277 : 0 < (l0.length : Int) := dA
     obtain ⟨ad277, e277, hx277_0, hx277_1⟩ := at_T166 HR0.out 0 p277 q277
     have hw277_1 := hx277_1
     (try rw [show ((0 : Int)).toNat = 0 from rfl] at hw277_1)
     (try rw [show 0 * 2 = 0 from rfl] at hw277_1)
     (try rw [Addr.add_zero'] at hw277_1)
     have hw277_0 := hx277_0
     (try rw [show ((0 : Int)).toNat = 0 from rfl] at hw277_0)
     (try rw [show 0 * 2 = 0 from rfl] at hw277_0)
     (try rw [Addr.add_zero'] at hw277_0)
     obtain rfl : ad276 = ad277 := (by injection e277)
     have qi277 : (0 < l0.length) = True := eq_true (by omega)
     (try rw [show ((0 : Int)).toNat = 0 from rfl] at hx277_0)
     (try rw [show 0 * 2 = 0 from rfl] at hx277_0)
     (try rw [Addr.add_zero'] at hx277_0)
     (try rw [show ((0 : Int)).toNat = 0 from rfl] at hx277_1)
     (try rw [show 0 * 2 = 0 from rfl] at hx277_1)
     (try rw [Addr.add_zero'] at hx277_1)
     replace hx277_0 := cB HB hx277_0
     replace hx277_1 := cB HB hx277_1
     replace p277 := eq_true p277
     replace q277 := eq_true q277
     have p278 : 0 ≤ (0 : Int) := (by omega)
     have q278 : 0 < (l0.length : Int) := dA
     obtain ⟨ad278, e278, hx278_0, hx278_1⟩ := at_T166 HR0.out 0 p278 q278
     have hw278_1 := hx278_1
     (try rw [show ((0 : Int)).toNat = 0 from rfl] at hw278_1)
     (try rw [show 0 * 2 = 0 from rfl] at hw278_1)
     (try rw [Addr.add_zero'] at hw278_1)
     have hw278_0 := hx278_0
     (try rw [show ((0 : Int)).toNat = 0 from rfl] at hw278_0)
     (try rw [show 0 * 2 = 0 from rfl] at hw278_0)
     (try rw [Addr.add_zero'] at hw278_0)
     obtain rfl : ad276 = ad278 := (by injection e278)
     have qi278 : (0 < l0.length) = True := eq_true (by omega)
     (try rw [show ((0 : Int)).toNat = 0 from rfl] at hx278_0)
     (try rw [show 0 * 2 = 0 from rfl] at hx278_0)
     (try rw [Addr.add_zero'] at hx278_0)
     (try rw [show ((0 : Int)).toNat = 0 from rfl] at hx278_1)
     (try rw [show 0 * 2 = 0 from rfl] at hx278_1)
     (try rw [Addr.add_zero'] at hx278_1)
     replace hx278_0 := cB HB hx278_0
     replace hx278_1 := cB HB hx278_1
     replace p278 := eq_true p278
     replace q278 := eq_true q278
     have p279 : 0 ≤ (0 : Int) := (by omega)
     have q279 : 0 < (l0.length : Int) := dA
     obtain ⟨ad279, e279, hx279_0, hx279_1⟩ := at_T166 HR0.out 0 p279 q279
     have hw279_1 := hx279_1
     (try rw [show ((0 : Int)).toNat = 0 from rfl] at hw279_1)
     (try rw [show 0 * 2 = 0 from rfl] at hw279_1)
     (try rw [Addr.add_zero'] at hw279_1)
     have hw279_0 := hx279_0
     (try rw [show ((0 : Int)).toNat = 0 from rfl] at hw279_0)
     (try rw [show 0 * 2 = 0 from rfl] at hw279_0)
     (try rw [Addr.add_zero'] at hw279_0)
     obtain rfl : ad276 = ad279 := (by injection e279)
     have qi279 : (0 < l0.length) = True := eq_true (by omega)
     (try rw [show ((0 : Int)).toNat = 0 from rfl] at hx279_0)
     (try rw [show 0 * 2 = 0 from rfl] at hx279_0)
     (try rw [Addr.add_zero'] at hx279_0)
     (try rw [show ((0 : Int)).toNat = 0 from rfl] at hx279_1)
     (try rw [show 0 * 2 = 0 from rfl] at hx279_1)
     (try rw [Addr.add_zero'] at hx279_1)
     replace hx279_0 := cB HB hx279_0
     replace hx279_1 := cB HB hx279_1
     replace p279 := eq_true p279
     replace q279 := eq_true q279
     refine start_ (n := 19) (S := fun w' => w'.cell? ad276 = some (.int .i64 ((rd_T166 l0 0).f0)) ∧ w'.cell? ⟨ad276.block, ad276.off + 1, none⟩ = some (.int .i64 ((rd_T166 l0 0).f1)) ∧ w'.cell? ad276 = some (.int .i64 ((rd_T166 l0 0).f0)) ∧ w'.cell? ⟨ad276.block, ad276.off + 1, none⟩ = some (.int .i64 ((rd_T166 l0 0).f1)) ∧ w'.cell? ad276 = some (.int .i64 ((rd_T166 l0 0).f0)) ∧ w'.cell? ⟨ad276.block, ad276.off + 1, none⟩ = some (.int .i64 ((rd_T166 l0 0).f1)) ∧ w'.cell? ad276 = some (.int .i64 ((rd_T166 l0 0).f0)) ∧ w'.cell? ⟨ad276.block, ad276.off + 1, none⟩ = some (.int .i64 ((rd_T166 l0 0).f1))) (ds := []) #[false, false, false, false, false, false, false, false, false, false, false, false, false, false, false, false, false, false, false] (by kernel_rfl) rfl rfl ⟨(cB HB hw276_0), (cB HB hw276_1), (cB HB hw277_0), (cB HB hw277_1), (cB HB hw278_0), (cB HB hw278_1), (cB HB hw279_0), (cB HB hw279_1)⟩ (fun hHeld => ?_); refine with_tabW impl_BoxOf.tab3 impl_BoxOf.bits3 (fun HT_ HW_ => ?_)
     generalize wc.drew = w10 at BK274 HB hx276_0 hx276_1 hx277_0 hx277_1 hx278_0 hx278_1 hx279_0 hx279_1 hHeld ⊢
     refine pU 0 (some 15) #[true, false, false, false, false, false, false, false, false, false, false, false, false, false, false, false, false, false, false] ?_
     refine pU 1 (some 16) #[true, true, false, false, false, false, false, false, false, false, false, false, false, false, false, false, false, false, false] ?_
     refine pU 2 (some 17) #[true, true, true, false, false, false, false, false, false, false, false, false, false, false, false, false, false, false, false] ?_
     refine pU 4 (some 19) #[true, true, true, false, true, false, false, false, false, false, false, false, false, false, false, false, false, false, false] ?_
     refine pU 5 (some 20) #[true, true, true, false, true, true, false, false, false, false, false, false, false, false, false, false, false, false, false] ?_
     refine pU 6 (some 21) #[true, true, true, false, true, true, true, false, false, false, false, false, false, false, false, false, false, false, false] ?_
     refine pU 8 (some 23) #[true, true, true, false, true, true, true, false, true, false, false, false, false, false, false, false, false, false, false] ?_
     refine pU 9 (some 24) #[true, true, true, false, true, true, true, false, true, true, false, false, false, false, false, false, false, false, false] ?_
     refine pU 10 (some 25) #[true, true, true, false, true, true, true, false, true, true, true, false, false, false, false, false, false, false, false] ?_
     refine pU 12 (some 27) #[true, true, true, false, true, true, true, false, true, true, true, false, true, false, false, false, false, false, false] ?_
     refine pU 13 (some 28) #[true, true, true, false, true, true, true, false, true, true, true, false, true, true, false, false, false, false, false] ?_
     refine pU 14 (some 29) #[true, true, true, false, true, true, true, false, true, true, true, false, true, true, true, false, false, false, false] ?_
     refine tK 3 (some 18) #[true, true, true, true, true, true, true, false, true, true, true, false, true, true, true, false, false, false, false] ?_
     refine tK 7 (some 22) #[true, true, true, true, true, true, true, true, true, true, true, false, true, true, true, false, false, false, false] ?_
     refine tK 11 (some 26) #[true, true, true, true, true, true, true, true, true, true, true, true, true, true, true, false, false, false, false] ?_
     refine tK 15 (some 30) #[true, true, true, true, true, true, true, true, true, true, true, true, true, true, true, true, false, false, false] ?_
     refine pU 16 (some 31) #[true, true, true, true, true, true, true, true, true, true, true, true, true, true, true, true, true, false, false] ?_
     refine one_ (i := 17) (N := some 3) #[true, true, true, true, true, true, true, true, true, true, true, true, true, true, true, true, true, true, false] rfl rfl (one_of HT_.out (by kernel_rfl)) (by decide) (fun K hK => ?_)
     refine box_step ?hg (N := 3) ?hd (cs := #[.int .i64 0, .int .i64 0, .int .i64 0, .int .i64 0]) (t := 39) ?hr ?_; (case hd => rfl); (case hg => rfl); (case hr => first | (go_simp; done) | (go_simp; rfl))
     intro gb280 hg w11 hbox hb
     have BK280 := Aside0.mk (hbox)
     have GW280 := gE hg
     have GE280 := gE hg
     have NB274_280 := nL (g := gb274) hg
     have NB280_274 := nG (g := gb274) hg
     replace BK274 := kB (g := gb274) hb
     replace HB := hB hb
     clear hb hg
     refine hK.out _ _ ⟨(cB HB hw276_0), (cB HB hw276_1), (cB HB hw277_0), (cB HB hw277_1), (cB HB hw278_0), (cB HB hw278_1), (cB HB hw279_0), (cB HB hw279_1)⟩ (fun hHeld => ?_)
     clear hK K
     refine norm_ (a' := ?_) ?_ ?_
     rotate_left
     ·show Act.put _ (some 3) _ = _
      simp only [Act.put, List.setIfInBounds_toArray, List.set_cons_zero, List.set_cons_succ, i64_w, i32_w]
      rfl
     refine one_ (i := 18) (N := none) #[true, true, true, true, true, true, true, true, true, true, true, true, true, true, true, true, true, true, true] rfl rfl (one_of HT_.out (by kernel_rfl)) (by decide) (fun K hK => ?_)
     have hs12 : w11.cell? ⟨gb280, 0, none⟩ = some (.int .i64 0) := (blk_cell BK280.out 0).trans rfl
     have hfs12 := blk_frozen BK280.out 0
     have hns12_0 := NB274_280.out
     have hms12_0 := NB280_274.out
     have hs13 : w11.cell? ⟨gb280, 1, none⟩ = some (.int .i64 0) := (blk_cell BK280.out 1).trans rfl
     have hfs13 := blk_frozen BK280.out 1
     have hns13_0 := NB274_280.out
     have hms13_0 := NB280_274.out
     have hs14 : w11.cell? ⟨gb280, 2, none⟩ = some (.int .i64 0) := (blk_cell BK280.out 2).trans rfl
     have hfs14 := blk_frozen BK280.out 2
     have hns14_0 := NB274_280.out
     have hms14_0 := NB280_274.out
     have hs15 : w11.cell? ⟨gb280, 3, none⟩ = some (.int .i64 0) := (blk_cell BK280.out 3).trans rfl
     have hfs15 := blk_frozen BK280.out 3
     have hns15_0 := NB274_280.out
     have hms15_0 := NB280_274.out
     refine skip_ (w1 := ?_) (by rfl) rfl ?_ ?_
     rotate_left
     ·go_simp
      rfl
     refine hK.out _ _ ⟨((cell_far (p := ⟨gb280, _, none⟩) (nA hw276_0 GW280) _).trans (((cell_far (p := ⟨gb280, _, none⟩) (nA hw276_0 GW280) _).trans (((cell_far (p := ⟨gb280, _, none⟩) (nA hw276_0 GW280) _).trans (((cell_far (p := ⟨gb280, _, none⟩) (nA hw276_0 GW280) _).trans (hHeld.1)))))))), ((cell_far (p := ⟨gb280, _, none⟩) (nA hw276_1 GW280) _).trans (((cell_far (p := ⟨gb280, _, none⟩) (nA hw276_1 GW280) _).trans (((cell_far (p := ⟨gb280, _, none⟩) (nA hw276_1 GW280) _).trans (((cell_far (p := ⟨gb280, _, none⟩) (nA hw276_1 GW280) _).trans (hHeld.2.1)))))))), ((cell_far (p := ⟨gb280, _, none⟩) (nA hw277_0 GW280) _).trans (((cell_far (p := ⟨gb280, _, none⟩) (nA hw277_0 GW280) _).trans (((cell_far (p := ⟨gb280, _, none⟩) (nA hw277_0 GW280) _).trans (((cell_far (p := ⟨gb280, _, none⟩) (nA hw277_0 GW280) _).trans (hHeld.2.2.1)))))))), ((cell_far (p := ⟨gb280, _, none⟩) (nA hw277_1 GW280) _).trans (((cell_far (p := ⟨gb280, _, none⟩) (nA hw277_1 GW280) _).trans (((cell_far (p := ⟨gb280, _, none⟩) (nA hw277_1 GW280) _).trans (((cell_far (p := ⟨gb280, _, none⟩) (nA hw277_1 GW280) _).trans (hHeld.2.2.2.1)))))))), ((cell_far (p := ⟨gb280, _, none⟩) (nA hw278_0 GW280) _).trans (((cell_far (p := ⟨gb280, _, none⟩) (nA hw278_0 GW280) _).trans (((cell_far (p := ⟨gb280, _, none⟩) (nA hw278_0 GW280) _).trans (((cell_far (p := ⟨gb280, _, none⟩) (nA hw278_0 GW280) _).trans (hHeld.2.2.2.2.1)))))))), ((cell_far (p := ⟨gb280, _, none⟩) (nA hw278_1 GW280) _).trans (((cell_far (p := ⟨gb280, _, none⟩) (nA hw278_1 GW280) _).trans (((cell_far (p := ⟨gb280, _, none⟩) (nA hw278_1 GW280) _).trans (((cell_far (p := ⟨gb280, _, none⟩) (nA hw278_1 GW280) _).trans (hHeld.2.2.2.2.2.1)))))))), ((cell_far (p := ⟨gb280, _, none⟩) (nA hw279_0 GW280) _).trans (((cell_far (p := ⟨gb280, _, none⟩) (nA hw279_0 GW280) _).trans (((cell_far (p := ⟨gb280, _, none⟩) (nA hw279_0 GW280) _).trans (((cell_far (p := ⟨gb280, _, none⟩) (nA hw279_0 GW280) _).trans (hHeld.2.2.2.2.2.2.1)))))))), ((cell_far (p := ⟨gb280, _, none⟩) (nA hw279_1 GW280) _).trans (((cell_far (p := ⟨gb280, _, none⟩) (nA hw279_1 GW280) _).trans (((cell_far (p := ⟨gb280, _, none⟩) (nA hw279_1 GW280) _).trans (((cell_far (p := ⟨gb280, _, none⟩) (nA hw279_1 GW280) _).trans (hHeld.2.2.2.2.2.2.2))))))))⟩ (fun hHeld => ?_)
     clear hK K
     refine done_ (done_of HT_.out (by kernel_rfl)) ?_
     try go_wp2
     go_loopg [34] kj1 (fun kq v34 w' => ∃ (x34_2 : Int) (x281000_2 : Int) (x281001_2 : Int) (x281002_2 : Int) (x281003_2 : Int), v34 = .int .i64 x34_2 ∧ Aside0 (impl_BoxOf.l0 kq l0 (l0.length : Int) x34_2 x281000_2 x281001_2 x281002_2 x281003_2 = some (r1, r2, r3, r4)) ∧ Aside0 (kq ≤ kj1) ∧ Aside0 (w'.heap[gb274]? = some (.cells #[.int .i64 0, .int .i64 0, .int .i64 0, .int .i64 0] 39 (0, 0))) ∧ Aside0 (w'.heap[gb280]? = some (.cells #[.int .i64 x281000_2, .int .i64 x281001_2, .int .i64 x281002_2, .int .i64 x281003_2] 39 (0, 0))) ∧ Aside0 (Below w.heap.size w w'))
     case atStart => exact ⟨(0), ((rd_T166 l0 0).f0), ((rd_T166 l0 0).f1), ((rd_T166 l0 0).f0), ((rd_T166 l0 0).f1), fS, H', ⟨Nat.le_refl _⟩, ⟨kS⟩, ⟨kS⟩, ⟨bS⟩⟩
     case round =>
      clear H'
      try clear c1
      try clear p2
      try clear q2
      try clear hx2
      try clear qi2
      try clear c4
      try clear c4b0
      try clear c4b1
      try clear c4b2
      try clear c7
      try clear c9
      try clear c9b0
      try clear c9b1
      try clear c15
      try clear hcz8_0
      try clear hcz8_1
      try clear hcz8_2
      try clear hcz8_3
      try clear hfz8_0
      try clear hfz8_1
      try clear hfz8_2
      try clear hfz8_3
      try clear hx276_0
      try clear hx276_1
      try clear hx277_0
      try clear hx277_1
      try clear hx278_0
      try clear hx278_1
      try clear hx279_0
      try clear hx279_1
      try clear p2
      try clear p276
      try clear p277
      try clear p278
      try clear p279
      try clear q276
      try clear q277
      try clear q278
      try clear q279
      obtain ⟨x34_2, x281000_2, x281001_2, x281002_2, x281003_2, rfl, HA, HK2, BK274, BK280, HB⟩ := hrel
      cases gk with
      | zero => exact absurd HA.out (by simp [impl_BoxOf.l0])
      | succ k2 =>
       have H := HA.out
       clear HA
       simp only [impl_BoxOf.l0] at H
       rcases iD H with ⟨c16b0, H⟩ | ⟨c16b0, H⟩
       ·obtain ⟨c17b0, H⟩ := iT H
        obtain ⟨c18b0, H⟩ := iT H
        obtain ⟨ji19, hji19⟩ : ∃ j_ : Int, (mn x281000_2 ((rd_T166 l0 x34_2).f0)) = j_ := ⟨_, rfl⟩
        replace H : (impl_BoxOf.l0 k2 l0 (l0.length : Int) (wrap64 (x34_2 + 1)) ji19 (mn x281001_2 ((rd_T166 l0 x34_2).f1)) (mx x281002_2 ((rd_T166 l0 x34_2).f0)) (mx x281003_2 ((rd_T166 l0 x34_2).f1))) = some (r1, r2, r3, r4) := by first | (rw [hji19] at H; exact H) | (simp only [hji19] at H ⊢; exact H)
        have hji19_ : (if ((rd_T166 l0 x34_2).f0) < x281000_2 then ((rd_T166 l0 x34_2).f0) else x281000_2) = ji19 := hji19
        obtain ⟨ji20, hji20⟩ : ∃ j_ : Int, (mn x281001_2 ((rd_T166 l0 x34_2).f1)) = j_ := ⟨_, rfl⟩
        replace H : (impl_BoxOf.l0 k2 l0 (l0.length : Int) (wrap64 (x34_2 + 1)) ji19 ji20 (mx x281002_2 ((rd_T166 l0 x34_2).f0)) (mx x281003_2 ((rd_T166 l0 x34_2).f1))) = some (r1, r2, r3, r4) := by first | (rw [hji20] at H; exact H) | (simp only [hji20] at H ⊢; exact H)
        have hji20_ : (if ((rd_T166 l0 x34_2).f1) < x281001_2 then ((rd_T166 l0 x34_2).f1) else x281001_2) = ji20 := hji20
        obtain ⟨ji21, hji21⟩ : ∃ j_ : Int, (mx x281002_2 ((rd_T166 l0 x34_2).f0)) = j_ := ⟨_, rfl⟩
        replace H : (impl_BoxOf.l0 k2 l0 (l0.length : Int) (wrap64 (x34_2 + 1)) ji19 ji20 ji21 (mx x281003_2 ((rd_T166 l0 x34_2).f1))) = some (r1, r2, r3, r4) := by first | (rw [hji21] at H; exact H) | (simp only [hji21] at H ⊢; exact H)
        have hji21_ : (if x281002_2 < ((rd_T166 l0 x34_2).f0) then ((rd_T166 l0 x34_2).f0) else x281002_2) = ji21 := hji21
        obtain ⟨ji22, hji22⟩ : ∃ j_ : Int, (mx x281003_2 ((rd_T166 l0 x34_2).f1)) = j_ := ⟨_, rfl⟩
        replace H : (impl_BoxOf.l0 k2 l0 (l0.length : Int) (wrap64 (x34_2 + 1)) ji19 ji20 ji21 ji22) = some (r1, r2, r3, r4) := by first | (rw [hji22] at H; exact H) | (simp only [hji22] at H ⊢; exact H)
        have hji22_ : (if x281003_2 < ((rd_T166 l0 x34_2).f1) then ((rd_T166 l0 x34_2).f1) else x281003_2) = ji22 := hji22
        have H' := Aside0.mk H
        clear H
        have p281 : 0 ≤ (x34_2 : Int) := dA
        have q281 : x34_2 < (l0.length : Int) := dA
        obtain ⟨ad281, e281, hx281_0, hx281_1⟩ := at_T166 HR0.out x34_2 p281 q281
        obtain rfl : ad276 = ad281 := (by injection e281)
        replace hx281_0 := cB HB hx281_0
        replace hx281_1 := cB HB hx281_1
        replace p281 := eq_true p281
        replace q281 := eq_true q281
        try go_wp2_with (first | ((with_reducible refine gD 5 ?_); refine bxE #[.int .i64 0, .int .i64 0] 166 ?_; intro gb282 hg w23 BK282 hb; have GW282 := gE hg; have GE282 := gE hg; have NB274_282 := nL (g := gb274) hg; have NB282_274 := nG (g := gb274) hg; have NB280_282 := nL (g := gb280) hg; have NB282_280 := nG (g := gb280) hg; replace BK274 := kB (g := gb274) hb; replace BK280 := kB (g := gb280) hb; replace HB := hB hb; clear hb hg; have hnb24 := NB282_274.out; have hnc24 := NB274_282.out; have hnb25 := NB282_280.out; have hnc25 := NB280_282.out; have hz26 := cz2 BK282))
        have n0_ : Aside0 (((w23.setCell ⟨gb282, 0, none⟩ (.int .i64 ((rd_T166 l0 x34_2).f0))).setCell ⟨gb282, 1, none⟩ (.int .i64 ((rd_T166 l0 x34_2).f1))).heap[gb274]? = some (.cells #[.int .i64 0, .int .i64 0, .int .i64 0, .int .i64 0] 39 (0, 0))) := ⟨kS⟩
        have n1_ : Aside0 (((w23.setCell ⟨gb282, 0, none⟩ (.int .i64 ((rd_T166 l0 x34_2).f0))).setCell ⟨gb282, 1, none⟩ (.int .i64 ((rd_T166 l0 x34_2).f1))).heap[gb280]? = some (.cells #[.int .i64 x281000_2, .int .i64 x281001_2, .int .i64 x281002_2, .int .i64 x281003_2] 39 (0, 0))) := ⟨kS⟩
        have n2_ : Aside0 (((w23.setCell ⟨gb282, 0, none⟩ (.int .i64 ((rd_T166 l0 x34_2).f0))).setCell ⟨gb282, 1, none⟩ (.int .i64 ((rd_T166 l0 x34_2).f1))).heap[gb282]? = some (.cells #[.int .i64 ((rd_T166 l0 x34_2).f0), .int .i64 ((rd_T166 l0 x34_2).f1)] 166 (0, 0))) := ⟨kS⟩
        have n3_ : Aside0 (Below w.heap.size w ((w23.setCell ⟨gb282, 0, none⟩ (.int .i64 ((rd_T166 l0 x34_2).f0))).setCell ⟨gb282, 1, none⟩ (.int .i64 ((rd_T166 l0 x34_2).f1)))) := ⟨bS⟩
        (try clear BK274)
        (try clear BK280)
        (try clear BK282)
        (try clear HB)
        generalize ((w23.setCell ⟨gb282, 0, none⟩ (.int .i64 ((rd_T166 l0 x34_2).f0))).setCell ⟨gb282, 1, none⟩ (.int .i64 ((rd_T166 l0 x34_2).f1))) = w27 at n0_ n1_ n2_ n3_ ⊢
        have BK274 := n0_
        have BK280 := n1_
        have BK282 := n2_
        have HB := n3_
        clear n0_ n1_ n2_ n3_
        replace BK274 := Aside0.mk (blk_drew BK274.out)
        replace BK280 := Aside0.mk (blk_drew BK280.out)
        replace BK282 := Aside0.mk (blk_drew BK282.out)
        replace HB := Aside0.mk (below_drew1 HB.out)
        refine start_ (n := 14) (S := fun w' => w'.cell? ⟨gb280, 1, none⟩ = some (.int .i64 x281001_2) ∧ w'.cell? ⟨gb280, 2, none⟩ = some (.int .i64 x281002_2) ∧ w'.cell? ⟨gb280, 3, none⟩ = some (.int .i64 x281003_2) ∧ w'.cell? ⟨gb282, 0, none⟩ = some (.int .i64 ((rd_T166 l0 x34_2).f0)) ∧ w'.cell? ⟨gb282, 1, none⟩ = some (.int .i64 ((rd_T166 l0 x34_2).f1))) (ds := [13]) #[false, false, false, false, false, false, false, false, false, false, false, false, false, false] (by kernel_rfl) rfl rfl ⟨(blk_cell BK280.out 1).trans rfl, (blk_cell BK280.out 2).trans rfl, (blk_cell BK280.out 3).trans rfl, (blk_cell BK282.out 0).trans rfl, (blk_cell BK282.out 1).trans rfl⟩ (fun hHeld => ?_); refine with_tabW impl_BoxOf.tab7 impl_BoxOf.bits7 (fun HT_ HW_ => ?_)
        generalize w27.drew = w28 at BK274 BK280 BK282 HB hHeld ⊢
        refine pU 0 (some 38) #[true, false, false, false, false, false, false, false, false, false, false, false, false, false] ?_
        refine pU 2 (some 40) #[true, false, true, false, false, false, false, false, false, false, false, false, false, false] ?_
        refine pU 5 (some 43) #[true, false, true, false, false, true, false, false, false, false, false, false, false, false] ?_
        refine pU 7 (some 45) #[true, false, true, false, false, true, false, true, false, false, false, false, false, false] ?_
        refine tK 3 (some 41) #[true, false, true, true, false, true, false, true, false, false, false, false, false, false] ?_
        refine tK 6 (some 44) #[true, false, true, true, false, true, true, true, false, false, false, false, false, false] ?_
        refine tK 8 (some 46) #[true, false, true, true, false, true, true, true, true, false, false, false, false, false] ?_
        refine pU 9 (some 47) #[true, false, true, true, false, true, true, true, true, true, false, false, false, false] ?_
        refine one_ (i := 1) (N := some 39) #[true, true, true, true, false, true, true, true, true, true, false, false, false, false] rfl rfl (one_of HT_.out (by kernel_rfl)) (by decide) (fun K hK => ?_)
        have hl1_ := (blk_cell BK280.out 0).trans (show _ = some (.int .i64 x281000_2) from rfl)
        refine value_ (w1 := ?_) (v := ?_) (by rfl) rfl ?_ ?_
        rotate_left 2
        ·go_simp
         constructor
         ·rfl
         ·rfl
        refine hK.out _ _ ⟨hHeld.1, hHeld.2.1, hHeld.2.2.1, hHeld.2.2.2.1, hHeld.2.2.2.2⟩ (fun hHeld => ?_)
        clear hK K
        refine norm_ (a' := ?_) ?_ ?_
        rotate_left
        ·show Act.put _ (some 39) _ = _
         simp only [Act.put, List.setIfInBounds_toArray, List.set_cons_zero, List.set_cons_succ, i64_w, i32_w]
         rfl
        refine pU 4 (some 42) #[true, true, true, true, true, true, true, true, true, true, false, false, false, false] ?_
        refine pU 10 (some 48) #[true, true, true, true, true, true, true, true, true, true, true, false, false, false] ?_
        refine one_ (i := 11) (N := none) #[true, true, true, true, true, true, true, true, true, true, true, true, false, false] rfl rfl (one_of HT_.out (by kernel_rfl)) (by decide) (fun K hK => ?_)
        have hs29 : w28.cell? ⟨gb280, 0, none⟩ = some (.int .i64 x281000_2) := (blk_cell BK280.out 0).trans rfl
        have hfs29 := blk_frozen BK280.out 0
        have hns29_0 := NB274_280.out
        have hns29_2 := NB282_280.out
        have hms29_0 := NB280_274.out
        have hms29_2 := NB280_282.out
        refine skip_ (w1 := ?_) (by rfl) rfl ?_ ?_
        rotate_left
        ·go_simp
         rfl
        refine hK.out _ _ ⟨(cell_off (by decide) _).trans (hHeld.1), (cell_off (by decide) _).trans (hHeld.2.1), (cell_off (by decide) _).trans (hHeld.2.2.1), ((cell_far (p := ⟨gb280, _, none⟩) NB282_280.out _).trans (hHeld.2.2.2.1)), ((cell_far (p := ⟨gb280, _, none⟩) NB282_280.out _).trans (hHeld.2.2.2.2))⟩ (fun hHeld => ?_)
        clear hK K
        refine pU 12 (some 49) #[true, true, true, true, true, true, true, true, true, true, true, true, true, false] ?_
        refine last_ (i := 13) (N := none) #[true, true, true, true, true, true, true, true, true, true, true, true, true, true] rfl rfl (one_of HT_.out (by kernel_rfl)) (by decide) (fun K hK => ?_)
        have hs30 : w28.cell? ⟨gb280, 1, none⟩ = some (.int .i64 x281001_2) := (blk_cell BK280.out 1).trans rfl
        have hfs30 := blk_frozen BK280.out 1
        have hns30_0 := NB274_280.out
        have hns30_2 := NB282_280.out
        have hms30_0 := NB280_274.out
        have hms30_2 := NB280_282.out
        refine skip_ (w1 := ?_) (by rfl) rfl ?_ ?_
        rotate_left
        ·go_simp
         rfl
        refine hK.out _ _ ?_
        clear hK K
        refine done_ (done_of HT_.out (by kernel_rfl)) ?_
        try go_wp2
        have n0_ : Aside0 (((w28.setCell ⟨gb280, 0, none⟩ (.int .i64 ji19)).setCell ⟨gb280, 1, none⟩ (.int .i64 ji20)).heap[gb274]? = some (.cells #[.int .i64 0, .int .i64 0, .int .i64 0, .int .i64 0] 39 (0, 0))) := ⟨kS⟩
        have n1_ : Aside0 (((w28.setCell ⟨gb280, 0, none⟩ (.int .i64 ji19)).setCell ⟨gb280, 1, none⟩ (.int .i64 ji20)).heap[gb280]? = some (.cells #[.int .i64 ji19, .int .i64 ji20, .int .i64 x281002_2, .int .i64 x281003_2] 39 (0, 0))) := ⟨kS⟩
        have n2_ : Aside0 (((w28.setCell ⟨gb280, 0, none⟩ (.int .i64 ji19)).setCell ⟨gb280, 1, none⟩ (.int .i64 ji20)).heap[gb282]? = some (.cells #[.int .i64 ((rd_T166 l0 x34_2).f0), .int .i64 ((rd_T166 l0 x34_2).f1)] 166 (0, 0))) := ⟨kS⟩
        have n3_ : Aside0 (Below w.heap.size w ((w28.setCell ⟨gb280, 0, none⟩ (.int .i64 ji19)).setCell ⟨gb280, 1, none⟩ (.int .i64 ji20))) := ⟨bS⟩
        (try clear BK274)
        (try clear BK280)
        (try clear BK282)
        (try clear HB)
        generalize ((w28.setCell ⟨gb280, 0, none⟩ (.int .i64 ji19)).setCell ⟨gb280, 1, none⟩ (.int .i64 ji20)) = w31 at n0_ n1_ n2_ n3_ ⊢
        have BK274 := n0_
        have BK280 := n1_
        have BK282 := n2_
        have HB := n3_
        clear n0_ n1_ n2_ n3_
        replace BK274 := Aside0.mk (blk_drew BK274.out)
        replace BK280 := Aside0.mk (blk_drew BK280.out)
        replace BK282 := Aside0.mk (blk_drew BK282.out)
        replace HB := Aside0.mk (below_drew1 HB.out)
        refine start_ (n := 14) (S := fun w' => w'.cell? ⟨gb280, 0, none⟩ = some (.int .i64 ji19) ∧ w'.cell? ⟨gb280, 1, none⟩ = some (.int .i64 ji20) ∧ w'.cell? ⟨gb280, 3, none⟩ = some (.int .i64 x281003_2) ∧ w'.cell? ⟨gb282, 0, none⟩ = some (.int .i64 ((rd_T166 l0 x34_2).f0)) ∧ w'.cell? ⟨gb282, 1, none⟩ = some (.int .i64 ((rd_T166 l0 x34_2).f1))) (ds := [13]) #[false, false, false, false, false, false, false, false, false, false, false, false, false, false] (by kernel_rfl) rfl rfl ⟨(blk_cell BK280.out 0).trans rfl, (blk_cell BK280.out 1).trans rfl, (blk_cell BK280.out 3).trans rfl, (blk_cell BK282.out 0).trans rfl, (blk_cell BK282.out 1).trans rfl⟩ (fun hHeld => ?_); refine with_tabW impl_BoxOf.tab8 impl_BoxOf.bits8 (fun HT_ HW_ => ?_)
        generalize w31.drew = w32 at BK274 BK280 BK282 HB hHeld ⊢
        refine pU 0 (some 50) #[true, false, false, false, false, false, false, false, false, false, false, false, false, false] ?_
        refine pU 2 (some 52) #[true, false, true, false, false, false, false, false, false, false, false, false, false, false] ?_
        refine pU 5 (some 55) #[true, false, true, false, false, true, false, false, false, false, false, false, false, false] ?_
        refine pU 7 (some 57) #[true, false, true, false, false, true, false, true, false, false, false, false, false, false] ?_
        refine tK 3 (some 53) #[true, false, true, true, false, true, false, true, false, false, false, false, false, false] ?_
        refine tK 6 (some 56) #[true, false, true, true, false, true, true, true, false, false, false, false, false, false] ?_
        refine tK 8 (some 58) #[true, false, true, true, false, true, true, true, true, false, false, false, false, false] ?_
        refine pU 9 (some 59) #[true, false, true, true, false, true, true, true, true, true, false, false, false, false] ?_
        refine one_ (i := 1) (N := some 51) #[true, true, true, true, false, true, true, true, true, true, false, false, false, false] rfl rfl (one_of HT_.out (by kernel_rfl)) (by decide) (fun K hK => ?_)
        have hl1_ := (blk_cell BK280.out 2).trans (show _ = some (.int .i64 x281002_2) from rfl)
        refine value_ (w1 := ?_) (v := ?_) (by rfl) rfl ?_ ?_
        rotate_left 2
        ·go_simp
         constructor
         ·rfl
         ·rfl
        refine hK.out _ _ ⟨hHeld.1, hHeld.2.1, hHeld.2.2.1, hHeld.2.2.2.1, hHeld.2.2.2.2⟩ (fun hHeld => ?_)
        clear hK K
        refine norm_ (a' := ?_) ?_ ?_
        rotate_left
        ·show Act.put _ (some 51) _ = _
         simp only [Act.put, List.setIfInBounds_toArray, List.set_cons_zero, List.set_cons_succ, i64_w, i32_w]
         rfl
        refine pU 4 (some 54) #[true, true, true, true, true, true, true, true, true, true, false, false, false, false] ?_
        refine pU 10 (some 60) #[true, true, true, true, true, true, true, true, true, true, true, false, false, false] ?_
        refine one_ (i := 11) (N := none) #[true, true, true, true, true, true, true, true, true, true, true, true, false, false] rfl rfl (one_of HT_.out (by kernel_rfl)) (by decide) (fun K hK => ?_)
        have hs33 : w32.cell? ⟨gb280, 2, none⟩ = some (.int .i64 x281002_2) := (blk_cell BK280.out 2).trans rfl
        have hfs33 := blk_frozen BK280.out 2
        have hns33_0 := NB274_280.out
        have hns33_2 := NB282_280.out
        have hms33_0 := NB280_274.out
        have hms33_2 := NB280_282.out
        refine skip_ (w1 := ?_) (by rfl) rfl ?_ ?_
        rotate_left
        ·go_simp
         rfl
        refine hK.out _ _ ⟨(cell_off (by decide) _).trans (hHeld.1), (cell_off (by decide) _).trans (hHeld.2.1), (cell_off (by decide) _).trans (hHeld.2.2.1), ((cell_far (p := ⟨gb280, _, none⟩) NB282_280.out _).trans (hHeld.2.2.2.1)), ((cell_far (p := ⟨gb280, _, none⟩) NB282_280.out _).trans (hHeld.2.2.2.2))⟩ (fun hHeld => ?_)
        clear hK K
        refine pU 12 (some 61) #[true, true, true, true, true, true, true, true, true, true, true, true, true, false] ?_
        refine last_ (i := 13) (N := none) #[true, true, true, true, true, true, true, true, true, true, true, true, true, true] rfl rfl (one_of HT_.out (by kernel_rfl)) (by decide) (fun K hK => ?_)
        have hs34 : w32.cell? ⟨gb280, 3, none⟩ = some (.int .i64 x281003_2) := (blk_cell BK280.out 3).trans rfl
        have hfs34 := blk_frozen BK280.out 3
        have hns34_0 := NB274_280.out
        have hns34_2 := NB282_280.out
        have hms34_0 := NB280_274.out
        have hms34_2 := NB280_282.out
        refine skip_ (w1 := ?_) (by rfl) rfl ?_ ?_
        rotate_left
        ·go_simp
         rfl
        refine hK.out _ _ ?_
        clear hK K
        refine done_ (done_of HT_.out (by kernel_rfl)) ?_
        try go_wp2
        go_roundg k2
        case measure => have := HJ1.out; have := HK2.out; omega
        case rel => exact ⟨(wrap64 (x34_2 + 1)), (ji19), (ji20), (ji21), (ji22), fS, H', ⟨by have := HJ1.out; have := HK2.out; omega⟩, ⟨kS⟩, ⟨kS⟩, ⟨bS⟩⟩
       ·obtain ⟨rfl, rfl, rfl, rfl⟩ := sI4 H
        have hnb35 := NB280_274.out
        have hnc35 := NB274_280.out
        have hz36 := cz4 BK280
        have hz37 := cz4 BK274
        go_wp2
        refine bodyPost_ret (results_cell_row rfl _ _ gb274 39 #[.int .i64 x281000_2, .int .i64 x281001_2, .int .i64 x281002_2, .int .i64 x281003_2] (0, 0) _ rfl kS Try.underlying39 rfl (by kernel_rfl)) rfl ?_
        exact ⟨eS, bS⟩
    ·rw [if_neg c9] at H
     exact absurd H (by simp)

/-! ### impl_pageBox: function 152 -/
def impl_pageBox.f  : Option (Int × Int × Int × Int) := some (0, 0, 32, 32)
theorem impl_pageBox.calls  (r1 : Int) (r2 : Int) (r3 : Int) (r4 : Int) (w : World) (h : impl_pageBox.f  = some (r1, r2, r3, r4)) :
  Calls Try.prog 152 #[] w fun e w' => e = .returned (.agg #[.int .i64 r1, .int .i64 r2, .int .i64 r3, .int .i64 r4]) ∧ Below w.heap.size w w' := by
 have hu39 := Try.underlying39
 have HB := Aside0.mk (Below.refl w.heap.size w)
 have H : (some (0, 0, 32, 32)) = some (r1, r2, r3, r4) := h
 clear h
 obtain ⟨rfl, rfl, rfl, rfl⟩ := sI4 H
 go_enter Try.func152, Try.ntmps152
 go_wp2_with (first | ((with_reducible refine gD 0 ?_); refine bxE #[.int .i64 0, .int .i64 0, .int .i64 0, .int .i64 0] 39 ?_; intro gb283 hg w1 BK283 hb; have GW283 := gE hg; have GE283 := gE hg; replace HB := hB hb; clear hb hg; have hz2 := cz4 BK283))
 refine bodyPost_ret (results_cell_row rfl _ _ gb283 39 #[.int .i64 0, .int .i64 0, .int .i64 32, .int .i64 32] (0, 0) _ rfl kS Try.underlying39 rfl (by kernel_rfl)) rfl ?_
 exact ⟨eS, bS⟩

end Go.Proofs.Ytimpejidlnjhlaa.QFnPageDots
