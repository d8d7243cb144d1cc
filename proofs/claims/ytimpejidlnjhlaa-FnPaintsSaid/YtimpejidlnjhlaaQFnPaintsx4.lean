-- Made out of the translation by a program of this session (a changed copy of the print). Not trusted: Lean checks it.
import Derived.Test.YtimpejidlnjhlaaQFnPaintsx0
import Derived.Test.YtimpejidlnjhlaaQFnPaintsx3
namespace Go.Proofs.Ytimpejidlnjhlaa.QFnPaints
open Go.RowKit Go.Proofs.YtimpejidlnjhlaaW.PrintWords Go.Proofs.YtimpejidlnjhlaaW.PrintLast Go.Proofs.YtimpejidlnjhlaaW.PrintMore
attribute [local go_sem] max2_int min2_int max_two min_two max_three min_three max_four min_four   -- for this text's walks alone
set_option linter.unusedVariables false
set_option linter.unusedSimpArgs false
set_option maxHeartbeats 8000000
set_option maxRecDepth 100000

/-! ### impl_BoxOf: function 151 -/
mutual
def impl_BoxOf.j0 : Nat → List (S166) → Bool → Option (Int × Int × Int × Int)
  | 0, _, _ => none
  | k + 1, x0, x13 => if x13 = true then (some (0, 0, 0, 0)) else (if 0 < (x0.length : Int) then (impl_BoxOf.l0 k x0 (x0.length : Int) 0 ((rd_T166 x0 0).f0) ((rd_T166 x0 0).f1) ((rd_T166 x0 0).f0) ((rd_T166 x0 0).f1)) else (none))
def impl_BoxOf.l0 : Nat → List (S166) → Int → Int → Int → Int → Int → Int → Option (Int × Int × Int × Int)
  | 0, _, _, _, _, _, _, _ => none
  | k + 1, x32, x33, x34, x337000, x337001, x337002, x337003 => if x34 < x33 then (if 0 ≤ x34 then (if x34 < (x32.length : Int) then (impl_BoxOf.l0 k x32 x33 (wrap64 (x34 + 1)) (mn x337000 ((rd_T166 x32 x34).f0)) (mn x337001 ((rd_T166 x32 x34).f1)) (mx x337002 ((rd_T166 x32 x34).f0)) (mx x337003 ((rd_T166 x32 x34).f1))) else (none)) else (none)) else (some (x337000, x337001, x337002, x337003))
end
def impl_BoxOf.f (k : Nat) (l0 : List (S166)) : Option (Int × Int × Int × Int) := if (l0.length : Int) = 0 then (impl_BoxOf.j0 k l0 true) else ((impl_pointsOk.f k l0).bind fun t331 => (impl_BoxOf.j0 k l0 (!t331)))
def impl_BoxOf.T3 : Bool × List (List Nat × List Nat) := (true, [([], []), ([0], [0]), ([1], [1]), ([2], [2]), ([], []), ([4], [4]), ([5], [5]), ([6], [6]), ([], []), ([8], [8]), ([9], [9]), ([10], [10]), ([], []), ([12], [12]), ([13], [13]), ([14], [14]), ([3, 7, 11, 15], [3, 7, 11, 15]), ([], []), ([17, 16, 0, 1, 2, 3, 4, 5, 6, 7, 8, 9, 10, 11, 12, 13, 14, 15, 16, 17], [16, 17])])
def impl_BoxOf.B3 : List Nat := [0, 1, 3, 7, 0, 16, 48, 112, 0, 256, 768, 1792, 0, 4096, 12288, 28672, 65535, 0, 262143]
theorem impl_BoxOf.tab3 : rtab .any (opsOf Try.f151 3) = impl_BoxOf.T3 := by kernel_rfl
theorem impl_BoxOf.bits3 : waitsOk impl_BoxOf.T3.2 impl_BoxOf.B3 = true := by kernel_rfl
def impl_BoxOf.T7 : Bool × List (List Nat × List Nat) := (true, [([], []), ([0], [0]), ([], []), ([2], [2]), ([1, 3], [1, 3]), ([], []), ([5], [5]), ([], []), ([7], [7]), ([6, 8], [6, 8]), ([0, 1, 2, 3, 4, 5, 6], []), ([10, 4, 0, 1, 2, 3, 4, 5, 6], [4, 10]), ([0, 1, 2, 3, 4, 5, 6, 7, 8, 9, 10, 11], []), ([12, 9, 11, 0, 1, 2, 3, 4, 5, 6, 7, 8, 9, 10, 11], [9, 12])])
def impl_BoxOf.B7 : List Nat := [0, 1, 0, 4, 15, 0, 32, 0, 128, 480, 127, 1151, 4095, 8191]
theorem impl_BoxOf.tab7 : rtab .any (opsOf Try.f151 7) = impl_BoxOf.T7 := by kernel_rfl
theorem impl_BoxOf.bits7 : waitsOk impl_BoxOf.T7.2 impl_BoxOf.B7 = true := by kernel_rfl
def impl_BoxOf.T8 : Bool × List (List Nat × List Nat) := (true, [([], []), ([0], [0]), ([], []), ([2], [2]), ([1, 3], [1, 3]), ([], []), ([5], [5]), ([], []), ([7], [7]), ([6, 8], [6, 8]), ([0, 1, 2, 3, 4, 5, 6], []), ([10, 4, 0, 1, 2, 3, 4, 5, 6], [4, 10]), ([0, 1, 2, 3, 4, 5, 6, 7, 8, 9, 10, 11], []), ([12, 9, 11, 0, 1, 2, 3, 4, 5, 6, 7, 8, 9, 10, 11], [9, 12])])
def impl_BoxOf.B8 : List Nat := [0, 1, 0, 4, 15, 0, 32, 0, 128, 480, 127, 1151, 4095, 8191]
theorem impl_BoxOf.tab8 : rtab .any (opsOf Try.f151 8) = impl_BoxOf.T8 := by kernel_rfl
theorem impl_BoxOf.bits8 : waitsOk impl_BoxOf.T8.2 impl_BoxOf.B8 = true := by kernel_rfl
theorem impl_BoxOf.calls (k : Nat) (A0 : Option Addr) (c0 : Nat) (l0 : List (S166)) (r1 : Int) (r2 : Int) (r3 : Int) (r4 : Int) (w : World) (hr0 : Kd.C k166 w A0 l0.length l0) (hc0 : l0.length ≤ c0) (h : impl_BoxOf.f k l0 = some (r1, r2, r3, r4)) :
    Calls Try.prog 151 #[.slice A0 l0.length c0] w fun e w' => e = .returned (.agg #[.int .i64 r1, .int .i64 r2, .int .i64 r3, .int .i64 r4]) ∧ Below w.heap.size w w' := by
  have hu39 := Try.underlying39
  have hu166 := Try.underlying166
  have HR0 := Aside0.mk hr0
  have HC0 := Aside0.mk hc0
  clear hr0 hc0
  have HB := Aside0.mk (Below.refl w.heap.size w)
  have H : (if (l0.length : Int) = 0 then (impl_BoxOf.j0 k l0 true) else ((impl_pointsOk.f k l0).bind fun t331 => (impl_BoxOf.j0 k l0 (!t331)))) = some (r1, r2, r3, r4) := h
  clear h
  have HC2 := Aside0.mk H
  clear H
  go_enter Try.func151, Try.ntmps151
  go_upto_region 1 with (first | ((with_reducible refine gD 2 ?_); refine bxE #[.int .i64 0, .int .i64 0, .int .i64 0, .int .i64 0] 39 ?_; intro gb330 hg w3 BK330 hb; have GW330 := gE hg; have GE330 := gE hg; replace HB := hB hb; clear hb hg))
  (try simp only [Act.put, List.setIfInBounds_toArray, List.set_cons_zero, List.set_cons_succ])
  go_cut [13] (fun v13 wc => ∃ (kq : Nat) (x13_1 : Bool), v13 = .bool x13_1 ∧ Aside0 (impl_BoxOf.j0 kq l0 x13_1 = some (r1, r2, r3, r4)) ∧ Aside0 (kq ≤ k) ∧ Aside0 (wc.heap[gb330]? = some (.cells #[.int .i64 0, .int .i64 0, .int .i64 0, .int .i64 0] 39 (0, 0))) ∧ Aside0 (Below w.heap.size w wc))
  case first =>
    have H := HC2.out
    clear HC2
    by_cases c4 : (l0.length : Int) = 0
    · rw [if_pos c4] at H
      have c4b0 : ((l0.length : Int) == 0) = true := beq_iff_eq.mpr c4
      have c4b1 : ((l0.length : Int) != 0) = false := bne_eq_false_iff_eq.mpr c4
      clear c4
      (first | rw [c4b0] | (simp only [i64_w, i32_w]; rw [c4b0]) | skip)
      have H' := Aside0.mk H
      clear H
      go_wp2
      go_meet
      case rel => exact ⟨_, (true), (by first | rfl | (simp; done) | (simp [*]; done)), H', ⟨by first | omega | exact Nat.le_refl _⟩, ⟨kS⟩, ⟨bS⟩⟩
    · rw [if_neg c4] at H
      have c4b0 : ((l0.length : Int) == 0) = false := beq_eq_false_iff_ne.mpr c4
      have c4b1 : ((l0.length : Int) != 0) = true := bne_iff_ne.mpr c4
      have c4b2 : ¬ (l0 = []) := fun h_ => c4 (by rw [h_]; rfl)
      (first | rw [c4b0] | (simp only [i64_w, i32_w]; rw [c4b0]) | skip)
      replace H := bN H
      obtain ⟨t331, A5, H⟩ := H
      have H' := Aside0.mk H
      clear H
      go_wp2_with (first | (go_at_call 156; (with_reducible refine (impl_pointsOk.calls k _ _ l0 t331 _ ?side1 ?side2 A5.out).mono ?_); (case side1 => exact cS (Kd.C_below HR0.out HB.out)); (case side2 => exact HC0.out); rintro e w6 ⟨rfl, hb⟩; replace BK330 := kB (g := gb330) hb; replace HB := hB hb; (try clear hb); (try clear hb2); (try clear hk); (try clear hi)))
      go_meet
      case rel => exact ⟨_, (!t331), (by first | rfl | (simp; done) | (simp [*]; done)), H', ⟨by first | omega | exact Nat.le_refl _⟩, ⟨kS⟩, ⟨bS⟩⟩
  case rest =>
    clear HC2
    try clear c1
    try clear p2
    try clear c4
    try clear c4b0
    try clear c4b1
    try clear c4b2
    obtain ⟨kq, x13_1, rfl, HA, HJ1, BK330, HB⟩ := hcut
    cases kq with
    | zero => exact absurd HA.out (by simp [impl_BoxOf.j0])
    | succ kj1 =>
      have H := HA.out
      clear HA
      simp only [impl_BoxOf.j0] at H
      by_cases c7 : x13_1 = true
      · subst c7
        rw [if_pos rfl] at H
        simp only [Option.some.injEq, Prod.mk.injEq] at H
        obtain ⟨rfl, rfl, rfl, rfl⟩ := H
        have hcz8_0 : wc.cell? ⟨gb330, 0, none⟩ = some (.int .i64 0) := (blk_cell BK330.out 0).trans rfl
        have hcz8_1 : wc.cell? ⟨gb330, 1, none⟩ = some (.int .i64 0) := (blk_cell BK330.out 1).trans rfl
        have hcz8_2 : wc.cell? ⟨gb330, 2, none⟩ = some (.int .i64 0) := (blk_cell BK330.out 2).trans rfl
        have hcz8_3 : wc.cell? ⟨gb330, 3, none⟩ = some (.int .i64 0) := (blk_cell BK330.out 3).trans rfl
        have hfz8_0 := blk_frozen BK330.out 0
        have hfz8_1 := blk_frozen BK330.out 1
        have hfz8_2 := blk_frozen BK330.out 2
        have hfz8_3 := blk_frozen BK330.out 3
        go_wp2
        refine bodyPost_ret (results_cell_row rfl _ _ gb330 39 #[.int .i64 0, .int .i64 0, .int .i64 0, .int .i64 0] (0, 0) _ rfl kS Try.underlying39 rfl (by kernel_rfl)) rfl ?_
        exact ⟨eS, bS⟩
      · obtain rfl := Bool.eq_false_iff.mpr c7
        rw [if_neg nF] at H
        by_cases c9 : 0 < (l0.length : Int)
        · rw [if_pos c9] at H
          have c9b0 : decide (0 < (l0.length : Int)) = true := decide_eq_true c9
          have c9b1 : decide (0 < l0.length) = true := decide_eq_true (by omega)
          clear c9
          have H' := Aside0.mk H
          clear H
          try go_wp2
          replace BK330 := Aside0.mk (blk_drew BK330.out)
          replace HB := Aside0.mk (below_drew1 HB.out)
          have p332 : 0 ≤ (0 : Int) := (by omega)
          have q332 : 0 < (l0.length : Int) := of_decide_eq_true (by first | (with_reducible assumption) | assumption)
          obtain ⟨ad332, e332, hx332_0, hx332_1⟩ := at_T166 HR0.out 0 p332 q332
          have hw332_1 := hx332_1
          (try rw [show ((0 : Int)).toNat = 0 from rfl] at hw332_1)
          (try rw [show 0 * 2 = 0 from rfl] at hw332_1)
          (try rw [Addr.add_zero'] at hw332_1)
          have hw332_0 := hx332_0
          (try rw [show ((0 : Int)).toNat = 0 from rfl] at hw332_0)
          (try rw [show 0 * 2 = 0 from rfl] at hw332_0)
          (try rw [Addr.add_zero'] at hw332_0)
          cases e332
          have qi332 : (0 < l0.length) = True := eq_true (by omega)
          (try rw [show ((0 : Int)).toNat = 0 from rfl] at hx332_0)
          (try rw [show 0 * 2 = 0 from rfl] at hx332_0)
          (try rw [Addr.add_zero'] at hx332_0)
          (try rw [show ((0 : Int)).toNat = 0 from rfl] at hx332_1)
          (try rw [show 0 * 2 = 0 from rfl] at hx332_1)
          (try rw [Addr.add_zero'] at hx332_1)
          replace hx332_0 := (HB.out.cell (World.block_lt_of_cell? w _ hx332_0)).trans hx332_0
          replace hx332_1 := (HB.out.cell (World.block_lt_of_cell? w _ hx332_1)).trans hx332_1
          replace p332 := eq_true p332
          replace q332 := eq_true q332
          have p333 : 0 ≤ (0 : Int) := (by omega)
          have q333 : 0 < (l0.length : Int) := of_decide_eq_true (by first | (with_reducible assumption) | assumption)
          obtain ⟨ad333, e333, hx333_0, hx333_1⟩ := at_T166 HR0.out 0 p333 q333
          have hw333_1 := hx333_1
          (try rw [show ((0 : Int)).toNat = 0 from rfl] at hw333_1)
          (try rw [show 0 * 2 = 0 from rfl] at hw333_1)
          (try rw [Addr.add_zero'] at hw333_1)
          have hw333_0 := hx333_0
          (try rw [show ((0 : Int)).toNat = 0 from rfl] at hw333_0)
          (try rw [show 0 * 2 = 0 from rfl] at hw333_0)
          (try rw [Addr.add_zero'] at hw333_0)
          obtain rfl : ad332 = ad333 := (by injection e333)
          have qi333 : (0 < l0.length) = True := eq_true (by omega)
          (try rw [show ((0 : Int)).toNat = 0 from rfl] at hx333_0)
          (try rw [show 0 * 2 = 0 from rfl] at hx333_0)
          (try rw [Addr.add_zero'] at hx333_0)
          (try rw [show ((0 : Int)).toNat = 0 from rfl] at hx333_1)
          (try rw [show 0 * 2 = 0 from rfl] at hx333_1)
          (try rw [Addr.add_zero'] at hx333_1)
          replace hx333_0 := (HB.out.cell (World.block_lt_of_cell? w _ hx333_0)).trans hx333_0
          replace hx333_1 := (HB.out.cell (World.block_lt_of_cell? w _ hx333_1)).trans hx333_1
          replace p333 := eq_true p333
          replace q333 := eq_true q333
          have p334 : 0 ≤ (0 : Int) := (by omega)
          have q334 : 0 < (l0.length : Int) := of_decide_eq_true (by first | (with_reducible assumption) | assumption)
          obtain ⟨ad334, e334, hx334_0, hx334_1⟩ := at_T166 HR0.out 0 p334 q334
          have hw334_1 := hx334_1
          (try rw [show ((0 : Int)).toNat = 0 from rfl] at hw334_1)
          (try rw [show 0 * 2 = 0 from rfl] at hw334_1)
          (try rw [Addr.add_zero'] at hw334_1)
          have hw334_0 := hx334_0
          (try rw [show ((0 : Int)).toNat = 0 from rfl] at hw334_0)
          (try rw [show 0 * 2 = 0 from rfl] at hw334_0)
          (try rw [Addr.add_zero'] at hw334_0)
          obtain rfl : ad332 = ad334 := (by injection e334)
          have qi334 : (0 < l0.length) = True := eq_true (by omega)
          (try rw [show ((0 : Int)).toNat = 0 from rfl] at hx334_0)
          (try rw [show 0 * 2 = 0 from rfl] at hx334_0)
          (try rw [Addr.add_zero'] at hx334_0)
          (try rw [show ((0 : Int)).toNat = 0 from rfl] at hx334_1)
          (try rw [show 0 * 2 = 0 from rfl] at hx334_1)
          (try rw [Addr.add_zero'] at hx334_1)
          replace hx334_0 := (HB.out.cell (World.block_lt_of_cell? w _ hx334_0)).trans hx334_0
          replace hx334_1 := (HB.out.cell (World.block_lt_of_cell? w _ hx334_1)).trans hx334_1
          replace p334 := eq_true p334
          replace q334 := eq_true q334
          have p335 : 0 ≤ (0 : Int) := (by omega)
          have q335 : 0 < (l0.length : Int) := of_decide_eq_true (by first | (with_reducible assumption) | assumption)
          obtain ⟨ad335, e335, hx335_0, hx335_1⟩ := at_T166 HR0.out 0 p335 q335
          have hw335_1 := hx335_1
          (try rw [show ((0 : Int)).toNat = 0 from rfl] at hw335_1)
          (try rw [show 0 * 2 = 0 from rfl] at hw335_1)
          (try rw [Addr.add_zero'] at hw335_1)
          have hw335_0 := hx335_0
          (try rw [show ((0 : Int)).toNat = 0 from rfl] at hw335_0)
          (try rw [show 0 * 2 = 0 from rfl] at hw335_0)
          (try rw [Addr.add_zero'] at hw335_0)
          obtain rfl : ad332 = ad335 := (by injection e335)
          have qi335 : (0 < l0.length) = True := eq_true (by omega)
          (try rw [show ((0 : Int)).toNat = 0 from rfl] at hx335_0)
          (try rw [show 0 * 2 = 0 from rfl] at hx335_0)
          (try rw [Addr.add_zero'] at hx335_0)
          (try rw [show ((0 : Int)).toNat = 0 from rfl] at hx335_1)
          (try rw [show 0 * 2 = 0 from rfl] at hx335_1)
          (try rw [Addr.add_zero'] at hx335_1)
          replace hx335_0 := (HB.out.cell (World.block_lt_of_cell? w _ hx335_0)).trans hx335_0
          replace hx335_1 := (HB.out.cell (World.block_lt_of_cell? w _ hx335_1)).trans hx335_1
          replace p335 := eq_true p335
          replace q335 := eq_true q335
          refine start_ (n := 19) (S := fun w' => w'.cell? ad332 = some (.int .i64 ((rd_T166 l0 0).f0)) ∧ w'.cell? ⟨ad332.block, ad332.off + 1, none⟩ = some (.int .i64 ((rd_T166 l0 0).f1)) ∧ w'.cell? ad332 = some (.int .i64 ((rd_T166 l0 0).f0)) ∧ w'.cell? ⟨ad332.block, ad332.off + 1, none⟩ = some (.int .i64 ((rd_T166 l0 0).f1)) ∧ w'.cell? ad332 = some (.int .i64 ((rd_T166 l0 0).f0)) ∧ w'.cell? ⟨ad332.block, ad332.off + 1, none⟩ = some (.int .i64 ((rd_T166 l0 0).f1)) ∧ w'.cell? ad332 = some (.int .i64 ((rd_T166 l0 0).f0)) ∧ w'.cell? ⟨ad332.block, ad332.off + 1, none⟩ = some (.int .i64 ((rd_T166 l0 0).f1))) (ds := []) #[false, false, false, false, false, false, false, false, false, false, false, false, false, false, false, false, false, false, false] (by kernel_rfl) rfl rfl ⟨((HB.out.cell (World.block_lt_of_cell? w _ hw332_0)).trans hw332_0), ((HB.out.cell (World.block_lt_of_cell? w _ hw332_1)).trans hw332_1), ((HB.out.cell (World.block_lt_of_cell? w _ hw333_0)).trans hw333_0), ((HB.out.cell (World.block_lt_of_cell? w _ hw333_1)).trans hw333_1), ((HB.out.cell (World.block_lt_of_cell? w _ hw334_0)).trans hw334_0), ((HB.out.cell (World.block_lt_of_cell? w _ hw334_1)).trans hw334_1), ((HB.out.cell (World.block_lt_of_cell? w _ hw335_0)).trans hw335_0), ((HB.out.cell (World.block_lt_of_cell? w _ hw335_1)).trans hw335_1)⟩ (fun hHeld => ?_); refine with_tabW impl_BoxOf.tab3 impl_BoxOf.bits3 (fun HT_ HW_ => ?_)
          generalize wc.drew = w10 at BK330 HB hx332_0 hx332_1 hx333_0 hx333_1 hx334_0 hx334_1 hx335_0 hx335_1 hHeld ⊢
          refine pure_ (i := 0) (N := some 15) (v := ?_) (a' := ?_) #[true, false, false, false, false, false, false, false, false, false, false, false, false, false, false, false, false, false, false] rfl rfl (any_of HT_.out (by kernel_rfl)) (fun _ _ _ h => h) (Or.inl ⟨by rfl, ?_⟩) ?_ ?_
          rotate_left
          · intro w'
            go_simp
            with_reducible rfl
          rotate_left
          · simp only [Act.put, List.setIfInBounds_toArray, List.set_cons_zero, List.set_cons_succ, i64_w, i32_w]
            rfl
          refine pure_ (i := 1) (N := some 16) (v := ?_) (a' := ?_) #[true, true, false, false, false, false, false, false, false, false, false, false, false, false, false, false, false, false, false] rfl rfl (any_of HT_.out (by kernel_rfl)) (fun _ _ _ h => h) (Or.inl ⟨by rfl, ?_⟩) ?_ ?_
          rotate_left
          · intro w'
            go_simp
            with_reducible rfl
          rotate_left
          · simp only [Act.put, List.setIfInBounds_toArray, List.set_cons_zero, List.set_cons_succ, i64_w, i32_w]
            rfl
          refine pure_ (i := 2) (N := some 17) (v := ?_) (a' := ?_) #[true, true, true, false, false, false, false, false, false, false, false, false, false, false, false, false, false, false, false] rfl rfl (any_of HT_.out (by kernel_rfl)) (fun _ _ _ h => h) (Or.inl ⟨by rfl, ?_⟩) ?_ ?_
          rotate_left
          · intro w'
            go_simp
            with_reducible rfl
          rotate_left
          · simp only [Act.put, List.setIfInBounds_toArray, List.set_cons_zero, List.set_cons_succ, i64_w, i32_w]
            rfl
          refine pure_ (i := 4) (N := some 19) (v := ?_) (a' := ?_) #[true, true, true, false, true, false, false, false, false, false, false, false, false, false, false, false, false, false, false] rfl rfl (any_of HT_.out (by kernel_rfl)) (fun _ _ _ h => h) (Or.inl ⟨by rfl, ?_⟩) ?_ ?_
          rotate_left
          · intro w'
            go_simp
            with_reducible rfl
          rotate_left
          · simp only [Act.put, List.setIfInBounds_toArray, List.set_cons_zero, List.set_cons_succ, i64_w, i32_w]
            rfl
          refine pure_ (i := 5) (N := some 20) (v := ?_) (a' := ?_) #[true, true, true, false, true, true, false, false, false, false, false, false, false, false, false, false, false, false, false] rfl rfl (any_of HT_.out (by kernel_rfl)) (fun _ _ _ h => h) (Or.inl ⟨by rfl, ?_⟩) ?_ ?_
          rotate_left
          · intro w'
            go_simp
            with_reducible rfl
          rotate_left
          · simp only [Act.put, List.setIfInBounds_toArray, List.set_cons_zero, List.set_cons_succ, i64_w, i32_w]
            rfl
          refine pure_ (i := 6) (N := some 21) (v := ?_) (a' := ?_) #[true, true, true, false, true, true, true, false, false, false, false, false, false, false, false, false, false, false, false] rfl rfl (any_of HT_.out (by kernel_rfl)) (fun _ _ _ h => h) (Or.inl ⟨by rfl, ?_⟩) ?_ ?_
          rotate_left
          · intro w'
            go_simp
            with_reducible rfl
          rotate_left
          · simp only [Act.put, List.setIfInBounds_toArray, List.set_cons_zero, List.set_cons_succ, i64_w, i32_w]
            rfl
          refine pure_ (i := 8) (N := some 23) (v := ?_) (a' := ?_) #[true, true, true, false, true, true, true, false, true, false, false, false, false, false, false, false, false, false, false] rfl rfl (any_of HT_.out (by kernel_rfl)) (fun _ _ _ h => h) (Or.inl ⟨by rfl, ?_⟩) ?_ ?_
          rotate_left
          · intro w'
            go_simp
            with_reducible rfl
          rotate_left
          · simp only [Act.put, List.setIfInBounds_toArray, List.set_cons_zero, List.set_cons_succ, i64_w, i32_w]
            rfl
          refine pure_ (i := 9) (N := some 24) (v := ?_) (a' := ?_) #[true, true, true, false, true, true, true, false, true, true, false, false, false, false, false, false, false, false, false] rfl rfl (any_of HT_.out (by kernel_rfl)) (fun _ _ _ h => h) (Or.inl ⟨by rfl, ?_⟩) ?_ ?_
          rotate_left
          · intro w'
            go_simp
            with_reducible rfl
          rotate_left
          · simp only [Act.put, List.setIfInBounds_toArray, List.set_cons_zero, List.set_cons_succ, i64_w, i32_w]
            rfl
          refine pure_ (i := 10) (N := some 25) (v := ?_) (a' := ?_) #[true, true, true, false, true, true, true, false, true, true, true, false, false, false, false, false, false, false, false] rfl rfl (any_of HT_.out (by kernel_rfl)) (fun _ _ _ h => h) (Or.inl ⟨by rfl, ?_⟩) ?_ ?_
          rotate_left
          · intro w'
            go_simp
            with_reducible rfl
          rotate_left
          · simp only [Act.put, List.setIfInBounds_toArray, List.set_cons_zero, List.set_cons_succ, i64_w, i32_w]
            rfl
          refine pure_ (i := 12) (N := some 27) (v := ?_) (a' := ?_) #[true, true, true, false, true, true, true, false, true, true, true, false, true, false, false, false, false, false, false] rfl rfl (any_of HT_.out (by kernel_rfl)) (fun _ _ _ h => h) (Or.inl ⟨by rfl, ?_⟩) ?_ ?_
          rotate_left
          · intro w'
            go_simp
            with_reducible rfl
          rotate_left
          · simp only [Act.put, List.setIfInBounds_toArray, List.set_cons_zero, List.set_cons_succ, i64_w, i32_w]
            rfl
          refine pure_ (i := 13) (N := some 28) (v := ?_) (a' := ?_) #[true, true, true, false, true, true, true, false, true, true, true, false, true, true, false, false, false, false, false] rfl rfl (any_of HT_.out (by kernel_rfl)) (fun _ _ _ h => h) (Or.inl ⟨by rfl, ?_⟩) ?_ ?_
          rotate_left
          · intro w'
            go_simp
            with_reducible rfl
          rotate_left
          · simp only [Act.put, List.setIfInBounds_toArray, List.set_cons_zero, List.set_cons_succ, i64_w, i32_w]
            rfl
          refine pure_ (i := 14) (N := some 29) (v := ?_) (a' := ?_) #[true, true, true, false, true, true, true, false, true, true, true, false, true, true, true, false, false, false, false] rfl rfl (any_of HT_.out (by kernel_rfl)) (fun _ _ _ h => h) (Or.inl ⟨by rfl, ?_⟩) ?_ ?_
          rotate_left
          · intro w'
            go_simp
            with_reducible rfl
          rotate_left
          · simp only [Act.put, List.setIfInBounds_toArray, List.set_cons_zero, List.set_cons_succ, i64_w, i32_w]
            rfl
          refine take_ (i := 3) (N := some 18) (v := ?_) (a' := ?_) #[true, true, true, true, true, true, true, false, true, true, true, false, true, true, true, false, false, false, false] rfl rfl (take_ofW HT_.out HW_.out (by kernel_rfl)) (fun _ _ _ h => h) (Or.inl ⟨by rfl, ?_⟩) hHeld ?_ ?_
          rotate_left
          · rintro w' ⟨s0, s1, s2, s3, s4, s5, s6, s7⟩
            go_simp
            with_reducible rfl
          rotate_left
          · simp only [Act.put, List.setIfInBounds_toArray, List.set_cons_zero, List.set_cons_succ, i64_w, i32_w]
            rfl
          refine take_ (i := 7) (N := some 22) (v := ?_) (a' := ?_) #[true, true, true, true, true, true, true, true, true, true, true, false, true, true, true, false, false, false, false] rfl rfl (take_ofW HT_.out HW_.out (by kernel_rfl)) (fun _ _ _ h => h) (Or.inl ⟨by rfl, ?_⟩) hHeld ?_ ?_
          rotate_left
          · rintro w' ⟨s0, s1, s2, s3, s4, s5, s6, s7⟩
            go_simp
            with_reducible rfl
          rotate_left
          · simp only [Act.put, List.setIfInBounds_toArray, List.set_cons_zero, List.set_cons_succ, i64_w, i32_w]
            rfl
          refine take_ (i := 11) (N := some 26) (v := ?_) (a' := ?_) #[true, true, true, true, true, true, true, true, true, true, true, true, true, true, true, false, false, false, false] rfl rfl (take_ofW HT_.out HW_.out (by kernel_rfl)) (fun _ _ _ h => h) (Or.inl ⟨by rfl, ?_⟩) hHeld ?_ ?_
          rotate_left
          · rintro w' ⟨s0, s1, s2, s3, s4, s5, s6, s7⟩
            go_simp
            with_reducible rfl
          rotate_left
          · simp only [Act.put, List.setIfInBounds_toArray, List.set_cons_zero, List.set_cons_succ, i64_w, i32_w]
            rfl
          refine take_ (i := 15) (N := some 30) (v := ?_) (a' := ?_) #[true, true, true, true, true, true, true, true, true, true, true, true, true, true, true, true, false, false, false] rfl rfl (take_ofW HT_.out HW_.out (by kernel_rfl)) (fun _ _ _ h => h) (Or.inl ⟨by rfl, ?_⟩) hHeld ?_ ?_
          rotate_left
          · rintro w' ⟨s0, s1, s2, s3, s4, s5, s6, s7⟩
            go_simp
            with_reducible rfl
          rotate_left
          · simp only [Act.put, List.setIfInBounds_toArray, List.set_cons_zero, List.set_cons_succ, i64_w, i32_w]
            rfl
          refine pure_ (i := 16) (N := some 31) (v := ?_) (a' := ?_) #[true, true, true, true, true, true, true, true, true, true, true, true, true, true, true, true, true, false, false] rfl rfl (any_of HT_.out (by kernel_rfl)) (fun _ _ _ h => h) (Or.inl ⟨by rfl, ?_⟩) ?_ ?_
          rotate_left
          · intro w'
            go_simp
            with_reducible rfl
          rotate_left
          · simp only [Act.put, List.setIfInBounds_toArray, List.set_cons_zero, List.set_cons_succ, i64_w, i32_w]
            rfl
          refine one_ (i := 17) (N := some 3) #[true, true, true, true, true, true, true, true, true, true, true, true, true, true, true, true, true, true, false] rfl rfl (one_of HT_.out (by kernel_rfl)) (by decide) (fun K hK => ?_)
          refine box_step ?hg (N := 3) ?hd (cs := #[.int .i64 0, .int .i64 0, .int .i64 0, .int .i64 0]) (t := 39) ?hr ?_; (case hd => rfl); (case hg => rfl); (case hr => first | (go_simp; done) | (go_simp; rfl))
          intro gb336 hg w11 hbox hb
          have BK336 := Aside0.mk (hbox)
          have GW336 := gE hg
          have GE336 := gE hg
          have NB330_336 := nL (g := gb330) hg
          have NB336_330 := nG (g := gb330) hg
          replace BK330 := kB (g := gb330) hb
          replace HB := hB hb
          clear hb hg
          refine hK.out _ _ ⟨((HB.out.cell (World.block_lt_of_cell? w _ hw332_0)).trans hw332_0), ((HB.out.cell (World.block_lt_of_cell? w _ hw332_1)).trans hw332_1), ((HB.out.cell (World.block_lt_of_cell? w _ hw333_0)).trans hw333_0), ((HB.out.cell (World.block_lt_of_cell? w _ hw333_1)).trans hw333_1), ((HB.out.cell (World.block_lt_of_cell? w _ hw334_0)).trans hw334_0), ((HB.out.cell (World.block_lt_of_cell? w _ hw334_1)).trans hw334_1), ((HB.out.cell (World.block_lt_of_cell? w _ hw335_0)).trans hw335_0), ((HB.out.cell (World.block_lt_of_cell? w _ hw335_1)).trans hw335_1)⟩ (fun hHeld => ?_)
          clear hK K
          refine norm_ (a' := ?_) ?_ ?_
          rotate_left
          · show Act.put _ (some 3) _ = _
            simp only [Act.put, List.setIfInBounds_toArray, List.set_cons_zero, List.set_cons_succ, i64_w, i32_w]
            rfl
          refine one_ (i := 18) (N := none) #[true, true, true, true, true, true, true, true, true, true, true, true, true, true, true, true, true, true, true] rfl rfl (one_of HT_.out (by kernel_rfl)) (by decide) (fun K hK => ?_)
          have hs12 : w11.cell? ⟨gb336, 0, none⟩ = some (.int .i64 0) := (blk_cell BK336.out 0).trans rfl
          have hfs12 := blk_frozen BK336.out 0
          have hns12_0 := NB330_336.out
          have hms12_0 := NB336_330.out
          have hs13 : w11.cell? ⟨gb336, 1, none⟩ = some (.int .i64 0) := (blk_cell BK336.out 1).trans rfl
          have hfs13 := blk_frozen BK336.out 1
          have hns13_0 := NB330_336.out
          have hms13_0 := NB336_330.out
          have hs14 : w11.cell? ⟨gb336, 2, none⟩ = some (.int .i64 0) := (blk_cell BK336.out 2).trans rfl
          have hfs14 := blk_frozen BK336.out 2
          have hns14_0 := NB330_336.out
          have hms14_0 := NB336_330.out
          have hs15 : w11.cell? ⟨gb336, 3, none⟩ = some (.int .i64 0) := (blk_cell BK336.out 3).trans rfl
          have hfs15 := blk_frozen BK336.out 3
          have hns15_0 := NB330_336.out
          have hms15_0 := NB336_330.out
          refine skip_ (w1 := ?_) (by rfl) rfl ?_ ?_
          rotate_left
          · go_simp
            rfl
          refine hK.out _ _ ⟨((cell_far (p := ⟨gb336, _, none⟩) (by first | exact Nat.ne_of_lt (Nat.lt_of_lt_of_le (by have := World.block_lt_of_cell? _ _ hw332_0; first | rwa [add_block] at this | exact this) GW336.out) | (rw [add_block]; exact Nat.ne_of_lt (Nat.lt_of_lt_of_le (by have := World.block_lt_of_cell? _ _ hw332_0; first | rwa [add_block] at this | exact this) GW336.out)) | (show (Addr.add _ _).block ≠ _; rw [add_block]; exact Nat.ne_of_lt (Nat.lt_of_lt_of_le (by have := World.block_lt_of_cell? _ _ hw332_0; first | rwa [add_block] at this | exact this) GW336.out)) | (dsimp only; exact Nat.ne_of_lt (Nat.lt_of_lt_of_le (by have := World.block_lt_of_cell? _ _ hw332_0; first | rwa [add_block] at this | exact this) GW336.out))) _).trans (((cell_far (p := ⟨gb336, _, none⟩) (by first | exact Nat.ne_of_lt (Nat.lt_of_lt_of_le (by have := World.block_lt_of_cell? _ _ hw332_0; first | rwa [add_block] at this | exact this) GW336.out) | (rw [add_block]; exact Nat.ne_of_lt (Nat.lt_of_lt_of_le (by have := World.block_lt_of_cell? _ _ hw332_0; first | rwa [add_block] at this | exact this) GW336.out)) | (show (Addr.add _ _).block ≠ _; rw [add_block]; exact Nat.ne_of_lt (Nat.lt_of_lt_of_le (by have := World.block_lt_of_cell? _ _ hw332_0; first | rwa [add_block] at this | exact this) GW336.out)) | (dsimp only; exact Nat.ne_of_lt (Nat.lt_of_lt_of_le (by have := World.block_lt_of_cell? _ _ hw332_0; first | rwa [add_block] at this | exact this) GW336.out))) _).trans (((cell_far (p := ⟨gb336, _, none⟩) (by first | exact Nat.ne_of_lt (Nat.lt_of_lt_of_le (by have := World.block_lt_of_cell? _ _ hw332_0; first | rwa [add_block] at this | exact this) GW336.out) | (rw [add_block]; exact Nat.ne_of_lt (Nat.lt_of_lt_of_le (by have := World.block_lt_of_cell? _ _ hw332_0; first | rwa [add_block] at this | exact this) GW336.out)) | (show (Addr.add _ _).block ≠ _; rw [add_block]; exact Nat.ne_of_lt (Nat.lt_of_lt_of_le (by have := World.block_lt_of_cell? _ _ hw332_0; first | rwa [add_block] at this | exact this) GW336.out)) | (dsimp only; exact Nat.ne_of_lt (Nat.lt_of_lt_of_le (by have := World.block_lt_of_cell? _ _ hw332_0; first | rwa [add_block] at this | exact this) GW336.out))) _).trans (((cell_far (p := ⟨gb336, _, none⟩) (by first | exact Nat.ne_of_lt (Nat.lt_of_lt_of_le (by have := World.block_lt_of_cell? _ _ hw332_0; first | rwa [add_block] at this | exact this) GW336.out) | (rw [add_block]; exact Nat.ne_of_lt (Nat.lt_of_lt_of_le (by have := World.block_lt_of_cell? _ _ hw332_0; first | rwa [add_block] at this | exact this) GW336.out)) | (show (Addr.add _ _).block ≠ _; rw [add_block]; exact Nat.ne_of_lt (Nat.lt_of_lt_of_le (by have := World.block_lt_of_cell? _ _ hw332_0; first | rwa [add_block] at this | exact this) GW336.out)) | (dsimp only; exact Nat.ne_of_lt (Nat.lt_of_lt_of_le (by have := World.block_lt_of_cell? _ _ hw332_0; first | rwa [add_block] at this | exact this) GW336.out))) _).trans (hHeld.1)))))))), ((cell_far (p := ⟨gb336, _, none⟩) (by first | exact Nat.ne_of_lt (Nat.lt_of_lt_of_le (by have := World.block_lt_of_cell? _ _ hw332_1; first | rwa [add_block] at this | exact this) GW336.out) | (rw [add_block]; exact Nat.ne_of_lt (Nat.lt_of_lt_of_le (by have := World.block_lt_of_cell? _ _ hw332_1; first | rwa [add_block] at this | exact this) GW336.out)) | (show (Addr.add _ _).block ≠ _; rw [add_block]; exact Nat.ne_of_lt (Nat.lt_of_lt_of_le (by have := World.block_lt_of_cell? _ _ hw332_1; first | rwa [add_block] at this | exact this) GW336.out)) | (dsimp only; exact Nat.ne_of_lt (Nat.lt_of_lt_of_le (by have := World.block_lt_of_cell? _ _ hw332_1; first | rwa [add_block] at this | exact this) GW336.out))) _).trans (((cell_far (p := ⟨gb336, _, none⟩) (by first | exact Nat.ne_of_lt (Nat.lt_of_lt_of_le (by have := World.block_lt_of_cell? _ _ hw332_1; first | rwa [add_block] at this | exact this) GW336.out) | (rw [add_block]; exact Nat.ne_of_lt (Nat.lt_of_lt_of_le (by have := World.block_lt_of_cell? _ _ hw332_1; first | rwa [add_block] at this | exact this) GW336.out)) | (show (Addr.add _ _).block ≠ _; rw [add_block]; exact Nat.ne_of_lt (Nat.lt_of_lt_of_le (by have := World.block_lt_of_cell? _ _ hw332_1; first | rwa [add_block] at this | exact this) GW336.out)) | (dsimp only; exact Nat.ne_of_lt (Nat.lt_of_lt_of_le (by have := World.block_lt_of_cell? _ _ hw332_1; first | rwa [add_block] at this | exact this) GW336.out))) _).trans (((cell_far (p := ⟨gb336, _, none⟩) (by first | exact Nat.ne_of_lt (Nat.lt_of_lt_of_le (by have := World.block_lt_of_cell? _ _ hw332_1; first | rwa [add_block] at this | exact this) GW336.out) | (rw [add_block]; exact Nat.ne_of_lt (Nat.lt_of_lt_of_le (by have := World.block_lt_of_cell? _ _ hw332_1; first | rwa [add_block] at this | exact this) GW336.out)) | (show (Addr.add _ _).block ≠ _; rw [add_block]; exact Nat.ne_of_lt (Nat.lt_of_lt_of_le (by have := World.block_lt_of_cell? _ _ hw332_1; first | rwa [add_block] at this | exact this) GW336.out)) | (dsimp only; exact Nat.ne_of_lt (Nat.lt_of_lt_of_le (by have := World.block_lt_of_cell? _ _ hw332_1; first | rwa [add_block] at this | exact this) GW336.out))) _).trans (((cell_far (p := ⟨gb336, _, none⟩) (by first | exact Nat.ne_of_lt (Nat.lt_of_lt_of_le (by have := World.block_lt_of_cell? _ _ hw332_1; first | rwa [add_block] at this | exact this) GW336.out) | (rw [add_block]; exact Nat.ne_of_lt (Nat.lt_of_lt_of_le (by have := World.block_lt_of_cell? _ _ hw332_1; first | rwa [add_block] at this | exact this) GW336.out)) | (show (Addr.add _ _).block ≠ _; rw [add_block]; exact Nat.ne_of_lt (Nat.lt_of_lt_of_le (by have := World.block_lt_of_cell? _ _ hw332_1; first | rwa [add_block] at this | exact this) GW336.out)) | (dsimp only; exact Nat.ne_of_lt (Nat.lt_of_lt_of_le (by have := World.block_lt_of_cell? _ _ hw332_1; first | rwa [add_block] at this | exact this) GW336.out))) _).trans (hHeld.2.1)))))))), ((cell_far (p := ⟨gb336, _, none⟩) (by first | exact Nat.ne_of_lt (Nat.lt_of_lt_of_le (by have := World.block_lt_of_cell? _ _ hw333_0; first | rwa [add_block] at this | exact this) GW336.out) | (rw [add_block]; exact Nat.ne_of_lt (Nat.lt_of_lt_of_le (by have := World.block_lt_of_cell? _ _ hw333_0; first | rwa [add_block] at this | exact this) GW336.out)) | (show (Addr.add _ _).block ≠ _; rw [add_block]; exact Nat.ne_of_lt (Nat.lt_of_lt_of_le (by have := World.block_lt_of_cell? _ _ hw333_0; first | rwa [add_block] at this | exact this) GW336.out)) | (dsimp only; exact Nat.ne_of_lt (Nat.lt_of_lt_of_le (by have := World.block_lt_of_cell? _ _ hw333_0; first | rwa [add_block] at this | exact this) GW336.out))) _).trans (((cell_far (p := ⟨gb336, _, none⟩) (by first | exact Nat.ne_of_lt (Nat.lt_of_lt_of_le (by have := World.block_lt_of_cell? _ _ hw333_0; first | rwa [add_block] at this | exact this) GW336.out) | (rw [add_block]; exact Nat.ne_of_lt (Nat.lt_of_lt_of_le (by have := World.block_lt_of_cell? _ _ hw333_0; first | rwa [add_block] at this | exact this) GW336.out)) | (show (Addr.add _ _).block ≠ _; rw [add_block]; exact Nat.ne_of_lt (Nat.lt_of_lt_of_le (by have := World.block_lt_of_cell? _ _ hw333_0; first | rwa [add_block] at this | exact this) GW336.out)) | (dsimp only; exact Nat.ne_of_lt (Nat.lt_of_lt_of_le (by have := World.block_lt_of_cell? _ _ hw333_0; first | rwa [add_block] at this | exact this) GW336.out))) _).trans (((cell_far (p := ⟨gb336, _, none⟩) (by first | exact Nat.ne_of_lt (Nat.lt_of_lt_of_le (by have := World.block_lt_of_cell? _ _ hw333_0; first | rwa [add_block] at this | exact this) GW336.out) | (rw [add_block]; exact Nat.ne_of_lt (Nat.lt_of_lt_of_le (by have := World.block_lt_of_cell? _ _ hw333_0; first | rwa [add_block] at this | exact this) GW336.out)) | (show (Addr.add _ _).block ≠ _; rw [add_block]; exact Nat.ne_of_lt (Nat.lt_of_lt_of_le (by have := World.block_lt_of_cell? _ _ hw333_0; first | rwa [add_block] at this | exact this) GW336.out)) | (dsimp only; exact Nat.ne_of_lt (Nat.lt_of_lt_of_le (by have := World.block_lt_of_cell? _ _ hw333_0; first | rwa [add_block] at this | exact this) GW336.out))) _).trans (((cell_far (p := ⟨gb336, _, none⟩) (by first | exact Nat.ne_of_lt (Nat.lt_of_lt_of_le (by have := World.block_lt_of_cell? _ _ hw333_0; first | rwa [add_block] at this | exact this) GW336.out) | (rw [add_block]; exact Nat.ne_of_lt (Nat.lt_of_lt_of_le (by have := World.block_lt_of_cell? _ _ hw333_0; first | rwa [add_block] at this | exact this) GW336.out)) | (show (Addr.add _ _).block ≠ _; rw [add_block]; exact Nat.ne_of_lt (Nat.lt_of_lt_of_le (by have := World.block_lt_of_cell? _ _ hw333_0; first | rwa [add_block] at this | exact this) GW336.out)) | (dsimp only; exact Nat.ne_of_lt (Nat.lt_of_lt_of_le (by have := World.block_lt_of_cell? _ _ hw333_0; first | rwa [add_block] at this | exact this) GW336.out))) _).trans (hHeld.2.2.1)))))))), ((cell_far (p := ⟨gb336, _, none⟩) (by first | exact Nat.ne_of_lt (Nat.lt_of_lt_of_le (by have := World.block_lt_of_cell? _ _ hw333_1; first | rwa [add_block] at this | exact this) GW336.out) | (rw [add_block]; exact Nat.ne_of_lt (Nat.lt_of_lt_of_le (by have := World.block_lt_of_cell? _ _ hw333_1; first | rwa [add_block] at this | exact this) GW336.out)) | (show (Addr.add _ _).block ≠ _; rw [add_block]; exact Nat.ne_of_lt (Nat.lt_of_lt_of_le (by have := World.block_lt_of_cell? _ _ hw333_1; first | rwa [add_block] at this | exact this) GW336.out)) | (dsimp only; exact Nat.ne_of_lt (Nat.lt_of_lt_of_le (by have := World.block_lt_of_cell? _ _ hw333_1; first | rwa [add_block] at this | exact this) GW336.out))) _).trans (((cell_far (p := ⟨gb336, _, none⟩) (by first | exact Nat.ne_of_lt (Nat.lt_of_lt_of_le (by have := World.block_lt_of_cell? _ _ hw333_1; first | rwa [add_block] at this | exact this) GW336.out) | (rw [add_block]; exact Nat.ne_of_lt (Nat.lt_of_lt_of_le (by have := World.block_lt_of_cell? _ _ hw333_1; first | rwa [add_block] at this | exact this) GW336.out)) | (show (Addr.add _ _).block ≠ _; rw [add_block]; exact Nat.ne_of_lt (Nat.lt_of_lt_of_le (by have := World.block_lt_of_cell? _ _ hw333_1; first | rwa [add_block] at this | exact this) GW336.out)) | (dsimp only; exact Nat.ne_of_lt (Nat.lt_of_lt_of_le (by have := World.block_lt_of_cell? _ _ hw333_1; first | rwa [add_block] at this | exact this) GW336.out))) _).trans (((cell_far (p := ⟨gb336, _, none⟩) (by first | exact Nat.ne_of_lt (Nat.lt_of_lt_of_le (by have := World.block_lt_of_cell? _ _ hw333_1; first | rwa [add_block] at this | exact this) GW336.out) | (rw [add_block]; exact Nat.ne_of_lt (Nat.lt_of_lt_of_le (by have := World.block_lt_of_cell? _ _ hw333_1; first | rwa [add_block] at this | exact this) GW336.out)) | (show (Addr.add _ _).block ≠ _; rw [add_block]; exact Nat.ne_of_lt (Nat.lt_of_lt_of_le (by have := World.block_lt_of_cell? _ _ hw333_1; first | rwa [add_block] at this | exact this) GW336.out)) | (dsimp only; exact Nat.ne_of_lt (Nat.lt_of_lt_of_le (by have := World.block_lt_of_cell? _ _ hw333_1; first | rwa [add_block] at this | exact this) GW336.out))) _).trans (((cell_far (p := ⟨gb336, _, none⟩) (by first | exact Nat.ne_of_lt (Nat.lt_of_lt_of_le (by have := World.block_lt_of_cell? _ _ hw333_1; first | rwa [add_block] at this | exact this) GW336.out) | (rw [add_block]; exact Nat.ne_of_lt (Nat.lt_of_lt_of_le (by have := World.block_lt_of_cell? _ _ hw333_1; first | rwa [add_block] at this | exact this) GW336.out)) | (show (Addr.add _ _).block ≠ _; rw [add_block]; exact Nat.ne_of_lt (Nat.lt_of_lt_of_le (by have := World.block_lt_of_cell? _ _ hw333_1; first | rwa [add_block] at this | exact this) GW336.out)) | (dsimp only; exact Nat.ne_of_lt (Nat.lt_of_lt_of_le (by have := World.block_lt_of_cell? _ _ hw333_1; first | rwa [add_block] at this | exact this) GW336.out))) _).trans (hHeld.2.2.2.1)))))))), ((cell_far (p := ⟨gb336, _, none⟩) (by first | exact Nat.ne_of_lt (Nat.lt_of_lt_of_le (by have := World.block_lt_of_cell? _ _ hw334_0; first | rwa [add_block] at this | exact this) GW336.out) | (rw [add_block]; exact Nat.ne_of_lt (Nat.lt_of_lt_of_le (by have := World.block_lt_of_cell? _ _ hw334_0; first | rwa [add_block] at this | exact this) GW336.out)) | (show (Addr.add _ _).block ≠ _; rw [add_block]; exact Nat.ne_of_lt (Nat.lt_of_lt_of_le (by have := World.block_lt_of_cell? _ _ hw334_0; first | rwa [add_block] at this | exact this) GW336.out)) | (dsimp only; exact Nat.ne_of_lt (Nat.lt_of_lt_of_le (by have := World.block_lt_of_cell? _ _ hw334_0; first | rwa [add_block] at this | exact this) GW336.out))) _).trans (((cell_far (p := ⟨gb336, _, none⟩) (by first | exact Nat.ne_of_lt (Nat.lt_of_lt_of_le (by have := World.block_lt_of_cell? _ _ hw334_0; first | rwa [add_block] at this | exact this) GW336.out) | (rw [add_block]; exact Nat.ne_of_lt (Nat.lt_of_lt_of_le (by have := World.block_lt_of_cell? _ _ hw334_0; first | rwa [add_block] at this | exact this) GW336.out)) | (show (Addr.add _ _).block ≠ _; rw [add_block]; exact Nat.ne_of_lt (Nat.lt_of_lt_of_le (by have := World.block_lt_of_cell? _ _ hw334_0; first | rwa [add_block] at this | exact this) GW336.out)) | (dsimp only; exact Nat.ne_of_lt (Nat.lt_of_lt_of_le (by have := World.block_lt_of_cell? _ _ hw334_0; first | rwa [add_block] at this | exact this) GW336.out))) _).trans (((cell_far (p := ⟨gb336, _, none⟩) (by first | exact Nat.ne_of_lt (Nat.lt_of_lt_of_le (by have := World.block_lt_of_cell? _ _ hw334_0; first | rwa [add_block] at this | exact this) GW336.out) | (rw [add_block]; exact Nat.ne_of_lt (Nat.lt_of_lt_of_le (by have := World.block_lt_of_cell? _ _ hw334_0; first | rwa [add_block] at this | exact this) GW336.out)) | (show (Addr.add _ _).block ≠ _; rw [add_block]; exact Nat.ne_of_lt (Nat.lt_of_lt_of_le (by have := World.block_lt_of_cell? _ _ hw334_0; first | rwa [add_block] at this | exact this) GW336.out)) | (dsimp only; exact Nat.ne_of_lt (Nat.lt_of_lt_of_le (by have := World.block_lt_of_cell? _ _ hw334_0; first | rwa [add_block] at this | exact this) GW336.out))) _).trans (((cell_far (p := ⟨gb336, _, none⟩) (by first | exact Nat.ne_of_lt (Nat.lt_of_lt_of_le (by have := World.block_lt_of_cell? _ _ hw334_0; first | rwa [add_block] at this | exact this) GW336.out) | (rw [add_block]; exact Nat.ne_of_lt (Nat.lt_of_lt_of_le (by have := World.block_lt_of_cell? _ _ hw334_0; first | rwa [add_block] at this | exact this) GW336.out)) | (show (Addr.add _ _).block ≠ _; rw [add_block]; exact Nat.ne_of_lt (Nat.lt_of_lt_of_le (by have := World.block_lt_of_cell? _ _ hw334_0; first | rwa [add_block] at this | exact this) GW336.out)) | (dsimp only; exact Nat.ne_of_lt (Nat.lt_of_lt_of_le (by have := World.block_lt_of_cell? _ _ hw334_0; first | rwa [add_block] at this | exact this) GW336.out))) _).trans (hHeld.2.2.2.2.1)))))))), ((cell_far (p := ⟨gb336, _, none⟩) (by first | exact Nat.ne_of_lt (Nat.lt_of_lt_of_le (by have := World.block_lt_of_cell? _ _ hw334_1; first | rwa [add_block] at this | exact this) GW336.out) | (rw [add_block]; exact Nat.ne_of_lt (Nat.lt_of_lt_of_le (by have := World.block_lt_of_cell? _ _ hw334_1; first | rwa [add_block] at this | exact this) GW336.out)) | (show (Addr.add _ _).block ≠ _; rw [add_block]; exact Nat.ne_of_lt (Nat.lt_of_lt_of_le (by have := World.block_lt_of_cell? _ _ hw334_1; first | rwa [add_block] at this | exact this) GW336.out)) | (dsimp only; exact Nat.ne_of_lt (Nat.lt_of_lt_of_le (by have := World.block_lt_of_cell? _ _ hw334_1; first | rwa [add_block] at this | exact this) GW336.out))) _).trans (((cell_far (p := ⟨gb336, _, none⟩) (by first | exact Nat.ne_of_lt (Nat.lt_of_lt_of_le (by have := World.block_lt_of_cell? _ _ hw334_1; first | rwa [add_block] at this | exact this) GW336.out) | (rw [add_block]; exact Nat.ne_of_lt (Nat.lt_of_lt_of_le (by have := World.block_lt_of_cell? _ _ hw334_1; first | rwa [add_block] at this | exact this) GW336.out)) | (show (Addr.add _ _).block ≠ _; rw [add_block]; exact Nat.ne_of_lt (Nat.lt_of_lt_of_le (by have := World.block_lt_of_cell? _ _ hw334_1; first | rwa [add_block] at this | exact this) GW336.out)) | (dsimp only; exact Nat.ne_of_lt (Nat.lt_of_lt_of_le (by have := World.block_lt_of_cell? _ _ hw334_1; first | rwa [add_block] at this | exact this) GW336.out))) _).trans (((cell_far (p := ⟨gb336, _, none⟩) (by first | exact Nat.ne_of_lt (Nat.lt_of_lt_of_le (by have := World.block_lt_of_cell? _ _ hw334_1; first | rwa [add_block] at this | exact this) GW336.out) | (rw [add_block]; exact Nat.ne_of_lt (Nat.lt_of_lt_of_le (by have := World.block_lt_of_cell? _ _ hw334_1; first | rwa [add_block] at this | exact this) GW336.out)) | (show (Addr.add _ _).block ≠ _; rw [add_block]; exact Nat.ne_of_lt (Nat.lt_of_lt_of_le (by have := World.block_lt_of_cell? _ _ hw334_1; first | rwa [add_block] at this | exact this) GW336.out)) | (dsimp only; exact Nat.ne_of_lt (Nat.lt_of_lt_of_le (by have := World.block_lt_of_cell? _ _ hw334_1; first | rwa [add_block] at this | exact this) GW336.out))) _).trans (((cell_far (p := ⟨gb336, _, none⟩) (by first | exact Nat.ne_of_lt (Nat.lt_of_lt_of_le (by have := World.block_lt_of_cell? _ _ hw334_1; first | rwa [add_block] at this | exact this) GW336.out) | (rw [add_block]; exact Nat.ne_of_lt (Nat.lt_of_lt_of_le (by have := World.block_lt_of_cell? _ _ hw334_1; first | rwa [add_block] at this | exact this) GW336.out)) | (show (Addr.add _ _).block ≠ _; rw [add_block]; exact Nat.ne_of_lt (Nat.lt_of_lt_of_le (by have := World.block_lt_of_cell? _ _ hw334_1; first | rwa [add_block] at this | exact this) GW336.out)) | (dsimp only; exact Nat.ne_of_lt (Nat.lt_of_lt_of_le (by have := World.block_lt_of_cell? _ _ hw334_1; first | rwa [add_block] at this | exact this) GW336.out))) _).trans (hHeld.2.2.2.2.2.1)))))))), ((cell_far (p := ⟨gb336, _, none⟩) (by first | exact Nat.ne_of_lt (Nat.lt_of_lt_of_le (by have := World.block_lt_of_cell? _ _ hw335_0; first | rwa [add_block] at this | exact this) GW336.out) | (rw [add_block]; exact Nat.ne_of_lt (Nat.lt_of_lt_of_le (by have := World.block_lt_of_cell? _ _ hw335_0; first | rwa [add_block] at this | exact this) GW336.out)) | (show (Addr.add _ _).block ≠ _; rw [add_block]; exact Nat.ne_of_lt (Nat.lt_of_lt_of_le (by have := World.block_lt_of_cell? _ _ hw335_0; first | rwa [add_block] at this | exact this) GW336.out)) | (dsimp only; exact Nat.ne_of_lt (Nat.lt_of_lt_of_le (by have := World.block_lt_of_cell? _ _ hw335_0; first | rwa [add_block] at this | exact this) GW336.out))) _).trans (((cell_far (p := ⟨gb336, _, none⟩) (by first | exact Nat.ne_of_lt (Nat.lt_of_lt_of_le (by have := World.block_lt_of_cell? _ _ hw335_0; first | rwa [add_block] at this | exact this) GW336.out) | (rw [add_block]; exact Nat.ne_of_lt (Nat.lt_of_lt_of_le (by have := World.block_lt_of_cell? _ _ hw335_0; first | rwa [add_block] at this | exact this) GW336.out)) | (show (Addr.add _ _).block ≠ _; rw [add_block]; exact Nat.ne_of_lt (Nat.lt_of_lt_of_le (by have := World.block_lt_of_cell? _ _ hw335_0; first | rwa [add_block] at this | exact this) GW336.out)) | (dsimp only; exact Nat.ne_of_lt (Nat.lt_of_lt_of_le (by have := World.block_lt_of_cell? _ _ hw335_0; first | rwa [add_block] at this | exact this) GW336.out))) _).trans (((cell_far (p := ⟨gb336, _, none⟩) (by first | exact Nat.ne_of_lt (Nat.lt_of_lt_of_le (by have := World.block_lt_of_cell? _ _ hw335_0; first | rwa [add_block] at this | exact this) GW336.out) | (rw [add_block]; exact Nat.ne_of_lt (Nat.lt_of_lt_of_le (by have := World.block_lt_of_cell? _ _ hw335_0; first | rwa [add_block] at this | exact this) GW336.out)) | (show (Addr.add _ _).block ≠ _; rw [add_block]; exact Nat.ne_of_lt (Nat.lt_of_lt_of_le (by have := World.block_lt_of_cell? _ _ hw335_0; first | rwa [add_block] at this | exact this) GW336.out)) | (dsimp only; exact Nat.ne_of_lt (Nat.lt_of_lt_of_le (by have := World.block_lt_of_cell? _ _ hw335_0; first | rwa [add_block] at this | exact this) GW336.out))) _).trans (((cell_far (p := ⟨gb336, _, none⟩) (by first | exact Nat.ne_of_lt (Nat.lt_of_lt_of_le (by have := World.block_lt_of_cell? _ _ hw335_0; first | rwa [add_block] at this | exact this) GW336.out) | (rw [add_block]; exact Nat.ne_of_lt (Nat.lt_of_lt_of_le (by have := World.block_lt_of_cell? _ _ hw335_0; first | rwa [add_block] at this | exact this) GW336.out)) | (show (Addr.add _ _).block ≠ _; rw [add_block]; exact Nat.ne_of_lt (Nat.lt_of_lt_of_le (by have := World.block_lt_of_cell? _ _ hw335_0; first | rwa [add_block] at this | exact this) GW336.out)) | (dsimp only; exact Nat.ne_of_lt (Nat.lt_of_lt_of_le (by have := World.block_lt_of_cell? _ _ hw335_0; first | rwa [add_block] at this | exact this) GW336.out))) _).trans (hHeld.2.2.2.2.2.2.1)))))))), ((cell_far (p := ⟨gb336, _, none⟩) (by first | exact Nat.ne_of_lt (Nat.lt_of_lt_of_le (by have := World.block_lt_of_cell? _ _ hw335_1; first | rwa [add_block] at this | exact this) GW336.out) | (rw [add_block]; exact Nat.ne_of_lt (Nat.lt_of_lt_of_le (by have := World.block_lt_of_cell? _ _ hw335_1; first | rwa [add_block] at this | exact this) GW336.out)) | (show (Addr.add _ _).block ≠ _; rw [add_block]; exact Nat.ne_of_lt (Nat.lt_of_lt_of_le (by have := World.block_lt_of_cell? _ _ hw335_1; first | rwa [add_block] at this | exact this) GW336.out)) | (dsimp only; exact Nat.ne_of_lt (Nat.lt_of_lt_of_le (by have := World.block_lt_of_cell? _ _ hw335_1; first | rwa [add_block] at this | exact this) GW336.out))) _).trans (((cell_far (p := ⟨gb336, _, none⟩) (by first | exact Nat.ne_of_lt (Nat.lt_of_lt_of_le (by have := World.block_lt_of_cell? _ _ hw335_1; first | rwa [add_block] at this | exact this) GW336.out) | (rw [add_block]; exact Nat.ne_of_lt (Nat.lt_of_lt_of_le (by have := World.block_lt_of_cell? _ _ hw335_1; first | rwa [add_block] at this | exact this) GW336.out)) | (show (Addr.add _ _).block ≠ _; rw [add_block]; exact Nat.ne_of_lt (Nat.lt_of_lt_of_le (by have := World.block_lt_of_cell? _ _ hw335_1; first | rwa [add_block] at this | exact this) GW336.out)) | (dsimp only; exact Nat.ne_of_lt (Nat.lt_of_lt_of_le (by have := World.block_lt_of_cell? _ _ hw335_1; first | rwa [add_block] at this | exact this) GW336.out))) _).trans (((cell_far (p := ⟨gb336, _, none⟩) (by first | exact Nat.ne_of_lt (Nat.lt_of_lt_of_le (by have := World.block_lt_of_cell? _ _ hw335_1; first | rwa [add_block] at this | exact this) GW336.out) | (rw [add_block]; exact Nat.ne_of_lt (Nat.lt_of_lt_of_le (by have := World.block_lt_of_cell? _ _ hw335_1; first | rwa [add_block] at this | exact this) GW336.out)) | (show (Addr.add _ _).block ≠ _; rw [add_block]; exact Nat.ne_of_lt (Nat.lt_of_lt_of_le (by have := World.block_lt_of_cell? _ _ hw335_1; first | rwa [add_block] at this | exact this) GW336.out)) | (dsimp only; exact Nat.ne_of_lt (Nat.lt_of_lt_of_le (by have := World.block_lt_of_cell? _ _ hw335_1; first | rwa [add_block] at this | exact this) GW336.out))) _).trans (((cell_far (p := ⟨gb336, _, none⟩) (by first | exact Nat.ne_of_lt (Nat.lt_of_lt_of_le (by have := World.block_lt_of_cell? _ _ hw335_1; first | rwa [add_block] at this | exact this) GW336.out) | (rw [add_block]; exact Nat.ne_of_lt (Nat.lt_of_lt_of_le (by have := World.block_lt_of_cell? _ _ hw335_1; first | rwa [add_block] at this | exact this) GW336.out)) | (show (Addr.add _ _).block ≠ _; rw [add_block]; exact Nat.ne_of_lt (Nat.lt_of_lt_of_le (by have := World.block_lt_of_cell? _ _ hw335_1; first | rwa [add_block] at this | exact this) GW336.out)) | (dsimp only; exact Nat.ne_of_lt (Nat.lt_of_lt_of_le (by have := World.block_lt_of_cell? _ _ hw335_1; first | rwa [add_block] at this | exact this) GW336.out))) _).trans (hHeld.2.2.2.2.2.2.2))))))))⟩ (fun hHeld => ?_)
          clear hK K
          refine done_ (done_of HT_.out (by kernel_rfl)) ?_
          try go_wp2
          go_loopg [34] kj1 (fun kq v34 w' => ∃ (x34_2 : Int) (x337000_2 : Int) (x337001_2 : Int) (x337002_2 : Int) (x337003_2 : Int), v34 = .int .i64 x34_2 ∧ Aside0 (impl_BoxOf.l0 kq l0 (l0.length : Int) x34_2 x337000_2 x337001_2 x337002_2 x337003_2 = some (r1, r2, r3, r4)) ∧ Aside0 (kq ≤ kj1) ∧ Aside0 (w'.heap[gb330]? = some (.cells #[.int .i64 0, .int .i64 0, .int .i64 0, .int .i64 0] 39 (0, 0))) ∧ Aside0 (w'.heap[gb336]? = some (.cells #[.int .i64 x337000_2, .int .i64 x337001_2, .int .i64 x337002_2, .int .i64 x337003_2] 39 (0, 0))) ∧ Aside0 (Below w.heap.size w w'))
          case atStart => exact ⟨(0), ((rd_T166 l0 0).f0), ((rd_T166 l0 0).f1), ((rd_T166 l0 0).f0), ((rd_T166 l0 0).f1), (by first | rfl | (simp; done) | (simp [*]; done)), H', ⟨Nat.le_refl _⟩, ⟨kS⟩, ⟨kS⟩, ⟨bS⟩⟩
          case round =>
            clear H'
            try clear c1
            try clear p2
            try clear p3
            try clear q3
            try clear hx3
            try clear qi3
            try clear c4
            try clear c4b0
            try clear c4b1
            try clear c4b2
            try clear c7
            try clear c9
            try clear c9b0
            try clear c9b1
            try clear c15
            try clear hcz8_0
            try clear hcz8_1
            try clear hcz8_2
            try clear hcz8_3
            try clear hfz8_0
            try clear hfz8_1
            try clear hfz8_2
            try clear hfz8_3
            try clear hx332_0
            try clear hx332_1
            try clear hx333_0
            try clear hx333_1
            try clear hx334_0
            try clear hx334_1
            try clear hx335_0
            try clear hx335_1
            try clear p2
            try clear p332
            try clear p333
            try clear p334
            try clear p335
            try clear q332
            try clear q333
            try clear q334
            try clear q335
            obtain ⟨x34_2, x337000_2, x337001_2, x337002_2, x337003_2, rfl, HA, HK2, BK330, BK336, HB⟩ := hrel
            cases gk with
            | zero => exact absurd HA.out (by simp [impl_BoxOf.l0])
            | succ k2 =>
              have H := HA.out
              clear HA
              simp only [impl_BoxOf.l0] at H
              by_cases c16 : x34_2 < (l0.length : Int)
              · rw [if_pos c16] at H
                have c16b0 : decide (x34_2 < (l0.length : Int)) = true := decide_eq_true c16
                clear c16
                by_cases c17 : 0 ≤ x34_2
                · rw [if_pos c17] at H
                  have c17b0 : decide (0 ≤ x34_2) = true := decide_eq_true c17
                  clear c17
                  by_cases c18 : x34_2 < (l0.length : Int)
                  · rw [if_pos c18] at H
                    have c18b0 : decide (x34_2 < (l0.length : Int)) = true := decide_eq_true c18
                    clear c18
                    obtain ⟨ji19, hji19⟩ : ∃ j_ : Int, (mn x337000_2 ((rd_T166 l0 x34_2).f0)) = j_ := ⟨_, rfl⟩
                    replace H : (impl_BoxOf.l0 k2 l0 (l0.length : Int) (wrap64 (x34_2 + 1)) ji19 (mn x337001_2 ((rd_T166 l0 x34_2).f1)) (mx x337002_2 ((rd_T166 l0 x34_2).f0)) (mx x337003_2 ((rd_T166 l0 x34_2).f1))) = some (r1, r2, r3, r4) := by first | (rw [hji19] at H; exact H) | (simp only [hji19] at H ⊢; exact H)
                    have hji19_ : (if ((rd_T166 l0 x34_2).f0) < x337000_2 then ((rd_T166 l0 x34_2).f0) else x337000_2) = ji19 := hji19
                    obtain ⟨ji20, hji20⟩ : ∃ j_ : Int, (mn x337001_2 ((rd_T166 l0 x34_2).f1)) = j_ := ⟨_, rfl⟩
                    replace H : (impl_BoxOf.l0 k2 l0 (l0.length : Int) (wrap64 (x34_2 + 1)) ji19 ji20 (mx x337002_2 ((rd_T166 l0 x34_2).f0)) (mx x337003_2 ((rd_T166 l0 x34_2).f1))) = some (r1, r2, r3, r4) := by first | (rw [hji20] at H; exact H) | (simp only [hji20] at H ⊢; exact H)
                    have hji20_ : (if ((rd_T166 l0 x34_2).f1) < x337001_2 then ((rd_T166 l0 x34_2).f1) else x337001_2) = ji20 := hji20
                    obtain ⟨ji21, hji21⟩ : ∃ j_ : Int, (mx x337002_2 ((rd_T166 l0 x34_2).f0)) = j_ := ⟨_, rfl⟩
                    replace H : (impl_BoxOf.l0 k2 l0 (l0.length : Int) (wrap64 (x34_2 + 1)) ji19 ji20 ji21 (mx x337003_2 ((rd_T166 l0 x34_2).f1))) = some (r1, r2, r3, r4) := by first | (rw [hji21] at H; exact H) | (simp only [hji21] at H ⊢; exact H)
                    have hji21_ : (if x337002_2 < ((rd_T166 l0 x34_2).f0) then ((rd_T166 l0 x34_2).f0) else x337002_2) = ji21 := hji21
                    obtain ⟨ji22, hji22⟩ : ∃ j_ : Int, (mx x337003_2 ((rd_T166 l0 x34_2).f1)) = j_ := ⟨_, rfl⟩
                    replace H : (impl_BoxOf.l0 k2 l0 (l0.length : Int) (wrap64 (x34_2 + 1)) ji19 ji20 ji21 ji22) = some (r1, r2, r3, r4) := by first | (rw [hji22] at H; exact H) | (simp only [hji22] at H ⊢; exact H)
                    have hji22_ : (if x337003_2 < ((rd_T166 l0 x34_2).f1) then ((rd_T166 l0 x34_2).f1) else x337003_2) = ji22 := hji22
                    have H' := Aside0.mk H
                    clear H
                    have p337 : 0 ≤ (x34_2 : Int) := of_decide_eq_true (by first | (with_reducible assumption) | assumption)
                    have q337 : x34_2 < (l0.length : Int) := of_decide_eq_true (by first | (with_reducible assumption) | assumption)
                    obtain ⟨ad337, e337, hx337_0, hx337_1⟩ := at_T166 HR0.out x34_2 p337 q337
                    obtain rfl : ad332 = ad337 := (by injection e337)
                    replace hx337_0 := (HB.out.cell (World.block_lt_of_cell? w _ hx337_0)).trans hx337_0
                    replace hx337_1 := (HB.out.cell (World.block_lt_of_cell? w _ hx337_1)).trans hx337_1
                    replace p337 := eq_true p337
                    replace q337 := eq_true q337
                    try go_wp2_with (first | ((with_reducible refine gD 5 ?_); refine bxE #[.int .i64 0, .int .i64 0] 166 ?_; intro gb338 hg w23 BK338 hb; have GW338 := gE hg; have GE338 := gE hg; have NB330_338 := nL (g := gb330) hg; have NB338_330 := nG (g := gb330) hg; have NB336_338 := nL (g := gb336) hg; have NB338_336 := nG (g := gb336) hg; replace BK330 := kB (g := gb330) hb; replace BK336 := kB (g := gb336) hb; replace HB := hB hb; clear hb hg; have hnb24 := NB338_330.out; have hnc24 := NB330_338.out; have hnb25 := NB338_336.out; have hnc25 := NB336_338.out; have hz26 := cz2 BK338))
                    have n0_ : Aside0 (((w23.setCell ⟨gb338, 0, none⟩ (.int .i64 ((rd_T166 l0 x34_2).f0))).setCell ⟨gb338, 1, none⟩ (.int .i64 ((rd_T166 l0 x34_2).f1))).heap[gb330]? = some (.cells #[.int .i64 0, .int .i64 0, .int .i64 0, .int .i64 0] 39 (0, 0))) := ⟨kS⟩
                    have n1_ : Aside0 (((w23.setCell ⟨gb338, 0, none⟩ (.int .i64 ((rd_T166 l0 x34_2).f0))).setCell ⟨gb338, 1, none⟩ (.int .i64 ((rd_T166 l0 x34_2).f1))).heap[gb336]? = some (.cells #[.int .i64 x337000_2, .int .i64 x337001_2, .int .i64 x337002_2, .int .i64 x337003_2] 39 (0, 0))) := ⟨kS⟩
                    have n2_ : Aside0 (((w23.setCell ⟨gb338, 0, none⟩ (.int .i64 ((rd_T166 l0 x34_2).f0))).setCell ⟨gb338, 1, none⟩ (.int .i64 ((rd_T166 l0 x34_2).f1))).heap[gb338]? = some (.cells #[.int .i64 ((rd_T166 l0 x34_2).f0), .int .i64 ((rd_T166 l0 x34_2).f1)] 166 (0, 0))) := ⟨kS⟩
                    have n3_ : Aside0 (Below w.heap.size w ((w23.setCell ⟨gb338, 0, none⟩ (.int .i64 ((rd_T166 l0 x34_2).f0))).setCell ⟨gb338, 1, none⟩ (.int .i64 ((rd_T166 l0 x34_2).f1)))) := ⟨bS⟩
                    (try clear BK330)
                    (try clear BK336)
                    (try clear BK338)
                    (try clear HB)
                    generalize ((w23.setCell ⟨gb338, 0, none⟩ (.int .i64 ((rd_T166 l0 x34_2).f0))).setCell ⟨gb338, 1, none⟩ (.int .i64 ((rd_T166 l0 x34_2).f1))) = w27 at n0_ n1_ n2_ n3_ ⊢
                    have BK330 := n0_
                    have BK336 := n1_
                    have BK338 := n2_
                    have HB := n3_
                    clear n0_ n1_ n2_ n3_
                    replace BK330 := Aside0.mk (blk_drew BK330.out)
                    replace BK336 := Aside0.mk (blk_drew BK336.out)
                    replace BK338 := Aside0.mk (blk_drew BK338.out)
                    replace HB := Aside0.mk (below_drew1 HB.out)
                    refine start_ (n := 14) (S := fun w' => w'.cell? ⟨gb336, 1, none⟩ = some (.int .i64 x337001_2) ∧ w'.cell? ⟨gb336, 2, none⟩ = some (.int .i64 x337002_2) ∧ w'.cell? ⟨gb336, 3, none⟩ = some (.int .i64 x337003_2) ∧ w'.cell? ⟨gb338, 0, none⟩ = some (.int .i64 ((rd_T166 l0 x34_2).f0)) ∧ w'.cell? ⟨gb338, 1, none⟩ = some (.int .i64 ((rd_T166 l0 x34_2).f1))) (ds := [13]) #[false, false, false, false, false, false, false, false, false, false, false, false, false, false] (by kernel_rfl) rfl rfl ⟨(blk_cell BK336.out 1).trans rfl, (blk_cell BK336.out 2).trans rfl, (blk_cell BK336.out 3).trans rfl, (blk_cell BK338.out 0).trans rfl, (blk_cell BK338.out 1).trans rfl⟩ (fun hHeld => ?_); refine with_tabW impl_BoxOf.tab7 impl_BoxOf.bits7 (fun HT_ HW_ => ?_)
                    generalize w27.drew = w28 at BK330 BK336 BK338 HB hHeld ⊢
                    refine pure_ (i := 0) (N := some 38) (v := ?_) (a' := ?_) #[true, false, false, false, false, false, false, false, false, false, false, false, false, false] rfl rfl (any_of HT_.out (by kernel_rfl)) (fun _ _ _ h => h) (Or.inl ⟨by rfl, ?_⟩) ?_ ?_
                    rotate_left
                    · intro w'
                      go_simp
                      with_reducible rfl
                    rotate_left
                    · simp only [Act.put, List.setIfInBounds_toArray, List.set_cons_zero, List.set_cons_succ, i64_w, i32_w]
                      rfl
                    refine pure_ (i := 2) (N := some 40) (v := ?_) (a' := ?_) #[true, false, true, false, false, false, false, false, false, false, false, false, false, false] rfl rfl (any_of HT_.out (by kernel_rfl)) (fun _ _ _ h => h) (Or.inl ⟨by rfl, ?_⟩) ?_ ?_
                    rotate_left
                    · intro w'
                      go_simp
                      with_reducible rfl
                    rotate_left
                    · simp only [Act.put, List.setIfInBounds_toArray, List.set_cons_zero, List.set_cons_succ, i64_w, i32_w]
                      rfl
                    refine pure_ (i := 5) (N := some 43) (v := ?_) (a' := ?_) #[true, false, true, false, false, true, false, false, false, false, false, false, false, false] rfl rfl (any_of HT_.out (by kernel_rfl)) (fun _ _ _ h => h) (Or.inl ⟨by rfl, ?_⟩) ?_ ?_
                    rotate_left
                    · intro w'
                      go_simp
                      with_reducible rfl
                    rotate_left
                    · simp only [Act.put, List.setIfInBounds_toArray, List.set_cons_zero, List.set_cons_succ, i64_w, i32_w]
                      rfl
                    refine pure_ (i := 7) (N := some 45) (v := ?_) (a' := ?_) #[true, false, true, false, false, true, false, true, false, false, false, false, false, false] rfl rfl (any_of HT_.out (by kernel_rfl)) (fun _ _ _ h => h) (Or.inl ⟨by rfl, ?_⟩) ?_ ?_
                    rotate_left
                    · intro w'
                      go_simp
                      with_reducible rfl
                    rotate_left
                    · simp only [Act.put, List.setIfInBounds_toArray, List.set_cons_zero, List.set_cons_succ, i64_w, i32_w]
                      rfl
                    refine take_ (i := 3) (N := some 41) (v := ?_) (a' := ?_) #[true, false, true, true, false, true, false, true, false, false, false, false, false, false] rfl rfl (take_ofW HT_.out HW_.out (by kernel_rfl)) (fun _ _ _ h => h) (Or.inl ⟨by rfl, ?_⟩) hHeld ?_ ?_
                    rotate_left
                    · rintro w' ⟨s0, s1, s2, s3, s4⟩
                      go_simp
                      with_reducible rfl
                    rotate_left
                    · simp only [Act.put, List.setIfInBounds_toArray, List.set_cons_zero, List.set_cons_succ, i64_w, i32_w]
                      rfl
                    refine take_ (i := 6) (N := some 44) (v := ?_) (a' := ?_) #[true, false, true, true, false, true, true, true, false, false, false, false, false, false] rfl rfl (take_ofW HT_.out HW_.out (by kernel_rfl)) (fun _ _ _ h => h) (Or.inl ⟨by rfl, ?_⟩) hHeld ?_ ?_
                    rotate_left
                    · rintro w' ⟨s0, s1, s2, s3, s4⟩
                      go_simp
                      with_reducible rfl
                    rotate_left
                    · simp only [Act.put, List.setIfInBounds_toArray, List.set_cons_zero, List.set_cons_succ, i64_w, i32_w]
                      rfl
                    refine take_ (i := 8) (N := some 46) (v := ?_) (a' := ?_) #[true, false, true, true, false, true, true, true, true, false, false, false, false, false] rfl rfl (take_ofW HT_.out HW_.out (by kernel_rfl)) (fun _ _ _ h => h) (Or.inl ⟨by rfl, ?_⟩) hHeld ?_ ?_
                    rotate_left
                    · rintro w' ⟨s0, s1, s2, s3, s4⟩
                      go_simp
                      with_reducible rfl
                    rotate_left
                    · simp only [Act.put, List.setIfInBounds_toArray, List.set_cons_zero, List.set_cons_succ, i64_w, i32_w]
                      rfl
                    refine pure_ (i := 9) (N := some 47) (v := ?_) (a' := ?_) #[true, false, true, true, false, true, true, true, true, true, false, false, false, false] rfl rfl (any_of HT_.out (by kernel_rfl)) (fun _ _ _ h => h) (Or.inl ⟨by rfl, ?_⟩) ?_ ?_
                    rotate_left
                    · intro w'
                      go_simp
                      with_reducible rfl
                    rotate_left
                    · simp only [Act.put, List.setIfInBounds_toArray, List.set_cons_zero, List.set_cons_succ, i64_w, i32_w]
                      rfl
                    refine one_ (i := 1) (N := some 39) #[true, true, true, true, false, true, true, true, true, true, false, false, false, false] rfl rfl (one_of HT_.out (by kernel_rfl)) (by decide) (fun K hK => ?_)
                    have hl1_ := (blk_cell BK336.out 0).trans (show _ = some (.int .i64 x337000_2) from rfl)
                    refine value_ (w1 := ?_) (v := ?_) (by rfl) rfl ?_ ?_
                    rotate_left 2
                    · go_simp
                      constructor
                      · rfl
                      · rfl
                    refine hK.out _ _ ⟨hHeld.1, hHeld.2.1, hHeld.2.2.1, hHeld.2.2.2.1, hHeld.2.2.2.2⟩ (fun hHeld => ?_)
                    clear hK K
                    refine norm_ (a' := ?_) ?_ ?_
                    rotate_left
                    · show Act.put _ (some 39) _ = _
                      simp only [Act.put, List.setIfInBounds_toArray, List.set_cons_zero, List.set_cons_succ, i64_w, i32_w]
                      rfl
                    refine pure_ (i := 4) (N := some 42) (v := ?_) (a' := ?_) #[true, true, true, true, true, true, true, true, true, true, false, false, false, false] rfl rfl (any_of HT_.out (by kernel_rfl)) (fun _ _ _ h => h) (Or.inl ⟨by rfl, ?_⟩) ?_ ?_
                    rotate_left
                    · intro w'
                      go_simp
                      with_reducible rfl
                    rotate_left
                    · simp only [Act.put, List.setIfInBounds_toArray, List.set_cons_zero, List.set_cons_succ, i64_w, i32_w]
                      rfl
                    refine pure_ (i := 10) (N := some 48) (v := ?_) (a' := ?_) #[true, true, true, true, true, true, true, true, true, true, true, false, false, false] rfl rfl (any_of HT_.out (by kernel_rfl)) (fun _ _ _ h => h) (Or.inl ⟨by rfl, ?_⟩) ?_ ?_
                    rotate_left
                    · intro w'
                      go_simp
                      with_reducible rfl
                    rotate_left
                    · simp only [Act.put, List.setIfInBounds_toArray, List.set_cons_zero, List.set_cons_succ, i64_w, i32_w]
                      rfl
                    refine one_ (i := 11) (N := none) #[true, true, true, true, true, true, true, true, true, true, true, true, false, false] rfl rfl (one_of HT_.out (by kernel_rfl)) (by decide) (fun K hK => ?_)
                    have hs29 : w28.cell? ⟨gb336, 0, none⟩ = some (.int .i64 x337000_2) := (blk_cell BK336.out 0).trans rfl
                    have hfs29 := blk_frozen BK336.out 0
                    have hns29_0 := NB330_336.out
                    have hns29_2 := NB338_336.out
                    have hms29_0 := NB336_330.out
                    have hms29_2 := NB336_338.out
                    refine skip_ (w1 := ?_) (by rfl) rfl ?_ ?_
                    rotate_left
                    · go_simp
                      rfl
                    refine hK.out _ _ ⟨(cell_off (by decide) _).trans (hHeld.1), (cell_off (by decide) _).trans (hHeld.2.1), (cell_off (by decide) _).trans (hHeld.2.2.1), ((cell_far (p := ⟨gb336, _, none⟩) NB338_336.out _).trans (hHeld.2.2.2.1)), ((cell_far (p := ⟨gb336, _, none⟩) NB338_336.out _).trans (hHeld.2.2.2.2))⟩ (fun hHeld => ?_)
                    clear hK K
                    refine pure_ (i := 12) (N := some 49) (v := ?_) (a' := ?_) #[true, true, true, true, true, true, true, true, true, true, true, true, true, false] rfl rfl (any_of HT_.out (by kernel_rfl)) (fun _ _ _ h => h) (Or.inl ⟨by rfl, ?_⟩) ?_ ?_
                    rotate_left
                    · intro w'
                      go_simp
                      with_reducible rfl
                    rotate_left
                    · simp only [Act.put, List.setIfInBounds_toArray, List.set_cons_zero, List.set_cons_succ, i64_w, i32_w]
                      rfl
                    refine last_ (i := 13) (N := none) #[true, true, true, true, true, true, true, true, true, true, true, true, true, true] rfl rfl (one_of HT_.out (by kernel_rfl)) (by decide) (fun K hK => ?_)
                    have hs30 : w28.cell? ⟨gb336, 1, none⟩ = some (.int .i64 x337001_2) := (blk_cell BK336.out 1).trans rfl
                    have hfs30 := blk_frozen BK336.out 1
                    have hns30_0 := NB330_336.out
                    have hns30_2 := NB338_336.out
                    have hms30_0 := NB336_330.out
                    have hms30_2 := NB336_338.out
                    refine skip_ (w1 := ?_) (by rfl) rfl ?_ ?_
                    rotate_left
                    · go_simp
                      rfl
                    refine hK.out _ _ ?_
                    clear hK K
                    refine done_ (done_of HT_.out (by kernel_rfl)) ?_
                    try go_wp2
                    have n0_ : Aside0 (((w28.setCell ⟨gb336, 0, none⟩ (.int .i64 ji19)).setCell ⟨gb336, 1, none⟩ (.int .i64 ji20)).heap[gb330]? = some (.cells #[.int .i64 0, .int .i64 0, .int .i64 0, .int .i64 0] 39 (0, 0))) := ⟨kS⟩
                    have n1_ : Aside0 (((w28.setCell ⟨gb336, 0, none⟩ (.int .i64 ji19)).setCell ⟨gb336, 1, none⟩ (.int .i64 ji20)).heap[gb336]? = some (.cells #[.int .i64 ji19, .int .i64 ji20, .int .i64 x337002_2, .int .i64 x337003_2] 39 (0, 0))) := ⟨kS⟩
                    have n2_ : Aside0 (((w28.setCell ⟨gb336, 0, none⟩ (.int .i64 ji19)).setCell ⟨gb336, 1, none⟩ (.int .i64 ji20)).heap[gb338]? = some (.cells #[.int .i64 ((rd_T166 l0 x34_2).f0), .int .i64 ((rd_T166 l0 x34_2).f1)] 166 (0, 0))) := ⟨kS⟩
                    have n3_ : Aside0 (Below w.heap.size w ((w28.setCell ⟨gb336, 0, none⟩ (.int .i64 ji19)).setCell ⟨gb336, 1, none⟩ (.int .i64 ji20))) := ⟨bS⟩
                    (try clear BK330)
                    (try clear BK336)
                    (try clear BK338)
                    (try clear HB)
                    generalize ((w28.setCell ⟨gb336, 0, none⟩ (.int .i64 ji19)).setCell ⟨gb336, 1, none⟩ (.int .i64 ji20)) = w31 at n0_ n1_ n2_ n3_ ⊢
                    have BK330 := n0_
                    have BK336 := n1_
                    have BK338 := n2_
                    have HB := n3_
                    clear n0_ n1_ n2_ n3_
                    replace BK330 := Aside0.mk (blk_drew BK330.out)
                    replace BK336 := Aside0.mk (blk_drew BK336.out)
                    replace BK338 := Aside0.mk (blk_drew BK338.out)
                    replace HB := Aside0.mk (below_drew1 HB.out)
                    refine start_ (n := 14) (S := fun w' => w'.cell? ⟨gb336, 0, none⟩ = some (.int .i64 ji19) ∧ w'.cell? ⟨gb336, 1, none⟩ = some (.int .i64 ji20) ∧ w'.cell? ⟨gb336, 3, none⟩ = some (.int .i64 x337003_2) ∧ w'.cell? ⟨gb338, 0, none⟩ = some (.int .i64 ((rd_T166 l0 x34_2).f0)) ∧ w'.cell? ⟨gb338, 1, none⟩ = some (.int .i64 ((rd_T166 l0 x34_2).f1))) (ds := [13]) #[false, false, false, false, false, false, false, false, false, false, false, false, false, false] (by kernel_rfl) rfl rfl ⟨(blk_cell BK336.out 0).trans rfl, (blk_cell BK336.out 1).trans rfl, (blk_cell BK336.out 3).trans rfl, (blk_cell BK338.out 0).trans rfl, (blk_cell BK338.out 1).trans rfl⟩ (fun hHeld => ?_); refine with_tabW impl_BoxOf.tab8 impl_BoxOf.bits8 (fun HT_ HW_ => ?_)
                    generalize w31.drew = w32 at BK330 BK336 BK338 HB hHeld ⊢
                    refine pure_ (i := 0) (N := some 50) (v := ?_) (a' := ?_) #[true, false, false, false, false, false, false, false, false, false, false, false, false, false] rfl rfl (any_of HT_.out (by kernel_rfl)) (fun _ _ _ h => h) (Or.inl ⟨by rfl, ?_⟩) ?_ ?_
                    rotate_left
                    · intro w'
                      go_simp
                      with_reducible rfl
                    rotate_left
                    · simp only [Act.put, List.setIfInBounds_toArray, List.set_cons_zero, List.set_cons_succ, i64_w, i32_w]
                      rfl
                    refine pure_ (i := 2) (N := some 52) (v := ?_) (a' := ?_) #[true, false, true, false, false, false, false, false, false, false, false, false, false, false] rfl rfl (any_of HT_.out (by kernel_rfl)) (fun _ _ _ h => h) (Or.inl ⟨by rfl, ?_⟩) ?_ ?_
                    rotate_left
                    · intro w'
                      go_simp
                      with_reducible rfl
                    rotate_left
                    · simp only [Act.put, List.setIfInBounds_toArray, List.set_cons_zero, List.set_cons_succ, i64_w, i32_w]
                      rfl
                    refine pure_ (i := 5) (N := some 55) (v := ?_) (a' := ?_) #[true, false, true, false, false, true, false, false, false, false, false, false, false, false] rfl rfl (any_of HT_.out (by kernel_rfl)) (fun _ _ _ h => h) (Or.inl ⟨by rfl, ?_⟩) ?_ ?_
                    rotate_left
                    · intro w'
                      go_simp
                      with_reducible rfl
                    rotate_left
                    · simp only [Act.put, List.setIfInBounds_toArray, List.set_cons_zero, List.set_cons_succ, i64_w, i32_w]
                      rfl
                    refine pure_ (i := 7) (N := some 57) (v := ?_) (a' := ?_) #[true, false, true, false, false, true, false, true, false, false, false, false, false, false] rfl rfl (any_of HT_.out (by kernel_rfl)) (fun _ _ _ h => h) (Or.inl ⟨by rfl, ?_⟩) ?_ ?_
                    rotate_left
                    · intro w'
                      go_simp
                      with_reducible rfl
                    rotate_left
                    · simp only [Act.put, List.setIfInBounds_toArray, List.set_cons_zero, List.set_cons_succ, i64_w, i32_w]
                      rfl
                    refine take_ (i := 3) (N := some 53) (v := ?_) (a' := ?_) #[true, false, true, true, false, true, false, true, false, false, false, false, false, false] rfl rfl (take_ofW HT_.out HW_.out (by kernel_rfl)) (fun _ _ _ h => h) (Or.inl ⟨by rfl, ?_⟩) hHeld ?_ ?_
                    rotate_left
                    · rintro w' ⟨s0, s1, s2, s3, s4⟩
                      go_simp
                      with_reducible rfl
                    rotate_left
                    · simp only [Act.put, List.setIfInBounds_toArray, List.set_cons_zero, List.set_cons_succ, i64_w, i32_w]
                      rfl
                    refine take_ (i := 6) (N := some 56) (v := ?_) (a' := ?_) #[true, false, true, true, false, true, true, true, false, false, false, false, false, false] rfl rfl (take_ofW HT_.out HW_.out (by kernel_rfl)) (fun _ _ _ h => h) (Or.inl ⟨by rfl, ?_⟩) hHeld ?_ ?_
                    rotate_left
                    · rintro w' ⟨s0, s1, s2, s3, s4⟩
                      go_simp
                      with_reducible rfl
                    rotate_left
                    · simp only [Act.put, List.setIfInBounds_toArray, List.set_cons_zero, List.set_cons_succ, i64_w, i32_w]
                      rfl
                    refine take_ (i := 8) (N := some 58) (v := ?_) (a' := ?_) #[true, false, true, true, false, true, true, true, true, false, false, false, false, false] rfl rfl (take_ofW HT_.out HW_.out (by kernel_rfl)) (fun _ _ _ h => h) (Or.inl ⟨by rfl, ?_⟩) hHeld ?_ ?_
                    rotate_left
                    · rintro w' ⟨s0, s1, s2, s3, s4⟩
                      go_simp
                      with_reducible rfl
                    rotate_left
                    · simp only [Act.put, List.setIfInBounds_toArray, List.set_cons_zero, List.set_cons_succ, i64_w, i32_w]
                      rfl
                    refine pure_ (i := 9) (N := some 59) (v := ?_) (a' := ?_) #[true, false, true, true, false, true, true, true, true, true, false, false, false, false] rfl rfl (any_of HT_.out (by kernel_rfl)) (fun _ _ _ h => h) (Or.inl ⟨by rfl, ?_⟩) ?_ ?_
                    rotate_left
                    · intro w'
                      go_simp
                      with_reducible rfl
                    rotate_left
                    · simp only [Act.put, List.setIfInBounds_toArray, List.set_cons_zero, List.set_cons_succ, i64_w, i32_w]
                      rfl
                    refine one_ (i := 1) (N := some 51) #[true, true, true, true, false, true, true, true, true, true, false, false, false, false] rfl rfl (one_of HT_.out (by kernel_rfl)) (by decide) (fun K hK => ?_)
                    have hl1_ := (blk_cell BK336.out 2).trans (show _ = some (.int .i64 x337002_2) from rfl)
                    refine value_ (w1 := ?_) (v := ?_) (by rfl) rfl ?_ ?_
                    rotate_left 2
                    · go_simp
                      constructor
                      · rfl
                      · rfl
                    refine hK.out _ _ ⟨hHeld.1, hHeld.2.1, hHeld.2.2.1, hHeld.2.2.2.1, hHeld.2.2.2.2⟩ (fun hHeld => ?_)
                    clear hK K
                    refine norm_ (a' := ?_) ?_ ?_
                    rotate_left
                    · show Act.put _ (some 51) _ = _
                      simp only [Act.put, List.setIfInBounds_toArray, List.set_cons_zero, List.set_cons_succ, i64_w, i32_w]
                      rfl
                    refine pure_ (i := 4) (N := some 54) (v := ?_) (a' := ?_) #[true, true, true, true, true, true, true, true, true, true, false, false, false, false] rfl rfl (any_of HT_.out (by kernel_rfl)) (fun _ _ _ h => h) (Or.inl ⟨by rfl, ?_⟩) ?_ ?_
                    rotate_left
                    · intro w'
                      go_simp
                      with_reducible rfl
                    rotate_left
                    · simp only [Act.put, List.setIfInBounds_toArray, List.set_cons_zero, List.set_cons_succ, i64_w, i32_w]
                      rfl
                    refine pure_ (i := 10) (N := some 60) (v := ?_) (a' := ?_) #[true, true, true, true, true, true, true, true, true, true, true, false, false, false] rfl rfl (any_of HT_.out (by kernel_rfl)) (fun _ _ _ h => h) (Or.inl ⟨by rfl, ?_⟩) ?_ ?_
                    rotate_left
                    · intro w'
                      go_simp
                      with_reducible rfl
                    rotate_left
                    · simp only [Act.put, List.setIfInBounds_toArray, List.set_cons_zero, List.set_cons_succ, i64_w, i32_w]
                      rfl
                    refine one_ (i := 11) (N := none) #[true, true, true, true, true, true, true, true, true, true, true, true, false, false] rfl rfl (one_of HT_.out (by kernel_rfl)) (by decide) (fun K hK => ?_)
                    have hs33 : w32.cell? ⟨gb336, 2, none⟩ = some (.int .i64 x337002_2) := (blk_cell BK336.out 2).trans rfl
                    have hfs33 := blk_frozen BK336.out 2
                    have hns33_0 := NB330_336.out
                    have hns33_2 := NB338_336.out
                    have hms33_0 := NB336_330.out
                    have hms33_2 := NB336_338.out
                    refine skip_ (w1 := ?_) (by rfl) rfl ?_ ?_
                    rotate_left
                    · go_simp
                      rfl
                    refine hK.out _ _ ⟨(cell_off (by decide) _).trans (hHeld.1), (cell_off (by decide) _).trans (hHeld.2.1), (cell_off (by decide) _).trans (hHeld.2.2.1), ((cell_far (p := ⟨gb336, _, none⟩) NB338_336.out _).trans (hHeld.2.2.2.1)), ((cell_far (p := ⟨gb336, _, none⟩) NB338_336.out _).trans (hHeld.2.2.2.2))⟩ (fun hHeld => ?_)
                    clear hK K
                    refine pure_ (i := 12) (N := some 61) (v := ?_) (a' := ?_) #[true, true, true, true, true, true, true, true, true, true, true, true, true, false] rfl rfl (any_of HT_.out (by kernel_rfl)) (fun _ _ _ h => h) (Or.inl ⟨by rfl, ?_⟩) ?_ ?_
                    rotate_left
                    · intro w'
                      go_simp
                      with_reducible rfl
                    rotate_left
                    · simp only [Act.put, List.setIfInBounds_toArray, List.set_cons_zero, List.set_cons_succ, i64_w, i32_w]
                      rfl
                    refine last_ (i := 13) (N := none) #[true, true, true, true, true, true, true, true, true, true, true, true, true, true] rfl rfl (one_of HT_.out (by kernel_rfl)) (by decide) (fun K hK => ?_)
                    have hs34 : w32.cell? ⟨gb336, 3, none⟩ = some (.int .i64 x337003_2) := (blk_cell BK336.out 3).trans rfl
                    have hfs34 := blk_frozen BK336.out 3
                    have hns34_0 := NB330_336.out
                    have hns34_2 := NB338_336.out
                    have hms34_0 := NB336_330.out
                    have hms34_2 := NB336_338.out
                    refine skip_ (w1 := ?_) (by rfl) rfl ?_ ?_
                    rotate_left
                    · go_simp
                      rfl
                    refine hK.out _ _ ?_
                    clear hK K
                    refine done_ (done_of HT_.out (by kernel_rfl)) ?_
                    try go_wp2
                    go_roundg k2
                    case measure => have := HJ1.out; have := HK2.out; omega
                    case rel => exact ⟨(wrap64 (x34_2 + 1)), (ji19), (ji20), (ji21), (ji22), (by first | rfl | (simp; done) | (simp [*]; done)), H', ⟨by have := HJ1.out; have := HK2.out; omega⟩, ⟨kS⟩, ⟨kS⟩, ⟨bS⟩⟩
                  · rw [if_neg c18] at H
                    exact absurd H (by simp)
                · rw [if_neg c17] at H
                  exact absurd H (by simp)
              · rw [if_neg c16] at H
                have c16b0 : decide (x34_2 < (l0.length : Int)) = false := decide_eq_false c16
                clear c16
                simp only [Option.some.injEq, Prod.mk.injEq] at H
                obtain ⟨rfl, rfl, rfl, rfl⟩ := H
                have hnb35 := NB336_330.out
                have hnc35 := NB330_336.out
                have hz36 := cz4 BK336
                have hz37 := cz4 BK330
                go_wp2
                refine bodyPost_ret (results_cell_row rfl _ _ gb330 39 #[.int .i64 x337000_2, .int .i64 x337001_2, .int .i64 x337002_2, .int .i64 x337003_2] (0, 0) _ rfl kS Try.underlying39 rfl (by kernel_rfl)) rfl ?_
                exact ⟨eS, bS⟩
        · rw [if_neg c9] at H
          exact absurd H (by simp)

/-! ### impl_pageBox: function 152 -/
def impl_pageBox.f  : Option (Int × Int × Int × Int) := some (0, 0, 32, 32)
theorem impl_pageBox.calls  (r1 : Int) (r2 : Int) (r3 : Int) (r4 : Int) (w : World) (h : impl_pageBox.f  = some (r1, r2, r3, r4)) :
    Calls Try.prog 152 #[] w fun e w' => e = .returned (.agg #[.int .i64 r1, .int .i64 r2, .int .i64 r3, .int .i64 r4]) ∧ Below w.heap.size w w' := by
  have hu39 := Try.underlying39
  have HB := Aside0.mk (Below.refl w.heap.size w)
  have H : (some (0, 0, 32, 32)) = some (r1, r2, r3, r4) := h
  clear h
  simp only [Option.some.injEq, Prod.mk.injEq] at H
  obtain ⟨rfl, rfl, rfl, rfl⟩ := H
  go_enter Try.func152, Try.ntmps152
  go_wp2_with (first | ((with_reducible refine gD 0 ?_); refine bxE #[.int .i64 0, .int .i64 0, .int .i64 0, .int .i64 0] 39 ?_; intro gb339 hg w1 BK339 hb; have GW339 := gE hg; have GE339 := gE hg; replace HB := hB hb; clear hb hg; have hz2 := cz4 BK339))
  refine bodyPost_ret (results_cell_row rfl _ _ gb339 39 #[.int .i64 0, .int .i64 0, .int .i64 32, .int .i64 32] (0, 0) _ rfl kS Try.underlying39 rfl (by kernel_rfl)) rfl ?_
  exact ⟨eS, bS⟩

end Go.Proofs.Ytimpejidlnjhlaa.QFnPaints
