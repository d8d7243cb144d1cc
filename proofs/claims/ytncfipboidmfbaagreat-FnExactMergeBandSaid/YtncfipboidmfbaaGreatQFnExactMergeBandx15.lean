-- Made out of the translation by a program of this session (a changed copy of the print). Not trusted: Lean checks it.
import Derived.Test.YtncfipboidmfbaaGreatQFnExactMergeBandx0
import Derived.Test.YtncfipboidmfbaaGreatQFnExactMergeBandx13
namespace Go.Proofs.YtncfipboidmfbaaGreat.QFnExactMergeBand
open Go.RowKit Go.Proofs.YtncfipboidmfbaaGreatW.PrintWords Go.Proofs.YtncfipboidmfbaaGreatW.PrintLast Go.Proofs.YtncfipboidmfbaaGreatW.PrintMore
attribute [local go_sem] max2_int min2_int max_two min_two max_three min_three max_four min_four   -- for this text's walks alone
set_option linter.unusedVariables false
set_option linter.unusedSimpArgs false
set_option maxHeartbeats 8000000
set_option maxRecDepth 100000

/-! ### impl_BoxOf: function 152 -/
mutual
def impl_BoxOf.j0 : Nat → List (S151) → Bool → Option (Int × Int × Int × Int)
 | 0, _, _ => none
 | k + 1, x0, x13 => if x13 = true then (some (0, 0, 0, 0)) else (if 0 < (x0.length : Int) then (impl_BoxOf.l0 k x0 (x0.length : Int) 0 ((rd_T151 x0 0).f0) ((rd_T151 x0 0).f1) ((rd_T151 x0 0).f0) ((rd_T151 x0 0).f1)) else (none))
def impl_BoxOf.l0 : Nat → List (S151) → Int → Int → Int → Int → Int → Int → Option (Int × Int × Int × Int)
 | 0, _, _, _, _, _, _, _ => none
 | k + 1, x32, x33, x34, x509000, x509001, x509002, x509003 => if x34 < x33 then (if 0 ≤ x34 then (if x34 < (x32.length : Int) then (impl_BoxOf.l0 k x32 x33 (wrap64 (x34 + 1)) (mn x509000 ((rd_T151 x32 x34).f0)) (mn x509001 ((rd_T151 x32 x34).f1)) (mx x509002 ((rd_T151 x32 x34).f0)) (mx x509003 ((rd_T151 x32 x34).f1))) else (none)) else (none)) else (some (x509000, x509001, x509002, x509003))
end
def impl_BoxOf.f (k : Nat) (l0 : List (S151)) : Option (Int × Int × Int × Int) := if (l0.length : Int) = 0 then (impl_BoxOf.j0 k l0 true) else ((impl_pointsOk.f k l0).bind fun t503 => (impl_BoxOf.j0 k l0 (!t503)))
def impl_BoxOf.T3 : Bool × List (List Nat × List Nat) := (true, [([], []), ([0], [0]), ([1], [1]), ([2], [2]), ([], []), ([4], [4]), ([5], [5]), ([6], [6]), ([], []), ([8], [8]), ([9], [9]), ([10], [10]), ([], []), ([12], [12]), ([13], [13]), ([14], [14]), ([3, 7, 11, 15], [3, 7, 11, 15]), ([], []), ([17, 16, 0, 1, 2, 3, 4, 5, 6, 7, 8, 9, 10, 11, 12, 13, 14, 15, 16, 17], [16, 17])])
def impl_BoxOf.B3 : List Nat := [0, 1, 3, 7, 0, 16, 48, 112, 0, 256, 768, 1792, 0, 4096, 12288, 28672, 65535, 0, 262143]
theorem impl_BoxOf.tab3 : rtab .any (opsOf Tryz.f152 3) = impl_BoxOf.T3 := by kernel_rfl
theorem impl_BoxOf.bits3 : waitsOk impl_BoxOf.T3.2 impl_BoxOf.B3 = true := by kernel_rfl
def impl_BoxOf.T7 : Bool × List (List Nat × List Nat) := (true, [([], []), ([0], [0]), ([], []), ([2], [2]), ([1, 3], [1, 3]), ([], []), ([5], [5]), ([], []), ([7], [7]), ([6, 8], [6, 8]), ([0, 1, 2, 3, 4, 5, 6], []), ([10, 4, 0, 1, 2, 3, 4, 5, 6], [4, 10]), ([0, 1, 2, 3, 4, 5, 6, 7, 8, 9, 10, 11], []), ([12, 9, 11, 0, 1, 2, 3, 4, 5, 6, 7, 8, 9, 10, 11], [9, 12])])
def impl_BoxOf.B7 : List Nat := [0, 1, 0, 4, 15, 0, 32, 0, 128, 480, 127, 1151, 4095, 8191]
theorem impl_BoxOf.tab7 : rtab .any (opsOf Tryz.f152 7) = impl_BoxOf.T7 := by kernel_rfl
theorem impl_BoxOf.bits7 : waitsOk impl_BoxOf.T7.2 impl_BoxOf.B7 = true := by kernel_rfl
def impl_BoxOf.T8 : Bool × List (List Nat × List Nat) := (true, [([], []), ([0], [0]), ([], []), ([2], [2]), ([1, 3], [1, 3]), ([], []), ([5], [5]), ([], []), ([7], [7]), ([6, 8], [6, 8]), ([0, 1, 2, 3, 4, 5, 6], []), ([10, 4, 0, 1, 2, 3, 4, 5, 6], [4, 10]), ([0, 1, 2, 3, 4, 5, 6, 7, 8, 9, 10, 11], []), ([12, 9, 11, 0, 1, 2, 3, 4, 5, 6, 7, 8, 9, 10, 11], [9, 12])])
def impl_BoxOf.B8 : List Nat := [0, 1, 0, 4, 15, 0, 32, 0, 128, 480, 127, 1151, 4095, 8191]
theorem impl_BoxOf.tab8 : rtab .any (opsOf Tryz.f152 8) = impl_BoxOf.T8 := by kernel_rfl
theorem impl_BoxOf.bits8 : waitsOk impl_BoxOf.T8.2 impl_BoxOf.B8 = true := by kernel_rfl
theorem impl_BoxOf.calls (k : Nat) (A0 : Option Addr) (c0 : Nat) (l0 : List (S151)) (r1 : Int) (r2 : Int) (r3 : Int) (r4 : Int) (w : World) (hr0 : Kd.C k151 w A0 l0.length l0) (hc0 : l0.length ≤ c0) (h : impl_BoxOf.f k l0 = some (r1, r2, r3, r4)) :
  Calls Tryz.prog 152 #[.slice A0 l0.length c0] w fun e w' => e = .returned (.agg #[.int .i64 r1, .int .i64 r2, .int .i64 r3, .int .i64 r4]) ∧ Below w.heap.size w w' := by
 have hu47 := Tryz.underlying47
 have hu151 := Tryz.underlying151
 have HR0 := Aside0.mk hr0
 have HC0 := Aside0.mk hc0
 clear hr0 hc0
 have HB := Aside0.mk (Below.refl w.heap.size w)
 have H : (if (l0.length : Int) = 0 then (impl_BoxOf.j0 k l0 true) else ((impl_pointsOk.f k l0).bind fun t503 => (impl_BoxOf.j0 k l0 (!t503)))) = some (r1, r2, r3, r4) := h
 clear h
 have HC2 := Aside0.mk H
 clear H
 go_enter Tryz.func152, Tryz.ntmps152
 go_upto_region 1 with (first | ((with_reducible refine gD 2 ?_); refine bxE #[.int .i64 0, .int .i64 0, .int .i64 0, .int .i64 0] 47 ?_; intro gb502 hg w3 BK502 hb; have GW502 := gE hg; have GE502 := gE hg; replace HB := hB hb; clear hb hg))
 (try simp only [Act.put, List.setIfInBounds_toArray, List.set_cons_zero, List.set_cons_succ])
 go_cut [13] (fun v13 wc => ∃ (kq : Nat) (x13_1 : Bool), v13 = .bool x13_1 ∧ Aside0 (impl_BoxOf.j0 kq l0 x13_1 = some (r1, r2, r3, r4)) ∧ Aside0 (kq ≤ k) ∧ Aside0 (wc.heap[gb502]? = some (.cells #[.int .i64 0, .int .i64 0, .int .i64 0, .int .i64 0] 47 (0, 0))) ∧ Aside0 (Below w.heap.size w wc))
 case first =>
  have H := HC2.out
  clear HC2
  by_cases c4 : (l0.length : Int) = 0
  ·rw [if_pos c4] at H
   have c4b0 : ((l0.length : Int) == 0) = true := beq_iff_eq.mpr c4
   have c4b1 : ((l0.length : Int) != 0) = false := bne_eq_false_iff_eq.mpr c4
   clear c4
   (first | rw [c4b0] | (simp only [i64_w, i32_w]; rw [c4b0]) | skip)
   have H' := Aside0.mk H
   clear H
   go_wp2
   go_meet
   case rel => exact ⟨_, (true), fS, H', ⟨by first | omega | exact Nat.le_refl _⟩, ⟨kS⟩, ⟨bS⟩⟩
  ·rw [if_neg c4] at H
   have c4b0 : ((l0.length : Int) == 0) = false := beq_eq_false_iff_ne.mpr c4
   have c4b1 : ((l0.length : Int) != 0) = true := bne_iff_ne.mpr c4
   have c4b2 : ¬ (l0 = []) := fun h_ => c4 (by rw [h_]; rfl)
   (first | rw [c4b0] | (simp only [i64_w, i32_w]; rw [c4b0]) | skip)
   replace H := bN H
   obtain ⟨t503, A5, H⟩ := H
   have H' := Aside0.mk H
   clear H
   go_wp2_with (first | (go_at_call 125; (with_reducible refine (impl_pointsOk.calls k _ _ l0 t503 _ (cS (Kd.C_below HR0.out HB.out)) HC0.out A5.out).mono ?_); rintro e w6 ⟨rfl, hb⟩; replace BK502 := kB (g := gb502) hb; replace HB := hB hb; (try clear hb); (try clear hb2); (try clear hk); (try clear hi)))
   go_meet
   case rel => exact ⟨_, (!t503), fS, H', ⟨by first | omega | exact Nat.le_refl _⟩, ⟨kS⟩, ⟨bS⟩⟩
 case rest =>
  clear HC2
  try clear c1
  try clear p2
  try clear c4
  try clear c4b0
  try clear c4b1
  try clear c4b2
  obtain ⟨kq, x13_1, rfl, HA, HJ1, BK502, HB⟩ := hcut
  cases kq with
  | zero => exact absurd HA.out (by simp [impl_BoxOf.j0])
  | succ kj1 =>
   have H := HA.out
   clear HA
   simp only [impl_BoxOf.j0] at H
   by_cases c7 : x13_1 = true
   ·subst c7
    rw [if_pos rfl] at H
    obtain ⟨rfl, rfl, rfl, rfl⟩ := sI4 H
    have hcz8_0 : wc.cell? ⟨gb502, 0, none⟩ = some (.int .i64 0) := (blk_cell BK502.out 0).trans rfl
    have hcz8_1 : wc.cell? ⟨gb502, 1, none⟩ = some (.int .i64 0) := (blk_cell BK502.out 1).trans rfl
    have hcz8_2 : wc.cell? ⟨gb502, 2, none⟩ = some (.int .i64 0) := (blk_cell BK502.out 2).trans rfl
    have hcz8_3 : wc.cell? ⟨gb502, 3, none⟩ = some (.int .i64 0) := (blk_cell BK502.out 3).trans rfl
    have hfz8_0 := blk_frozen BK502.out 0
    have hfz8_1 := blk_frozen BK502.out 1
    have hfz8_2 := blk_frozen BK502.out 2
    have hfz8_3 := blk_frozen BK502.out 3
    go_wp2
    refine bodyPost_ret (results_cell_row rfl _ _ gb502 47 #[.int .i64 0, .int .i64 0, .int .i64 0, .int .i64 0] (0, 0) _ rfl kS Tryz.underlying47 rfl (by kernel_rfl)) rfl ?_
    exact ⟨eS, bS⟩
   ·obtain rfl := Bool.eq_false_iff.mpr c7
    rw [if_neg nF] at H
    by_cases c9 : 0 < (l0.length : Int)
    ·rw [if_pos c9] at H
     have c9b0 : decide (0 < (l0.length : Int)) = true := decide_eq_true c9
     have c9b1 : decide (0 < l0.length) = true := decide_eq_true (by omega)
     clear c9
     have H' := Aside0.mk H
     clear H
     try go_wp2
     replace BK502 := Aside0.mk (blk_drew BK502.out)
     replace HB := Aside0.mk (below_drew1 HB.out)
     have p504 : 0 ≤ (0 : Int) := (by omega)
     have q504 : 0 < (l0.length : Int) := dA
     obtain ⟨ad504, e504, hx504_0, hx504_1⟩ := at_T151 HR0.out 0 p504 q504
     have hw504_1 := hx504_1
     (try rw [show ((0 : Int)).toNat = 0 from rfl] at hw504_1)
     (try rw [show 0 * 2 = 0 from rfl] at hw504_1)
     (try rw [Addr.add_zero'] at hw504_1)
     have hw504_0 := hx504_0
     (try rw [show ((0 : Int)).toNat = 0 from rfl] at hw504_0)
     (try rw [show 0 * 2 = 0 from rfl] at hw504_0)
     (try rw [Addr.add_zero'] at hw504_0)
     cases e504
     have qi504 : (0 < l0.length) = True := eq_true (by omega)
     (try rw [show ((0 : Int)).toNat = 0 from rfl] at hx504_0)
     (try rw [show 0 * 2 = 0 from rfl] at hx504_0)
     (try rw [Addr.add_zero'] at hx504_0)
     (try rw [show ((0 : Int)).toNat = 0 from rfl] at hx504_1)
     (try rw [show 0 * 2 = 0 from rfl] at hx504_1)
     (try rw [Addr.add_zero'] at hx504_1)
     replace hx504_0 := cB HB hx504_0
     replace hx504_1 := cB HB hx504_1
     replace p504 := eq_true p504
     replace q504 := eq_true q504
     have p505 : 0 ≤ (0 : Int) := (by omega)
     have q505 : 0 < (l0.length : Int) := dA
     obtain ⟨ad505, e505, hx505_0, hx505_1⟩ := at_T151 HR0.out 0 p505 q505
     have hw505_1 := hx505_1
     (try rw [show ((0 : Int)).toNat = 0 from rfl] at hw505_1)
     (try rw [show 0 * 2 = 0 from rfl] at hw505_1)
     (try rw [Addr.add_zero'] at hw505_1)
     have hw505_0 := hx505_0
     (try rw [show ((0 : Int)).toNat = 0 from rfl] at hw505_0)
     (try rw [show 0 * 2 = 0 from rfl] at hw505_0)
     (try rw [Addr.add_zero'] at hw505_0)
     obtain rfl : ad504 = ad505 := (by injection e505)
     have qi505 : (0 < l0.length) = True := eq_true (by omega)
     (try rw [show ((0 : Int)).toNat = 0 from rfl] at hx505_0)
     (try rw [show 0 * 2 = 0 from rfl] at hx505_0)
     (try rw [Addr.add_zero'] at hx505_0)
     (try rw [show ((0 : Int)).toNat = 0 from rfl] at hx505_1)
     (try rw [show 0 * 2 = 0 from rfl] at hx505_1)
     (try rw [Addr.add_zero'] at hx505_1)
     replace hx505_0 := cB HB hx505_0
     replace hx505_1 := cB HB hx505_1
     replace p505 := eq_true p505
     replace q505 := eq_true q505
     have p506 : 0 ≤ (0 : Int) := (by omega)
     have q506 : 0 < (l0.length : Int) := dA
     obtain ⟨ad506, e506, hx506_0, hx506_1⟩ := at_T151 HR0.out 0 p506 q506
     have hw506_1 := hx506_1
     (try rw [show ((0 : Int)).toNat = 0 from rfl] at hw506_1)
     (try rw [show 0 * 2 = 0 from rfl] at hw506_1)
     (try rw [Addr.add_zero'] at hw506_1)
     have hw506_0 := hx506_0
     (try rw [show ((0 : Int)).toNat = 0 from rfl] at hw506_0)
     (try rw [show 0 * 2 = 0 from rfl] at hw506_0)
     (try rw [Addr.add_zero'] at hw506_0)
     obtain rfl : ad504 = ad506 := (by injection e506)
     have qi506 : (0 < l0.length) = True := eq_true (by omega)
     (try rw [show ((0 : Int)).toNat = 0 from rfl] at hx506_0)
     (try rw [show 0 * 2 = 0 from rfl] at hx506_0)
     (try rw [Addr.add_zero'] at hx506_0)
     (try rw [show ((0 : Int)).toNat = 0 from rfl] at hx506_1)
     (try rw [show 0 * 2 = 0 from rfl] at hx506_1)
     (try rw [Addr.add_zero'] at hx506_1)
     replace hx506_0 := cB HB hx506_0
     replace hx506_1 := cB HB hx506_1
     replace p506 := eq_true p506
     replace q506 := eq_true q506
     have p507 : 0 ≤ (0 : Int) := (by omega)
     have q507 : 0 < (l0.length : Int) := dA
     obtain ⟨ad507, e507, hx507_0, hx507_1⟩ := at_T151 HR0.out 0 p507 q507
     have hw507_1 := hx507_1
     (try rw [show ((0 : Int)).toNat = 0 from rfl] at hw507_1)
     (try rw [show 0 * 2 = 0 from rfl] at hw507_1)
     (try rw [Addr.add_zero'] at hw507_1)
     have hw507_0 := hx507_0
     (try rw [show ((0 : Int)).toNat = 0 from rfl] at hw507_0)
     (try rw [show 0 * 2 = 0 from rfl] at hw507_0)
     (try rw [Addr.add_zero'] at hw507_0)
     obtain rfl : ad504 = ad507 := (by injection e507)
     have qi507 : (0 < l0.length) = True := eq_true (by omega)
     (try rw [show ((0 : Int)).toNat = 0 from rfl] at hx507_0)
     (try rw [show 0 * 2 = 0 from rfl] at hx507_0)
     (try rw [Addr.add_zero'] at hx507_0)
     (try rw [show ((0 : Int)).toNat = 0 from rfl] at hx507_1)
     (try rw [show 0 * 2 = 0 from rfl] at hx507_1)
     (try rw [Addr.add_zero'] at hx507_1)
     replace hx507_0 := cB HB hx507_0
     replace hx507_1 := cB HB hx507_1
     replace p507 := eq_true p507
     replace q507 := eq_true q507
     refine start_ (n := 19) (S := fun w' => w'.cell? ad504 = some (.int .i64 ((rd_T151 l0 0).f0)) ∧ w'.cell? ⟨ad504.block, ad504.off + 1, none⟩ = some (.int .i64 ((rd_T151 l0 0).f1)) ∧ w'.cell? ad504 = some (.int .i64 ((rd_T151 l0 0).f0)) ∧ w'.cell? ⟨ad504.block, ad504.off + 1, none⟩ = some (.int .i64 ((rd_T151 l0 0).f1)) ∧ w'.cell? ad504 = some (.int .i64 ((rd_T151 l0 0).f0)) ∧ w'.cell? ⟨ad504.block, ad504.off + 1, none⟩ = some (.int .i64 ((rd_T151 l0 0).f1)) ∧ w'.cell? ad504 = some (.int .i64 ((rd_T151 l0 0).f0)) ∧ w'.cell? ⟨ad504.block, ad504.off + 1, none⟩ = some (.int .i64 ((rd_T151 l0 0).f1))) (ds := []) #[false, false, false, false, false, false, false, false, false, false, false, false, false, false, false, false, false, false, false] (by kernel_rfl) rfl rfl ⟨(cB HB hw504_0), (cB HB hw504_1), (cB HB hw505_0), (cB HB hw505_1), (cB HB hw506_0), (cB HB hw506_1), (cB HB hw507_0), (cB HB hw507_1)⟩ (fun hHeld => ?_); refine with_tabW impl_BoxOf.tab3 impl_BoxOf.bits3 (fun HT_ HW_ => ?_)
     generalize wc.drew = w10 at BK502 HB hx504_0 hx504_1 hx505_0 hx505_1 hx506_0 hx506_1 hx507_0 hx507_1 hHeld ⊢
     refine pU 0 (some 15) #[true, false, false, false, false, false, false, false, false, false, false, false, false, false, false, false, false, false, false] ?_
     refine pU 1 (some 16) #[true, true, false, false, false, false, false, false, false, false, false, false, false, false, false, false, false, false, false] ?_
     refine pU 2 (some 17) #[true, true, true, false, false, false, false, false, false, false, false, false, false, false, false, false, false, false, false] ?_
     refine pU 4 (some 19) #[true, true, true, false, true, false, false, false, false, false, false, false, false, false, false, false, false, false, false] ?_
     refine pU 5 (some 20) #[true, true, true, false, true, true, false, false, false, false, false, false, false, false, false, false, false, false, false] ?_
     refine pU 6 (some 21) #[true, true, true, false, true, true, true, false, false, false, false, false, false, false, false, false, false, false, false] ?_
     refine pU 8 (some 23) #[true, true, true, false, true, true, true, false, true, false, false, false, false, false, false, false, false, false, false] ?_
     refine pU 9 (some 24) #[true, true, true, false, true, true, true, false, true, true, false, false, false, false, false, false, false, false, false] ?_
     refine pU 10 (some 25) #[true, true, true, false, true, true, true, false, true, true, true, false, false, false, false, false, false, false, false] ?_
     refine pU 12 (some 27) #[true, true, true, false, true, true, true, false, true, true, true, false, true, false, false, false, false, false, false] ?_
     refine pU 13 (some 28) #[true, true, true, false, true, true, true, false, true, true, true, false, true, true, false, false, false, false, false] ?_
     refine pU 14 (some 29) #[true, true, true, false, true, true, true, false, true, true, true, false, true, true, true, false, false, false, false] ?_
     refine tK 3 (some 18) #[true, true, true, true, true, true, true, false, true, true, true, false, true, true, true, false, false, false, false] ?_
     refine tK 7 (some 22) #[true, true, true, true, true, true, true, true, true, true, true, false, true, true, true, false, false, false, false] ?_
     refine tK 11 (some 26) #[true, true, true, true, true, true, true, true, true, true, true, true, true, true, true, false, false, false, false] ?_
     refine tK 15 (some 30) #[true, true, true, true, true, true, true, true, true, true, true, true, true, true, true, true, false, false, false] ?_
     refine pU 16 (some 31) #[true, true, true, true, true, true, true, true, true, true, true, true, true, true, true, true, true, false, false] ?_
     refine one_ (i := 17) (N := some 3) #[true, true, true, true, true, true, true, true, true, true, true, true, true, true, true, true, true, true, false] rfl rfl (one_of HT_.out (by kernel_rfl)) (by decide) (fun K hK => ?_)
     refine box_step ?hg (N := 3) ?hd (cs := #[.int .i64 0, .int .i64 0, .int .i64 0, .int .i64 0]) (t := 47) ?hr ?_; (case hd => rfl); (case hg => rfl); (case hr => first | (go_simp; done) | (go_simp; rfl))
     intro gb508 hg w11 hbox hb
     have BK508 := Aside0.mk (hbox)
     have GW508 := gE hg
     have GE508 := gE hg
     have NB502_508 := nL (g := gb502) hg
     have NB508_502 := nG (g := gb502) hg
     replace BK502 := kB (g := gb502) hb
     replace HB := hB hb
     clear hb hg
     refine hK.out _ _ ⟨(cB HB hw504_0), (cB HB hw504_1), (cB HB hw505_0), (cB HB hw505_1), (cB HB hw506_0), (cB HB hw506_1), (cB HB hw507_0), (cB HB hw507_1)⟩ (fun hHeld => ?_)
     clear hK K
     refine norm_ (a' := ?_) ?_ ?_
     rotate_left
     ·show Act.put _ (some 3) _ = _
      simp only [Act.put, List.setIfInBounds_toArray, List.set_cons_zero, List.set_cons_succ, i64_w, i32_w]
      rfl
     refine one_ (i := 18) (N := none) #[true, true, true, true, true, true, true, true, true, true, true, true, true, true, true, true, true, true, true] rfl rfl (one_of HT_.out (by kernel_rfl)) (by decide) (fun K hK => ?_)
     have hs12 : w11.cell? ⟨gb508, 0, none⟩ = some (.int .i64 0) := (blk_cell BK508.out 0).trans rfl
     have hfs12 := blk_frozen BK508.out 0
     have hns12_0 := NB502_508.out
     have hms12_0 := NB508_502.out
     have hs13 : w11.cell? ⟨gb508, 1, none⟩ = some (.int .i64 0) := (blk_cell BK508.out 1).trans rfl
     have hfs13 := blk_frozen BK508.out 1
     have hns13_0 := NB502_508.out
     have hms13_0 := NB508_502.out
     have hs14 : w11.cell? ⟨gb508, 2, none⟩ = some (.int .i64 0) := (blk_cell BK508.out 2).trans rfl
     have hfs14 := blk_frozen BK508.out 2
     have hns14_0 := NB502_508.out
     have hms14_0 := NB508_502.out
     have hs15 : w11.cell? ⟨gb508, 3, none⟩ = some (.int .i64 0) := (blk_cell BK508.out 3).trans rfl
     have hfs15 := blk_frozen BK508.out 3
     have hns15_0 := NB502_508.out
     have hms15_0 := NB508_502.out
     refine skip_ (w1 := ?_) (by rfl) rfl ?_ ?_
     rotate_left
     ·go_simp
      rfl
     refine hK.out _ _ ⟨((cell_far (p := ⟨gb508, _, none⟩) (nA hw504_0 GW508) _).trans (((cell_far (p := ⟨gb508, _, none⟩) (nA hw504_0 GW508) _).trans (((cell_far (p := ⟨gb508, _, none⟩) (nA hw504_0 GW508) _).trans (((cell_far (p := ⟨gb508, _, none⟩) (nA hw504_0 GW508) _).trans (hHeld.1)))))))), ((cell_far (p := ⟨gb508, _, none⟩) (nA hw504_1 GW508) _).trans (((cell_far (p := ⟨gb508, _, none⟩) (nA hw504_1 GW508) _).trans (((cell_far (p := ⟨gb508, _, none⟩) (nA hw504_1 GW508) _).trans (((cell_far (p := ⟨gb508, _, none⟩) (nA hw504_1 GW508) _).trans (hHeld.2.1)))))))), ((cell_far (p := ⟨gb508, _, none⟩) (nA hw505_0 GW508) _).trans (((cell_far (p := ⟨gb508, _, none⟩) (nA hw505_0 GW508) _).trans (((cell_far (p := ⟨gb508, _, none⟩) (nA hw505_0 GW508) _).trans (((cell_far (p := ⟨gb508, _, none⟩) (nA hw505_0 GW508) _).trans (hHeld.2.2.1)))))))), ((cell_far (p := ⟨gb508, _, none⟩) (nA hw505_1 GW508) _).trans (((cell_far (p := ⟨gb508, _, none⟩) (nA hw505_1 GW508) _).trans (((cell_far (p := ⟨gb508, _, none⟩) (nA hw505_1 GW508) _).trans (((cell_far (p := ⟨gb508, _, none⟩) (nA hw505_1 GW508) _).trans (hHeld.2.2.2.1)))))))), ((cell_far (p := ⟨gb508, _, none⟩) (nA hw506_0 GW508) _).trans (((cell_far (p := ⟨gb508, _, none⟩) (nA hw506_0 GW508) _).trans (((cell_far (p := ⟨gb508, _, none⟩) (nA hw506_0 GW508) _).trans (((cell_far (p := ⟨gb508, _, none⟩) (nA hw506_0 GW508) _).trans (hHeld.2.2.2.2.1)))))))), ((cell_far (p := ⟨gb508, _, none⟩) (nA hw506_1 GW508) _).trans (((cell_far (p := ⟨gb508, _, none⟩) (nA hw506_1 GW508) _).trans (((cell_far (p := ⟨gb508, _, none⟩) (nA hw506_1 GW508) _).trans (((cell_far (p := ⟨gb508, _, none⟩) (nA hw506_1 GW508) _).trans (hHeld.2.2.2.2.2.1)))))))), ((cell_far (p := ⟨gb508, _, none⟩) (nA hw507_0 GW508) _).trans (((cell_far (p := ⟨gb508, _, none⟩) (nA hw507_0 GW508) _).trans (((cell_far (p := ⟨gb508, _, none⟩) (nA hw507_0 GW508) _).trans (((cell_far (p := ⟨gb508, _, none⟩) (nA hw507_0 GW508) _).trans (hHeld.2.2.2.2.2.2.1)))))))), ((cell_far (p := ⟨gb508, _, none⟩) (nA hw507_1 GW508) _).trans (((cell_far (p := ⟨gb508, _, none⟩) (nA hw507_1 GW508) _).trans (((cell_far (p := ⟨gb508, _, none⟩) (nA hw507_1 GW508) _).trans (((cell_far (p := ⟨gb508, _, none⟩) (nA hw507_1 GW508) _).trans (hHeld.2.2.2.2.2.2.2))))))))⟩ (fun hHeld => ?_)
     clear hK K
     refine done_ (done_of HT_.out (by kernel_rfl)) ?_
     try go_wp2
     go_loopg [34] kj1 (fun kq v34 w' => ∃ (x34_2 : Int) (x509000_2 : Int) (x509001_2 : Int) (x509002_2 : Int) (x509003_2 : Int), v34 = .int .i64 x34_2 ∧ Aside0 (impl_BoxOf.l0 kq l0 (l0.length : Int) x34_2 x509000_2 x509001_2 x509002_2 x509003_2 = some (r1, r2, r3, r4)) ∧ Aside0 (kq ≤ kj1) ∧ Aside0 (w'.heap[gb502]? = some (.cells #[.int .i64 0, .int .i64 0, .int .i64 0, .int .i64 0] 47 (0, 0))) ∧ Aside0 (w'.heap[gb508]? = some (.cells #[.int .i64 x509000_2, .int .i64 x509001_2, .int .i64 x509002_2, .int .i64 x509003_2] 47 (0, 0))) ∧ Aside0 (Below w.heap.size w w'))
     case atStart => exact ⟨(0), ((rd_T151 l0 0).f0), ((rd_T151 l0 0).f1), ((rd_T151 l0 0).f0), ((rd_T151 l0 0).f1), fS, H', ⟨Nat.le_refl _⟩, ⟨kS⟩, ⟨kS⟩, ⟨bS⟩⟩
     case round =>
      clear H'
      try clear c1
      try clear p2
      try clear c4
      try clear c4b0
      try clear c4b1
      try clear c4b2
      try clear p5
      try clear q5
      try clear hx5
      try clear qi5
      try clear c7
      try clear c9
      try clear c9b0
      try clear c9b1
      try clear c15
      try clear hcz8_0
      try clear hcz8_1
      try clear hcz8_2
      try clear hcz8_3
      try clear hfz8_0
      try clear hfz8_1
      try clear hfz8_2
      try clear hfz8_3
      try clear hx504_0
      try clear hx504_1
      try clear hx505_0
      try clear hx505_1
      try clear hx506_0
      try clear hx506_1
      try clear hx507_0
      try clear hx507_1
      try clear p2
      try clear p504
      try clear p505
      try clear p506
      try clear p507
      try clear q504
      try clear q505
      try clear q506
      try clear q507
      obtain ⟨x34_2, x509000_2, x509001_2, x509002_2, x509003_2, rfl, HA, HK2, BK502, BK508, HB⟩ := hrel
      cases gk with
      | zero => exact absurd HA.out (by simp [impl_BoxOf.l0])
      | succ k2 =>
       have H := HA.out
       clear HA
       simp only [impl_BoxOf.l0] at H
       rcases iD H with ⟨c16b0, H⟩ | ⟨c16b0, H⟩
       ·obtain ⟨c17b0, H⟩ := iT H
        obtain ⟨c18b0, H⟩ := iT H
        obtain ⟨ji19, hji19⟩ : ∃ j_ : Int, (mn x509000_2 ((rd_T151 l0 x34_2).f0)) = j_ := ⟨_, rfl⟩
        replace H : (impl_BoxOf.l0 k2 l0 (l0.length : Int) (wrap64 (x34_2 + 1)) ji19 (mn x509001_2 ((rd_T151 l0 x34_2).f1)) (mx x509002_2 ((rd_T151 l0 x34_2).f0)) (mx x509003_2 ((rd_T151 l0 x34_2).f1))) = some (r1, r2, r3, r4) := by first | (rw [hji19] at H; exact H) | (simp only [hji19] at H ⊢; exact H)
        have hji19_ : (if ((rd_T151 l0 x34_2).f0) < x509000_2 then ((rd_T151 l0 x34_2).f0) else x509000_2) = ji19 := hji19
        obtain ⟨ji20, hji20⟩ : ∃ j_ : Int, (mn x509001_2 ((rd_T151 l0 x34_2).f1)) = j_ := ⟨_, rfl⟩
        replace H : (impl_BoxOf.l0 k2 l0 (l0.length : Int) (wrap64 (x34_2 + 1)) ji19 ji20 (mx x509002_2 ((rd_T151 l0 x34_2).f0)) (mx x509003_2 ((rd_T151 l0 x34_2).f1))) = some (r1, r2, r3, r4) := by first | (rw [hji20] at H; exact H) | (simp only [hji20] at H ⊢; exact H)
        have hji20_ : (if ((rd_T151 l0 x34_2).f1) < x509001_2 then ((rd_T151 l0 x34_2).f1) else x509001_2) = ji20 := hji20
        obtain ⟨ji21, hji21⟩ : ∃ j_ : Int, (mx x509002_2 ((rd_T151 l0 x34_2).f0)) = j_ := ⟨_, rfl⟩
        replace H : (impl_BoxOf.l0 k2 l0 (l0.length : Int) (wrap64 (x34_2 + 1)) ji19 ji20 ji21 (mx x509003_2 ((rd_T151 l0 x34_2).f1))) = some (r1, r2, r3, r4) := by first | (rw [hji21] at H; exact H) | (simp only [hji21] at H ⊢; exact H)
        have hji21_ : (if x509002_2 < ((rd_T151 l0 x34_2).f0) then ((rd_T151 l0 x34_2).f0) else x509002_2) = ji21 := hji21
        obtain ⟨ji22, hji22⟩ : ∃ j_ : Int, (mx x509003_2 ((rd_T151 l0 x34_2).f1)) = j_ := ⟨_, rfl⟩
        replace H : (impl_BoxOf.l0 k2 l0 (l0.length : Int) (wrap64 (x34_2 + 1)) ji19 ji20 ji21 ji22) = some (r1, r2, r3, r4) := by first | (rw [hji22] at H; exact H) | (simp only [hji22] at H ⊢; exact H)
        have hji22_ : (if x509003_2 < ((rd_T151 l0 x34_2).f1) then ((rd_T151 l0 x34_2).f1) else x509003_2) = ji22 := hji22
        have H' := Aside0.mk H
        clear H
        have p509 : 0 ≤ (x34_2 : Int) := dA
        have q509 : x34_2 < (l0.length : Int) := dA
        obtain ⟨ad509, e509, hx509_0, hx509_1⟩ := at_T151 HR0.out x34_2 p509 q509
        obtain rfl : ad504 = ad509 := (by injection e509)
        replace hx509_0 := cB HB hx509_0
        replace hx509_1 := cB HB hx509_1
        replace p509 := eq_true p509
        replace q509 := eq_true q509
        try go_wp2_with (first | ((with_reducible refine gD 5 ?_); refine bxE #[.int .i64 0, .int .i64 0] 151 ?_; intro gb510 hg w23 BK510 hb; have GW510 := gE hg; have GE510 := gE hg; have NB502_510 := nL (g := gb502) hg; have NB510_502 := nG (g := gb502) hg; have NB508_510 := nL (g := gb508) hg; have NB510_508 := nG (g := gb508) hg; replace BK502 := kB (g := gb502) hb; replace BK508 := kB (g := gb508) hb; replace HB := hB hb; clear hb hg; have hnb24 := NB510_502.out; have hnc24 := NB502_510.out; have hnb25 := NB510_508.out; have hnc25 := NB508_510.out; have hz26 := cz2 BK510))
        have n0_ : Aside0 (((w23.setCell ⟨gb510, 0, none⟩ (.int .i64 ((rd_T151 l0 x34_2).f0))).setCell ⟨gb510, 1, none⟩ (.int .i64 ((rd_T151 l0 x34_2).f1))).heap[gb502]? = some (.cells #[.int .i64 0, .int .i64 0, .int .i64 0, .int .i64 0] 47 (0, 0))) := ⟨kS⟩
        have n1_ : Aside0 (((w23.setCell ⟨gb510, 0, none⟩ (.int .i64 ((rd_T151 l0 x34_2).f0))).setCell ⟨gb510, 1, none⟩ (.int .i64 ((rd_T151 l0 x34_2).f1))).heap[gb508]? = some (.cells #[.int .i64 x509000_2, .int .i64 x509001_2, .int .i64 x509002_2, .int .i64 x509003_2] 47 (0, 0))) := ⟨kS⟩
        have n2_ : Aside0 (((w23.setCell ⟨gb510, 0, none⟩ (.int .i64 ((rd_T151 l0 x34_2).f0))).setCell ⟨gb510, 1, none⟩ (.int .i64 ((rd_T151 l0 x34_2).f1))).heap[gb510]? = some (.cells #[.int .i64 ((rd_T151 l0 x34_2).f0), .int .i64 ((rd_T151 l0 x34_2).f1)] 151 (0, 0))) := ⟨kS⟩
        have n3_ : Aside0 (Below w.heap.size w ((w23.setCell ⟨gb510, 0, none⟩ (.int .i64 ((rd_T151 l0 x34_2).f0))).setCell ⟨gb510, 1, none⟩ (.int .i64 ((rd_T151 l0 x34_2).f1)))) := ⟨bS⟩
        (try clear BK502)
        (try clear BK508)
        (try clear BK510)
        (try clear HB)
        generalize ((w23.setCell ⟨gb510, 0, none⟩ (.int .i64 ((rd_T151 l0 x34_2).f0))).setCell ⟨gb510, 1, none⟩ (.int .i64 ((rd_T151 l0 x34_2).f1))) = w27 at n0_ n1_ n2_ n3_ ⊢
        have BK502 := n0_
        have BK508 := n1_
        have BK510 := n2_
        have HB := n3_
        clear n0_ n1_ n2_ n3_
        replace BK502 := Aside0.mk (blk_drew BK502.out)
        replace BK508 := Aside0.mk (blk_drew BK508.out)
        replace BK510 := Aside0.mk (blk_drew BK510.out)
        replace HB := Aside0.mk (below_drew1 HB.out)
        refine start_ (n := 14) (S := fun w' => w'.cell? ⟨gb508, 1, none⟩ = some (.int .i64 x509001_2) ∧ w'.cell? ⟨gb508, 2, none⟩ = some (.int .i64 x509002_2) ∧ w'.cell? ⟨gb508, 3, none⟩ = some (.int .i64 x509003_2) ∧ w'.cell? ⟨gb510, 0, none⟩ = some (.int .i64 ((rd_T151 l0 x34_2).f0)) ∧ w'.cell? ⟨gb510, 1, none⟩ = some (.int .i64 ((rd_T151 l0 x34_2).f1))) (ds := [13]) #[false, false, false, false, false, false, false, false, false, false, false, false, false, false] (by kernel_rfl) rfl rfl ⟨(blk_cell BK508.out 1).trans rfl, (blk_cell BK508.out 2).trans rfl, (blk_cell BK508.out 3).trans rfl, (blk_cell BK510.out 0).trans rfl, (blk_cell BK510.out 1).trans rfl⟩ (fun hHeld => ?_); refine with_tabW impl_BoxOf.tab7 impl_BoxOf.bits7 (fun HT_ HW_ => ?_)
        generalize w27.drew = w28 at BK502 BK508 BK510 HB hHeld ⊢
        refine pU 0 (some 38) #[true, false, false, false, false, false, false, false, false, false, false, false, false, false] ?_
        refine pU 2 (some 40) #[true, false, true, false, false, false, false, false, false, false, false, false, false, false] ?_
        refine pU 5 (some 43) #[true, false, true, false, false, true, false, false, false, false, false, false, false, false] ?_
        refine pU 7 (some 45) #[true, false, true, false, false, true, false, true, false, false, false, false, false, false] ?_
        refine tK 3 (some 41) #[true, false, true, true, false, true, false, true, false, false, false, false, false, false] ?_
        refine tK 6 (some 44) #[true, false, true, true, false, true, true, true, false, false, false, false, false, false] ?_
        refine tK 8 (some 46) #[true, false, true, true, false, true, true, true, true, false, false, false, false, false] ?_
        refine pU 9 (some 47) #[true, false, true, true, false, true, true, true, true, true, false, false, false, false] ?_
        refine one_ (i := 1) (N := some 39) #[true, true, true, true, false, true, true, true, true, true, false, false, false, false] rfl rfl (one_of HT_.out (by kernel_rfl)) (by decide) (fun K hK => ?_)
        have hl1_ := (blk_cell BK508.out 0).trans (show _ = some (.int .i64 x509000_2) from rfl)
        refine value_ (w1 := ?_) (v := ?_) (by rfl) rfl ?_ ?_
        rotate_left 2
        ·go_simp
         constructor
         ·rfl
         ·rfl
        refine hK.out _ _ ⟨hHeld.1, hHeld.2.1, hHeld.2.2.1, hHeld.2.2.2.1, hHeld.2.2.2.2⟩ (fun hHeld => ?_)
        clear hK K
        refine norm_ (a' := ?_) ?_ ?_
        rotate_left
        ·show Act.put _ (some 39) _ = _
         simp only [Act.put, List.setIfInBounds_toArray, List.set_cons_zero, List.set_cons_succ, i64_w, i32_w]
         rfl
        refine pU 4 (some 42) #[true, true, true, true, true, true, true, true, true, true, false, false, false, false] ?_
        refine pU 10 (some 48) #[true, true, true, true, true, true, true, true, true, true, true, false, false, false] ?_
        refine one_ (i := 11) (N := none) #[true, true, true, true, true, true, true, true, true, true, true, true, false, false] rfl rfl (one_of HT_.out (by kernel_rfl)) (by decide) (fun K hK => ?_)
        have hs29 : w28.cell? ⟨gb508, 0, none⟩ = some (.int .i64 x509000_2) := (blk_cell BK508.out 0).trans rfl
        have hfs29 := blk_frozen BK508.out 0
        have hns29_0 := NB502_508.out
        have hns29_2 := NB510_508.out
        have hms29_0 := NB508_502.out
        have hms29_2 := NB508_510.out
        refine skip_ (w1 := ?_) (by rfl) rfl ?_ ?_
        rotate_left
        ·go_simp
         rfl
        refine hK.out _ _ ⟨(cell_off (by decide) _).trans (hHeld.1), (cell_off (by decide) _).trans (hHeld.2.1), (cell_off (by decide) _).trans (hHeld.2.2.1), ((cell_far (p := ⟨gb508, _, none⟩) NB510_508.out _).trans (hHeld.2.2.2.1)), ((cell_far (p := ⟨gb508, _, none⟩) NB510_508.out _).trans (hHeld.2.2.2.2))⟩ (fun hHeld => ?_)
        clear hK K
        refine pU 12 (some 49) #[true, true, true, true, true, true, true, true, true, true, true, true, true, false] ?_
        refine last_ (i := 13) (N := none) #[true, true, true, true, true, true, true, true, true, true, true, true, true, true] rfl rfl (one_of HT_.out (by kernel_rfl)) (by decide) (fun K hK => ?_)
        have hs30 : w28.cell? ⟨gb508, 1, none⟩ = some (.int .i64 x509001_2) := (blk_cell BK508.out 1).trans rfl
        have hfs30 := blk_frozen BK508.out 1
        have hns30_0 := NB502_508.out
        have hns30_2 := NB510_508.out
        have hms30_0 := NB508_502.out
        have hms30_2 := NB508_510.out
        refine skip_ (w1 := ?_) (by rfl) rfl ?_ ?_
        rotate_left
        ·go_simp
         rfl
        refine hK.out _ _ ?_
        clear hK K
        refine done_ (done_of HT_.out (by kernel_rfl)) ?_
        try go_wp2
        have n0_ : Aside0 (((w28.setCell ⟨gb508, 0, none⟩ (.int .i64 ji19)).setCell ⟨gb508, 1, none⟩ (.int .i64 ji20)).heap[gb502]? = some (.cells #[.int .i64 0, .int .i64 0, .int .i64 0, .int .i64 0] 47 (0, 0))) := ⟨kS⟩
        have n1_ : Aside0 (((w28.setCell ⟨gb508, 0, none⟩ (.int .i64 ji19)).setCell ⟨gb508, 1, none⟩ (.int .i64 ji20)).heap[gb508]? = some (.cells #[.int .i64 ji19, .int .i64 ji20, .int .i64 x509002_2, .int .i64 x509003_2] 47 (0, 0))) := ⟨kS⟩
        have n2_ : Aside0 (((w28.setCell ⟨gb508, 0, none⟩ (.int .i64 ji19)).setCell ⟨gb508, 1, none⟩ (.int .i64 ji20)).heap[gb510]? = some (.cells #[.int .i64 ((rd_T151 l0 x34_2).f0), .int .i64 ((rd_T151 l0 x34_2).f1)] 151 (0, 0))) := ⟨kS⟩
        have n3_ : Aside0 (Below w.heap.size w ((w28.setCell ⟨gb508, 0, none⟩ (.int .i64 ji19)).setCell ⟨gb508, 1, none⟩ (.int .i64 ji20))) := ⟨bS⟩
        (try clear BK502)
        (try clear BK508)
        (try clear BK510)
        (try clear HB)
        generalize ((w28.setCell ⟨gb508, 0, none⟩ (.int .i64 ji19)).setCell ⟨gb508, 1, none⟩ (.int .i64 ji20)) = w31 at n0_ n1_ n2_ n3_ ⊢
        have BK502 := n0_
        have BK508 := n1_
        have BK510 := n2_
        have HB := n3_
        clear n0_ n1_ n2_ n3_
        replace BK502 := Aside0.mk (blk_drew BK502.out)
        replace BK508 := Aside0.mk (blk_drew BK508.out)
        replace BK510 := Aside0.mk (blk_drew BK510.out)
        replace HB := Aside0.mk (below_drew1 HB.out)
        refine start_ (n := 14) (S := fun w' => w'.cell? ⟨gb508, 0, none⟩ = some (.int .i64 ji19) ∧ w'.cell? ⟨gb508, 1, none⟩ = some (.int .i64 ji20) ∧ w'.cell? ⟨gb508, 3, none⟩ = some (.int .i64 x509003_2) ∧ w'.cell? ⟨gb510, 0, none⟩ = some (.int .i64 ((rd_T151 l0 x34_2).f0)) ∧ w'.cell? ⟨gb510, 1, none⟩ = some (.int .i64 ((rd_T151 l0 x34_2).f1))) (ds := [13]) #[false, false, false, false, false, false, false, false, false, false, false, false, false, false] (by kernel_rfl) rfl rfl ⟨(blk_cell BK508.out 0).trans rfl, (blk_cell BK508.out 1).trans rfl, (blk_cell BK508.out 3).trans rfl, (blk_cell BK510.out 0).trans rfl, (blk_cell BK510.out 1).trans rfl⟩ (fun hHeld => ?_); refine with_tabW impl_BoxOf.tab8 impl_BoxOf.bits8 (fun HT_ HW_ => ?_)
        generalize w31.drew = w32 at BK502 BK508 BK510 HB hHeld ⊢
        refine pU 0 (some 50) #[true, false, false, false, false, false, false, false, false, false, false, false, false, false] ?_
        refine pU 2 (some 52) #[true, false, true, false, false, false, false, false, false, false, false, false, false, false] ?_
        refine pU 5 (some 55) #[true, false, true, false, false, true, false, false, false, false, false, false, false, false] ?_
        refine pU 7 (some 57) #[true, false, true, false, false, true, false, true, false, false, false, false, false, false] ?_
        refine tK 3 (some 53) #[true, false, true, true, false, true, false, true, false, false, false, false, false, false] ?_
        refine tK 6 (some 56) #[true, false, true, true, false, true, true, true, false, false, false, false, false, false] ?_
        refine tK 8 (some 58) #[true, false, true, true, false, true, true, true, true, false, false, false, false, false] ?_
        refine pU 9 (some 59) #[true, false, true, true, false, true, true, true, true, true, false, false, false, false] ?_
        refine one_ (i := 1) (N := some 51) #[true, true, true, true, false, true, true, true, true, true, false, false, false, false] rfl rfl (one_of HT_.out (by kernel_rfl)) (by decide) (fun K hK => ?_)
        have hl1_ := (blk_cell BK508.out 2).trans (show _ = some (.int .i64 x509002_2) from rfl)
        refine value_ (w1 := ?_) (v := ?_) (by rfl) rfl ?_ ?_
        rotate_left 2
        ·go_simp
         constructor
         ·rfl
         ·rfl
        refine hK.out _ _ ⟨hHeld.1, hHeld.2.1, hHeld.2.2.1, hHeld.2.2.2.1, hHeld.2.2.2.2⟩ (fun hHeld => ?_)
        clear hK K
        refine norm_ (a' := ?_) ?_ ?_
        rotate_left
        ·show Act.put _ (some 51) _ = _
         simp only [Act.put, List.setIfInBounds_toArray, List.set_cons_zero, List.set_cons_succ, i64_w, i32_w]
         rfl
        refine pU 4 (some 54) #[true, true, true, true, true, true, true, true, true, true, false, false, false, false] ?_
        refine pU 10 (some 60) #[true, true, true, true, true, true, true, true, true, true, true, false, false, false] ?_
        refine one_ (i := 11) (N := none) #[true, true, true, true, true, true, true, true, true, true, true, true, false, false] rfl rfl (one_of HT_.out (by kernel_rfl)) (by decide) (fun K hK => ?_)
        have hs33 : w32.cell? ⟨gb508, 2, none⟩ = some (.int .i64 x509002_2) := (blk_cell BK508.out 2).trans rfl
        have hfs33 := blk_frozen BK508.out 2
        have hns33_0 := NB502_508.out
        have hns33_2 := NB510_508.out
        have hms33_0 := NB508_502.out
        have hms33_2 := NB508_510.out
        refine skip_ (w1 := ?_) (by rfl) rfl ?_ ?_
        rotate_left
        ·go_simp
         rfl
        refine hK.out _ _ ⟨(cell_off (by decide) _).trans (hHeld.1), (cell_off (by decide) _).trans (hHeld.2.1), (cell_off (by decide) _).trans (hHeld.2.2.1), ((cell_far (p := ⟨gb508, _, none⟩) NB510_508.out _).trans (hHeld.2.2.2.1)), ((cell_far (p := ⟨gb508, _, none⟩) NB510_508.out _).trans (hHeld.2.2.2.2))⟩ (fun hHeld => ?_)
        clear hK K
        refine pU 12 (some 61) #[true, true, true, true, true, true, true, true, true, true, true, true, true, false] ?_
        refine last_ (i := 13) (N := none) #[true, true, true, true, true, true, true, true, true, true, true, true, true, true] rfl rfl (one_of HT_.out (by kernel_rfl)) (by decide) (fun K hK => ?_)
        have hs34 : w32.cell? ⟨gb508, 3, none⟩ = some (.int .i64 x509003_2) := (blk_cell BK508.out 3).trans rfl
        have hfs34 := blk_frozen BK508.out 3
        have hns34_0 := NB502_508.out
        have hns34_2 := NB510_508.out
        have hms34_0 := NB508_502.out
        have hms34_2 := NB508_510.out
        refine skip_ (w1 := ?_) (by rfl) rfl ?_ ?_
        rotate_left
        ·go_simp
         rfl
        refine hK.out _ _ ?_
        clear hK K
        refine done_ (done_of HT_.out (by kernel_rfl)) ?_
        try go_wp2
        go_roundg k2
        case measure => have := HJ1.out; have := HK2.out; omega
        case rel => exact ⟨(wrap64 (x34_2 + 1)), (ji19), (ji20), (ji21), (ji22), fS, H', ⟨by have := HJ1.out; have := HK2.out; omega⟩, ⟨kS⟩, ⟨kS⟩, ⟨bS⟩⟩
       ·obtain ⟨rfl, rfl, rfl, rfl⟩ := sI4 H
        have hnb35 := NB508_502.out
        have hnc35 := NB502_508.out
        have hz36 := cz4 BK508
        have hz37 := cz4 BK502
        go_wp2
        refine bodyPost_ret (results_cell_row rfl _ _ gb502 47 #[.int .i64 x509000_2, .int .i64 x509001_2, .int .i64 x509002_2, .int .i64 x509003_2] (0, 0) _ rfl kS Tryz.underlying47 rfl (by kernel_rfl)) rfl ?_
        exact ⟨eS, bS⟩
    ·rw [if_neg c9] at H
     exact absurd H (by simp)

/-! ### impl_pageBox: function 161 -/
def impl_pageBox.f  : Option (Int × Int × Int × Int) := some (0, 0, 32, 32)
theorem impl_pageBox.calls  (r1 : Int) (r2 : Int) (r3 : Int) (r4 : Int) (w : World) (h : impl_pageBox.f  = some (r1, r2, r3, r4)) :
  Calls Tryz.prog 161 #[] w fun e w' => e = .returned (.agg #[.int .i64 r1, .int .i64 r2, .int .i64 r3, .int .i64 r4]) ∧ Below w.heap.size w w' := by
 have hu47 := Tryz.underlying47
 have HB := Aside0.mk (Below.refl w.heap.size w)
 have H : (some (0, 0, 32, 32)) = some (r1, r2, r3, r4) := h
 clear h
 obtain ⟨rfl, rfl, rfl, rfl⟩ := sI4 H
 go_enter Tryz.func161, Tryz.ntmps161
 go_wp2_with (first | ((with_reducible refine gD 0 ?_); refine bxE #[.int .i64 0, .int .i64 0, .int .i64 0, .int .i64 0] 47 ?_; intro gb511 hg w1 BK511 hb; have GW511 := gE hg; have GE511 := gE hg; replace HB := hB hb; clear hb hg; have hz2 := cz4 BK511))
 refine bodyPost_ret (results_cell_row rfl _ _ gb511 47 #[.int .i64 0, .int .i64 0, .int .i64 32, .int .i64 32] (0, 0) _ rfl kS Tryz.underlying47 rfl (by kernel_rfl)) rfl ?_
 exact ⟨eS, bS⟩

end Go.Proofs.YtncfipboidmfbaaGreat.QFnExactMergeBand
