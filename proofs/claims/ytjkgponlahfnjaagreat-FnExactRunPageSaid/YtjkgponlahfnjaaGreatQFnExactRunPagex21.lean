/- Walks of functions of the program: each answers what its plain function tells, for every input at which that is told. -/
import Derived.Test.YtjkgponlahfnjaaGreatQFnExactRunPagex0
import Derived.Test.YtjkgponlahfnjaaGreatQFnExactRunPagex16
import Derived.Test.YtjkgponlahfnjaaGreatQFnExactRunPagex18
import Derived.Test.YtjkgponlahfnjaaGreatQFnExactRunPagex20
namespace Go.Proofs.YtjkgponlahfnjaaGreat.QFnExactRunPage
open Go.RowKit Go.Proofs.YtjkgponlahfnjaaGreatW.PrintWords Go.Proofs.YtjkgponlahfnjaaGreatW.PrintLast Go.Proofs.YtjkgponlahfnjaaGreatW.PrintMore
attribute [local go_sem] max2_int min2_int max_two min_two max_three min_three max_four min_four   -- for this text's walks alone
set_option linter.unusedVariables false
set_option linter.unusedSimpArgs false
set_option maxHeartbeats 8000000
set_option maxRecDepth 100000
/-! ### impl_StackOp: function 42 -/
mutual
def impl_StackOp.j0 : Nat → List Int → ByteArray → Int → Option (List Int × Bool)
 | 0, _, _, _ => none
 | k + 1, x0, x1, x6 => (impl_TakeNumbers.f k x0 x6).bind fun a2 => (if a2.2.2 = true then ((impl_IsStackOp.f x1).bind fun a6 => (impl_StackOp.j1 k x0 x1 a2.1 a2.2.1 (!a6))) else (impl_StackOp.j1 k x0 x1 a2.1 a2.2.1 true))
def impl_StackOp.j1 : Nat → List Int → ByteArray → List Int → List Int → Bool → Option (List Int × Bool)
 | 0, _, _, _, _, _ => none
 | k + 1, x0, x1, x7, x8, b0 => if b0 = true then ((slices_Clone_int_int.f x0).bind fun a7 => (some (a7, false))) else (if x1.toList = ([97, 100, 100] : List UInt8) then (if 0 < (x8.length : Int) then (if 1 < (x8.length : Int) then (if x7.length < 17592186044416 then (impl_StackOp.j2 k x0 (x7 ++ [wrap64 ((rd x8 0) + (rd x8 1))])) else (none)) else (none)) else (none)) else (if x1.toList = ([115, 117, 98] : List UInt8) then (if 0 < (x8.length : Int) then (if 1 < (x8.length : Int) then (if x7.length < 17592186044416 then (impl_StackOp.j2 k x0 (x7 ++ [wrap64 ((rd x8 0) - (rd x8 1))])) else (none)) else (none)) else (none)) else (if x1.toList = ([109, 117, 108] : List UInt8) then (if 0 < (x8.length : Int) then (if 1 < (x8.length : Int) then (if x7.length < 17592186044416 then (impl_StackOp.j2 k x0 (x7 ++ [wrap64 ((rd x8 0) * (rd x8 1))])) else (none)) else (none)) else (none)) else (if x1.toList = ([101, 120, 99, 104] : List UInt8) then (if 1 < (x8.length : Int) then (if 0 < (x8.length : Int) then ((some (([rd x8 1, rd x8 0] : List Int) : List Int)).bind fun a3 => (if x7.length + a3.length < 17592186044416 then (impl_StackOp.j2 k x0 (x7 ++ a3)) else (none))) else (none)) else (none)) else (if x1.toList = ([110, 101, 103] : List UInt8) then (if 0 < (x8.length : Int) then (if x7.length < 17592186044416 then (impl_StackOp.j2 k x0 (x7 ++ [wrap64 (-(rd x8 0))])) else (none)) else (none)) else (if x1.toList = ([100, 117, 112] : List UInt8) then (if 0 < (x8.length : Int) then ((some (([rd x8 0, rd x8 0] : List Int) : List Int)).bind fun a5 => (if x7.length + a5.length < 17592186044416 then (impl_StackOp.j2 k x0 (x7 ++ a5)) else (none))) else (none)) else (impl_StackOp.j2 k x0 x7)))))))
def impl_StackOp.j2 : Nat → List Int → List Int → Option (List Int × Bool)
 | 0, _, _ => none
 | k + 1, x0, x7 => (impl_StackOk.f k x7).bind fun a8 => (if a8 = true then (some (x7, true)) else ((slices_Clone_int_int.f x0).bind fun a9 => (some (a9, false))))
end
def impl_StackOp.f (k : Nat) (l0 : List Int) (a1 : ByteArray) : Option (List Int × Bool) := if a1.toList = ([110, 101, 103] : List UInt8) then (impl_StackOp.j0 k l0 a1 1) else (if a1.toList = ([100, 117, 112] : List UInt8) then (impl_StackOp.j0 k l0 a1 1) else (if a1.toList = ([112, 111, 112] : List UInt8) then (impl_StackOp.j0 k l0 a1 1) else (impl_StackOp.j0 k l0 a1 2)))
def impl_StackOp.T12 : Bool × List (List Nat × List Nat) := (true, [([], []), ([], []), ([1], [1]), ([2], [2]), ([], []), ([4], [4]), ([5], [5]), ([3, 6], [3, 6]), ([7], [7]), ([0, 8], [0, 8]), ([9, 9, 0, 1, 2, 3, 4, 5, 6, 7, 8, 9], [0, 9])])
def impl_StackOp.B12 : List Nat := [0, 0, 2, 6, 0, 16, 48, 126, 254, 511, 1023]
theorem impl_StackOp.tab12 : rtab .any (opsOf Tryz.f42 12) = impl_StackOp.T12 := by kernel_rfl
theorem impl_StackOp.bits12 : waitsOk impl_StackOp.T12.2 impl_StackOp.B12 = true := by kernel_rfl
def impl_StackOp.T14 : Bool × List (List Nat × List Nat) := (true, [([], []), ([], []), ([1], [1]), ([2], [2]), ([], []), ([4], [4]), ([5], [5]), ([3, 6], [3, 6]), ([7], [7]), ([0, 8], [0, 8]), ([9, 9, 0, 1, 2, 3, 4, 5, 6, 7, 8, 9], [0, 9])])
def impl_StackOp.B14 : List Nat := [0, 0, 2, 6, 0, 16, 48, 126, 254, 511, 1023]
theorem impl_StackOp.tab14 : rtab .any (opsOf Tryz.f42 14) = impl_StackOp.T14 := by kernel_rfl
theorem impl_StackOp.bits14 : waitsOk impl_StackOp.T14.2 impl_StackOp.B14 = true := by kernel_rfl
def impl_StackOp.T16 : Bool × List (List Nat × List Nat) := (true, [([], []), ([], []), ([1], [1]), ([2], [2]), ([], []), ([4], [4]), ([5], [5]), ([3, 6], [3, 6]), ([7], [7]), ([0, 8], [0, 8]), ([9, 9, 0, 1, 2, 3, 4, 5, 6, 7, 8, 9], [0, 9])])
def impl_StackOp.B16 : List Nat := [0, 0, 2, 6, 0, 16, 48, 126, 254, 511, 1023]
theorem impl_StackOp.tab16 : rtab .any (opsOf Tryz.f42 16) = impl_StackOp.T16 := by kernel_rfl
theorem impl_StackOp.bits16 : waitsOk impl_StackOp.T16.2 impl_StackOp.B16 = true := by kernel_rfl
def impl_StackOp.T18 : Bool × List (List Nat × List Nat) := (true, [([], []), ([], []), ([1], [1]), ([2], [2]), ([], []), ([4], [4]), ([5], [5]), ([3, 6], [3, 6]), ([0, 7], [0, 7]), ([8, 8, 0, 1, 2, 3, 4, 5, 6, 7, 8], [0, 8])])
def impl_StackOp.B18 : List Nat := [0, 0, 2, 6, 0, 16, 48, 126, 255, 511]
theorem impl_StackOp.tab18 : rtab .any (opsOf Tryz.f42 18) = impl_StackOp.T18 := by kernel_rfl
theorem impl_StackOp.bits18 : waitsOk impl_StackOp.T18.2 impl_StackOp.B18 = true := by kernel_rfl
def impl_StackOp.T22 : Bool × List (List Nat × List Nat) := (true, [([], []), ([], []), ([1], [1]), ([2], [2]), ([], []), ([4], [4]), ([5], [5]), ([3, 6], [3, 6]), ([0, 7], [0, 7]), ([8, 8, 0, 1, 2, 3, 4, 5, 6, 7, 8], [0, 8])])
def impl_StackOp.B22 : List Nat := [0, 0, 2, 6, 0, 16, 48, 126, 255, 511]
theorem impl_StackOp.tab22 : rtab .any (opsOf Tryz.f42 22) = impl_StackOp.T22 := by kernel_rfl
theorem impl_StackOp.bits22 : waitsOk impl_StackOp.T22.2 impl_StackOp.B22 = true := by kernel_rfl
theorem impl_StackOp.calls (k : Nat) (A0 : Option Addr) (c0 : Nat) (l0 : List Int) (a1 : ByteArray) (r1 : List Int) (r2 : Bool) (w : World) (hr0 : Kd.C (Kd.int .i64) w A0 l0.length l0) (v5 : l0.length ≤ c0) (h : impl_StackOp.f k l0 a1 = some (r1, r2)) :
  Calls Tryz.prog 42 #[.slice A0 l0.length c0, .string a1] w fun e w' => ∃ v0_ : Value, e = .returned (.tuple #[v0_, .bool r2]) ∧ Kd.R (Kd.int .i64) 3 w' w.heap.size (fun _ => True) v0_ r1 ∧ Below w.heap.size w w' := by
 have s9 := aM hr0
 have t0 := aM v5
 clear hr0 v5
 have HB := aM (Below.refl w.heap.size w)
 have H := h
 clear h
 unfold impl_StackOp.f at H
 have t1 := aM H
 clear H
 go_enter Tryz.func42, Tryz.ntmps42
 go_upto_block 0 with (fail)
 go_cut [6] (fun v6 wc => ∃ (kq : Nat) (f3 : Int), v6 = .int .i64 f3 ∧ Aside0 (impl_StackOp.j0 kq l0 a1 f3 = some (r1, r2)) ∧ Aside0 (kq ≤ k) ∧ Aside0 (Below w.heap.size w wc))
 case first =>
  have H := t1.out
  clear t1
  by_cases c4 : a1.toList = ([110, 101, 103] : List UInt8)
  ·rw [if_pos c4] at H
   obtain ⟨e4, h8⟩ := eqT c4
   clear c4
   (first | rw [e4] | (simp only [i64_w, i32_w]; rw [e4]) | skip)
   have H' := aM H
   clear H
   go_wp2
   go_meet
   case rel => exact ⟨_, (1), fS, H', ⟨by first | omega | exact Nat.le_refl _⟩, ⟨bS⟩⟩
  ·rw [if_neg c4] at H
   obtain ⟨e4, h8⟩ := eqF c4
   (first | rw [e4] | (simp only [i64_w, i32_w]; rw [e4]) | skip)
   by_cases c5 : a1.toList = ([100, 117, 112] : List UInt8)
   ·rw [if_pos c5] at H
    obtain ⟨h9, i1⟩ := eqT c5
    clear c5
    have H' := aM H
    clear H
    go_wp2
    go_meet
    case rel => exact ⟨_, (1), fS, H', ⟨by first | omega | exact Nat.le_refl _⟩, ⟨bS⟩⟩
   ·rw [if_neg c5] at H
    obtain ⟨h9, i1⟩ := eqF c5
    by_cases c6 : a1.toList = ([112, 111, 112] : List UInt8)
    ·rw [if_pos c6] at H
     obtain ⟨i3, i4⟩ := eqT c6
     clear c6
     have H' := aM H
     clear H
     go_wp2
     go_meet
     case rel => exact ⟨_, (1), fS, H', ⟨by first | omega | exact Nat.le_refl _⟩, ⟨bS⟩⟩
    ·rw [if_neg c6] at H
     obtain ⟨i3, i4⟩ := eqF c6
     have H' := aM H
     clear H
     go_wp2
     go_meet
     case rel => exact ⟨_, (2), fS, H', ⟨by first | omega | exact Nat.le_refl _⟩, ⟨bS⟩⟩
 case rest =>
  clear t1
  try clear p2
  try clear c4
  try clear e4
  try clear h8
  try clear c5
  try clear h9
  try clear i1
  try clear c6
  try clear i3
  try clear i4
  obtain ⟨kq, f3, rfl, HA, HJ2, HB⟩ := hcut
  cases kq with
  | zero => exact absurd HA.out (by simp [impl_StackOp.j0])
  | succ kj2 =>
   have H := HA.out
   clear HA
   simp only [impl_StackOp.j0] at H
   replace H := bN H
   obtain ⟨⟨a6, a2, k2⟩, A7, H⟩ := H
   have t2 := aM H
   clear H
   go_upto_region 8 with (first | ((with_reducible refine gC 43 ?_); refine cM (some 18) Tryz.func43 (impl_TakeNumbers.calls kj2 _ _ l0 f3 a6 a2 k2 _ (cC s9 HB) t0.out A7.out) ?_; rintro e w9 ⟨d2, k3, rfl, f0, v8, hb⟩; refine ⟨_, rfl, ?_⟩; have g8 := aM (Kd.R_lower f0 (below_size bS)); have g9 := aM (Kd.R_lower v8 (below_size bS)); replace HB := hB hb; (try clear hb f0 v8)))
   (try simp only [Act.put, List.setIfInBounds_toArray, List.set_cons_zero, List.set_cons_succ])
   go_cut [28] (fun y3 wc => ∃ (kq : Nat) (e7 : Bool), y3 = .bool e7 ∧ Aside0 (impl_StackOp.j1 kq l0 a1 a6 a2 e7 = some (r1, r2)) ∧ Aside0 (kq ≤ kj2) ∧ Aside0 (Kd.R (Kd.int .i64) 3 wc w.heap.size (fun k_ => some k_ ≠ (k3 : Value).ownBlock) d2 a6) ∧ Aside0 (Kd.R (Kd.int .i64) 3 wc w.heap.size (fun k_ => some k_ ≠ (d2 : Value).ownBlock) k3 a2) ∧ Aside0 (Below w.heap.size w wc))
   case first =>
    have H := t2.out
    clear t2
    by_cases c10 : k2 = true
    ·subst c10
     rw [if_pos rfl] at H
     replace H := bN H
     obtain ⟨k4, y4, H⟩ := H
     have H' := aM H
     clear H
     go_wp2_with (first | (go_at_call 41; (with_reducible refine (impl_IsStackOp.calls a1 k4 _ y4.out).mono ?_); rintro e w' ⟨rfl, ⟨nd, rfl⟩⟩))
     go_meet
     case rel => exact ⟨_, (!k4), fS, H', ⟨by have := HJ2.out; first | omega | exact Nat.le_refl _⟩, ⟨rS g8⟩, ⟨rS g9⟩, ⟨bS⟩⟩
    ·obtain rfl := Bool.eq_false_iff.mpr c10
     rw [if_neg nF] at H
     have H' := aM H
     clear H
     go_wp2
     go_meet
     case rel => exact ⟨_, (true), fS, H', ⟨by have := HJ2.out; first | omega | exact Nat.le_refl _⟩, ⟨rS g8⟩, ⟨rS g9⟩, ⟨bS⟩⟩
   case rest =>
    clear t2
    try clear c1
    try clear p2
    try clear c4
    try clear e4
    try clear h8
    try clear c5
    try clear h9
    try clear i1
    try clear c6
    try clear i3
    try clear i4
    try clear c10
    try clear p2
    obtain ⟨kq, e7, rfl, HA, HJ7, a5, a3, HB⟩ := hcut
    cases kq with
    | zero => exact absurd HA.out (by simp [impl_StackOp.j1])
    | succ kj7 =>
     have H := HA.out
     clear HA
     simp only [impl_StackOp.j1] at H
     by_cases v9 : e7 = true
     ·subst v9
      rw [if_pos rfl] at H
      replace H := bN H
      obtain ⟨t3, y5, H⟩ := H
      obtain ⟨rfl, rfl⟩ := sI2 H
      go_wp2_with (first | ((with_reducible refine gC 87 ?_); refine cM (some 30) Tryz.func87 (slices_Clone_int_int.calls _ _ l0 t3 _ (cC s9 HB) t0.out y5.out) ?_; rintro e C4 ⟨y6, rfl, f0, hb⟩; refine ⟨_, rfl, ?_⟩; have k5 := aM (Kd.R_lower (Kd.R_new' (Kd.R_new' f0 (Kd.R_lt (rS a5))) (Kd.R_lt (rS a3))) (below_size bS)); replace a5 := aM (Kd.R_elder' (rS a5) (Kd.R_base f0) hb); replace a3 := aM (Kd.R_elder' (rS a3) (Kd.R_base f0) hb); replace HB := hB hb; (try clear hb f0)))
      go_ret2
      exact ⟨_, eS, by exact rT (Kd.R_mono k5.out (fun _ hk => trivial)), bS⟩
     ·obtain rfl := Bool.eq_false_iff.mpr v9
      rw [if_neg nF] at H
      have i5 := aM H
      clear H
      go_upto_block 1 with (fail)
      go_cut [7] (fun v7 wc => ∃ (kq : Nat) (d3 : List Int), Aside0 (impl_StackOp.j2 kq l0 d3 = some (r1, r2)) ∧ Aside0 (kq ≤ kj7) ∧ Aside0 (Kd.R (Kd.int .i64) 3 wc w.heap.size (fun _ => True) v7 d3) ∧ Aside0 (Below w.heap.size w wc))
      case first =>
       have H := i5.out
       clear i5
       by_cases k6 : a1.toList = ([97, 100, 100] : List UInt8)
       ·rw [if_pos k6] at H
        obtain ⟨d4, k7⟩ := eqT k6
        clear k6
        (first | rw [d4] | (simp only [i64_w, i32_w]; rw [d4]) | skip)
        by_cases s6 : 0 < (a2.length : Int)
        ·rw [if_pos s6] at H
         have w8 : decide (0 < (a2.length : Int)) = true := decide_eq_true s6
         have x0 : decide (0 < a2.length) = true := decide_eq_true (by omega)
         clear s6
         by_cases s7 : 1 < (a2.length : Int)
         ·rw [if_pos s7] at H
          have x1 : decide (1 < (a2.length : Int)) = true := decide_eq_true s7
          have x2 : decide (1 < a2.length) = true := decide_eq_true (by omega)
          clear s7
          obtain ⟨LMc19, H⟩ := iL H
          obtain ⟨k9, hy_⟩ : ∃ y_ : List Int, y_ = (a6 ++ [wrap64 ((rd a2 0) + (rd a2 1))]) := ⟨_, rfl⟩
          replace H : (impl_StackOp.j2 kj7 l0 k9) = some (r1, r2) := yS
          have Ny887 := aM hy_
          clear hy_
          have H' := aM H
          clear H
          try go_wp2
          replace a5 := rD a5
          replace a3 := rD a3
          replace HB := hD HB
          obtain ⟨y7, t4, l3⟩ := Kd.R_slice a3.out
          (first | subst l3 | obtain ⟨rfl, rfl⟩ := slE l3)
          have i6 : 0 ≤ (0 : Int) := (by omega)
          have i7 : 0 < (a2.length : Int) := dA
          obtain ⟨d5, t5, b6⟩ := Kd.at_int (Kd.R_reads' a3.out).2.2 0 i6 i7
          cases t5
          have qi885 : (0 < a2.length) = True := eq_true (by omega)
          (try rw [show ((0 : Int)).toNat = 0 from rfl] at b6)
          (try rw [Addr.add_zero'] at b6)
          replace i6 := eq_true i6
          replace i7 := eq_true i7
          have i8 : 0 ≤ (1 : Int) := (by omega)
          have i9 : 1 < (a2.length : Int) := dA
          obtain ⟨l4, t6, b7⟩ := Kd.at_int (Kd.R_reads' a3.out).2.2 1 i8 i9
          obtain rfl : d5 = l4 := (by injection t6)
          (try simp only [show (1 : Int).toNat = 1 from rfl, Nat.reduceMul, Nat.reduceEqDiff, Go.Addr.add, ↓reduceIte] at b7)
          have qi886 : (1 < a2.length) = True := eq_true (by omega)
          (try rw [show ((1 : Int)).toNat = 1 from rfl] at b7)
          replace i8 := eq_true i8
          replace i9 := eq_true i9
          refine start_ (n := 11) (S := fun w' => w'.cell? d5 = some (.int .i64 (rd a2 0)) ∧ w'.cell? ⟨d5.block, d5.off + 1, none⟩ = some (.int .i64 (rd a2 1))) (ds := [8, 9]) (mB 11 0) (by kernel_rfl) rfl rfl ⟨b6, b7⟩ (fun hHeld => ?_); refine with_tabW impl_StackOp.tab12 impl_StackOp.bits12 (fun HT_ HW_ => ?_)
          generalize wc.drew = C5 at a5 a3 HB b6 b7 hHeld ⊢
          refine pU 0 (some 34) (mB 11 1) ?_
          refine pU 1 (some 35) (mB 11 3) ?_
          refine pU 2 (some 36) (mB 11 7) ?_
          refine pU 4 (some 38) (mB 11 23) ?_
          refine pU 5 (some 39) (mB 11 55) ?_
          refine tK 3 (some 37) (mB 11 63) ?_
          refine tK 6 (some 40) (mB 11 127) ?_
          refine pU 7 (some 41) (mB 11 255) ?_
          refine last_ (i := 8) (N := some 42) (mB 11 511) rfl rfl (one_of HT_.out (by kernel_rfl)) (by decide) (fun K hK => ?_)
          refine value_ (w1 := ?_) (v := ?_) (by rfl) rfl ?_ ?_
          rotate_left 2
          ·go_simp
           constructor
           ·rfl
           ·rfl
          refine hK.out _ _ ?_
          clear hK K
          refine norm_ (a' := ?_) ?_ ?_
          rotate_left
          ·show Act.put _ (some 42) _ = _
           simp only [Act.put, List.setIfInBounds_toArray, List.set_cons_zero, List.set_cons_succ, i64_w, i32_w]
           rfl
          refine last_ (i := 9) (N := some 43) (mB 11 1023) rfl rfl (one_of HT_.out (by kernel_rfl)) (by decide) (fun K hK => ?_)
          refine Kd.R_append_step (Kd.int .i64) (w0 := w) w.heap.size (by rfl) (.tmp 34) (.tmp 42) 22 3 (.int .i64 0) 8 rfl Tryz.underlying22 info3 rfl (by decide) (by omega) d2 a6 (wrap64 ((rd a2 0) + (rd a2 1))) [.int .i64 (wrap64 ((rd a2 0) + (rd a2 1)))] (fun k_ => some k_ ≠ (.slice (some d5) a2.length t4 : Value).ownBlock) (fun _ => False) rfl rfl ?aP (fun _ hk => hk.elim) ?aF ?aO ?aB ?aS ?aL ?_
          (case aP => exact rfl)
          (case aB => exact bS)
          (case aF => exact (fun k_ hk => Kd.fresh' (Kd.R_lt (rS a3)) k_ hk))
          (case aO => exact (rS a5))
          (case aS => exact (below_size bS))
          (case aL => have := LMc19.out; (try dsimp only at this); omega)
          intro y8 C6 ho hb hg hat
          rw [← Ny887.out] at ho
          have l5 := aM (ho)
          replace a3 := aM (Kd.R_after (ok := (fun _ => True)) (by exact rM a3) hg hat)
          replace HB := aM (hb)
          clear a5
          clear ho hb hg hat
          refine hK.out _ _ ?_
          clear hK K
          refine norm_ (a' := ?_) ?_ ?_
          rotate_left
          ·show Act.put _ (some 43) _ = _
           simp only [Act.put, List.setIfInBounds_toArray, List.set_cons_zero, List.set_cons_succ, i64_w, i32_w]
           rfl
          refine pU 10 (some 7) (mB 11 2047) ?_
          refine done_ (done_of HT_.out (by kernel_rfl)) ?_
          try go_wp2
          go_meet
          case rel => exact ⟨_, (k9), H', ⟨by have := HJ2.out; have := HJ7.out; first | omega | exact Nat.le_refl _⟩, ⟨by exact rT (Kd.R_mono l5.out (fun _ hk => trivial))⟩, ⟨bS⟩⟩
         ·rw [if_neg s7] at H
          exact absurd H (by simp)
        ·rw [if_neg s6] at H
         exact absurd H (by simp)
       ·rw [if_neg k6] at H
        obtain ⟨d4, k7⟩ := eqF k6
        (first | rw [d4] | (simp only [i64_w, i32_w]; rw [d4]) | skip)
        by_cases l7 : a1.toList = ([115, 117, 98] : List UInt8)
        ·rw [if_pos l7] at H
         obtain ⟨l8, l9⟩ := eqT l7
         clear l7
         by_cases c24 : 0 < (a2.length : Int)
         ·rw [if_pos c24] at H
          have x3 : decide (0 < (a2.length : Int)) = true := decide_eq_true c24
          have x4 : decide (0 < a2.length) = true := decide_eq_true (by omega)
          clear c24
          by_cases s8 : 1 < (a2.length : Int)
          ·rw [if_pos s8] at H
           have x5 : decide (1 < (a2.length : Int)) = true := decide_eq_true s8
           have x6 : decide (1 < a2.length) = true := decide_eq_true (by omega)
           clear s8
           obtain ⟨LMc26, H⟩ := iL H
           obtain ⟨m1, hy_⟩ : ∃ y_ : List Int, y_ = (a6 ++ [wrap64 ((rd a2 0) - (rd a2 1))]) := ⟨_, rfl⟩
           replace H : (impl_StackOp.j2 kj7 l0 m1) = some (r1, r2) := yS
           have Ny892 := aM hy_
           clear hy_
           have H' := aM H
           clear H
           try go_wp2
           replace a5 := rD a5
           replace a3 := rD a3
           replace HB := hD HB
           obtain ⟨y9, t7, m2⟩ := Kd.R_slice a3.out
           (first | subst m2 | obtain ⟨rfl, rfl⟩ := slE m2)
           have j4 : 0 ≤ (0 : Int) := (by omega)
           have j5 : 0 < (a2.length : Int) := dA
           obtain ⟨d6, t8, b8⟩ := Kd.at_int (Kd.R_reads' a3.out).2.2 0 j4 j5
           cases t8
           have qi890 : (0 < a2.length) = True := eq_true (by omega)
           (try rw [show ((0 : Int)).toNat = 0 from rfl] at b8)
           (try rw [Addr.add_zero'] at b8)
           replace j4 := eq_true j4
           replace j5 := eq_true j5
           have j6 : 0 ≤ (1 : Int) := (by omega)
           have j7 : 1 < (a2.length : Int) := dA
           obtain ⟨m3, t9, b9⟩ := Kd.at_int (Kd.R_reads' a3.out).2.2 1 j6 j7
           obtain rfl : d6 = m3 := (by injection t9)
           (try simp only [show (1 : Int).toNat = 1 from rfl, Nat.reduceMul, Nat.reduceEqDiff, Go.Addr.add, ↓reduceIte] at b9)
           have qi891 : (1 < a2.length) = True := eq_true (by omega)
           (try rw [show ((1 : Int)).toNat = 1 from rfl] at b9)
           replace j6 := eq_true j6
           replace j7 := eq_true j7
           refine start_ (n := 11) (S := fun w' => w'.cell? d6 = some (.int .i64 (rd a2 0)) ∧ w'.cell? ⟨d6.block, d6.off + 1, none⟩ = some (.int .i64 (rd a2 1))) (ds := [8, 9]) (mB 11 0) (by kernel_rfl) rfl rfl ⟨b8, b9⟩ (fun hHeld => ?_); refine with_tabW impl_StackOp.tab14 impl_StackOp.bits14 (fun HT_ HW_ => ?_)
           generalize wc.drew = C7 at a5 a3 HB b8 b9 hHeld ⊢
           refine pU 0 (some 46) (mB 11 1) ?_
           refine pU 1 (some 47) (mB 11 3) ?_
           refine pU 2 (some 48) (mB 11 7) ?_
           refine pU 4 (some 50) (mB 11 23) ?_
           refine pU 5 (some 51) (mB 11 55) ?_
           refine tK 3 (some 49) (mB 11 63) ?_
           refine tK 6 (some 52) (mB 11 127) ?_
           refine pU 7 (some 53) (mB 11 255) ?_
           refine last_ (i := 8) (N := some 54) (mB 11 511) rfl rfl (one_of HT_.out (by kernel_rfl)) (by decide) (fun K hK => ?_)
           refine value_ (w1 := ?_) (v := ?_) (by rfl) rfl ?_ ?_
           rotate_left 2
           ·go_simp
            constructor
            ·rfl
            ·rfl
           refine hK.out _ _ ?_
           clear hK K
           refine norm_ (a' := ?_) ?_ ?_
           rotate_left
           ·show Act.put _ (some 54) _ = _
            simp only [Act.put, List.setIfInBounds_toArray, List.set_cons_zero, List.set_cons_succ, i64_w, i32_w]
            rfl
           refine last_ (i := 9) (N := some 55) (mB 11 1023) rfl rfl (one_of HT_.out (by kernel_rfl)) (by decide) (fun K hK => ?_)
           refine Kd.R_append_step (Kd.int .i64) (w0 := w) w.heap.size (by rfl) (.tmp 46) (.tmp 54) 22 3 (.int .i64 0) 8 rfl Tryz.underlying22 info3 rfl (by decide) (by omega) d2 a6 (wrap64 ((rd a2 0) - (rd a2 1))) [.int .i64 (wrap64 ((rd a2 0) - (rd a2 1)))] (fun k_ => some k_ ≠ (.slice (some d6) a2.length t7 : Value).ownBlock) (fun _ => False) rfl rfl ?aP (fun _ hk => hk.elim) ?aF ?aO ?aB ?aS ?aL ?_
           (case aP => exact rfl)
           (case aB => exact bS)
           (case aF => exact (fun k_ hk => Kd.fresh' (Kd.R_lt (rS a3)) k_ hk))
           (case aO => exact (rS a5))
           (case aS => exact (below_size bS))
           (case aL => have := LMc26.out; (try dsimp only at this); omega)
           intro A1 C9 ho hb hg hat
           rw [← Ny892.out] at ho
           have m4 := aM (ho)
           replace a3 := aM (Kd.R_after (ok := (fun _ => True)) (by exact rM a3) hg hat)
           replace HB := aM (hb)
           clear a5
           clear ho hb hg hat
           refine hK.out _ _ ?_
           clear hK K
           refine norm_ (a' := ?_) ?_ ?_
           rotate_left
           ·show Act.put _ (some 55) _ = _
            simp only [Act.put, List.setIfInBounds_toArray, List.set_cons_zero, List.set_cons_succ, i64_w, i32_w]
            rfl
           refine pU 10 (some 7) (mB 11 2047) ?_
           refine done_ (done_of HT_.out (by kernel_rfl)) ?_
           try go_wp2
           go_meet
           case rel => exact ⟨_, (m1), H', ⟨by have := HJ2.out; have := HJ7.out; first | omega | exact Nat.le_refl _⟩, ⟨by exact rT (Kd.R_mono m4.out (fun _ hk => trivial))⟩, ⟨bS⟩⟩
          ·rw [if_neg s8] at H
           exact absurd H (by simp)
         ·rw [if_neg c24] at H
          exact absurd H (by simp)
        ·rw [if_neg l7] at H
         obtain ⟨l8, l9⟩ := eqF l7
         by_cases j8 : a1.toList = ([109, 117, 108] : List UInt8)
         ·rw [if_pos j8] at H
          obtain ⟨h0, h1⟩ := eqT j8
          clear j8
          by_cases m6 : 0 < (a2.length : Int)
          ·rw [if_pos m6] at H
           have x7 : decide (0 < (a2.length : Int)) = true := decide_eq_true m6
           have x8 : decide (0 < a2.length) = true := decide_eq_true (by omega)
           clear m6
           by_cases m7 : 1 < (a2.length : Int)
           ·rw [if_pos m7] at H
            have x9 : decide (1 < (a2.length : Int)) = true := decide_eq_true m7
            have y0 : decide (1 < a2.length) = true := decide_eq_true (by omega)
            clear m7
            obtain ⟨LMc33, H⟩ := iL H
            obtain ⟨m8, hy_⟩ : ∃ y_ : List Int, y_ = (a6 ++ [wrap64 ((rd a2 0) * (rd a2 1))]) := ⟨_, rfl⟩
            replace H : (impl_StackOp.j2 kj7 l0 m8) = some (r1, r2) := yS
            have Ny897 := aM hy_
            clear hy_
            have H' := aM H
            clear H
            try go_wp2
            replace a5 := rD a5
            replace a3 := rD a3
            replace HB := hD HB
            obtain ⟨A2, u0, m9⟩ := Kd.R_slice a3.out
            (first | subst m9 | obtain ⟨rfl, rfl⟩ := slE m9)
            have f4 : 0 ≤ (0 : Int) := (by omega)
            have f5 : 0 < (a2.length : Int) := dA
            obtain ⟨e0, u1, a7⟩ := Kd.at_int (Kd.R_reads' a3.out).2.2 0 f4 f5
            cases u1
            have qi895 : (0 < a2.length) = True := eq_true (by omega)
            (try rw [show ((0 : Int)).toNat = 0 from rfl] at a7)
            (try rw [Addr.add_zero'] at a7)
            replace f4 := eq_true f4
            replace f5 := eq_true f5
            have f6 : 0 ≤ (1 : Int) := (by omega)
            have f7 : 1 < (a2.length : Int) := dA
            obtain ⟨n0, u2, a8⟩ := Kd.at_int (Kd.R_reads' a3.out).2.2 1 f6 f7
            obtain rfl : e0 = n0 := (by injection u2)
            (try simp only [show (1 : Int).toNat = 1 from rfl, Nat.reduceMul, Nat.reduceEqDiff, Go.Addr.add, ↓reduceIte] at a8)
            have qi896 : (1 < a2.length) = True := eq_true (by omega)
            (try rw [show ((1 : Int)).toNat = 1 from rfl] at a8)
            replace f6 := eq_true f6
            replace f7 := eq_true f7
            refine start_ (n := 11) (S := fun w' => w'.cell? e0 = some (.int .i64 (rd a2 0)) ∧ w'.cell? ⟨e0.block, e0.off + 1, none⟩ = some (.int .i64 (rd a2 1))) (ds := [8, 9]) (mB 11 0) (by kernel_rfl) rfl rfl ⟨a7, a8⟩ (fun hHeld => ?_); refine with_tabW impl_StackOp.tab16 impl_StackOp.bits16 (fun HT_ HW_ => ?_)
            generalize wc.drew = D0 at a5 a3 HB a7 a8 hHeld ⊢
            refine pU 0 (some 58) (mB 11 1) ?_
            refine pU 1 (some 59) (mB 11 3) ?_
            refine pU 2 (some 60) (mB 11 7) ?_
            refine pU 4 (some 62) (mB 11 23) ?_
            refine pU 5 (some 63) (mB 11 55) ?_
            refine tK 3 (some 61) (mB 11 63) ?_
            refine tK 6 (some 64) (mB 11 127) ?_
            refine pU 7 (some 65) (mB 11 255) ?_
            refine last_ (i := 8) (N := some 66) (mB 11 511) rfl rfl (one_of HT_.out (by kernel_rfl)) (by decide) (fun K hK => ?_)
            refine value_ (w1 := ?_) (v := ?_) (by rfl) rfl ?_ ?_
            rotate_left 2
            ·go_simp
             constructor
             ·rfl
             ·rfl
            refine hK.out _ _ ?_
            clear hK K
            refine norm_ (a' := ?_) ?_ ?_
            rotate_left
            ·show Act.put _ (some 66) _ = _
             simp only [Act.put, List.setIfInBounds_toArray, List.set_cons_zero, List.set_cons_succ, i64_w, i32_w]
             rfl
            refine last_ (i := 9) (N := some 67) (mB 11 1023) rfl rfl (one_of HT_.out (by kernel_rfl)) (by decide) (fun K hK => ?_)
            refine Kd.R_append_step (Kd.int .i64) (w0 := w) w.heap.size (by rfl) (.tmp 58) (.tmp 66) 22 3 (.int .i64 0) 8 rfl Tryz.underlying22 info3 rfl (by decide) (by omega) d2 a6 (wrap64 ((rd a2 0) * (rd a2 1))) [.int .i64 (wrap64 ((rd a2 0) * (rd a2 1)))] (fun k_ => some k_ ≠ (.slice (some e0) a2.length u0 : Value).ownBlock) (fun _ => False) rfl rfl ?aP (fun _ hk => hk.elim) ?aF ?aO ?aB ?aS ?aL ?_
            (case aP => exact rfl)
            (case aB => exact bS)
            (case aF => exact (fun k_ hk => Kd.fresh' (Kd.R_lt (rS a3)) k_ hk))
            (case aO => exact (rS a5))
            (case aS => exact (below_size bS))
            (case aL => have := LMc33.out; (try dsimp only at this); omega)
            intro A3 D1 ho hb hg hat
            rw [← Ny897.out] at ho
            have n1 := aM (ho)
            replace a3 := aM (Kd.R_after (ok := (fun _ => True)) (by exact rM a3) hg hat)
            replace HB := aM (hb)
            clear a5
            clear ho hb hg hat
            refine hK.out _ _ ?_
            clear hK K
            refine norm_ (a' := ?_) ?_ ?_
            rotate_left
            ·show Act.put _ (some 67) _ = _
             simp only [Act.put, List.setIfInBounds_toArray, List.set_cons_zero, List.set_cons_succ, i64_w, i32_w]
             rfl
            refine pU 10 (some 7) (mB 11 2047) ?_
            refine done_ (done_of HT_.out (by kernel_rfl)) ?_
            try go_wp2
            go_meet
            case rel => exact ⟨_, (m8), H', ⟨by have := HJ2.out; have := HJ7.out; first | omega | exact Nat.le_refl _⟩, ⟨by exact rT (Kd.R_mono n1.out (fun _ hk => trivial))⟩, ⟨bS⟩⟩
           ·rw [if_neg m7] at H
            exact absurd H (by simp)
          ·rw [if_neg m6] at H
           exact absurd H (by simp)
         ·rw [if_neg j8] at H
          obtain ⟨h0, h1⟩ := eqF j8
          by_cases j9 : a1.toList = ([101, 120, 99, 104] : List UInt8)
          ·rw [if_pos j9] at H
           obtain ⟨h2, h3⟩ := eqT j9
           clear j9
           by_cases n2 : 1 < (a2.length : Int)
           ·rw [if_pos n2] at H
            have n5 : decide (1 < (a2.length : Int)) = true := decide_eq_true n2
            have n6 : decide (1 < a2.length) = true := decide_eq_true (by omega)
            clear n2
            by_cases n7 : 0 < (a2.length : Int)
            ·rw [if_pos n7] at H
             have n8 : decide (0 < (a2.length : Int)) = true := decide_eq_true n7
             have o0 : decide (0 < a2.length) = true := decide_eq_true (by omega)
             clear n7
             obtain ⟨e8, hy_⟩ : ∃ y_ : List Int, y_ = (([rd a2 1, rd a2 0] : List Int)) := ⟨_, rfl⟩
             replace H : (if a6.length + e8.length < 17592186044416 then (impl_StackOp.j2 kj7 l0 (a6 ++ e8)) else (none)) = some (r1, r2) := yS
             have Ny902 := aM hy_
             clear hy_
             obtain ⟨LMc40, H⟩ := iL H
             obtain ⟨o1, hy_⟩ : ∃ y_ : List Int, y_ = (a6 ++ e8) := ⟨_, rfl⟩
             replace H : (impl_StackOp.j2 kj7 l0 o1) = some (r1, r2) := yS
             have Ny905 := aM hy_
             clear hy_
             have H' := aM H
             clear H
             try go_wp2
             replace a5 := rD a5
             replace a3 := rD a3
             replace HB := hD HB
             obtain ⟨A4, o4, o5⟩ := Kd.R_slice a3.out
             (first | subst o5 | obtain ⟨rfl, rfl⟩ := slE o5)
             have f8 : 0 ≤ (1 : Int) := (by omega)
             have f9 : 1 < (a2.length : Int) := dA
             obtain ⟨d0, u3, a9⟩ := Kd.at_int (Kd.R_reads' a3.out).2.2 1 f8 f9
             cases u3
             (try simp only [show (1 : Int).toNat = 1 from rfl, Nat.reduceMul, Nat.reduceEqDiff, Go.Addr.add, ↓reduceIte] at a9)
             have qi900 : (1 < a2.length) = True := eq_true (by omega)
             (try rw [show ((1 : Int)).toNat = 1 from rfl] at a9)
             replace f8 := eq_true f8
             replace f9 := eq_true f9
             have g0 : 0 ≤ (0 : Int) := (by omega)
             have g1 : 0 < (a2.length : Int) := dA
             obtain ⟨o6, u4, b0⟩ := Kd.at_int (Kd.R_reads' a3.out).2.2 0 g0 g1
             obtain rfl : d0 = o6 := (by injection u4)
             have qi901 : (0 < a2.length) = True := eq_true (by omega)
             (try rw [show ((0 : Int)).toNat = 0 from rfl] at b0)
             (try rw [Addr.add_zero'] at b0)
             replace g0 := eq_true g0
             replace g1 := eq_true g1
             refine start_ (n := 10) (S := fun w' => w'.cell? ⟨d0.block, d0.off + 1, none⟩ = some (.int .i64 (rd a2 1)) ∧ w'.cell? d0 = some (.int .i64 (rd a2 0))) (ds := [8]) (mB 10 0) (by kernel_rfl) rfl rfl ⟨a9, b0⟩ (fun hHeld => ?_); refine with_tabW impl_StackOp.tab18 impl_StackOp.bits18 (fun HT_ HW_ => ?_)
             generalize wc.drew = D2 at a5 a3 HB a9 b0 hHeld ⊢
             refine pU 0 (some 70) (mB 10 1) ?_
             refine pU 1 (some 71) (mB 10 3) ?_
             refine pU 2 (some 72) (mB 10 7) ?_
             refine pU 4 (some 74) (mB 10 23) ?_
             refine pU 5 (some 75) (mB 10 55) ?_
             refine tK 3 (some 73) (mB 10 63) ?_
             refine tK 6 (some 76) (mB 10 127) ?_
             refine one_ (i := 7) (N := some 77) (mB 10 255) rfl rfl (one_of HT_.out (by kernel_rfl)) (by decide) (fun K hK => ?_)
             refine Kd.R_lit_step (Kd.int .i64) _ 3 ?hg (N := 77) ?hd (xs := ([rd a2 1, rd a2 0] : List Int)) (inner := [.int .i64 (rd a2 1), .int .i64 (rd a2 0)]) (ok := fun _ => True) (okp := fun _ => True) ?hr ?hp (fun _ hk => hk) trivial (Below.refl _ _) (Nat.le_refl _) (by simp) ?_; (case hd => rfl); (case hg => rfl); (case hr => first | (go_simp; done) | (go_simp; rfl)); (case hp => exact (Reps.one (show Kd.M (Kd.int .i64) _ _ _ (rd a2 1) [.int .i64 (rd a2 1)] from rfl) (Reps.one (show Kd.M (Kd.int .i64) _ _ _ (rd a2 0) [.int .i64 (rd a2 0)] from rfl) (Reps.none _ _))))
             intro A5 D3 e5 hb hg_ hnew_
             have HS0_ := (hb.cell (World.block_lt_of_cell? _ _ (hHeld.1))).trans (hHeld.1)
             have HS1_ := (hb.cell (World.block_lt_of_cell? _ _ (hHeld.2))).trans (hHeld.2)
             clear hg_ hnew_
             (first | rw [← Ny902.out] at e5 | (simp only [Int.reduceToNat] at e5; rw [← Ny902.out] at e5))
             have e1 := aM (Kd.R_lower (Kd.R_new' (Kd.R_new' e5 (Kd.R_lt (rS a5))) (Kd.R_lt (rS a3))) (below_size bS))
             replace a5 := aM (Kd.R_elder' (rS a5) (Kd.R_base e5) hb)
             replace a3 := aM (Kd.R_elder' (rS a3) (Kd.R_base e5) hb)
             replace HB := hB hb
             clear hb e5
             obtain ⟨o7, o8, o9⟩ := Kd.R_slice e1.out
             (first | subst o9 | obtain ⟨rfl, rfl⟩ := slE o9)
             refine hK.out _ _ ⟨HS0_, HS1_⟩ (fun hHeld => ?_)
             clear hK K
             refine norm_ (a' := ?_) ?_ ?_
             rotate_left
             ·show Act.put _ (some 77) _ = _
              simp only [Act.put, List.setIfInBounds_toArray, List.set_cons_zero, List.set_cons_succ, i64_w, i32_w]
              rfl
             refine last_ (i := 8) (N := some 78) (mB 10 511) rfl rfl (one_of HT_.out (by kernel_rfl)) (by decide) (fun K hK => ?_)
             refine Kd.R_append_rows_step (Kd.int .i64) (w0 := w) w.heap.size (by rfl) (.tmp 70) (.tmp 77) 22 3 (.int .i64 0) 8 rfl Tryz.underlying22 info3 rfl (by decide) (by omega) d2 a6 e8 _ _ _ (fun k_ => some k_ ≠ (.slice (some d0) a2.length o4 : Value).ownBlock ∧ some k_ ≠ (.slice o7 e8.length o8 : Value).ownBlock) (fun _ => False) rfl rfl ?aO ?aR (fun _ _ h => h) (fun _ h => h.elim) ?aF ?aB ?aS ?aL ?_
             (case aR => exact cS (Kd.R_reads' e1.out).2.2)
             (case aB => exact bS)
             (case aF => exact (fun k_ hk => ⟨Kd.fresh' (Kd.R_lt (rS a3)) k_ hk, Kd.fresh' (Kd.R_lt (rS e1)) k_ hk⟩))
             (case aO => exact (rS a5))
             (case aS => exact (below_size bS))
             (case aL => have := LMc40.out; (try dsimp only at this); omega)
             intro A6 D4 ho hb hg hat
             rw [← Ny905.out] at ho
             have q0 := aM (ho)
             replace a3 := aM (Kd.R_after (ok := (fun k_ => some k_ ≠ (.slice o7 e8.length o8 : Value).ownBlock)) (by exact rM a3) hg hat)
             replace e1 := aM (Kd.R_after (ok := (fun k_ => some k_ ≠ (.slice (some d0) a2.length o4 : Value).ownBlock)) (by exact rM e1) hg hat)
             replace HB := aM (hb)
             clear a5
             clear ho hb hg hat
             refine hK.out _ _ ?_
             clear hK K
             refine norm_ (a' := ?_) ?_ ?_
             rotate_left
             ·show Act.put _ (some 78) _ = _
              simp only [Act.put, List.setIfInBounds_toArray, List.set_cons_zero, List.set_cons_succ, i64_w, i32_w]
              rfl
             refine pU 9 (some 7) (mB 10 1023) ?_
             refine done_ (done_of HT_.out (by kernel_rfl)) ?_
             try go_wp2
             go_meet
             case rel => exact ⟨_, (o1), H', ⟨by have := HJ2.out; have := HJ7.out; first | omega | exact Nat.le_refl _⟩, ⟨by exact rT (Kd.R_mono q0.out (fun _ hk => trivial))⟩, ⟨bS⟩⟩
            ·rw [if_neg n7] at H
             exact absurd H (by simp)
           ·rw [if_neg n2] at H
            exact absurd H (by simp)
          ·rw [if_neg j9] at H
           obtain ⟨h2, h3⟩ := eqF j9
           by_cases k0 : a1.toList = ([110, 101, 103] : List UInt8)
           ·rw [if_pos k0] at H
            obtain ⟨h4, h5⟩ := eqT k0
            clear k0
            by_cases q2 : 0 < (a2.length : Int)
            ·rw [if_pos q2] at H
             have q3 : decide (0 < (a2.length : Int)) = true := decide_eq_true q2
             have q4 : decide (0 < a2.length) = true := decide_eq_true (by omega)
             clear q2
             obtain ⟨LMc49, H⟩ := iL H
             obtain ⟨q5, hy_⟩ : ∃ y_ : List Int, y_ = (a6 ++ [wrap64 (-(rd a2 0))]) := ⟨_, rfl⟩
             replace H : (impl_StackOp.j2 kj7 l0 q5) = some (r1, r2) := yS
             have Ny909 := aM hy_
             clear hy_
             have H' := aM H
             clear H
             obtain ⟨A8, u5, u6⟩ := Kd.R_slice a3.out
             subst u6
             have g2 : 0 ≤ (0 : Int) := (by omega)
             have g3 : 0 < (a2.length : Int) := dA
             obtain ⟨q6, u7, d1⟩ := Kd.at_int (Kd.R_reads' a3.out).2.2 0 g2 g3
             cases u7
             have qi908 : (0 < a2.length) = True := eq_true (by omega)
             (try rw [show ((0 : Int)).toNat = 0 from rfl] at d1)
             (try rw [Addr.add_zero'] at d1)
             replace g2 := eq_true g2
             replace g3 := eq_true g3
             go_wp2_with (first | ((with_reducible refine gate_builtin (b := .append) (xs := #[.tmp 81, .tmp 86]) rfl ?_); at_builtin; refine Kd.R_append (Kd.int .i64) (w0 := w) w.heap.size rfl (.tmp 81) (.tmp 86) 22 3 (.int .i64 0) 8 rfl Tryz.underlying22 info3 rfl (by decide) (by omega) d2 a6 (wrap64 (-(rd a2 0))) [.int .i64 (wrap64 (-(rd a2 0)))] (fun k_ => some k_ ≠ (.slice (some q6) a2.length u5 : Value).ownBlock) (fun _ => False) rfl rfl ?aP (fun _ hk => hk.elim) ?aF ?aO ?aB ?aS ?aL ?_; (case aP => exact rfl); (case aB => exact bS); (case aF => exact (fun k_ hk => Kd.fresh' (Kd.R_lt (rS a3)) k_ hk)); (case aO => exact (rS a5)); (case aS => exact (below_size bS)); (case aL => have := LMc49.out; (try dsimp only at this); omega); intro A9 D5 ho hb hg hat; rw [← Ny909.out] at ho; have q7 := aM (ho); replace a3 := aM (Kd.R_after (ok := (fun _ => True)) (by exact rM a3) hg hat); replace HB := aM (hb); clear a5; clear ho hb hg hat))
             go_meet
             case rel => exact ⟨_, (q5), H', ⟨by have := HJ2.out; have := HJ7.out; first | omega | exact Nat.le_refl _⟩, ⟨by exact rT (Kd.R_mono q7.out (fun _ hk => trivial))⟩, ⟨bS⟩⟩
            ·rw [if_neg q2] at H
             exact absurd H (by simp)
           ·rw [if_neg k0] at H
            obtain ⟨h4, h5⟩ := eqF k0
            by_cases k1 : a1.toList = ([100, 117, 112] : List UInt8)
            ·rw [if_pos k1] at H
             obtain ⟨h6, h7⟩ := eqT k1
             clear k1
             by_cases r0 : 0 < (a2.length : Int)
             ·rw [if_pos r0] at H
              have r3 : decide (0 < (a2.length : Int)) = true := decide_eq_true r0
              have r4 : decide (0 < a2.length) = true := decide_eq_true (by omega)
              clear r0
              obtain ⟨e9, hy_⟩ : ∃ y_ : List Int, y_ = (([rd a2 0, rd a2 0] : List Int)) := ⟨_, rfl⟩
              replace H : (if a6.length + e9.length < 17592186044416 then (impl_StackOp.j2 kj7 l0 (a6 ++ e9)) else (none)) = some (r1, r2) := yS
              have Ny914 := aM hy_
              clear hy_
              obtain ⟨LMc54, H⟩ := iL H
              obtain ⟨r5, hy_⟩ : ∃ y_ : List Int, y_ = (a6 ++ e9) := ⟨_, rfl⟩
              replace H : (impl_StackOp.j2 kj7 l0 r5) = some (r1, r2) := yS
              have Ny917 := aM hy_
              clear hy_
              have H' := aM H
              clear H
              try go_wp2
              replace a5 := rD a5
              replace a3 := rD a3
              replace HB := hD HB
              obtain ⟨B0, r6, r7⟩ := Kd.R_slice a3.out
              (first | subst r7 | obtain ⟨rfl, rfl⟩ := slE r7)
              have g4 : 0 ≤ (0 : Int) := (by omega)
              have g5 : 0 < (a2.length : Int) := dA
              obtain ⟨e2, u9, b1⟩ := Kd.at_int (Kd.R_reads' a3.out).2.2 0 g4 g5
              cases u9
              have qi912 : (0 < a2.length) = True := eq_true (by omega)
              (try rw [show ((0 : Int)).toNat = 0 from rfl] at b1)
              (try rw [Addr.add_zero'] at b1)
              replace g4 := eq_true g4
              replace g5 := eq_true g5
              have g6 : 0 ≤ (0 : Int) := (by omega)
              have g7 : 0 < (a2.length : Int) := dA
              obtain ⟨s0, v0, b2⟩ := Kd.at_int (Kd.R_reads' a3.out).2.2 0 g6 g7
              obtain rfl : e2 = s0 := (by injection v0)
              have qi913 : (0 < a2.length) = True := eq_true (by omega)
              (try rw [show ((0 : Int)).toNat = 0 from rfl] at b2)
              (try rw [Addr.add_zero'] at b2)
              replace g6 := eq_true g6
              replace g7 := eq_true g7
              refine start_ (n := 10) (S := fun w' => w'.cell? e2 = some (.int .i64 (rd a2 0)) ∧ w'.cell? e2 = some (.int .i64 (rd a2 0))) (ds := [8]) (mB 10 0) (by kernel_rfl) rfl rfl ⟨b1, b2⟩ (fun hHeld => ?_); refine with_tabW impl_StackOp.tab22 impl_StackOp.bits22 (fun HT_ HW_ => ?_)
              generalize wc.drew = D6 at a5 a3 HB b1 b2 hHeld ⊢
              refine pU 0 (some 90) (mB 10 1) ?_
              refine pU 1 (some 91) (mB 10 3) ?_
              refine pU 2 (some 92) (mB 10 7) ?_
              refine pU 4 (some 94) (mB 10 23) ?_
              refine pU 5 (some 95) (mB 10 55) ?_
              refine tK 3 (some 93) (mB 10 63) ?_
              refine tK 6 (some 96) (mB 10 127) ?_
              refine one_ (i := 7) (N := some 97) (mB 10 255) rfl rfl (one_of HT_.out (by kernel_rfl)) (by decide) (fun K hK => ?_)
              refine Kd.R_lit_step (Kd.int .i64) _ 3 ?hg (N := 97) ?hd (xs := ([rd a2 0, rd a2 0] : List Int)) (inner := [.int .i64 (rd a2 0), .int .i64 (rd a2 0)]) (ok := fun _ => True) (okp := fun _ => True) ?hr ?hp (fun _ hk => hk) trivial (Below.refl _ _) (Nat.le_refl _) (by simp) ?_; (case hd => rfl); (case hg => rfl); (case hr => first | (go_simp; done) | (go_simp; rfl)); (case hp => exact (Reps.one (show Kd.M (Kd.int .i64) _ _ _ (rd a2 0) [.int .i64 (rd a2 0)] from rfl) (Reps.one (show Kd.M (Kd.int .i64) _ _ _ (rd a2 0) [.int .i64 (rd a2 0)] from rfl) (Reps.none _ _))))
              intro B2 D7 e6 hb hg_ hnew_
              have HS0_ := (hb.cell (World.block_lt_of_cell? _ _ (hHeld.1))).trans (hHeld.1)
              have HS1_ := (hb.cell (World.block_lt_of_cell? _ _ (hHeld.2))).trans (hHeld.2)
              clear hg_ hnew_
              (first | rw [← Ny914.out] at e6 | (simp only [Int.reduceToNat] at e6; rw [← Ny914.out] at e6))
              have e3 := aM (Kd.R_lower (Kd.R_new' (Kd.R_new' e6 (Kd.R_lt (rS a5))) (Kd.R_lt (rS a3))) (below_size bS))
              replace a5 := aM (Kd.R_elder' (rS a5) (Kd.R_base e6) hb)
              replace a3 := aM (Kd.R_elder' (rS a3) (Kd.R_base e6) hb)
              replace HB := hB hb
              clear hb e6
              obtain ⟨s1, s2, s3⟩ := Kd.R_slice e3.out
              (first | subst s3 | obtain ⟨rfl, rfl⟩ := slE s3)
              refine hK.out _ _ ⟨HS0_, HS1_⟩ (fun hHeld => ?_)
              clear hK K
              refine norm_ (a' := ?_) ?_ ?_
              rotate_left
              ·show Act.put _ (some 97) _ = _
               simp only [Act.put, List.setIfInBounds_toArray, List.set_cons_zero, List.set_cons_succ, i64_w, i32_w]
               rfl
              refine last_ (i := 8) (N := some 98) (mB 10 511) rfl rfl (one_of HT_.out (by kernel_rfl)) (by decide) (fun K hK => ?_)
              refine Kd.R_append_rows_step (Kd.int .i64) (w0 := w) w.heap.size (by rfl) (.tmp 90) (.tmp 97) 22 3 (.int .i64 0) 8 rfl Tryz.underlying22 info3 rfl (by decide) (by omega) d2 a6 e9 _ _ _ (fun k_ => some k_ ≠ (.slice (some e2) a2.length r6 : Value).ownBlock ∧ some k_ ≠ (.slice s1 e9.length s2 : Value).ownBlock) (fun _ => False) rfl rfl ?aO ?aR (fun _ _ h => h) (fun _ h => h.elim) ?aF ?aB ?aS ?aL ?_
              (case aR => exact cS (Kd.R_reads' e3.out).2.2)
              (case aB => exact bS)
              (case aF => exact (fun k_ hk => ⟨Kd.fresh' (Kd.R_lt (rS a3)) k_ hk, Kd.fresh' (Kd.R_lt (rS e3)) k_ hk⟩))
              (case aO => exact (rS a5))
              (case aS => exact (below_size bS))
              (case aL => have := LMc54.out; (try dsimp only at this); omega)
              intro B5 D8 ho hb hg hat
              rw [← Ny917.out] at ho
              have s4 := aM (ho)
              replace a3 := aM (Kd.R_after (ok := (fun k_ => some k_ ≠ (.slice s1 e9.length s2 : Value).ownBlock)) (by exact rM a3) hg hat)
              replace e3 := aM (Kd.R_after (ok := (fun k_ => some k_ ≠ (.slice (some e2) a2.length r6 : Value).ownBlock)) (by exact rM e3) hg hat)
              replace HB := aM (hb)
              clear a5
              clear ho hb hg hat
              refine hK.out _ _ ?_
              clear hK K
              refine norm_ (a' := ?_) ?_ ?_
              rotate_left
              ·show Act.put _ (some 98) _ = _
               simp only [Act.put, List.setIfInBounds_toArray, List.set_cons_zero, List.set_cons_succ, i64_w, i32_w]
               rfl
              refine pU 9 (some 7) (mB 10 1023) ?_
              refine done_ (done_of HT_.out (by kernel_rfl)) ?_
              try go_wp2
              go_meet
              case rel => exact ⟨_, (r5), H', ⟨by have := HJ2.out; have := HJ7.out; first | omega | exact Nat.le_refl _⟩, ⟨by exact rT (Kd.R_mono s4.out (fun _ hk => trivial))⟩, ⟨bS⟩⟩
             ·rw [if_neg r0] at H
              exact absurd H (by simp)
            ·rw [if_neg k1] at H
             obtain ⟨h6, h7⟩ := eqF k1
             have H' := aM H
             clear H
             go_wp2
             go_meet
             case rel => exact ⟨_, (a6), H', ⟨by have := HJ2.out; have := HJ7.out; first | omega | exact Nat.le_refl _⟩, ⟨by exact rT (Kd.R_mono a5.out (fun _ hk => trivial))⟩, ⟨bS⟩⟩
      case rest =>
       clear i5
       try clear p2
       try clear c3
       try clear c4
       try clear c5
       try clear p6
       try clear p8
       try clear q8
       try clear D9
       try clear qi8
       try clear p9
       try clear q9
       try clear E0
       try clear qi9
       try clear j8
       try clear h0
       try clear h1
       try clear m6
       try clear m7
       try clear E1
       try clear j9
       try clear h2
       try clear h3
       try clear n2
       try clear n5
       try clear n6
       try clear n7
       try clear n8
       try clear o0
       try clear E2
       try clear k0
       try clear h4
       try clear h5
       try clear q2
       try clear q3
       try clear q4
       try clear E3
       try clear k1
       try clear h6
       try clear h7
       try clear r0
       try clear r3
       try clear r4
       try clear E4
       try clear a7
       try clear a8
       try clear a9
       try clear b0
       try clear d1
       try clear b1
       try clear b2
       try clear f4
       try clear f6
       try clear f8
       try clear g0
       try clear g2
       try clear g4
       try clear g6
       try clear f5
       try clear f7
       try clear f9
       try clear g1
       try clear g3
       try clear g5
       try clear g7
       obtain ⟨kq, d3, HA, HJ14, a5, HB⟩ := hcut
       cases kq with
       | zero => exact absurd HA.out (by simp [impl_StackOp.j2])
       | succ kj14 =>
        have H := HA.out
        clear HA
        simp only [impl_StackOp.j2] at H
        replace H := bN H
        obtain ⟨v1, y1, H⟩ := H
        by_cases y2 : v1 = true
        ·subst y2
         rw [if_pos rfl] at H
         obtain ⟨rfl, rfl⟩ := sI2 H
         obtain ⟨B6, B7, v2⟩ := Kd.R_slice a5.out
         subst v2
         go_wp2_with (first | ((with_reducible refine gC 88 ?_); refine cM (some 100) Tryz.func88 (impl_StackOk.calls kj14 _ _ d3 _ _ (cS (Kd.R_reads' a5.out).2.2) ((Kd.R_reads' a5.out).2.1) y1.out) ?_; rintro e w' ⟨rfl, ⟨nd, rfl⟩⟩; refine ⟨_, rfl, ?_⟩))
         go_ret2
         exact ⟨_, eS, rS a5, bS⟩
        ·obtain rfl := Bool.eq_false_iff.mpr y2
         rw [if_neg nF] at H
         replace H := bN H
         obtain ⟨v3, B8, H⟩ := H
         obtain ⟨rfl, rfl⟩ := sI2 H
         obtain ⟨C0, C2, v4⟩ := Kd.R_slice a5.out
         subst v4
         go_wp2_with (first | ((with_reducible refine gC 88 ?_); refine cM (some 100) Tryz.func88 (impl_StackOk.calls kj14 _ _ d3 _ _ (cS (Kd.R_reads' a5.out).2.2) ((Kd.R_reads' a5.out).2.1) y1.out) ?_; rintro e w' ⟨rfl, ⟨nd, rfl⟩⟩; refine ⟨_, rfl, ?_⟩) | ((with_reducible refine gC 87 ?_); refine cM (some 103) Tryz.func87 (slices_Clone_int_int.calls _ _ l0 v3 _ (cS (Kd.C_below s9.out bS)) t0.out B8.out) ?_; rintro e E5 ⟨C3, rfl, f0, hb⟩; refine ⟨_, rfl, ?_⟩; have s5 := aM (Kd.R_lower (Kd.R_new' f0 (Kd.R_lt (rS a5))) (below_size bS)); replace a5 := aM (Kd.R_elder' (rS a5) (Kd.R_base f0) hb); replace HB := hB hb; (try clear hb f0)))
         go_ret2
         exact ⟨_, eS, by exact rT (Kd.R_mono s5.out (fun _ hk => trivial)), bS⟩
end Go.Proofs.YtjkgponlahfnjaaGreat.QFnExactRunPage
