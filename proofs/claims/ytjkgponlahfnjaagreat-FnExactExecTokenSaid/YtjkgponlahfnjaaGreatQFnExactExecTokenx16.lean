/- Walks of functions of the program, made out of the translation by a program of this session: each answers what its plain function tells, for every input at which that is told. -/
import Derived.Test.YtjkgponlahfnjaaGreatQFnExactExecTokenx0
import Derived.Test.YtjkgponlahfnjaaGreatQFnExactExecTokenx10
import Derived.Test.YtjkgponlahfnjaaGreatQFnExactExecTokenx13
import Derived.Test.YtjkgponlahfnjaaGreatQFnExactExecTokenx15
namespace Go.Proofs.YtjkgponlahfnjaaGreat.QFnExactExecToken
open Go.RowKit Go.Proofs.YtjkgponlahfnjaaGreatW.PrintWords Go.Proofs.YtjkgponlahfnjaaGreatW.PrintLast Go.Proofs.YtjkgponlahfnjaaGreatW.PrintMore
attribute [local go_sem] max2_int min2_int max_two min_two max_three min_three max_four min_four   -- for this text's walks alone
set_option linter.unusedVariables false
set_option linter.unusedSimpArgs false
set_option maxHeartbeats 8000000
set_option maxRecDepth 100000
/-! ### impl_StackOp: function 42 -/
mutual
def impl_StackOp.j0 : Nat → List Int → ByteArray → Int → Option (List Int × Bool)
 | 0, _, _, _ => none
 | k + 1, x0, x1, x6 => (impl_TakeNumbers.f k x0 x6).bind fun a2 => (if a2.2.2 = true then ((impl_IsStackOp.f x1).bind fun a6 => (impl_StackOp.j1 k x0 x1 a2.1 a2.2.1 (!a6))) else (impl_StackOp.j1 k x0 x1 a2.1 a2.2.1 true))
def impl_StackOp.j1 : Nat → List Int → ByteArray → List Int → List Int → Bool → Option (List Int × Bool)
 | 0, _, _, _, _, _ => none
 | k + 1, x0, x1, x7, x8, b0 => if b0 = true then ((slices_Clone_int_int.f x0).bind fun a7 => (some (a7, false))) else (if x1.toList = ([97, 100, 100] : List UInt8) then (if 0 < (x8.length : Int) then (if 1 < (x8.length : Int) then (if x7.length < 17592186044416 then (impl_StackOp.j2 k x0 (x7 ++ [wrap64 ((rd x8 0) + (rd x8 1))])) else (none)) else (none)) else (none)) else (if x1.toList = ([115, 117, 98] : List UInt8) then (if 0 < (x8.length : Int) then (if 1 < (x8.length : Int) then (if x7.length < 17592186044416 then (impl_StackOp.j2 k x0 (x7 ++ [wrap64 ((rd x8 0) - (rd x8 1))])) else (none)) else (none)) else (none)) else (if x1.toList = ([109, 117, 108] : List UInt8) then (if 0 < (x8.length : Int) then (if 1 < (x8.length : Int) then (if x7.length < 17592186044416 then (impl_StackOp.j2 k x0 (x7 ++ [wrap64 ((rd x8 0) * (rd x8 1))])) else (none)) else (none)) else (none)) else (if x1.toList = ([101, 120, 99, 104] : List UInt8) then (if 1 < (x8.length : Int) then (if 0 < (x8.length : Int) then ((some (([rd x8 1, rd x8 0] : List Int) : List Int)).bind fun a3 => (if x7.length + a3.length < 17592186044416 then (impl_StackOp.j2 k x0 (x7 ++ a3)) else (none))) else (none)) else (none)) else (if x1.toList = ([110, 101, 103] : List UInt8) then (if 0 < (x8.length : Int) then (if x7.length < 17592186044416 then (impl_StackOp.j2 k x0 (x7 ++ [wrap64 (-(rd x8 0))])) else (none)) else (none)) else (if x1.toList = ([100, 117, 112] : List UInt8) then (if 0 < (x8.length : Int) then ((some (([rd x8 0, rd x8 0] : List Int) : List Int)).bind fun a5 => (if x7.length + a5.length < 17592186044416 then (impl_StackOp.j2 k x0 (x7 ++ a5)) else (none))) else (none)) else (impl_StackOp.j2 k x0 x7)))))))
def impl_StackOp.j2 : Nat → List Int → List Int → Option (List Int × Bool)
 | 0, _, _ => none
 | k + 1, x0, x7 => (impl_StackOk.f k x7).bind fun a8 => (if a8 = true then (some (x7, true)) else ((slices_Clone_int_int.f x0).bind fun a9 => (some (a9, false))))
end
def impl_StackOp.f (k : Nat) (l0 : List Int) (a1 : ByteArray) : Option (List Int × Bool) := if a1.toList = ([110, 101, 103] : List UInt8) then (impl_StackOp.j0 k l0 a1 1) else (if a1.toList = ([100, 117, 112] : List UInt8) then (impl_StackOp.j0 k l0 a1 1) else (if a1.toList = ([112, 111, 112] : List UInt8) then (impl_StackOp.j0 k l0 a1 1) else (impl_StackOp.j0 k l0 a1 2)))
def impl_StackOp.T12 : Bool × List (List Nat × List Nat) := (true, [([], []), ([], []), ([1], [1]), ([2], [2]), ([], []), ([4], [4]), ([5], [5]), ([3, 6], [3, 6]), ([7], [7]), ([0, 8], [0, 8]), ([9, 9, 0, 1, 2, 3, 4, 5, 6, 7, 8, 9], [0, 9])])
def impl_StackOp.B12 : List Nat := [0, 0, 2, 6, 0, 16, 48, 126, 254, 511, 1023]
theorem impl_StackOp.tab12 : rtab .any (opsOf Tryz.f42 12) = impl_StackOp.T12 := by kernel_rfl
theorem impl_StackOp.bits12 : waitsOk impl_StackOp.T12.2 impl_StackOp.B12 = true := by kernel_rfl
def impl_StackOp.T14 : Bool × List (List Nat × List Nat) := (true, [([], []), ([], []), ([1], [1]), ([2], [2]), ([], []), ([4], [4]), ([5], [5]), ([3, 6], [3, 6]), ([7], [7]), ([0, 8], [0, 8]), ([9, 9, 0, 1, 2, 3, 4, 5, 6, 7, 8, 9], [0, 9])])
def impl_StackOp.B14 : List Nat := [0, 0, 2, 6, 0, 16, 48, 126, 254, 511, 1023]
theorem impl_StackOp.tab14 : rtab .any (opsOf Tryz.f42 14) = impl_StackOp.T14 := by kernel_rfl
theorem impl_StackOp.bits14 : waitsOk impl_StackOp.T14.2 impl_StackOp.B14 = true := by kernel_rfl
def impl_StackOp.T16 : Bool × List (List Nat × List Nat) := (true, [([], []), ([], []), ([1], [1]), ([2], [2]), ([], []), ([4], [4]), ([5], [5]), ([3, 6], [3, 6]), ([7], [7]), ([0, 8], [0, 8]), ([9, 9, 0, 1, 2, 3, 4, 5, 6, 7, 8, 9], [0, 9])])
def impl_StackOp.B16 : List Nat := [0, 0, 2, 6, 0, 16, 48, 126, 254, 511, 1023]
theorem impl_StackOp.tab16 : rtab .any (opsOf Tryz.f42 16) = impl_StackOp.T16 := by kernel_rfl
theorem impl_StackOp.bits16 : waitsOk impl_StackOp.T16.2 impl_StackOp.B16 = true := by kernel_rfl
def impl_StackOp.T18 : Bool × List (List Nat × List Nat) := (true, [([], []), ([], []), ([1], [1]), ([2], [2]), ([], []), ([4], [4]), ([5], [5]), ([3, 6], [3, 6]), ([0, 7], [0, 7]), ([8, 8, 0, 1, 2, 3, 4, 5, 6, 7, 8], [0, 8])])
def impl_StackOp.B18 : List Nat := [0, 0, 2, 6, 0, 16, 48, 126, 255, 511]
theorem impl_StackOp.tab18 : rtab .any (opsOf Tryz.f42 18) = impl_StackOp.T18 := by kernel_rfl
theorem impl_StackOp.bits18 : waitsOk impl_StackOp.T18.2 impl_StackOp.B18 = true := by kernel_rfl
def impl_StackOp.T22 : Bool × List (List Nat × List Nat) := (true, [([], []), ([], []), ([1], [1]), ([2], [2]), ([], []), ([4], [4]), ([5], [5]), ([3, 6], [3, 6]), ([0, 7], [0, 7]), ([8, 8, 0, 1, 2, 3, 4, 5, 6, 7, 8], [0, 8])])
def impl_StackOp.B22 : List Nat := [0, 0, 2, 6, 0, 16, 48, 126, 255, 511]
theorem impl_StackOp.tab22 : rtab .any (opsOf Tryz.f42 22) = impl_StackOp.T22 := by kernel_rfl
theorem impl_StackOp.bits22 : waitsOk impl_StackOp.T22.2 impl_StackOp.B22 = true := by kernel_rfl
theorem impl_StackOp.calls (k : Nat) (A0 : Option Addr) (c0 : Nat) (l0 : List Int) (a1 : ByteArray) (r1 : List Int) (r2 : Bool) (w : World) (hr0 : Kd.C (Kd.int .i64) w A0 l0.length l0) (v2 : l0.length ≤ c0) (h : impl_StackOp.f k l0 a1 = some (r1, r2)) :
  Calls Tryz.prog 42 #[.slice A0 l0.length c0, .string a1] w fun e w' => ∃ v0_ : Value, e = .returned (.tuple #[v0_, .bool r2]) ∧ Kd.R (Kd.int .i64) 3 w' w.heap.size (fun _ => True) v0_ r1 ∧ Below w.heap.size w w' := by
 have s6 := aM hr0
 have s7 := aM v2
 clear hr0 v2
 have HB := aM (Below.refl w.heap.size w)
 have H := h
 clear h
 unfold impl_StackOp.f at H
 have s8 := aM H
 clear H
 go_enter Tryz.func42, Tryz.ntmps42
 go_upto_block 0 with (fail)
 go_cut [6] (fun v6 wc => ∃ (kq : Nat) (f3 : Int), v6 = .int .i64 f3 ∧ Aside0 (impl_StackOp.j0 kq l0 a1 f3 = some (r1, r2)) ∧ Aside0 (kq ≤ k) ∧ Aside0 (Below w.heap.size w wc))
 case first =>
  have H := s8.out
  clear s8
  by_cases c4 : a1.toList = ([110, 101, 103] : List UInt8)
  ·rw [if_pos c4] at H
   obtain ⟨e4, h8⟩ := eqT c4
   clear c4
   (first | rw [e4] | (simp only [i64_w, i32_w]; rw [e4]) | skip)
   have H' := aM H
   clear H
   go_wp2
   go_meet
   case rel => exact ⟨_, (1), fS, H', ⟨by first | omega | exact Nat.le_refl _⟩, ⟨bS⟩⟩
  ·rw [if_neg c4] at H
   obtain ⟨e4, h8⟩ := eqF c4
   (first | rw [e4] | (simp only [i64_w, i32_w]; rw [e4]) | skip)
   by_cases c5 : a1.toList = ([100, 117, 112] : List UInt8)
   ·rw [if_pos c5] at H
    obtain ⟨h9, i1⟩ := eqT c5
    clear c5
    have H' := aM H
    clear H
    go_wp2
    go_meet
    case rel => exact ⟨_, (1), fS, H', ⟨by first | omega | exact Nat.le_refl _⟩, ⟨bS⟩⟩
   ·rw [if_neg c5] at H
    obtain ⟨h9, i1⟩ := eqF c5
    by_cases c6 : a1.toList = ([112, 111, 112] : List UInt8)
    ·rw [if_pos c6] at H
     obtain ⟨i3, i4⟩ := eqT c6
     clear c6
     have H' := aM H
     clear H
     go_wp2
     go_meet
     case rel => exact ⟨_, (1), fS, H', ⟨by first | omega | exact Nat.le_refl _⟩, ⟨bS⟩⟩
    ·rw [if_neg c6] at H
     obtain ⟨i3, i4⟩ := eqF c6
     have H' := aM H
     clear H
     go_wp2
     go_meet
     case rel => exact ⟨_, (2), fS, H', ⟨by first | omega | exact Nat.le_refl _⟩, ⟨bS⟩⟩
 case rest =>
  clear s8
  try clear p2
  try clear c4
  try clear e4
  try clear h8
  try clear c5
  try clear h9
  try clear i1
  try clear c6
  try clear i3
  try clear i4
  obtain ⟨kq, f3, rfl, HA, HJ2, HB⟩ := hcut
  cases kq with
  | zero => exact absurd HA.out (by simp [impl_StackOp.j0])
  | succ kj2 =>
   have H := HA.out
   clear HA
   simp only [impl_StackOp.j0] at H
   replace H := bN H
   obtain ⟨⟨a6, a2, k3⟩, A7, H⟩ := H
   have s9 := aM H
   clear H
   go_upto_region 8 with (first | ((with_reducible refine gC 43 ?_); refine cM (some 18) Tryz.func43 (impl_TakeNumbers.calls kj2 _ _ l0 f3 a6 a2 k3 _ (cC s6 HB) s7.out A7.out) ?_; rintro e w9 ⟨d2, k4, rfl, f0, v3, hb⟩; refine ⟨_, rfl, ?_⟩; have g8 := aM (Kd.R_lower f0 (below_size bS)); have g9 := aM (Kd.R_lower v3 (below_size bS)); replace HB := hB hb; (try clear hb f0 v3)))
   (try simp only [Act.put, List.setIfInBounds_toArray, List.set_cons_zero, List.set_cons_succ])
   go_cut [28] (fun y0 wc => ∃ (kq : Nat) (e7 : Bool), y0 = .bool e7 ∧ Aside0 (impl_StackOp.j1 kq l0 a1 a6 a2 e7 = some (r1, r2)) ∧ Aside0 (kq ≤ kj2) ∧ Aside0 (Kd.R (Kd.int .i64) 3 wc w.heap.size (fun k_ => some k_ ≠ (k4 : Value).ownBlock) d2 a6) ∧ Aside0 (Kd.R (Kd.int .i64) 3 wc w.heap.size (fun k_ => some k_ ≠ (d2 : Value).ownBlock) k4 a2) ∧ Aside0 (Below w.heap.size w wc))
   case first =>
    have H := s9.out
    clear s9
    by_cases c10 : k3 = true
    ·subst c10
     rw [if_pos rfl] at H
     replace H := bN H
     obtain ⟨k5, y1, H⟩ := H
     have H' := aM H
     clear H
     go_wp2_with (first | (go_at_call 41; (with_reducible refine (impl_IsStackOp.calls a1 k5 _ y1.out).mono ?_); rintro e w' ⟨rfl, ⟨nd, rfl⟩⟩))
     go_meet
     case rel => exact ⟨_, (!k5), fS, H', ⟨by have := HJ2.out; first | omega | exact Nat.le_refl _⟩, ⟨rS g8⟩, ⟨rS g9⟩, ⟨bS⟩⟩
    ·obtain rfl := Bool.eq_false_iff.mpr c10
     rw [if_neg nF] at H
     have H' := aM H
     clear H
     go_wp2
     go_meet
     case rel => exact ⟨_, (true), fS, H', ⟨by have := HJ2.out; first | omega | exact Nat.le_refl _⟩, ⟨rS g8⟩, ⟨rS g9⟩, ⟨bS⟩⟩
   case rest =>
    clear s9
    try clear c1
    try clear p2
    try clear c4
    try clear e4
    try clear h8
    try clear c5
    try clear h9
    try clear i1
    try clear c6
    try clear i3
    try clear i4
    try clear c10
    try clear p2
    obtain ⟨kq, e7, rfl, HA, HJ7, a5, a3, HB⟩ := hcut
    cases kq with
    | zero => exact absurd HA.out (by simp [impl_StackOp.j1])
    | succ kj7 =>
     have H := HA.out
     clear HA
     simp only [impl_StackOp.j1] at H
     by_cases v4 : e7 = true
     ·subst v4
      rw [if_pos rfl] at H
      replace H := bN H
      obtain ⟨t0, y2, H⟩ := H
      obtain ⟨rfl, rfl⟩ := sI2 H
      go_wp2_with (first | ((with_reducible refine gC 87 ?_); refine cM (some 30) Tryz.func87 (slices_Clone_int_int.calls _ _ l0 t0 _ (cC s6 HB) s7.out y2.out) ?_; rintro e C4 ⟨y3, rfl, f0, hb⟩; refine ⟨_, rfl, ?_⟩; have k6 := aM (Kd.R_lower (Kd.R_new' (Kd.R_new' f0 (Kd.R_lt (rS a5))) (Kd.R_lt (rS a3))) (below_size bS)); replace a5 := aM (Kd.R_elder' (rS a5) (Kd.R_base f0) hb); replace a3 := aM (Kd.R_elder' (rS a3) (Kd.R_base f0) hb); replace HB := hB hb; (try clear hb f0)))
      go_ret2
      exact ⟨_, eS, by exact rT (Kd.R_mono k6.out (fun _ hk => trivial)), bS⟩
     ·obtain rfl := Bool.eq_false_iff.mpr v4
      rw [if_neg nF] at H
      have i5 := aM H
      clear H
      go_upto_block 1 with (fail)
      go_cut [7] (fun v7 wc => ∃ (kq : Nat) (d3 : List Int), Aside0 (impl_StackOp.j2 kq l0 d3 = some (r1, r2)) ∧ Aside0 (kq ≤ kj7) ∧ Aside0 (Kd.R (Kd.int .i64) 3 wc w.heap.size (fun _ => True) v7 d3) ∧ Aside0 (Below w.heap.size w wc))
      case first =>
       have H := i5.out
       clear i5
       by_cases k7 : a1.toList = ([97, 100, 100] : List UInt8)
       ·rw [if_pos k7] at H
        obtain ⟨d4, k9⟩ := eqT k7
        clear k7
        (first | rw [d4] | (simp only [i64_w, i32_w]; rw [d4]) | skip)
        by_cases s3 : 0 < (a2.length : Int)
        ·rw [if_pos s3] at H
         have v5 : decide (0 < (a2.length : Int)) = true := decide_eq_true s3
         have v8 : decide (0 < a2.length) = true := decide_eq_true (by omega)
         clear s3
         by_cases s4 : 1 < (a2.length : Int)
         ·rw [if_pos s4] at H
          have v9 : decide (1 < (a2.length : Int)) = true := decide_eq_true s4
          have w8 : decide (1 < a2.length) = true := decide_eq_true (by omega)
          clear s4
          obtain ⟨LMc19, H⟩ := iL H
          obtain ⟨l3, hy_⟩ : ∃ y_ : List Int, y_ = (a6 ++ [wrap64 ((rd a2 0) + (rd a2 1))]) := ⟨_, rfl⟩
          replace H : (impl_StackOp.j2 kj7 l0 l3) = some (r1, r2) := yS
          have Ny821 := aM hy_
          clear hy_
          have H' := aM H
          clear H
          try go_wp2
          replace a5 := rD a5
          replace a3 := rD a3
          replace HB := hD HB
          obtain ⟨y4, t1, l4⟩ := Kd.R_slice a3.out
          (first | subst l4 | obtain ⟨rfl, rfl⟩ := slE l4)
          have i6 : 0 ≤ (0 : Int) := (by omega)
          have i7 : 0 < (a2.length : Int) := dA
          obtain ⟨d5, t2, b6⟩ := Kd.at_int (Kd.R_reads' a3.out).2.2 0 i6 i7
          cases t2
          have qi819 : (0 < a2.length) = True := eq_true (by omega)
          (try rw [show ((0 : Int)).toNat = 0 from rfl] at b6)
          (try rw [Addr.add_zero'] at b6)
          replace i6 := eq_true i6
          replace i7 := eq_true i7
          have i8 : 0 ≤ (1 : Int) := (by omega)
          have i9 : 1 < (a2.length : Int) := dA
          obtain ⟨l5, t3, b7⟩ := Kd.at_int (Kd.R_reads' a3.out).2.2 1 i8 i9
          obtain rfl : d5 = l5 := (by injection t3)
          (try simp only [show (1 : Int).toNat = 1 from rfl, Nat.reduceMul, Nat.reduceEqDiff, Go.Addr.add, ↓reduceIte] at b7)
          have qi820 : (1 < a2.length) = True := eq_true (by omega)
          (try rw [show ((1 : Int)).toNat = 1 from rfl] at b7)
          replace i8 := eq_true i8
          replace i9 := eq_true i9
          refine start_ (n := 11) (S := fun w' => w'.cell? d5 = some (.int .i64 (rd a2 0)) ∧ w'.cell? ⟨d5.block, d5.off + 1, none⟩ = some (.int .i64 (rd a2 1))) (ds := [8, 9]) (mB 11 0) (by kernel_rfl) rfl rfl ⟨b6, b7⟩ (fun hHeld => ?_); refine with_tabW impl_StackOp.tab12 impl_StackOp.bits12 (fun HT_ HW_ => ?_)
          generalize wc.drew = C5 at a5 a3 HB b6 b7 hHeld ⊢
          refine pU 0 (some 34) (mB 11 1) ?_
          refine pU 1 (some 35) (mB 11 3) ?_
          refine pU 2 (some 36) (mB 11 7) ?_
          refine pU 4 (some 38) (mB 11 23) ?_
          refine pU 5 (some 39) (mB 11 55) ?_
          refine tK 3 (some 37) (mB 11 63) ?_
          refine tK 6 (some 40) (mB 11 127) ?_
          refine pU 7 (some 41) (mB 11 255) ?_
          refine last_ (i := 8) (N := some 42) (mB 11 511) rfl rfl (one_of HT_.out (by kernel_rfl)) (by decide) (fun K hK => ?_)
          refine value_ (w1 := ?_) (v := ?_) (by rfl) rfl ?_ ?_
          rotate_left 2
          ·go_simp
           constructor
           ·rfl
           ·rfl
          refine hK.out _ _ ?_
          clear hK K
          refine norm_ (a' := ?_) ?_ ?_
          rotate_left
          ·show Act.put _ (some 42) _ = _
           simp only [Act.put, List.setIfInBounds_toArray, List.set_cons_zero, List.set_cons_succ, i64_w, i32_w]
           rfl
          refine last_ (i := 9) (N := some 43) (mB 11 1023) rfl rfl (one_of HT_.out (by kernel_rfl)) (by decide) (fun K hK => ?_)
          refine Kd.R_append_step (Kd.int .i64) (w0 := w) w.heap.size (by rfl) (.tmp 34) (.tmp 42) 22 3 (.int .i64 0) 8 rfl Tryz.underlying22 info3 rfl (by decide) (by omega) d2 a6 (wrap64 ((rd a2 0) + (rd a2 1))) [.int .i64 (wrap64 ((rd a2 0) + (rd a2 1)))] (fun k_ => some k_ ≠ (.slice (some d5) a2.length t1 : Value).ownBlock) (fun _ => False) rfl rfl ?aP (fun _ hk => hk.elim) ?aF ?aO ?aB ?aS ?aL ?_
          (case aP => exact rfl)
          (case aB => exact bS)
          (case aF => exact (fun k_ hk => Kd.fresh' (Kd.R_lt (rS a3)) k_ hk))
          (case aO => exact (rS a5))
          (case aS => exact (below_size bS))
          (case aL => have := LMc19.out; (try dsimp only at this); omega)
          intro y5 C6 ho hb hg hat
          rw [← Ny821.out] at ho
          have l6 := aM (ho)
          replace a3 := aM (Kd.R_after (ok := (fun _ => True)) (by exact rM a3) hg hat)
          replace HB := aM (hb)
          clear a5
          clear ho hb hg hat
          refine hK.out _ _ ?_
          clear hK K
          refine norm_ (a' := ?_) ?_ ?_
          rotate_left
          ·show Act.put _ (some 43) _ = _
           simp only [Act.put, List.setIfInBounds_toArray, List.set_cons_zero, List.set_cons_succ, i64_w, i32_w]
           rfl
          refine pU 10 (some 7) (mB 11 2047) ?_
          refine done_ (done_of HT_.out (by kernel_rfl)) ?_
          try go_wp2
          go_meet
          case rel => exact ⟨_, (l3), H', ⟨by have := HJ2.out; have := HJ7.out; first | omega | exact Nat.le_refl _⟩, ⟨by exact rT (Kd.R_mono l6.out (fun _ hk => trivial))⟩, ⟨bS⟩⟩
         ·rw [if_neg s4] at H
          exact absurd H (by simp)
        ·rw [if_neg s3] at H
         exact absurd H (by simp)
       ·rw [if_neg k7] at H
        obtain ⟨d4, k9⟩ := eqF k7
        (first | rw [d4] | (simp only [i64_w, i32_w]; rw [d4]) | skip)
        by_cases l7 : a1.toList = ([115, 117, 98] : List UInt8)
        ·rw [if_pos l7] at H
         obtain ⟨l8, l9⟩ := eqT l7
         clear l7
         by_cases c24 : 0 < (a2.length : Int)
         ·rw [if_pos c24] at H
          have x0 : decide (0 < (a2.length : Int)) = true := decide_eq_true c24
          have x1 : decide (0 < a2.length) = true := decide_eq_true (by omega)
          clear c24
          by_cases s5 : 1 < (a2.length : Int)
          ·rw [if_pos s5] at H
           have x2 : decide (1 < (a2.length : Int)) = true := decide_eq_true s5
           have x3 : decide (1 < a2.length) = true := decide_eq_true (by omega)
           clear s5
           obtain ⟨LMc26, H⟩ := iL H
           obtain ⟨m0, hy_⟩ : ∃ y_ : List Int, y_ = (a6 ++ [wrap64 ((rd a2 0) - (rd a2 1))]) := ⟨_, rfl⟩
           replace H : (impl_StackOp.j2 kj7 l0 m0) = some (r1, r2) := yS
           have Ny826 := aM hy_
           clear hy_
           have H' := aM H
           clear H
           try go_wp2
           replace a5 := rD a5
           replace a3 := rD a3
           replace HB := hD HB
           obtain ⟨y6, t4, m1⟩ := Kd.R_slice a3.out
           (first | subst m1 | obtain ⟨rfl, rfl⟩ := slE m1)
           have j5 : 0 ≤ (0 : Int) := (by omega)
           have j6 : 0 < (a2.length : Int) := dA
           obtain ⟨d6, t5, b8⟩ := Kd.at_int (Kd.R_reads' a3.out).2.2 0 j5 j6
           cases t5
           have qi824 : (0 < a2.length) = True := eq_true (by omega)
           (try rw [show ((0 : Int)).toNat = 0 from rfl] at b8)
           (try rw [Addr.add_zero'] at b8)
           replace j5 := eq_true j5
           replace j6 := eq_true j6
           have j7 : 0 ≤ (1 : Int) := (by omega)
           have j8 : 1 < (a2.length : Int) := dA
           obtain ⟨m2, t6, b9⟩ := Kd.at_int (Kd.R_reads' a3.out).2.2 1 j7 j8
           obtain rfl : d6 = m2 := (by injection t6)
           (try simp only [show (1 : Int).toNat = 1 from rfl, Nat.reduceMul, Nat.reduceEqDiff, Go.Addr.add, ↓reduceIte] at b9)
           have qi825 : (1 < a2.length) = True := eq_true (by omega)
           (try rw [show ((1 : Int)).toNat = 1 from rfl] at b9)
           replace j7 := eq_true j7
           replace j8 := eq_true j8
           refine start_ (n := 11) (S := fun w' => w'.cell? d6 = some (.int .i64 (rd a2 0)) ∧ w'.cell? ⟨d6.block, d6.off + 1, none⟩ = some (.int .i64 (rd a2 1))) (ds := [8, 9]) (mB 11 0) (by kernel_rfl) rfl rfl ⟨b8, b9⟩ (fun hHeld => ?_); refine with_tabW impl_StackOp.tab14 impl_StackOp.bits14 (fun HT_ HW_ => ?_)
           generalize wc.drew = C7 at a5 a3 HB b8 b9 hHeld ⊢
           refine pU 0 (some 46) (mB 11 1) ?_
           refine pU 1 (some 47) (mB 11 3) ?_
           refine pU 2 (some 48) (mB 11 7) ?_
           refine pU 4 (some 50) (mB 11 23) ?_
           refine pU 5 (some 51) (mB 11 55) ?_
           refine tK 3 (some 49) (mB 11 63) ?_
           refine tK 6 (some 52) (mB 11 127) ?_
           refine pU 7 (some 53) (mB 11 255) ?_
           refine last_ (i := 8) (N := some 54) (mB 11 511) rfl rfl (one_of HT_.out (by kernel_rfl)) (by decide) (fun K hK => ?_)
           refine value_ (w1 := ?_) (v := ?_) (by rfl) rfl ?_ ?_
           rotate_left 2
           ·go_simp
            constructor
            ·rfl
            ·rfl
           refine hK.out _ _ ?_
           clear hK K
           refine norm_ (a' := ?_) ?_ ?_
           rotate_left
           ·show Act.put _ (some 54) _ = _
            simp only [Act.put, List.setIfInBounds_toArray, List.set_cons_zero, List.set_cons_succ, i64_w, i32_w]
            rfl
           refine last_ (i := 9) (N := some 55) (mB 11 1023) rfl rfl (one_of HT_.out (by kernel_rfl)) (by decide) (fun K hK => ?_)
           refine Kd.R_append_step (Kd.int .i64) (w0 := w) w.heap.size (by rfl) (.tmp 46) (.tmp 54) 22 3 (.int .i64 0) 8 rfl Tryz.underlying22 info3 rfl (by decide) (by omega) d2 a6 (wrap64 ((rd a2 0) - (rd a2 1))) [.int .i64 (wrap64 ((rd a2 0) - (rd a2 1)))] (fun k_ => some k_ ≠ (.slice (some d6) a2.length t4 : Value).ownBlock) (fun _ => False) rfl rfl ?aP (fun _ hk => hk.elim) ?aF ?aO ?aB ?aS ?aL ?_
           (case aP => exact rfl)
           (case aB => exact bS)
           (case aF => exact (fun k_ hk => Kd.fresh' (Kd.R_lt (rS a3)) k_ hk))
           (case aO => exact (rS a5))
           (case aS => exact (below_size bS))
           (case aL => have := LMc26.out; (try dsimp only at this); omega)
           intro y7 C9 ho hb hg hat
           rw [← Ny826.out] at ho
           have m3 := aM (ho)
           replace a3 := aM (Kd.R_after (ok := (fun _ => True)) (by exact rM a3) hg hat)
           replace HB := aM (hb)
           clear a5
           clear ho hb hg hat
           refine hK.out _ _ ?_
           clear hK K
           refine norm_ (a' := ?_) ?_ ?_
           rotate_left
           ·show Act.put _ (some 55) _ = _
            simp only [Act.put, List.setIfInBounds_toArray, List.set_cons_zero, List.set_cons_succ, i64_w, i32_w]
            rfl
           refine pU 10 (some 7) (mB 11 2047) ?_
           refine done_ (done_of HT_.out (by kernel_rfl)) ?_
           try go_wp2
           go_meet
           case rel => exact ⟨_, (m0), H', ⟨by have := HJ2.out; have := HJ7.out; first | omega | exact Nat.le_refl _⟩, ⟨by exact rT (Kd.R_mono m3.out (fun _ hk => trivial))⟩, ⟨bS⟩⟩
          ·rw [if_neg s5] at H
           exact absurd H (by simp)
         ·rw [if_neg c24] at H
          exact absurd H (by simp)
        ·rw [if_neg l7] at H
         obtain ⟨l8, l9⟩ := eqF l7
         by_cases j9 : a1.toList = ([109, 117, 108] : List UInt8)
         ·rw [if_pos j9] at H
          obtain ⟨h0, h1⟩ := eqT j9
          clear j9
          by_cases m4 : 0 < (a2.length : Int)
          ·rw [if_pos m4] at H
           have x4 : decide (0 < (a2.length : Int)) = true := decide_eq_true m4
           have x5 : decide (0 < a2.length) = true := decide_eq_true (by omega)
           clear m4
           by_cases m5 : 1 < (a2.length : Int)
           ·rw [if_pos m5] at H
            have x6 : decide (1 < (a2.length : Int)) = true := decide_eq_true m5
            have x7 : decide (1 < a2.length) = true := decide_eq_true (by omega)
            clear m5
            obtain ⟨LMc33, H⟩ := iL H
            obtain ⟨m6, hy_⟩ : ∃ y_ : List Int, y_ = (a6 ++ [wrap64 ((rd a2 0) * (rd a2 1))]) := ⟨_, rfl⟩
            replace H : (impl_StackOp.j2 kj7 l0 m6) = some (r1, r2) := yS
            have Ny831 := aM hy_
            clear hy_
            have H' := aM H
            clear H
            try go_wp2
            replace a5 := rD a5
            replace a3 := rD a3
            replace HB := hD HB
            obtain ⟨y8, t7, m7⟩ := Kd.R_slice a3.out
            (first | subst m7 | obtain ⟨rfl, rfl⟩ := slE m7)
            have f4 : 0 ≤ (0 : Int) := (by omega)
            have f5 : 0 < (a2.length : Int) := dA
            obtain ⟨e0, t8, a7⟩ := Kd.at_int (Kd.R_reads' a3.out).2.2 0 f4 f5
            cases t8
            have qi829 : (0 < a2.length) = True := eq_true (by omega)
            (try rw [show ((0 : Int)).toNat = 0 from rfl] at a7)
            (try rw [Addr.add_zero'] at a7)
            replace f4 := eq_true f4
            replace f5 := eq_true f5
            have f6 : 0 ≤ (1 : Int) := (by omega)
            have f7 : 1 < (a2.length : Int) := dA
            obtain ⟨m8, t9, a8⟩ := Kd.at_int (Kd.R_reads' a3.out).2.2 1 f6 f7
            obtain rfl : e0 = m8 := (by injection t9)
            (try simp only [show (1 : Int).toNat = 1 from rfl, Nat.reduceMul, Nat.reduceEqDiff, Go.Addr.add, ↓reduceIte] at a8)
            have qi830 : (1 < a2.length) = True := eq_true (by omega)
            (try rw [show ((1 : Int)).toNat = 1 from rfl] at a8)
            replace f6 := eq_true f6
            replace f7 := eq_true f7
            refine start_ (n := 11) (S := fun w' => w'.cell? e0 = some (.int .i64 (rd a2 0)) ∧ w'.cell? ⟨e0.block, e0.off + 1, none⟩ = some (.int .i64 (rd a2 1))) (ds := [8, 9]) (mB 11 0) (by kernel_rfl) rfl rfl ⟨a7, a8⟩ (fun hHeld => ?_); refine with_tabW impl_StackOp.tab16 impl_StackOp.bits16 (fun HT_ HW_ => ?_)
            generalize wc.drew = D0 at a5 a3 HB a7 a8 hHeld ⊢
            refine pU 0 (some 58) (mB 11 1) ?_
            refine pU 1 (some 59) (mB 11 3) ?_
            refine pU 2 (some 60) (mB 11 7) ?_
            refine pU 4 (some 62) (mB 11 23) ?_
            refine pU 5 (some 63) (mB 11 55) ?_
            refine tK 3 (some 61) (mB 11 63) ?_
            refine tK 6 (some 64) (mB 11 127) ?_
            refine pU 7 (some 65) (mB 11 255) ?_
            refine last_ (i := 8) (N := some 66) (mB 11 511) rfl rfl (one_of HT_.out (by kernel_rfl)) (by decide) (fun K hK => ?_)
            refine value_ (w1 := ?_) (v := ?_) (by rfl) rfl ?_ ?_
            rotate_left 2
            ·go_simp
             constructor
             ·rfl
             ·rfl
            refine hK.out _ _ ?_
            clear hK K
            refine norm_ (a' := ?_) ?_ ?_
            rotate_left
            ·show Act.put _ (some 66) _ = _
             simp only [Act.put, List.setIfInBounds_toArray, List.set_cons_zero, List.set_cons_succ, i64_w, i32_w]
             rfl
            refine last_ (i := 9) (N := some 67) (mB 11 1023) rfl rfl (one_of HT_.out (by kernel_rfl)) (by decide) (fun K hK => ?_)
            refine Kd.R_append_step (Kd.int .i64) (w0 := w) w.heap.size (by rfl) (.tmp 58) (.tmp 66) 22 3 (.int .i64 0) 8 rfl Tryz.underlying22 info3 rfl (by decide) (by omega) d2 a6 (wrap64 ((rd a2 0) * (rd a2 1))) [.int .i64 (wrap64 ((rd a2 0) * (rd a2 1)))] (fun k_ => some k_ ≠ (.slice (some e0) a2.length t7 : Value).ownBlock) (fun _ => False) rfl rfl ?aP (fun _ hk => hk.elim) ?aF ?aO ?aB ?aS ?aL ?_
            (case aP => exact rfl)
            (case aB => exact bS)
            (case aF => exact (fun k_ hk => Kd.fresh' (Kd.R_lt (rS a3)) k_ hk))
            (case aO => exact (rS a5))
            (case aS => exact (below_size bS))
            (case aL => have := LMc33.out; (try dsimp only at this); omega)
            intro y9 D1 ho hb hg hat
            rw [← Ny831.out] at ho
            have m9 := aM (ho)
            replace a3 := aM (Kd.R_after (ok := (fun _ => True)) (by exact rM a3) hg hat)
            replace HB := aM (hb)
            clear a5
            clear ho hb hg hat
            refine hK.out _ _ ?_
            clear hK K
            refine norm_ (a' := ?_) ?_ ?_
            rotate_left
            ·show Act.put _ (some 67) _ = _
             simp only [Act.put, List.setIfInBounds_toArray, List.set_cons_zero, List.set_cons_succ, i64_w, i32_w]
             rfl
            refine pU 10 (some 7) (mB 11 2047) ?_
            refine done_ (done_of HT_.out (by kernel_rfl)) ?_
            try go_wp2
            go_meet
            case rel => exact ⟨_, (m6), H', ⟨by have := HJ2.out; have := HJ7.out; first | omega | exact Nat.le_refl _⟩, ⟨by exact rT (Kd.R_mono m9.out (fun _ hk => trivial))⟩, ⟨bS⟩⟩
           ·rw [if_neg m5] at H
            exact absurd H (by simp)
          ·rw [if_neg m4] at H
           exact absurd H (by simp)
         ·rw [if_neg j9] at H
          obtain ⟨h0, h1⟩ := eqF j9
          by_cases k0 : a1.toList = ([101, 120, 99, 104] : List UInt8)
          ·rw [if_pos k0] at H
           obtain ⟨h2, h3⟩ := eqT k0
           clear k0
           by_cases n0 : 1 < (a2.length : Int)
           ·rw [if_pos n0] at H
            have n1 : decide (1 < (a2.length : Int)) = true := decide_eq_true n0
            have n2 : decide (1 < a2.length) = true := decide_eq_true (by omega)
            clear n0
            by_cases n5 : 0 < (a2.length : Int)
            ·rw [if_pos n5] at H
             have n6 : decide (0 < (a2.length : Int)) = true := decide_eq_true n5
             have n7 : decide (0 < a2.length) = true := decide_eq_true (by omega)
             clear n5
             obtain ⟨e8, hy_⟩ : ∃ y_ : List Int, y_ = (([rd a2 1, rd a2 0] : List Int)) := ⟨_, rfl⟩
             replace H : (if a6.length + e8.length < 17592186044416 then (impl_StackOp.j2 kj7 l0 (a6 ++ e8)) else (none)) = some (r1, r2) := yS
             have Ny836 := aM hy_
             clear hy_
             obtain ⟨LMc40, H⟩ := iL H
             obtain ⟨n8, hy_⟩ : ∃ y_ : List Int, y_ = (a6 ++ e8) := ⟨_, rfl⟩
             replace H : (impl_StackOp.j2 kj7 l0 n8) = some (r1, r2) := yS
             have Ny839 := aM hy_
             clear hy_
             have H' := aM H
             clear H
             try go_wp2
             replace a5 := rD a5
             replace a3 := rD a3
             replace HB := hD HB
             obtain ⟨A1, o0, o1⟩ := Kd.R_slice a3.out
             (first | subst o1 | obtain ⟨rfl, rfl⟩ := slE o1)
             have f8 : 0 ≤ (1 : Int) := (by omega)
             have f9 : 1 < (a2.length : Int) := dA
             obtain ⟨d0, u0, a9⟩ := Kd.at_int (Kd.R_reads' a3.out).2.2 1 f8 f9
             cases u0
             (try simp only [show (1 : Int).toNat = 1 from rfl, Nat.reduceMul, Nat.reduceEqDiff, Go.Addr.add, ↓reduceIte] at a9)
             have qi834 : (1 < a2.length) = True := eq_true (by omega)
             (try rw [show ((1 : Int)).toNat = 1 from rfl] at a9)
             replace f8 := eq_true f8
             replace f9 := eq_true f9
             have g0 : 0 ≤ (0 : Int) := (by omega)
             have g1 : 0 < (a2.length : Int) := dA
             obtain ⟨o4, u1, b0⟩ := Kd.at_int (Kd.R_reads' a3.out).2.2 0 g0 g1
             obtain rfl : d0 = o4 := (by injection u1)
             have qi835 : (0 < a2.length) = True := eq_true (by omega)
             (try rw [show ((0 : Int)).toNat = 0 from rfl] at b0)
             (try rw [Addr.add_zero'] at b0)
             replace g0 := eq_true g0
             replace g1 := eq_true g1
             refine start_ (n := 10) (S := fun w' => w'.cell? ⟨d0.block, d0.off + 1, none⟩ = some (.int .i64 (rd a2 1)) ∧ w'.cell? d0 = some (.int .i64 (rd a2 0))) (ds := [8]) (mB 10 0) (by kernel_rfl) rfl rfl ⟨a9, b0⟩ (fun hHeld => ?_); refine with_tabW impl_StackOp.tab18 impl_StackOp.bits18 (fun HT_ HW_ => ?_)
             generalize wc.drew = D2 at a5 a3 HB a9 b0 hHeld ⊢
             refine pU 0 (some 70) (mB 10 1) ?_
             refine pU 1 (some 71) (mB 10 3) ?_
             refine pU 2 (some 72) (mB 10 7) ?_
             refine pU 4 (some 74) (mB 10 23) ?_
             refine pU 5 (some 75) (mB 10 55) ?_
             refine tK 3 (some 73) (mB 10 63) ?_
             refine tK 6 (some 76) (mB 10 127) ?_
             refine one_ (i := 7) (N := some 77) (mB 10 255) rfl rfl (one_of HT_.out (by kernel_rfl)) (by decide) (fun K hK => ?_)
             refine Kd.R_lit_step (Kd.int .i64) _ 3 ?hg (N := 77) ?hd (xs := ([rd a2 1, rd a2 0] : List Int)) (inner := [.int .i64 (rd a2 1), .int .i64 (rd a2 0)]) (ok := fun _ => True) (okp := fun _ => True) ?hr ?hp (fun _ hk => hk) trivial (Below.refl _ _) (Nat.le_refl _) (by simp) ?_; (case hd => rfl); (case hg => rfl); (case hr => first | (go_simp; done) | (go_simp; rfl)); (case hp => exact (Reps.one (show Kd.M (Kd.int .i64) _ _ _ (rd a2 1) [.int .i64 (rd a2 1)] from rfl) (Reps.one (show Kd.M (Kd.int .i64) _ _ _ (rd a2 0) [.int .i64 (rd a2 0)] from rfl) (Reps.none _ _))))
             intro A2 D3 e5 hb hg_ hnew_
             have HS0_ := (hb.cell (World.block_lt_of_cell? _ _ (hHeld.1))).trans (hHeld.1)
             have HS1_ := (hb.cell (World.block_lt_of_cell? _ _ (hHeld.2))).trans (hHeld.2)
             clear hg_ hnew_
             (first | rw [← Ny836.out] at e5 | (simp only [Int.reduceToNat] at e5; rw [← Ny836.out] at e5))
             have e1 := aM (Kd.R_lower (Kd.R_new' (Kd.R_new' e5 (Kd.R_lt (rS a5))) (Kd.R_lt (rS a3))) (below_size bS))
             replace a5 := aM (Kd.R_elder' (rS a5) (Kd.R_base e5) hb)
             replace a3 := aM (Kd.R_elder' (rS a3) (Kd.R_base e5) hb)
             replace HB := hB hb
             clear hb e5
             obtain ⟨o5, o6, o7⟩ := Kd.R_slice e1.out
             (first | subst o7 | obtain ⟨rfl, rfl⟩ := slE o7)
             refine hK.out _ _ ⟨HS0_, HS1_⟩ (fun hHeld => ?_)
             clear hK K
             refine norm_ (a' := ?_) ?_ ?_
             rotate_left
             ·show Act.put _ (some 77) _ = _
              simp only [Act.put, List.setIfInBounds_toArray, List.set_cons_zero, List.set_cons_succ, i64_w, i32_w]
              rfl
             refine last_ (i := 8) (N := some 78) (mB 10 511) rfl rfl (one_of HT_.out (by kernel_rfl)) (by decide) (fun K hK => ?_)
             refine Kd.R_append_rows_step (Kd.int .i64) (w0 := w) w.heap.size (by rfl) (.tmp 70) (.tmp 77) 22 3 (.int .i64 0) 8 rfl Tryz.underlying22 info3 rfl (by decide) (by omega) d2 a6 e8 _ _ _ (fun k_ => some k_ ≠ (.slice (some d0) a2.length o0 : Value).ownBlock ∧ some k_ ≠ (.slice o5 e8.length o6 : Value).ownBlock) (fun _ => False) rfl rfl ?aO ?aR (fun _ _ h => h) (fun _ h => h.elim) ?aF ?aB ?aS ?aL ?_
             (case aR => exact cS (Kd.R_reads' e1.out).2.2)
             (case aB => exact bS)
             (case aF => exact (fun k_ hk => ⟨Kd.fresh' (Kd.R_lt (rS a3)) k_ hk, Kd.fresh' (Kd.R_lt (rS e1)) k_ hk⟩))
             (case aO => exact (rS a5))
             (case aS => exact (below_size bS))
             (case aL => have := LMc40.out; (try dsimp only at this); omega)
             intro A3 D4 ho hb hg hat
             rw [← Ny839.out] at ho
             have o8 := aM (ho)
             replace a3 := aM (Kd.R_after (ok := (fun k_ => some k_ ≠ (.slice o5 e8.length o6 : Value).ownBlock)) (by exact rM a3) hg hat)
             replace e1 := aM (Kd.R_after (ok := (fun k_ => some k_ ≠ (.slice (some d0) a2.length o0 : Value).ownBlock)) (by exact rM e1) hg hat)
             replace HB := aM (hb)
             clear a5
             clear ho hb hg hat
             refine hK.out _ _ ?_
             clear hK K
             refine norm_ (a' := ?_) ?_ ?_
             rotate_left
             ·show Act.put _ (some 78) _ = _
              simp only [Act.put, List.setIfInBounds_toArray, List.set_cons_zero, List.set_cons_succ, i64_w, i32_w]
              rfl
             refine pU 9 (some 7) (mB 10 1023) ?_
             refine done_ (done_of HT_.out (by kernel_rfl)) ?_
             try go_wp2
             go_meet
             case rel => exact ⟨_, (n8), H', ⟨by have := HJ2.out; have := HJ7.out; first | omega | exact Nat.le_refl _⟩, ⟨by exact rT (Kd.R_mono o8.out (fun _ hk => trivial))⟩, ⟨bS⟩⟩
            ·rw [if_neg n5] at H
             exact absurd H (by simp)
           ·rw [if_neg n0] at H
            exact absurd H (by simp)
          ·rw [if_neg k0] at H
           obtain ⟨h2, h3⟩ := eqF k0
           by_cases k1 : a1.toList = ([110, 101, 103] : List UInt8)
           ·rw [if_pos k1] at H
            obtain ⟨h4, h5⟩ := eqT k1
            clear k1
            by_cases o9 : 0 < (a2.length : Int)
            ·rw [if_pos o9] at H
             have q0 : decide (0 < (a2.length : Int)) = true := decide_eq_true o9
             have q2 : decide (0 < a2.length) = true := decide_eq_true (by omega)
             clear o9
             obtain ⟨LMc49, H⟩ := iL H
             obtain ⟨q3, hy_⟩ : ∃ y_ : List Int, y_ = (a6 ++ [wrap64 (-(rd a2 0))]) := ⟨_, rfl⟩
             replace H : (impl_StackOp.j2 kj7 l0 q3) = some (r1, r2) := yS
             have Ny843 := aM hy_
             clear hy_
             have H' := aM H
             clear H
             obtain ⟨A4, u2, u3⟩ := Kd.R_slice a3.out
             subst u3
             have g2 : 0 ≤ (0 : Int) := (by omega)
             have g3 : 0 < (a2.length : Int) := dA
             obtain ⟨q4, u4, d1⟩ := Kd.at_int (Kd.R_reads' a3.out).2.2 0 g2 g3
             cases u4
             have qi842 : (0 < a2.length) = True := eq_true (by omega)
             (try rw [show ((0 : Int)).toNat = 0 from rfl] at d1)
             (try rw [Addr.add_zero'] at d1)
             replace g2 := eq_true g2
             replace g3 := eq_true g3
             go_wp2_with (first | ((with_reducible refine gate_builtin (b := .append) (xs := #[.tmp 81, .tmp 86]) rfl ?_); at_builtin; refine Kd.R_append (Kd.int .i64) (w0 := w) w.heap.size rfl (.tmp 81) (.tmp 86) 22 3 (.int .i64 0) 8 rfl Tryz.underlying22 info3 rfl (by decide) (by omega) d2 a6 (wrap64 (-(rd a2 0))) [.int .i64 (wrap64 (-(rd a2 0)))] (fun k_ => some k_ ≠ (.slice (some q4) a2.length u2 : Value).ownBlock) (fun _ => False) rfl rfl ?aP (fun _ hk => hk.elim) ?aF ?aO ?aB ?aS ?aL ?_; (case aP => exact rfl); (case aB => exact bS); (case aF => exact (fun k_ hk => Kd.fresh' (Kd.R_lt (rS a3)) k_ hk)); (case aO => exact (rS a5)); (case aS => exact (below_size bS)); (case aL => have := LMc49.out; (try dsimp only at this); omega); intro A5 D5 ho hb hg hat; rw [← Ny843.out] at ho; have q5 := aM (ho); replace a3 := aM (Kd.R_after (ok := (fun _ => True)) (by exact rM a3) hg hat); replace HB := aM (hb); clear a5; clear ho hb hg hat))
             go_meet
             case rel => exact ⟨_, (q3), H', ⟨by have := HJ2.out; have := HJ7.out; first | omega | exact Nat.le_refl _⟩, ⟨by exact rT (Kd.R_mono q5.out (fun _ hk => trivial))⟩, ⟨bS⟩⟩
            ·rw [if_neg o9] at H
             exact absurd H (by simp)
           ·rw [if_neg k1] at H
            obtain ⟨h4, h5⟩ := eqF k1
            by_cases k2 : a1.toList = ([100, 117, 112] : List UInt8)
            ·rw [if_pos k2] at H
             obtain ⟨h6, h7⟩ := eqT k2
             clear k2
             by_cases q6 : 0 < (a2.length : Int)
             ·rw [if_pos q6] at H
              have q7 : decide (0 < (a2.length : Int)) = true := decide_eq_true q6
              have q9 : decide (0 < a2.length) = true := decide_eq_true (by omega)
              clear q6
              obtain ⟨e9, hy_⟩ : ∃ y_ : List Int, y_ = (([rd a2 0, rd a2 0] : List Int)) := ⟨_, rfl⟩
              replace H : (if a6.length + e9.length < 17592186044416 then (impl_StackOp.j2 kj7 l0 (a6 ++ e9)) else (none)) = some (r1, r2) := yS
              have Ny848 := aM hy_
              clear hy_
              obtain ⟨LMc54, H⟩ := iL H
              obtain ⟨r0, hy_⟩ : ∃ y_ : List Int, y_ = (a6 ++ e9) := ⟨_, rfl⟩
              replace H : (impl_StackOp.j2 kj7 l0 r0) = some (r1, r2) := yS
              have Ny851 := aM hy_
              clear hy_
              have H' := aM H
              clear H
              try go_wp2
              replace a5 := rD a5
              replace a3 := rD a3
              replace HB := hD HB
              obtain ⟨A6, r3, r4⟩ := Kd.R_slice a3.out
              (first | subst r4 | obtain ⟨rfl, rfl⟩ := slE r4)
              have g4 : 0 ≤ (0 : Int) := (by omega)
              have g5 : 0 < (a2.length : Int) := dA
              obtain ⟨e2, u5, b1⟩ := Kd.at_int (Kd.R_reads' a3.out).2.2 0 g4 g5
              cases u5
              have qi846 : (0 < a2.length) = True := eq_true (by omega)
              (try rw [show ((0 : Int)).toNat = 0 from rfl] at b1)
              (try rw [Addr.add_zero'] at b1)
              replace g4 := eq_true g4
              replace g5 := eq_true g5
              have g6 : 0 ≤ (0 : Int) := (by omega)
              have g7 : 0 < (a2.length : Int) := dA
              obtain ⟨r5, u6, b2⟩ := Kd.at_int (Kd.R_reads' a3.out).2.2 0 g6 g7
              obtain rfl : e2 = r5 := (by injection u6)
              have qi847 : (0 < a2.length) = True := eq_true (by omega)
              (try rw [show ((0 : Int)).toNat = 0 from rfl] at b2)
              (try rw [Addr.add_zero'] at b2)
              replace g6 := eq_true g6
              replace g7 := eq_true g7
              refine start_ (n := 10) (S := fun w' => w'.cell? e2 = some (.int .i64 (rd a2 0)) ∧ w'.cell? e2 = some (.int .i64 (rd a2 0))) (ds := [8]) (mB 10 0) (by kernel_rfl) rfl rfl ⟨b1, b2⟩ (fun hHeld => ?_); refine with_tabW impl_StackOp.tab22 impl_StackOp.bits22 (fun HT_ HW_ => ?_)
              generalize wc.drew = D6 at a5 a3 HB b1 b2 hHeld ⊢
              refine pU 0 (some 90) (mB 10 1) ?_
              refine pU 1 (some 91) (mB 10 3) ?_
              refine pU 2 (some 92) (mB 10 7) ?_
              refine pU 4 (some 94) (mB 10 23) ?_
              refine pU 5 (some 95) (mB 10 55) ?_
              refine tK 3 (some 93) (mB 10 63) ?_
              refine tK 6 (some 96) (mB 10 127) ?_
              refine one_ (i := 7) (N := some 97) (mB 10 255) rfl rfl (one_of HT_.out (by kernel_rfl)) (by decide) (fun K hK => ?_)
              refine Kd.R_lit_step (Kd.int .i64) _ 3 ?hg (N := 97) ?hd (xs := ([rd a2 0, rd a2 0] : List Int)) (inner := [.int .i64 (rd a2 0), .int .i64 (rd a2 0)]) (ok := fun _ => True) (okp := fun _ => True) ?hr ?hp (fun _ hk => hk) trivial (Below.refl _ _) (Nat.le_refl _) (by simp) ?_; (case hd => rfl); (case hg => rfl); (case hr => first | (go_simp; done) | (go_simp; rfl)); (case hp => exact (Reps.one (show Kd.M (Kd.int .i64) _ _ _ (rd a2 0) [.int .i64 (rd a2 0)] from rfl) (Reps.one (show Kd.M (Kd.int .i64) _ _ _ (rd a2 0) [.int .i64 (rd a2 0)] from rfl) (Reps.none _ _))))
              intro A8 D7 e6 hb hg_ hnew_
              have HS0_ := (hb.cell (World.block_lt_of_cell? _ _ (hHeld.1))).trans (hHeld.1)
              have HS1_ := (hb.cell (World.block_lt_of_cell? _ _ (hHeld.2))).trans (hHeld.2)
              clear hg_ hnew_
              (first | rw [← Ny848.out] at e6 | (simp only [Int.reduceToNat] at e6; rw [← Ny848.out] at e6))
              have e3 := aM (Kd.R_lower (Kd.R_new' (Kd.R_new' e6 (Kd.R_lt (rS a5))) (Kd.R_lt (rS a3))) (below_size bS))
              replace a5 := aM (Kd.R_elder' (rS a5) (Kd.R_base e6) hb)
              replace a3 := aM (Kd.R_elder' (rS a3) (Kd.R_base e6) hb)
              replace HB := hB hb
              clear hb e6
              obtain ⟨r6, r7, s0⟩ := Kd.R_slice e3.out
              (first | subst s0 | obtain ⟨rfl, rfl⟩ := slE s0)
              refine hK.out _ _ ⟨HS0_, HS1_⟩ (fun hHeld => ?_)
              clear hK K
              refine norm_ (a' := ?_) ?_ ?_
              rotate_left
              ·show Act.put _ (some 97) _ = _
               simp only [Act.put, List.setIfInBounds_toArray, List.set_cons_zero, List.set_cons_succ, i64_w, i32_w]
               rfl
              refine last_ (i := 8) (N := some 98) (mB 10 511) rfl rfl (one_of HT_.out (by kernel_rfl)) (by decide) (fun K hK => ?_)
              refine Kd.R_append_rows_step (Kd.int .i64) (w0 := w) w.heap.size (by rfl) (.tmp 90) (.tmp 97) 22 3 (.int .i64 0) 8 rfl Tryz.underlying22 info3 rfl (by decide) (by omega) d2 a6 e9 _ _ _ (fun k_ => some k_ ≠ (.slice (some e2) a2.length r3 : Value).ownBlock ∧ some k_ ≠ (.slice r6 e9.length r7 : Value).ownBlock) (fun _ => False) rfl rfl ?aO ?aR (fun _ _ h => h) (fun _ h => h.elim) ?aF ?aB ?aS ?aL ?_
              (case aR => exact cS (Kd.R_reads' e3.out).2.2)
              (case aB => exact bS)
              (case aF => exact (fun k_ hk => ⟨Kd.fresh' (Kd.R_lt (rS a3)) k_ hk, Kd.fresh' (Kd.R_lt (rS e3)) k_ hk⟩))
              (case aO => exact (rS a5))
              (case aS => exact (below_size bS))
              (case aL => have := LMc54.out; (try dsimp only at this); omega)
              intro A9 D8 ho hb hg hat
              rw [← Ny851.out] at ho
              have s1 := aM (ho)
              replace a3 := aM (Kd.R_after (ok := (fun k_ => some k_ ≠ (.slice r6 e9.length r7 : Value).ownBlock)) (by exact rM a3) hg hat)
              replace e3 := aM (Kd.R_after (ok := (fun k_ => some k_ ≠ (.slice (some e2) a2.length r3 : Value).ownBlock)) (by exact rM e3) hg hat)
              replace HB := aM (hb)
              clear a5
              clear ho hb hg hat
              refine hK.out _ _ ?_
              clear hK K
              refine norm_ (a' := ?_) ?_ ?_
              rotate_left
              ·show Act.put _ (some 98) _ = _
               simp only [Act.put, List.setIfInBounds_toArray, List.set_cons_zero, List.set_cons_succ, i64_w, i32_w]
               rfl
              refine pU 9 (some 7) (mB 10 1023) ?_
              refine done_ (done_of HT_.out (by kernel_rfl)) ?_
              try go_wp2
              go_meet
              case rel => exact ⟨_, (r0), H', ⟨by have := HJ2.out; have := HJ7.out; first | omega | exact Nat.le_refl _⟩, ⟨by exact rT (Kd.R_mono s1.out (fun _ hk => trivial))⟩, ⟨bS⟩⟩
             ·rw [if_neg q6] at H
              exact absurd H (by simp)
            ·rw [if_neg k2] at H
             obtain ⟨h6, h7⟩ := eqF k2
             have H' := aM H
             clear H
             go_wp2
             go_meet
             case rel => exact ⟨_, (a6), H', ⟨by have := HJ2.out; have := HJ7.out; first | omega | exact Nat.le_refl _⟩, ⟨by exact rT (Kd.R_mono a5.out (fun _ hk => trivial))⟩, ⟨bS⟩⟩
      case rest =>
       clear i5
       try clear p2
       try clear c3
       try clear c4
       try clear c5
       try clear p6
       try clear p8
       try clear q8
       try clear D9
       try clear qi8
       try clear j9
       try clear h0
       try clear h1
       try clear m4
       try clear m5
       try clear E0
       try clear k0
       try clear h2
       try clear h3
       try clear n0
       try clear n1
       try clear n2
       try clear n5
       try clear n6
       try clear n7
       try clear E1
       try clear k1
       try clear h4
       try clear h5
       try clear o9
       try clear q0
       try clear q2
       try clear E2
       try clear k2
       try clear h6
       try clear h7
       try clear q6
       try clear q7
       try clear q9
       try clear E3
       try clear a7
       try clear a8
       try clear a9
       try clear b0
       try clear d1
       try clear b1
       try clear b2
       try clear f4
       try clear f6
       try clear f8
       try clear g0
       try clear g2
       try clear g4
       try clear g6
       try clear f5
       try clear f7
       try clear f9
       try clear g1
       try clear g3
       try clear g5
       try clear g7
       obtain ⟨kq, d3, HA, HJ14, a5, HB⟩ := hcut
       cases kq with
       | zero => exact absurd HA.out (by simp [impl_StackOp.j2])
       | succ kj14 =>
        have H := HA.out
        clear HA
        simp only [impl_StackOp.j2] at H
        replace H := bN H
        obtain ⟨u7, x8, H⟩ := H
        by_cases x9 : u7 = true
        ·subst x9
         rw [if_pos rfl] at H
         obtain ⟨rfl, rfl⟩ := sI2 H
         obtain ⟨B0, B2, u9⟩ := Kd.R_slice a5.out
         subst u9
         go_wp2_with (first | ((with_reducible refine gC 88 ?_); refine cM (some 100) Tryz.func88 (impl_StackOk.calls kj14 _ _ d3 _ _ (cS (Kd.R_reads' a5.out).2.2) ((Kd.R_reads' a5.out).2.1) x8.out) ?_; rintro e w' ⟨rfl, ⟨nd, rfl⟩⟩; refine ⟨_, rfl, ?_⟩))
         go_ret2
         exact ⟨_, eS, rS a5, bS⟩
        ·obtain rfl := Bool.eq_false_iff.mpr x9
         rw [if_neg nF] at H
         replace H := bN H
         obtain ⟨v0, B8, H⟩ := H
         obtain ⟨rfl, rfl⟩ := sI2 H
         obtain ⟨C0, C2, v1⟩ := Kd.R_slice a5.out
         subst v1
         go_wp2_with (first | ((with_reducible refine gC 88 ?_); refine cM (some 100) Tryz.func88 (impl_StackOk.calls kj14 _ _ d3 _ _ (cS (Kd.R_reads' a5.out).2.2) ((Kd.R_reads' a5.out).2.1) x8.out) ?_; rintro e w' ⟨rfl, ⟨nd, rfl⟩⟩; refine ⟨_, rfl, ?_⟩) | ((with_reducible refine gC 87 ?_); refine cM (some 103) Tryz.func87 (slices_Clone_int_int.calls _ _ l0 v0 _ (cS (Kd.C_below s6.out bS)) s7.out B8.out) ?_; rintro e E4 ⟨C3, rfl, f0, hb⟩; refine ⟨_, rfl, ?_⟩; have s2 := aM (Kd.R_lower (Kd.R_new' f0 (Kd.R_lt (rS a5))) (below_size bS)); replace a5 := aM (Kd.R_elder' (rS a5) (Kd.R_base f0) hb); replace HB := hB hb; (try clear hb f0)))
         go_ret2
         exact ⟨_, eS, by exact rT (Kd.R_mono s2.out (fun _ hk => trivial)), bS⟩
end Go.Proofs.YtjkgponlahfnjaaGreat.QFnExactExecToken
