/- Walks of functions of the program, made out of the translation by a program of this session: each answers what its plain function tells, for every input at which that is told. -/
import Derived.Test.YtjkgponlahfnjaaGreatQFnExactExecTokenx0
import Derived.Test.YtjkgponlahfnjaaGreatQFnExactExecTokenx1
import Derived.Test.YtjkgponlahfnjaaGreatQFnExactExecTokenx3
import Derived.Test.YtjkgponlahfnjaaGreatQFnExactExecTokenx6
namespace Go.Proofs.YtjkgponlahfnjaaGreat.QFnExactExecToken
open Go.RowKit Go.Proofs.YtjkgponlahfnjaaGreatW.PrintWords Go.Proofs.YtjkgponlahfnjaaGreatW.PrintLast Go.Proofs.YtjkgponlahfnjaaGreatW.PrintMore
attribute [local go_sem] max2_int min2_int max_two min_two max_three min_three max_four min_four   -- for this text's walks alone
set_option linter.unusedVariables false
set_option linter.unusedSimpArgs false
set_option maxHeartbeats 8000000
set_option maxRecDepth 100000
/-! ### spec_StackOp: function 29 -/
mutual
def spec_StackOp.j0 : Nat → List Int → ByteArray → Int → Bool → Option (List Int × Bool)
 | 0, _, _, _, _ => none
 | k + 1, x0, x1, x6, x19 => if x19 = true then (spec_StackOp.j1 k x0 x1 1) else (spec_StackOp.j1 k x0 x1 x6)
def spec_StackOp.j1 : Nat → List Int → ByteArray → Int → Option (List Int × Bool)
 | 0, _, _, _ => none
 | k + 1, x0, x1, x6 => (spec_TakeNumbers.f k x0 x6).bind fun a2 => (if a2.2.2 = true then ((spec_IsStackOp.f x1).bind fun a6 => (spec_StackOp.j2 k x0 x1 a2.1 a2.2.1 (!a6))) else (spec_StackOp.j2 k x0 x1 a2.1 a2.2.1 true))
def spec_StackOp.j2 : Nat → List Int → ByteArray → List Int → List Int → Bool → Option (List Int × Bool)
 | 0, _, _, _, _, _ => none
 | k + 1, x0, x1, x7, x8, b0 => if b0 = true then ((spec_l05Copy.f x0).bind fun a7 => (some (a7, false))) else (if x1.toList = ([97, 100, 100] : List UInt8) then (if 0 < (x8.length : Int) then (if 1 < (x8.length : Int) then (if x7.length < 17592186044416 then (spec_StackOp.j3 k x0 (x7 ++ [wrap64 ((rd x8 0) + (rd x8 1))])) else (none)) else (none)) else (none)) else (if x1.toList = ([115, 117, 98] : List UInt8) then (if 0 < (x8.length : Int) then (if 1 < (x8.length : Int) then (if x7.length < 17592186044416 then (spec_StackOp.j3 k x0 (x7 ++ [wrap64 ((rd x8 0) - (rd x8 1))])) else (none)) else (none)) else (none)) else (if x1.toList = ([109, 117, 108] : List UInt8) then (if 0 < (x8.length : Int) then (if 1 < (x8.length : Int) then (if x7.length < 17592186044416 then (spec_StackOp.j3 k x0 (x7 ++ [wrap64 ((rd x8 0) * (rd x8 1))])) else (none)) else (none)) else (none)) else (if x1.toList = ([101, 120, 99, 104] : List UInt8) then (if 1 < (x8.length : Int) then (if 0 < (x8.length : Int) then ((some (([rd x8 1, rd x8 0] : List Int) : List Int)).bind fun a3 => (if x7.length + a3.length < 17592186044416 then (spec_StackOp.j3 k x0 (x7 ++ a3)) else (none))) else (none)) else (none)) else (if x1.toList = ([110, 101, 103] : List UInt8) then (if 0 < (x8.length : Int) then (if x7.length < 17592186044416 then (spec_StackOp.j3 k x0 (x7 ++ [wrap64 (-(rd x8 0))])) else (none)) else (none)) else (if x1.toList = ([100, 117, 112] : List UInt8) then (if 0 < (x8.length : Int) then ((some (([rd x8 0, rd x8 0] : List Int) : List Int)).bind fun a5 => (if x7.length + a5.length < 17592186044416 then (spec_StackOp.j3 k x0 (x7 ++ a5)) else (none))) else (none)) else (spec_StackOp.j3 k x0 x7)))))))
def spec_StackOp.j3 : Nat → List Int → List Int → Option (List Int × Bool)
 | 0, _, _ => none
 | k + 1, x0, x7 => (spec_StackOk.f k x7).bind fun a8 => (if a8 = true then (some (x7, true)) else ((spec_l05Copy.f x0).bind fun a9 => (some (a9, false))))
end
def spec_StackOp.f (k : Nat) (l0 : List Int) (a1 : ByteArray) : Option (List Int × Bool) := if a1.toList = ([110, 101, 103] : List UInt8) then (spec_StackOp.j0 k l0 a1 2 true) else (if a1.toList = ([100, 117, 112] : List UInt8) then (spec_StackOp.j0 k l0 a1 2 true) else (spec_StackOp.j0 k l0 a1 2 (a1.toList == ([112, 111, 112] : List UInt8))))
def spec_StackOp.T9 : Bool × List (List Nat × List Nat) := (true, [([], []), ([], []), ([1], [1]), ([2], [2]), ([], []), ([4], [4]), ([5], [5]), ([3, 6], [3, 6]), ([7], [7]), ([0, 8], [0, 8]), ([9, 9, 0, 1, 2, 3, 4, 5, 6, 7, 8, 9], [0, 9])])
def spec_StackOp.B9 : List Nat := [0, 0, 2, 6, 0, 16, 48, 126, 254, 511, 1023]
theorem spec_StackOp.tab9 : rtab .any (opsOf Tryz.f29 9) = spec_StackOp.T9 := by kernel_rfl
theorem spec_StackOp.bits9 : waitsOk spec_StackOp.T9.2 spec_StackOp.B9 = true := by kernel_rfl
def spec_StackOp.T11 : Bool × List (List Nat × List Nat) := (true, [([], []), ([], []), ([1], [1]), ([2], [2]), ([], []), ([4], [4]), ([5], [5]), ([3, 6], [3, 6]), ([7], [7]), ([0, 8], [0, 8]), ([9, 9, 0, 1, 2, 3, 4, 5, 6, 7, 8, 9], [0, 9])])
def spec_StackOp.B11 : List Nat := [0, 0, 2, 6, 0, 16, 48, 126, 254, 511, 1023]
theorem spec_StackOp.tab11 : rtab .any (opsOf Tryz.f29 11) = spec_StackOp.T11 := by kernel_rfl
theorem spec_StackOp.bits11 : waitsOk spec_StackOp.T11.2 spec_StackOp.B11 = true := by kernel_rfl
def spec_StackOp.T13 : Bool × List (List Nat × List Nat) := (true, [([], []), ([], []), ([1], [1]), ([2], [2]), ([], []), ([4], [4]), ([5], [5]), ([3, 6], [3, 6]), ([7], [7]), ([0, 8], [0, 8]), ([9, 9, 0, 1, 2, 3, 4, 5, 6, 7, 8, 9], [0, 9])])
def spec_StackOp.B13 : List Nat := [0, 0, 2, 6, 0, 16, 48, 126, 254, 511, 1023]
theorem spec_StackOp.tab13 : rtab .any (opsOf Tryz.f29 13) = spec_StackOp.T13 := by kernel_rfl
theorem spec_StackOp.bits13 : waitsOk spec_StackOp.T13.2 spec_StackOp.B13 = true := by kernel_rfl
def spec_StackOp.T15 : Bool × List (List Nat × List Nat) := (true, [([], []), ([], []), ([1], [1]), ([2], [2]), ([], []), ([4], [4]), ([5], [5]), ([3, 6], [3, 6]), ([0, 7], [0, 7]), ([8, 8, 0, 1, 2, 3, 4, 5, 6, 7, 8], [0, 8])])
def spec_StackOp.B15 : List Nat := [0, 0, 2, 6, 0, 16, 48, 126, 255, 511]
theorem spec_StackOp.tab15 : rtab .any (opsOf Tryz.f29 15) = spec_StackOp.T15 := by kernel_rfl
theorem spec_StackOp.bits15 : waitsOk spec_StackOp.T15.2 spec_StackOp.B15 = true := by kernel_rfl
def spec_StackOp.T19 : Bool × List (List Nat × List Nat) := (true, [([], []), ([], []), ([1], [1]), ([2], [2]), ([], []), ([4], [4]), ([5], [5]), ([3, 6], [3, 6]), ([0, 7], [0, 7]), ([8, 8, 0, 1, 2, 3, 4, 5, 6, 7, 8], [0, 8])])
def spec_StackOp.B19 : List Nat := [0, 0, 2, 6, 0, 16, 48, 126, 255, 511]
theorem spec_StackOp.tab19 : rtab .any (opsOf Tryz.f29 19) = spec_StackOp.T19 := by kernel_rfl
theorem spec_StackOp.bits19 : waitsOk spec_StackOp.T19.2 spec_StackOp.B19 = true := by kernel_rfl
theorem spec_StackOp.calls (k : Nat) (A0 : Option Addr) (c0 : Nat) (l0 : List Int) (a1 : ByteArray) (r1 : List Int) (r2 : Bool) (w : World) (hr0 : Kd.C (Kd.int .i64) w A0 l0.length l0) (v3 : l0.length ≤ c0) (h : spec_StackOp.f k l0 a1 = some (r1, r2)) :
  Calls Tryz.prog 29 #[.slice A0 l0.length c0, .string a1] w fun e w' => ∃ v0_ : Value, e = .returned (.tuple #[v0_, .bool r2]) ∧ Kd.R (Kd.int .i64) 3 w' w.heap.size (fun _ => True) v0_ r1 ∧ Below w.heap.size w w' := by
 have s5 := aM hr0
 have s6 := aM v3
 clear hr0 v3
 have HB := aM (Below.refl w.heap.size w)
 have H := h
 clear h
 unfold spec_StackOp.f at H
 have s7 := aM H
 clear H
 go_enter Tryz.func29, Tryz.ntmps29
 go_upto_region 2 with (fail)
 go_cut [19] (fun y0 wc => ∃ (kq : Nat) (e7 : Bool), y0 = .bool e7 ∧ Aside0 (spec_StackOp.j0 kq l0 a1 2 e7 = some (r1, r2)) ∧ Aside0 (kq ≤ k) ∧ Aside0 (Below w.heap.size w wc))
 case first =>
  have H := s7.out
  clear s7
  by_cases c4 : a1.toList = ([110, 101, 103] : List UInt8)
  ·rw [if_pos c4] at H
   obtain ⟨d2, f4⟩ := eqT c4
   clear c4
   (first | rw [d2] | (simp only [i64_w, i32_w]; rw [d2]) | skip)
   have H' := aM H
   clear H
   go_wp2
   go_meet
   case rel => exact ⟨_, (true), fS, H', ⟨by first | omega | exact Nat.le_refl _⟩, ⟨bS⟩⟩
  ·rw [if_neg c4] at H
   obtain ⟨d2, f4⟩ := eqF c4
   (first | rw [d2] | (simp only [i64_w, i32_w]; rw [d2]) | skip)
   by_cases c5 : a1.toList = ([100, 117, 112] : List UInt8)
   ·rw [if_pos c5] at H
    obtain ⟨f5, f6⟩ := eqT c5
    clear c5
    have H' := aM H
    clear H
    go_wp2
    go_meet
    case rel => exact ⟨_, (true), fS, H', ⟨by first | omega | exact Nat.le_refl _⟩, ⟨bS⟩⟩
   ·rw [if_neg c5] at H
    obtain ⟨f5, f6⟩ := eqF c5
    have H' := aM H
    clear H
    go_wp2
    go_meet
    case rel => exact ⟨_, ((a1.toList == ([112, 111, 112] : List UInt8))), fS, H', ⟨by first | omega | exact Nat.le_refl _⟩, ⟨bS⟩⟩
 case rest =>
  clear s7
  try clear c2
  try clear p2
  try clear c4
  try clear d2
  try clear f4
  try clear c5
  try clear f5
  try clear f6
  obtain ⟨kq, e7, rfl, HA, HJ2, HB⟩ := hcut
  cases kq with
  | zero => exact absurd HA.out (by simp [spec_StackOp.j0])
  | succ kj2 =>
   have H := HA.out
   clear HA
   simp only [spec_StackOp.j0] at H
   have s8 := aM H
   clear H
   go_upto_if 19 with (fail)
   go_cut [6] (fun v6 wc => ∃ (kq : Nat) (f7 : Int), v6 = .int .i64 f7 ∧ Aside0 (spec_StackOp.j1 kq l0 a1 f7 = some (r1, r2)) ∧ Aside0 (kq ≤ kj2) ∧ Aside0 (Below w.heap.size w wc))
   case first =>
    have H := s8.out
    clear s8
    by_cases c7 : e7 = true
    ·subst c7
     rw [if_pos rfl] at H
     have H' := aM H
     clear H
     go_wp2
     go_meet
     case rel => exact ⟨_, (1), fS, H', ⟨by have := HJ2.out; first | omega | exact Nat.le_refl _⟩, ⟨bS⟩⟩
    ·obtain rfl := Bool.eq_false_iff.mpr c7
     rw [if_neg nF] at H
     have H' := aM H
     clear H
     go_wp2
     go_meet
     case rel => exact ⟨_, (2), fS, H', ⟨by have := HJ2.out; first | omega | exact Nat.le_refl _⟩, ⟨bS⟩⟩
   case rest =>
    clear s8
    try clear c2
    try clear p2
    try clear c4
    try clear d2
    try clear f4
    try clear c5
    try clear f5
    try clear f6
    try clear c7
    try clear p2
    obtain ⟨kq, f7, rfl, HA, HJ5, HB⟩ := hcut
    cases kq with
    | zero => exact absurd HA.out (by simp [spec_StackOp.j1])
    | succ kj5 =>
     have H := HA.out
     clear HA
     simp only [spec_StackOp.j1] at H
     replace H := bN H
     obtain ⟨⟨a6, a2, k2⟩, A8, H⟩ := H
     have s9 := aM H
     clear H
     go_upto_region 5 with (first | ((with_reducible refine gC 30 ?_); refine cM (some 23) Tryz.func30 (spec_TakeNumbers.calls kj5 _ _ l0 f7 a6 a2 k2 _ (cC s5 HB) s6.out A8.out) ?_; rintro e C9 ⟨d3, k3, rfl, f3, v4, hb⟩; refine ⟨_, rfl, ?_⟩; have h2 := aM (Kd.R_lower f3 (below_size bS)); have h3 := aM (Kd.R_lower v4 (below_size bS)); replace HB := hB hb; (try clear hb f3 v4)))
     (try simp only [Act.put, List.setIfInBounds_toArray, List.set_cons_zero, List.set_cons_succ])
     go_cut [33] (fun y1 wc => ∃ (kq : Nat) (e8 : Bool), y1 = .bool e8 ∧ Aside0 (spec_StackOp.j2 kq l0 a1 a6 a2 e8 = some (r1, r2)) ∧ Aside0 (kq ≤ kj5) ∧ Aside0 (Kd.R (Kd.int .i64) 3 wc w.heap.size (fun k_ => some k_ ≠ (k3 : Value).ownBlock) d3 a6) ∧ Aside0 (Kd.R (Kd.int .i64) 3 wc w.heap.size (fun k_ => some k_ ≠ (d3 : Value).ownBlock) k3 a2) ∧ Aside0 (Below w.heap.size w wc))
     case first =>
      have H := s9.out
      clear s9
      by_cases t0 : k2 = true
      ·subst t0
       rw [if_pos rfl] at H
       replace H := bN H
       obtain ⟨k4, y2, H⟩ := H
       have H' := aM H
       clear H
       go_wp2_with (first | (go_at_call 28; (with_reducible refine (spec_IsStackOp.calls a1 k4 _ y2.out).mono ?_); rintro e w' ⟨rfl, ⟨nd, rfl⟩⟩))
       go_meet
       case rel => exact ⟨_, (!k4), fS, H', ⟨by have := HJ2.out; have := HJ5.out; first | omega | exact Nat.le_refl _⟩, ⟨rS h2⟩, ⟨rS h3⟩, ⟨bS⟩⟩
      ·obtain rfl := Bool.eq_false_iff.mpr t0
       rw [if_neg nF] at H
       have H' := aM H
       clear H
       go_wp2
       go_meet
       case rel => exact ⟨_, (true), fS, H', ⟨by have := HJ2.out; have := HJ5.out; first | omega | exact Nat.le_refl _⟩, ⟨rS h2⟩, ⟨rS h3⟩, ⟨bS⟩⟩
     case rest =>
      clear s9
      try clear c1
      try clear c2
      try clear p2
      try clear c3
      try clear c4
      try clear d2
      try clear f4
      try clear c5
      try clear f5
      try clear f6
      try clear c7
      try clear t0
      try clear p2
      obtain ⟨kq, e8, rfl, HA, HJ8, a5, a3, HB⟩ := hcut
      cases kq with
      | zero => exact absurd HA.out (by simp [spec_StackOp.j2])
      | succ kj8 =>
       have H := HA.out
       clear HA
       simp only [spec_StackOp.j2] at H
       by_cases v5 : e8 = true
       ·subst v5
        rw [if_pos rfl] at H
        replace H := bN H
        obtain ⟨t1, y3, H⟩ := H
        obtain ⟨rfl, rfl⟩ := sI2 H
        go_wp2_with (first | ((with_reducible refine gC 69 ?_); refine cM (some 35) Tryz.func69 (spec_l05Copy.calls _ _ l0 t1 _ (cC s5 HB) s6.out y3.out) ?_; rintro e D0 ⟨y4, rfl, f3, hb⟩; refine ⟨_, rfl, ?_⟩; have k5 := aM (Kd.R_lower (Kd.R_new' (Kd.R_new' f3 (Kd.R_lt (rS a5))) (Kd.R_lt (rS a3))) (below_size bS)); replace a5 := aM (Kd.R_elder' (rS a5) (Kd.R_base f3) hb); replace a3 := aM (Kd.R_elder' (rS a3) (Kd.R_base f3) hb); replace HB := hB hb; (try clear hb f3)))
        go_ret2
        exact ⟨_, eS, by exact rT (Kd.R_mono k5.out (fun _ hk => trivial)), bS⟩
       ·obtain rfl := Bool.eq_false_iff.mpr v5
        rw [if_neg nF] at H
        have i4 := aM H
        clear H
        go_upto_block 0 with (fail)
        go_cut [7] (fun v7 wc => ∃ (kq : Nat) (d4 : List Int), Aside0 (spec_StackOp.j3 kq l0 d4 = some (r1, r2)) ∧ Aside0 (kq ≤ kj8) ∧ Aside0 (Kd.R (Kd.int .i64) 3 wc w.heap.size (fun _ => True) v7 d4) ∧ Aside0 (Below w.heap.size w wc))
        case first =>
         have H := i4.out
         clear i4
         by_cases k6 : a1.toList = ([97, 100, 100] : List UInt8)
         ·rw [if_pos k6] at H
          obtain ⟨d5, k7⟩ := eqT k6
          clear k6
          (first | rw [d5] | (simp only [i64_w, i32_w]; rw [d5]) | skip)
          by_cases s1 : 0 < (a2.length : Int)
          ·rw [if_pos s1] at H
           have v8 : decide (0 < (a2.length : Int)) = true := decide_eq_true s1
           have v9 : decide (0 < a2.length) = true := decide_eq_true (by omega)
           clear s1
           by_cases s2 : 1 < (a2.length : Int)
           ·rw [if_pos s2] at H
            have w8 : decide (1 < (a2.length : Int)) = true := decide_eq_true s2
            have w9 : decide (1 < a2.length) = true := decide_eq_true (by omega)
            clear s2
            obtain ⟨LMc20, H⟩ := iL H
            obtain ⟨k9, hy_⟩ : ∃ y_ : List Int, y_ = (a6 ++ [wrap64 ((rd a2 0) + (rd a2 1))]) := ⟨_, rfl⟩
            replace H : (spec_StackOp.j3 kj8 l0 k9) = some (r1, r2) := yS
            have Ny271 := aM hy_
            clear hy_
            have H' := aM H
            clear H
            try go_wp2
            replace a5 := rD a5
            replace a3 := rD a3
            replace HB := hD HB
            obtain ⟨y5, t2, l3⟩ := Kd.R_slice a3.out
            (first | subst l3 | obtain ⟨rfl, rfl⟩ := slE l3)
            have i5 : 0 ≤ (0 : Int) := (by omega)
            have i6 : 0 < (a2.length : Int) := dA
            obtain ⟨d6, t3, b6⟩ := Kd.at_int (Kd.R_reads' a3.out).2.2 0 i5 i6
            cases t3
            have qi269 : (0 < a2.length) = True := eq_true (by omega)
            (try rw [show ((0 : Int)).toNat = 0 from rfl] at b6)
            (try rw [Addr.add_zero'] at b6)
            replace i5 := eq_true i5
            replace i6 := eq_true i6
            have i7 : 0 ≤ (1 : Int) := (by omega)
            have i8 : 1 < (a2.length : Int) := dA
            obtain ⟨l4, t4, b7⟩ := Kd.at_int (Kd.R_reads' a3.out).2.2 1 i7 i8
            obtain rfl : d6 = l4 := (by injection t4)
            (try simp only [show (1 : Int).toNat = 1 from rfl, Nat.reduceMul, Nat.reduceEqDiff, Go.Addr.add, ↓reduceIte] at b7)
            have qi270 : (1 < a2.length) = True := eq_true (by omega)
            (try rw [show ((1 : Int)).toNat = 1 from rfl] at b7)
            replace i7 := eq_true i7
            replace i8 := eq_true i8
            refine start_ (n := 11) (S := fun w' => w'.cell? d6 = some (.int .i64 (rd a2 0)) ∧ w'.cell? ⟨d6.block, d6.off + 1, none⟩ = some (.int .i64 (rd a2 1))) (ds := [8, 9]) (mB 11 0) (by kernel_rfl) rfl rfl ⟨b6, b7⟩ (fun hHeld => ?_); refine with_tabW spec_StackOp.tab9 spec_StackOp.bits9 (fun HT_ HW_ => ?_)
            generalize wc.drew = D1 at a5 a3 HB b6 b7 hHeld ⊢
            refine pU 0 (some 39) (mB 11 1) ?_
            refine pU 1 (some 40) (mB 11 3) ?_
            refine pU 2 (some 41) (mB 11 7) ?_
            refine pU 4 (some 43) (mB 11 23) ?_
            refine pU 5 (some 44) (mB 11 55) ?_
            refine tK 3 (some 42) (mB 11 63) ?_
            refine tK 6 (some 45) (mB 11 127) ?_
            refine pU 7 (some 46) (mB 11 255) ?_
            refine last_ (i := 8) (N := some 47) (mB 11 511) rfl rfl (one_of HT_.out (by kernel_rfl)) (by decide) (fun K hK => ?_)
            refine value_ (w1 := ?_) (v := ?_) (by rfl) rfl ?_ ?_
            rotate_left 2
            ·go_simp
             constructor
             ·rfl
             ·rfl
            refine hK.out _ _ ?_
            clear hK K
            refine norm_ (a' := ?_) ?_ ?_
            rotate_left
            ·show Act.put _ (some 47) _ = _
             simp only [Act.put, List.setIfInBounds_toArray, List.set_cons_zero, List.set_cons_succ, i64_w, i32_w]
             rfl
            refine last_ (i := 9) (N := some 48) (mB 11 1023) rfl rfl (one_of HT_.out (by kernel_rfl)) (by decide) (fun K hK => ?_)
            refine Kd.R_append_step (Kd.int .i64) (w0 := w) w.heap.size (by rfl) (.tmp 39) (.tmp 47) 22 3 (.int .i64 0) 8 rfl Tryz.underlying22 info3 rfl (by decide) (by omega) d3 a6 (wrap64 ((rd a2 0) + (rd a2 1))) [.int .i64 (wrap64 ((rd a2 0) + (rd a2 1)))] (fun k_ => some k_ ≠ (.slice (some d6) a2.length t2 : Value).ownBlock) (fun _ => False) rfl rfl ?aP (fun _ hk => hk.elim) ?aF ?aO ?aB ?aS ?aL ?_
            (case aP => exact rfl)
            (case aB => exact bS)
            (case aF => exact (fun k_ hk => Kd.fresh' (Kd.R_lt (rS a3)) k_ hk))
            (case aO => exact (rS a5))
            (case aS => exact (below_size bS))
            (case aL => have := LMc20.out; (try dsimp only at this); omega)
            intro y6 D2 ho hb hg hat
            rw [← Ny271.out] at ho
            have l5 := aM (ho)
            replace a3 := aM (Kd.R_after (ok := (fun _ => True)) (by exact rM a3) hg hat)
            replace HB := aM (hb)
            clear a5
            clear ho hb hg hat
            refine hK.out _ _ ?_
            clear hK K
            refine norm_ (a' := ?_) ?_ ?_
            rotate_left
            ·show Act.put _ (some 48) _ = _
             simp only [Act.put, List.setIfInBounds_toArray, List.set_cons_zero, List.set_cons_succ, i64_w, i32_w]
             rfl
            refine pU 10 (some 7) (mB 11 2047) ?_
            refine done_ (done_of HT_.out (by kernel_rfl)) ?_
            try go_wp2
            go_meet
            case rel => exact ⟨_, (k9), H', ⟨by have := HJ2.out; have := HJ5.out; have := HJ8.out; first | omega | exact Nat.le_refl _⟩, ⟨by exact rT (Kd.R_mono l5.out (fun _ hk => trivial))⟩, ⟨bS⟩⟩
           ·rw [if_neg s2] at H
            exact absurd H (by simp)
          ·rw [if_neg s1] at H
           exact absurd H (by simp)
         ·rw [if_neg k6] at H
          obtain ⟨d5, k7⟩ := eqF k6
          (first | rw [d5] | (simp only [i64_w, i32_w]; rw [d5]) | skip)
          by_cases c24 : a1.toList = ([115, 117, 98] : List UInt8)
          ·rw [if_pos c24] at H
           obtain ⟨l6, l7⟩ := eqT c24
           clear c24
           by_cases s3 : 0 < (a2.length : Int)
           ·rw [if_pos s3] at H
            have x0 : decide (0 < (a2.length : Int)) = true := decide_eq_true s3
            have x1 : decide (0 < a2.length) = true := decide_eq_true (by omega)
            clear s3
            by_cases s4 : 1 < (a2.length : Int)
            ·rw [if_pos s4] at H
             have x2 : decide (1 < (a2.length : Int)) = true := decide_eq_true s4
             have x3 : decide (1 < a2.length) = true := decide_eq_true (by omega)
             clear s4
             obtain ⟨LMc27, H⟩ := iL H
             obtain ⟨l8, hy_⟩ : ∃ y_ : List Int, y_ = (a6 ++ [wrap64 ((rd a2 0) - (rd a2 1))]) := ⟨_, rfl⟩
             replace H : (spec_StackOp.j3 kj8 l0 l8) = some (r1, r2) := yS
             have Ny276 := aM hy_
             clear hy_
             have H' := aM H
             clear H
             try go_wp2
             replace a5 := rD a5
             replace a3 := rD a3
             replace HB := hD HB
             obtain ⟨y7, t5, l9⟩ := Kd.R_slice a3.out
             (first | subst l9 | obtain ⟨rfl, rfl⟩ := slE l9)
             have i9 : 0 ≤ (0 : Int) := (by omega)
             have j5 : 0 < (a2.length : Int) := dA
             obtain ⟨e0, t6, b8⟩ := Kd.at_int (Kd.R_reads' a3.out).2.2 0 i9 j5
             cases t6
             have qi274 : (0 < a2.length) = True := eq_true (by omega)
             (try rw [show ((0 : Int)).toNat = 0 from rfl] at b8)
             (try rw [Addr.add_zero'] at b8)
             replace i9 := eq_true i9
             replace j5 := eq_true j5
             have j6 : 0 ≤ (1 : Int) := (by omega)
             have j7 : 1 < (a2.length : Int) := dA
             obtain ⟨m0, t7, b9⟩ := Kd.at_int (Kd.R_reads' a3.out).2.2 1 j6 j7
             obtain rfl : e0 = m0 := (by injection t7)
             (try simp only [show (1 : Int).toNat = 1 from rfl, Nat.reduceMul, Nat.reduceEqDiff, Go.Addr.add, ↓reduceIte] at b9)
             have qi275 : (1 < a2.length) = True := eq_true (by omega)
             (try rw [show ((1 : Int)).toNat = 1 from rfl] at b9)
             replace j6 := eq_true j6
             replace j7 := eq_true j7
             refine start_ (n := 11) (S := fun w' => w'.cell? e0 = some (.int .i64 (rd a2 0)) ∧ w'.cell? ⟨e0.block, e0.off + 1, none⟩ = some (.int .i64 (rd a2 1))) (ds := [8, 9]) (mB 11 0) (by kernel_rfl) rfl rfl ⟨b8, b9⟩ (fun hHeld => ?_); refine with_tabW spec_StackOp.tab11 spec_StackOp.bits11 (fun HT_ HW_ => ?_)
             generalize wc.drew = D3 at a5 a3 HB b8 b9 hHeld ⊢
             refine pU 0 (some 51) (mB 11 1) ?_
             refine pU 1 (some 52) (mB 11 3) ?_
             refine pU 2 (some 53) (mB 11 7) ?_
             refine pU 4 (some 55) (mB 11 23) ?_
             refine pU 5 (some 56) (mB 11 55) ?_
             refine tK 3 (some 54) (mB 11 63) ?_
             refine tK 6 (some 57) (mB 11 127) ?_
             refine pU 7 (some 58) (mB 11 255) ?_
             refine last_ (i := 8) (N := some 59) (mB 11 511) rfl rfl (one_of HT_.out (by kernel_rfl)) (by decide) (fun K hK => ?_)
             refine value_ (w1 := ?_) (v := ?_) (by rfl) rfl ?_ ?_
             rotate_left 2
             ·go_simp
              constructor
              ·rfl
              ·rfl
             refine hK.out _ _ ?_
             clear hK K
             refine norm_ (a' := ?_) ?_ ?_
             rotate_left
             ·show Act.put _ (some 59) _ = _
              simp only [Act.put, List.setIfInBounds_toArray, List.set_cons_zero, List.set_cons_succ, i64_w, i32_w]
              rfl
             refine last_ (i := 9) (N := some 60) (mB 11 1023) rfl rfl (one_of HT_.out (by kernel_rfl)) (by decide) (fun K hK => ?_)
             refine Kd.R_append_step (Kd.int .i64) (w0 := w) w.heap.size (by rfl) (.tmp 51) (.tmp 59) 22 3 (.int .i64 0) 8 rfl Tryz.underlying22 info3 rfl (by decide) (by omega) d3 a6 (wrap64 ((rd a2 0) - (rd a2 1))) [.int .i64 (wrap64 ((rd a2 0) - (rd a2 1)))] (fun k_ => some k_ ≠ (.slice (some e0) a2.length t5 : Value).ownBlock) (fun _ => False) rfl rfl ?aP (fun _ hk => hk.elim) ?aF ?aO ?aB ?aS ?aL ?_
             (case aP => exact rfl)
             (case aB => exact bS)
             (case aF => exact (fun k_ hk => Kd.fresh' (Kd.R_lt (rS a3)) k_ hk))
             (case aO => exact (rS a5))
             (case aS => exact (below_size bS))
             (case aL => have := LMc27.out; (try dsimp only at this); omega)
             intro y8 D4 ho hb hg hat
             rw [← Ny276.out] at ho
             have m1 := aM (ho)
             replace a3 := aM (Kd.R_after (ok := (fun _ => True)) (by exact rM a3) hg hat)
             replace HB := aM (hb)
             clear a5
             clear ho hb hg hat
             refine hK.out _ _ ?_
             clear hK K
             refine norm_ (a' := ?_) ?_ ?_
             rotate_left
             ·show Act.put _ (some 60) _ = _
              simp only [Act.put, List.setIfInBounds_toArray, List.set_cons_zero, List.set_cons_succ, i64_w, i32_w]
              rfl
             refine pU 10 (some 7) (mB 11 2047) ?_
             refine done_ (done_of HT_.out (by kernel_rfl)) ?_
             try go_wp2
             go_meet
             case rel => exact ⟨_, (l8), H', ⟨by have := HJ2.out; have := HJ5.out; have := HJ8.out; first | omega | exact Nat.le_refl _⟩, ⟨by exact rT (Kd.R_mono m1.out (fun _ hk => trivial))⟩, ⟨bS⟩⟩
            ·rw [if_neg s4] at H
             exact absurd H (by simp)
           ·rw [if_neg s3] at H
            exact absurd H (by simp)
          ·rw [if_neg c24] at H
           obtain ⟨l6, l7⟩ := eqF c24
           by_cases j8 : a1.toList = ([109, 117, 108] : List UInt8)
           ·rw [if_pos j8] at H
            obtain ⟨h4, h5⟩ := eqT j8
            clear j8
            by_cases m2 : 0 < (a2.length : Int)
            ·rw [if_pos m2] at H
             have x4 : decide (0 < (a2.length : Int)) = true := decide_eq_true m2
             have x5 : decide (0 < a2.length) = true := decide_eq_true (by omega)
             clear m2
             by_cases m3 : 1 < (a2.length : Int)
             ·rw [if_pos m3] at H
              have x6 : decide (1 < (a2.length : Int)) = true := decide_eq_true m3
              have x7 : decide (1 < a2.length) = true := decide_eq_true (by omega)
              clear m3
              obtain ⟨LMc34, H⟩ := iL H
              obtain ⟨m4, hy_⟩ : ∃ y_ : List Int, y_ = (a6 ++ [wrap64 ((rd a2 0) * (rd a2 1))]) := ⟨_, rfl⟩
              replace H : (spec_StackOp.j3 kj8 l0 m4) = some (r1, r2) := yS
              have Ny281 := aM hy_
              clear hy_
              have H' := aM H
              clear H
              try go_wp2
              replace a5 := rD a5
              replace a3 := rD a3
              replace HB := hD HB
              obtain ⟨y9, t8, m5⟩ := Kd.R_slice a3.out
              (first | subst m5 | obtain ⟨rfl, rfl⟩ := slE m5)
              have f8 : 0 ≤ (0 : Int) := (by omega)
              have f9 : 0 < (a2.length : Int) := dA
              obtain ⟨e1, t9, a7⟩ := Kd.at_int (Kd.R_reads' a3.out).2.2 0 f8 f9
              cases t9
              have qi279 : (0 < a2.length) = True := eq_true (by omega)
              (try rw [show ((0 : Int)).toNat = 0 from rfl] at a7)
              (try rw [Addr.add_zero'] at a7)
              replace f8 := eq_true f8
              replace f9 := eq_true f9
              have g0 : 0 ≤ (1 : Int) := (by omega)
              have g1 : 1 < (a2.length : Int) := dA
              obtain ⟨m6, u0, a8⟩ := Kd.at_int (Kd.R_reads' a3.out).2.2 1 g0 g1
              obtain rfl : e1 = m6 := (by injection u0)
              (try simp only [show (1 : Int).toNat = 1 from rfl, Nat.reduceMul, Nat.reduceEqDiff, Go.Addr.add, ↓reduceIte] at a8)
              have qi280 : (1 < a2.length) = True := eq_true (by omega)
              (try rw [show ((1 : Int)).toNat = 1 from rfl] at a8)
              replace g0 := eq_true g0
              replace g1 := eq_true g1
              refine start_ (n := 11) (S := fun w' => w'.cell? e1 = some (.int .i64 (rd a2 0)) ∧ w'.cell? ⟨e1.block, e1.off + 1, none⟩ = some (.int .i64 (rd a2 1))) (ds := [8, 9]) (mB 11 0) (by kernel_rfl) rfl rfl ⟨a7, a8⟩ (fun hHeld => ?_); refine with_tabW spec_StackOp.tab13 spec_StackOp.bits13 (fun HT_ HW_ => ?_)
              generalize wc.drew = D5 at a5 a3 HB a7 a8 hHeld ⊢
              refine pU 0 (some 63) (mB 11 1) ?_
              refine pU 1 (some 64) (mB 11 3) ?_
              refine pU 2 (some 65) (mB 11 7) ?_
              refine pU 4 (some 67) (mB 11 23) ?_
              refine pU 5 (some 68) (mB 11 55) ?_
              refine tK 3 (some 66) (mB 11 63) ?_
              refine tK 6 (some 69) (mB 11 127) ?_
              refine pU 7 (some 70) (mB 11 255) ?_
              refine last_ (i := 8) (N := some 71) (mB 11 511) rfl rfl (one_of HT_.out (by kernel_rfl)) (by decide) (fun K hK => ?_)
              refine value_ (w1 := ?_) (v := ?_) (by rfl) rfl ?_ ?_
              rotate_left 2
              ·go_simp
               constructor
               ·rfl
               ·rfl
              refine hK.out _ _ ?_
              clear hK K
              refine norm_ (a' := ?_) ?_ ?_
              rotate_left
              ·show Act.put _ (some 71) _ = _
               simp only [Act.put, List.setIfInBounds_toArray, List.set_cons_zero, List.set_cons_succ, i64_w, i32_w]
               rfl
              refine last_ (i := 9) (N := some 72) (mB 11 1023) rfl rfl (one_of HT_.out (by kernel_rfl)) (by decide) (fun K hK => ?_)
              refine Kd.R_append_step (Kd.int .i64) (w0 := w) w.heap.size (by rfl) (.tmp 63) (.tmp 71) 22 3 (.int .i64 0) 8 rfl Tryz.underlying22 info3 rfl (by decide) (by omega) d3 a6 (wrap64 ((rd a2 0) * (rd a2 1))) [.int .i64 (wrap64 ((rd a2 0) * (rd a2 1)))] (fun k_ => some k_ ≠ (.slice (some e1) a2.length t8 : Value).ownBlock) (fun _ => False) rfl rfl ?aP (fun _ hk => hk.elim) ?aF ?aO ?aB ?aS ?aL ?_
              (case aP => exact rfl)
              (case aB => exact bS)
              (case aF => exact (fun k_ hk => Kd.fresh' (Kd.R_lt (rS a3)) k_ hk))
              (case aO => exact (rS a5))
              (case aS => exact (below_size bS))
              (case aL => have := LMc34.out; (try dsimp only at this); omega)
              intro A1 D6 ho hb hg hat
              rw [← Ny281.out] at ho
              have m7 := aM (ho)
              replace a3 := aM (Kd.R_after (ok := (fun _ => True)) (by exact rM a3) hg hat)
              replace HB := aM (hb)
              clear a5
              clear ho hb hg hat
              refine hK.out _ _ ?_
              clear hK K
              refine norm_ (a' := ?_) ?_ ?_
              rotate_left
              ·show Act.put _ (some 72) _ = _
               simp only [Act.put, List.setIfInBounds_toArray, List.set_cons_zero, List.set_cons_succ, i64_w, i32_w]
               rfl
              refine pU 10 (some 7) (mB 11 2047) ?_
              refine done_ (done_of HT_.out (by kernel_rfl)) ?_
              try go_wp2
              go_meet
              case rel => exact ⟨_, (m4), H', ⟨by have := HJ2.out; have := HJ5.out; have := HJ8.out; first | omega | exact Nat.le_refl _⟩, ⟨by exact rT (Kd.R_mono m7.out (fun _ hk => trivial))⟩, ⟨bS⟩⟩
             ·rw [if_neg m3] at H
              exact absurd H (by simp)
            ·rw [if_neg m2] at H
             exact absurd H (by simp)
           ·rw [if_neg j8] at H
            obtain ⟨h4, h5⟩ := eqF j8
            by_cases j9 : a1.toList = ([101, 120, 99, 104] : List UInt8)
            ·rw [if_pos j9] at H
             obtain ⟨h6, h7⟩ := eqT j9
             clear j9
             by_cases m8 : 1 < (a2.length : Int)
             ·rw [if_pos m8] at H
              have m9 : decide (1 < (a2.length : Int)) = true := decide_eq_true m8
              have n0 : decide (1 < a2.length) = true := decide_eq_true (by omega)
              clear m8
              by_cases n1 : 0 < (a2.length : Int)
              ·rw [if_pos n1] at H
               have n2 : decide (0 < (a2.length : Int)) = true := decide_eq_true n1
               have n5 : decide (0 < a2.length) = true := decide_eq_true (by omega)
               clear n1
               obtain ⟨e9, hy_⟩ : ∃ y_ : List Int, y_ = (([rd a2 1, rd a2 0] : List Int)) := ⟨_, rfl⟩
               replace H : (if a6.length + e9.length < 17592186044416 then (spec_StackOp.j3 kj8 l0 (a6 ++ e9)) else (none)) = some (r1, r2) := yS
               have Ny286 := aM hy_
               clear hy_
               obtain ⟨LMc41, H⟩ := iL H
               obtain ⟨n6, hy_⟩ : ∃ y_ : List Int, y_ = (a6 ++ e9) := ⟨_, rfl⟩
               replace H : (spec_StackOp.j3 kj8 l0 n6) = some (r1, r2) := yS
               have Ny289 := aM hy_
               clear hy_
               have H' := aM H
               clear H
               try go_wp2
               replace a5 := rD a5
               replace a3 := rD a3
               replace HB := hD HB
               obtain ⟨A2, n7, n8⟩ := Kd.R_slice a3.out
               (first | subst n8 | obtain ⟨rfl, rfl⟩ := slE n8)
               have g2 : 0 ≤ (1 : Int) := (by omega)
               have g3 : 1 < (a2.length : Int) := dA
               obtain ⟨d0, u1, a9⟩ := Kd.at_int (Kd.R_reads' a3.out).2.2 1 g2 g3
               cases u1
               (try simp only [show (1 : Int).toNat = 1 from rfl, Nat.reduceMul, Nat.reduceEqDiff, Go.Addr.add, ↓reduceIte] at a9)
               have qi284 : (1 < a2.length) = True := eq_true (by omega)
               (try rw [show ((1 : Int)).toNat = 1 from rfl] at a9)
               replace g2 := eq_true g2
               replace g3 := eq_true g3
               have g4 : 0 ≤ (0 : Int) := (by omega)
               have g5 : 0 < (a2.length : Int) := dA
               obtain ⟨o0, u2, b0⟩ := Kd.at_int (Kd.R_reads' a3.out).2.2 0 g4 g5
               obtain rfl : d0 = o0 := (by injection u2)
               have qi285 : (0 < a2.length) = True := eq_true (by omega)
               (try rw [show ((0 : Int)).toNat = 0 from rfl] at b0)
               (try rw [Addr.add_zero'] at b0)
               replace g4 := eq_true g4
               replace g5 := eq_true g5
               refine start_ (n := 10) (S := fun w' => w'.cell? ⟨d0.block, d0.off + 1, none⟩ = some (.int .i64 (rd a2 1)) ∧ w'.cell? d0 = some (.int .i64 (rd a2 0))) (ds := [8]) (mB 10 0) (by kernel_rfl) rfl rfl ⟨a9, b0⟩ (fun hHeld => ?_); refine with_tabW spec_StackOp.tab15 spec_StackOp.bits15 (fun HT_ HW_ => ?_)
               generalize wc.drew = D7 at a5 a3 HB a9 b0 hHeld ⊢
               refine pU 0 (some 75) (mB 10 1) ?_
               refine pU 1 (some 76) (mB 10 3) ?_
               refine pU 2 (some 77) (mB 10 7) ?_
               refine pU 4 (some 79) (mB 10 23) ?_
               refine pU 5 (some 80) (mB 10 55) ?_
               refine tK 3 (some 78) (mB 10 63) ?_
               refine tK 6 (some 81) (mB 10 127) ?_
               refine one_ (i := 7) (N := some 82) (mB 10 255) rfl rfl (one_of HT_.out (by kernel_rfl)) (by decide) (fun K hK => ?_)
               refine Kd.R_lit_step (Kd.int .i64) _ 3 ?hg (N := 82) ?hd (xs := ([rd a2 1, rd a2 0] : List Int)) (inner := [.int .i64 (rd a2 1), .int .i64 (rd a2 0)]) (ok := fun _ => True) (okp := fun _ => True) ?hr ?hp (fun _ hk => hk) trivial (Below.refl _ _) (Nat.le_refl _) (by simp) ?_; (case hd => rfl); (case hg => rfl); (case hr => first | (go_simp; done) | (go_simp; rfl)); (case hp => exact (Reps.one (show Kd.M (Kd.int .i64) _ _ _ (rd a2 1) [.int .i64 (rd a2 1)] from rfl) (Reps.one (show Kd.M (Kd.int .i64) _ _ _ (rd a2 0) [.int .i64 (rd a2 0)] from rfl) (Reps.none _ _))))
               intro A3 D8 e5 hb hg_ hnew_
               have HS0_ := (hb.cell (World.block_lt_of_cell? _ _ (hHeld.1))).trans (hHeld.1)
               have HS1_ := (hb.cell (World.block_lt_of_cell? _ _ (hHeld.2))).trans (hHeld.2)
               clear hg_ hnew_
               (first | rw [← Ny286.out] at e5 | (simp only [Int.reduceToNat] at e5; rw [← Ny286.out] at e5))
               have e2 := aM (Kd.R_lower (Kd.R_new' (Kd.R_new' e5 (Kd.R_lt (rS a5))) (Kd.R_lt (rS a3))) (below_size bS))
               replace a5 := aM (Kd.R_elder' (rS a5) (Kd.R_base e5) hb)
               replace a3 := aM (Kd.R_elder' (rS a3) (Kd.R_base e5) hb)
               replace HB := hB hb
               clear hb e5
               obtain ⟨o1, o4, o5⟩ := Kd.R_slice e2.out
               (first | subst o5 | obtain ⟨rfl, rfl⟩ := slE o5)
               refine hK.out _ _ ⟨HS0_, HS1_⟩ (fun hHeld => ?_)
               clear hK K
               refine norm_ (a' := ?_) ?_ ?_
               rotate_left
               ·show Act.put _ (some 82) _ = _
                simp only [Act.put, List.setIfInBounds_toArray, List.set_cons_zero, List.set_cons_succ, i64_w, i32_w]
                rfl
               refine last_ (i := 8) (N := some 83) (mB 10 511) rfl rfl (one_of HT_.out (by kernel_rfl)) (by decide) (fun K hK => ?_)
               refine Kd.R_append_rows_step (Kd.int .i64) (w0 := w) w.heap.size (by rfl) (.tmp 75) (.tmp 82) 22 3 (.int .i64 0) 8 rfl Tryz.underlying22 info3 rfl (by decide) (by omega) d3 a6 e9 _ _ _ (fun k_ => some k_ ≠ (.slice (some d0) a2.length n7 : Value).ownBlock ∧ some k_ ≠ (.slice o1 e9.length o4 : Value).ownBlock) (fun _ => False) rfl rfl ?aO ?aR (fun _ _ h => h) (fun _ h => h.elim) ?aF ?aB ?aS ?aL ?_
               (case aR => exact cS (Kd.R_reads' e2.out).2.2)
               (case aB => exact bS)
               (case aF => exact (fun k_ hk => ⟨Kd.fresh' (Kd.R_lt (rS a3)) k_ hk, Kd.fresh' (Kd.R_lt (rS e2)) k_ hk⟩))
               (case aO => exact (rS a5))
               (case aS => exact (below_size bS))
               (case aL => have := LMc41.out; (try dsimp only at this); omega)
               intro A4 D9 ho hb hg hat
               rw [← Ny289.out] at ho
               have o6 := aM (ho)
               replace a3 := aM (Kd.R_after (ok := (fun k_ => some k_ ≠ (.slice o1 e9.length o4 : Value).ownBlock)) (by exact rM a3) hg hat)
               replace e2 := aM (Kd.R_after (ok := (fun k_ => some k_ ≠ (.slice (some d0) a2.length n7 : Value).ownBlock)) (by exact rM e2) hg hat)
               replace HB := aM (hb)
               clear a5
               clear ho hb hg hat
               refine hK.out _ _ ?_
               clear hK K
               refine norm_ (a' := ?_) ?_ ?_
               rotate_left
               ·show Act.put _ (some 83) _ = _
                simp only [Act.put, List.setIfInBounds_toArray, List.set_cons_zero, List.set_cons_succ, i64_w, i32_w]
                rfl
               refine pU 9 (some 7) (mB 10 1023) ?_
               refine done_ (done_of HT_.out (by kernel_rfl)) ?_
               try go_wp2
               go_meet
               case rel => exact ⟨_, (n6), H', ⟨by have := HJ2.out; have := HJ5.out; have := HJ8.out; first | omega | exact Nat.le_refl _⟩, ⟨by exact rT (Kd.R_mono o6.out (fun _ hk => trivial))⟩, ⟨bS⟩⟩
              ·rw [if_neg n1] at H
               exact absurd H (by simp)
             ·rw [if_neg m8] at H
              exact absurd H (by simp)
            ·rw [if_neg j9] at H
             obtain ⟨h6, h7⟩ := eqF j9
             by_cases k0 : a1.toList = ([110, 101, 103] : List UInt8)
             ·rw [if_pos k0] at H
              obtain ⟨h8, h9⟩ := eqT k0
              clear k0
              by_cases o7 : 0 < (a2.length : Int)
              ·rw [if_pos o7] at H
               have o8 : decide (0 < (a2.length : Int)) = true := decide_eq_true o7
               have o9 : decide (0 < a2.length) = true := decide_eq_true (by omega)
               clear o7
               obtain ⟨LMc50, H⟩ := iL H
               obtain ⟨q0, hy_⟩ : ∃ y_ : List Int, y_ = (a6 ++ [wrap64 (-(rd a2 0))]) := ⟨_, rfl⟩
               replace H : (spec_StackOp.j3 kj8 l0 q0) = some (r1, r2) := yS
               have Ny293 := aM hy_
               clear hy_
               have H' := aM H
               clear H
               obtain ⟨A5, u3, u4⟩ := Kd.R_slice a3.out
               subst u4
               have g6 : 0 ≤ (0 : Int) := (by omega)
               have g7 : 0 < (a2.length : Int) := dA
               obtain ⟨q3, u5, d1⟩ := Kd.at_int (Kd.R_reads' a3.out).2.2 0 g6 g7
               cases u5
               have qi292 : (0 < a2.length) = True := eq_true (by omega)
               (try rw [show ((0 : Int)).toNat = 0 from rfl] at d1)
               (try rw [Addr.add_zero'] at d1)
               replace g6 := eq_true g6
               replace g7 := eq_true g7
               go_wp2_with (first | ((with_reducible refine gate_builtin (b := .append) (xs := #[.tmp 86, .tmp 91]) rfl ?_); at_builtin; refine Kd.R_append (Kd.int .i64) (w0 := w) w.heap.size rfl (.tmp 86) (.tmp 91) 22 3 (.int .i64 0) 8 rfl Tryz.underlying22 info3 rfl (by decide) (by omega) d3 a6 (wrap64 (-(rd a2 0))) [.int .i64 (wrap64 (-(rd a2 0)))] (fun k_ => some k_ ≠ (.slice (some q3) a2.length u3 : Value).ownBlock) (fun _ => False) rfl rfl ?aP (fun _ hk => hk.elim) ?aF ?aO ?aB ?aS ?aL ?_; (case aP => exact rfl); (case aB => exact bS); (case aF => exact (fun k_ hk => Kd.fresh' (Kd.R_lt (rS a3)) k_ hk)); (case aO => exact (rS a5)); (case aS => exact (below_size bS)); (case aL => have := LMc50.out; (try dsimp only at this); omega); intro A6 E0 ho hb hg hat; rw [← Ny293.out] at ho; have q4 := aM (ho); replace a3 := aM (Kd.R_after (ok := (fun _ => True)) (by exact rM a3) hg hat); replace HB := aM (hb); clear a5; clear ho hb hg hat))
               go_meet
               case rel => exact ⟨_, (q0), H', ⟨by have := HJ2.out; have := HJ5.out; have := HJ8.out; first | omega | exact Nat.le_refl _⟩, ⟨by exact rT (Kd.R_mono q4.out (fun _ hk => trivial))⟩, ⟨bS⟩⟩
              ·rw [if_neg o7] at H
               exact absurd H (by simp)
             ·rw [if_neg k0] at H
              obtain ⟨h8, h9⟩ := eqF k0
              by_cases k1 : a1.toList = ([100, 117, 112] : List UInt8)
              ·rw [if_pos k1] at H
               obtain ⟨i1, i3⟩ := eqT k1
               clear k1
               by_cases q5 : 0 < (a2.length : Int)
               ·rw [if_pos q5] at H
                have q6 : decide (0 < (a2.length : Int)) = true := decide_eq_true q5
                have q7 : decide (0 < a2.length) = true := decide_eq_true (by omega)
                clear q5
                obtain ⟨f0, hy_⟩ : ∃ y_ : List Int, y_ = (([rd a2 0, rd a2 0] : List Int)) := ⟨_, rfl⟩
                replace H : (if a6.length + f0.length < 17592186044416 then (spec_StackOp.j3 kj8 l0 (a6 ++ f0)) else (none)) = some (r1, r2) := yS
                have Ny298 := aM hy_
                clear hy_
                obtain ⟨LMc55, H⟩ := iL H
                obtain ⟨q8, hy_⟩ : ∃ y_ : List Int, y_ = (a6 ++ f0) := ⟨_, rfl⟩
                replace H : (spec_StackOp.j3 kj8 l0 q8) = some (r1, r2) := yS
                have Ny301 := aM hy_
                clear hy_
                have H' := aM H
                clear H
                try go_wp2
                replace a5 := rD a5
                replace a3 := rD a3
                replace HB := hD HB
                obtain ⟨A7, q9, r0⟩ := Kd.R_slice a3.out
                (first | subst r0 | obtain ⟨rfl, rfl⟩ := slE r0)
                have g8 : 0 ≤ (0 : Int) := (by omega)
                have g9 : 0 < (a2.length : Int) := dA
                obtain ⟨e3, u6, b1⟩ := Kd.at_int (Kd.R_reads' a3.out).2.2 0 g8 g9
                cases u6
                have qi296 : (0 < a2.length) = True := eq_true (by omega)
                (try rw [show ((0 : Int)).toNat = 0 from rfl] at b1)
                (try rw [Addr.add_zero'] at b1)
                replace g8 := eq_true g8
                replace g9 := eq_true g9
                have h0 : 0 ≤ (0 : Int) := (by omega)
                have h1 : 0 < (a2.length : Int) := dA
                obtain ⟨r3, u7, b2⟩ := Kd.at_int (Kd.R_reads' a3.out).2.2 0 h0 h1
                obtain rfl : e3 = r3 := (by injection u7)
                have qi297 : (0 < a2.length) = True := eq_true (by omega)
                (try rw [show ((0 : Int)).toNat = 0 from rfl] at b2)
                (try rw [Addr.add_zero'] at b2)
                replace h0 := eq_true h0
                replace h1 := eq_true h1
                refine start_ (n := 10) (S := fun w' => w'.cell? e3 = some (.int .i64 (rd a2 0)) ∧ w'.cell? e3 = some (.int .i64 (rd a2 0))) (ds := [8]) (mB 10 0) (by kernel_rfl) rfl rfl ⟨b1, b2⟩ (fun hHeld => ?_); refine with_tabW spec_StackOp.tab19 spec_StackOp.bits19 (fun HT_ HW_ => ?_)
                generalize wc.drew = E1 at a5 a3 HB b1 b2 hHeld ⊢
                refine pU 0 (some 95) (mB 10 1) ?_
                refine pU 1 (some 96) (mB 10 3) ?_
                refine pU 2 (some 97) (mB 10 7) ?_
                refine pU 4 (some 99) (mB 10 23) ?_
                refine pU 5 (some 100) (mB 10 55) ?_
                refine tK 3 (some 98) (mB 10 63) ?_
                refine tK 6 (some 101) (mB 10 127) ?_
                refine one_ (i := 7) (N := some 102) (mB 10 255) rfl rfl (one_of HT_.out (by kernel_rfl)) (by decide) (fun K hK => ?_)
                refine Kd.R_lit_step (Kd.int .i64) _ 3 ?hg (N := 102) ?hd (xs := ([rd a2 0, rd a2 0] : List Int)) (inner := [.int .i64 (rd a2 0), .int .i64 (rd a2 0)]) (ok := fun _ => True) (okp := fun _ => True) ?hr ?hp (fun _ hk => hk) trivial (Below.refl _ _) (Nat.le_refl _) (by simp) ?_; (case hd => rfl); (case hg => rfl); (case hr => first | (go_simp; done) | (go_simp; rfl)); (case hp => exact (Reps.one (show Kd.M (Kd.int .i64) _ _ _ (rd a2 0) [.int .i64 (rd a2 0)] from rfl) (Reps.one (show Kd.M (Kd.int .i64) _ _ _ (rd a2 0) [.int .i64 (rd a2 0)] from rfl) (Reps.none _ _))))
                intro A9 E2 e6 hb hg_ hnew_
                have HS0_ := (hb.cell (World.block_lt_of_cell? _ _ (hHeld.1))).trans (hHeld.1)
                have HS1_ := (hb.cell (World.block_lt_of_cell? _ _ (hHeld.2))).trans (hHeld.2)
                clear hg_ hnew_
                (first | rw [← Ny298.out] at e6 | (simp only [Int.reduceToNat] at e6; rw [← Ny298.out] at e6))
                have e4 := aM (Kd.R_lower (Kd.R_new' (Kd.R_new' e6 (Kd.R_lt (rS a5))) (Kd.R_lt (rS a3))) (below_size bS))
                replace a5 := aM (Kd.R_elder' (rS a5) (Kd.R_base e6) hb)
                replace a3 := aM (Kd.R_elder' (rS a3) (Kd.R_base e6) hb)
                replace HB := hB hb
                clear hb e6
                obtain ⟨r4, r5, r6⟩ := Kd.R_slice e4.out
                (first | subst r6 | obtain ⟨rfl, rfl⟩ := slE r6)
                refine hK.out _ _ ⟨HS0_, HS1_⟩ (fun hHeld => ?_)
                clear hK K
                refine norm_ (a' := ?_) ?_ ?_
                rotate_left
                ·show Act.put _ (some 102) _ = _
                 simp only [Act.put, List.setIfInBounds_toArray, List.set_cons_zero, List.set_cons_succ, i64_w, i32_w]
                 rfl
                refine last_ (i := 8) (N := some 103) (mB 10 511) rfl rfl (one_of HT_.out (by kernel_rfl)) (by decide) (fun K hK => ?_)
                refine Kd.R_append_rows_step (Kd.int .i64) (w0 := w) w.heap.size (by rfl) (.tmp 95) (.tmp 102) 22 3 (.int .i64 0) 8 rfl Tryz.underlying22 info3 rfl (by decide) (by omega) d3 a6 f0 _ _ _ (fun k_ => some k_ ≠ (.slice (some e3) a2.length q9 : Value).ownBlock ∧ some k_ ≠ (.slice r4 f0.length r5 : Value).ownBlock) (fun _ => False) rfl rfl ?aO ?aR (fun _ _ h => h) (fun _ h => h.elim) ?aF ?aB ?aS ?aL ?_
                (case aR => exact cS (Kd.R_reads' e4.out).2.2)
                (case aB => exact bS)
                (case aF => exact (fun k_ hk => ⟨Kd.fresh' (Kd.R_lt (rS a3)) k_ hk, Kd.fresh' (Kd.R_lt (rS e4)) k_ hk⟩))
                (case aO => exact (rS a5))
                (case aS => exact (below_size bS))
                (case aL => have := LMc55.out; (try dsimp only at this); omega)
                intro B0 E3 ho hb hg hat
                rw [← Ny301.out] at ho
                have r7 := aM (ho)
                replace a3 := aM (Kd.R_after (ok := (fun k_ => some k_ ≠ (.slice r4 f0.length r5 : Value).ownBlock)) (by exact rM a3) hg hat)
                replace e4 := aM (Kd.R_after (ok := (fun k_ => some k_ ≠ (.slice (some e3) a2.length q9 : Value).ownBlock)) (by exact rM e4) hg hat)
                replace HB := aM (hb)
                clear a5
                clear ho hb hg hat
                refine hK.out _ _ ?_
                clear hK K
                refine norm_ (a' := ?_) ?_ ?_
                rotate_left
                ·show Act.put _ (some 103) _ = _
                 simp only [Act.put, List.setIfInBounds_toArray, List.set_cons_zero, List.set_cons_succ, i64_w, i32_w]
                 rfl
                refine pU 9 (some 7) (mB 10 1023) ?_
                refine done_ (done_of HT_.out (by kernel_rfl)) ?_
                try go_wp2
                go_meet
                case rel => exact ⟨_, (q8), H', ⟨by have := HJ2.out; have := HJ5.out; have := HJ8.out; first | omega | exact Nat.le_refl _⟩, ⟨by exact rT (Kd.R_mono r7.out (fun _ hk => trivial))⟩, ⟨bS⟩⟩
               ·rw [if_neg q5] at H
                exact absurd H (by simp)
              ·rw [if_neg k1] at H
               obtain ⟨i1, i3⟩ := eqF k1
               have H' := aM H
               clear H
               go_wp2
               go_meet
               case rel => exact ⟨_, (a6), H', ⟨by have := HJ2.out; have := HJ5.out; have := HJ8.out; first | omega | exact Nat.le_refl _⟩, ⟨by exact rT (Kd.R_mono a5.out (fun _ hk => trivial))⟩, ⟨bS⟩⟩
        case rest =>
         clear i4
         try clear p2
         try clear q2
         try clear E4
         try clear qi2
         try clear c3
         try clear c4
         try clear c5
         try clear p6
         try clear E5
         try clear E6
         try clear B2
         try clear qi27
         try clear E7
         try clear E8
         try clear B8
         try clear qi28
         try clear E9
         try clear F2
         try clear C0
         try clear qi29
         try clear j8
         try clear h4
         try clear h5
         try clear m2
         try clear m3
         try clear F3
         try clear j9
         try clear h6
         try clear h7
         try clear m8
         try clear m9
         try clear n0
         try clear n1
         try clear n2
         try clear n5
         try clear F4
         try clear k0
         try clear h8
         try clear h9
         try clear o7
         try clear o8
         try clear o9
         try clear F5
         try clear k1
         try clear i1
         try clear i3
         try clear q5
         try clear q6
         try clear q7
         try clear F6
         try clear a7
         try clear a8
         try clear a9
         try clear b0
         try clear d1
         try clear b1
         try clear b2
         try clear f8
         try clear g0
         try clear g2
         try clear g4
         try clear g6
         try clear g8
         try clear h0
         try clear f9
         try clear g1
         try clear g3
         try clear g5
         try clear g7
         try clear g9
         try clear h1
         obtain ⟨kq, d4, HA, HJ15, a5, HB⟩ := hcut
         cases kq with
         | zero => exact absurd HA.out (by simp [spec_StackOp.j3])
         | succ kj15 =>
          have H := HA.out
          clear HA
          simp only [spec_StackOp.j3] at H
          replace H := bN H
          obtain ⟨u9, x8, H⟩ := H
          by_cases x9 : u9 = true
          ·subst x9
           rw [if_pos rfl] at H
           obtain ⟨rfl, rfl⟩ := sI2 H
           obtain ⟨C2, C3, v0⟩ := Kd.R_slice a5.out
           subst v0
           go_wp2_with (first | ((with_reducible refine gC 70 ?_); refine cM (some 105) Tryz.func70 (spec_StackOk.calls kj15 _ _ d4 _ _ (cS (Kd.R_reads' a5.out).2.2) ((Kd.R_reads' a5.out).2.1) x8.out) ?_; rintro e w' ⟨rfl, ⟨nd, rfl⟩⟩; refine ⟨_, rfl, ?_⟩))
           go_ret2
           exact ⟨_, eS, rS a5, bS⟩
          ·obtain rfl := Bool.eq_false_iff.mpr x9
           rw [if_neg nF] at H
           replace H := bN H
           obtain ⟨v1, C4, H⟩ := H
           obtain ⟨rfl, rfl⟩ := sI2 H
           obtain ⟨C5, C6, v2⟩ := Kd.R_slice a5.out
           subst v2
           go_wp2_with (first | ((with_reducible refine gC 70 ?_); refine cM (some 105) Tryz.func70 (spec_StackOk.calls kj15 _ _ d4 _ _ (cS (Kd.R_reads' a5.out).2.2) ((Kd.R_reads' a5.out).2.1) x8.out) ?_; rintro e w' ⟨rfl, ⟨nd, rfl⟩⟩; refine ⟨_, rfl, ?_⟩) | ((with_reducible refine gC 69 ?_); refine cM (some 108) Tryz.func69 (spec_l05Copy.calls _ _ l0 v1 _ (cS (Kd.C_below s5.out bS)) s6.out C4.out) ?_; rintro e F7 ⟨C7, rfl, f3, hb⟩; refine ⟨_, rfl, ?_⟩; have s0 := aM (Kd.R_lower (Kd.R_new' f3 (Kd.R_lt (rS a5))) (below_size bS)); replace a5 := aM (Kd.R_elder' (rS a5) (Kd.R_base f3) hb); replace HB := hB hb; (try clear hb f3)))
           go_ret2
           exact ⟨_, eS, by exact rT (Kd.R_mono s0.out (fun _ hk => trivial)), bS⟩
end Go.Proofs.YtjkgponlahfnjaaGreat.QFnExactExecToken
