/- Walks of functions of the program, made out of the translation by a program of this session: each answers what its plain function tells, for every input at which that is told. -/
import Derived.Test.YtjkgponlahfnjaaGreatQFnExactExecTokenx0
import Derived.Test.YtjkgponlahfnjaaGreatQFnExactExecTokenx1
import Derived.Test.YtjkgponlahfnjaaGreatQFnExactExecTokenx3
namespace Go.Proofs.YtjkgponlahfnjaaGreat.QFnExactExecToken
open Go.RowKit Go.Proofs.YtjkgponlahfnjaaGreatW.PrintWords Go.Proofs.YtjkgponlahfnjaaGreatW.PrintLast Go.Proofs.YtjkgponlahfnjaaGreatW.PrintMore
attribute [local go_sem] max2_int min2_int max_two min_two max_three min_three max_four min_four   -- for this text's walks alone
set_option linter.unusedVariables false
set_option linter.unusedSimpArgs false
set_option maxHeartbeats 8000000
set_option maxRecDepth 100000
/-! ### spec_l07Takes: function 26 -/
mutual
def spec_l07Takes.j0 : Nat → ByteArray → Bool → Option (Int)
 | 0, _, _ => none
 | k + 1, x3, x4 => if x4 = true then (some 0) else (if x3.toList = ([103, 114, 97, 121] : List UInt8) then (spec_l07Takes.j1 k x3 (x3.toList == ([103, 114, 97, 121] : List UInt8))) else (if x3.toList = ([116, 117, 114, 110] : List UInt8) then (spec_l07Takes.j1 k x3 (x3.toList == ([116, 117, 114, 110] : List UInt8))) else (spec_l07Takes.j1 k x3 (x3.toList == ([115, 99, 97, 108, 101] : List UInt8)))))
def spec_l07Takes.j1 : Nat → ByteArray → Bool → Option (Int)
 | 0, _, _ => none
 | k + 1, x3, x10 => if x10 = true then (some 1) else (if x3.toList = ([109, 111, 118, 101, 116, 111] : List UInt8) then (spec_l07Takes.j2 k x3 (x3.toList == ([109, 111, 118, 101, 116, 111] : List UInt8))) else (if x3.toList = ([108, 105, 110, 101, 116, 111] : List UInt8) then (spec_l07Takes.j2 k x3 (x3.toList == ([108, 105, 110, 101, 116, 111] : List UInt8))) else (spec_l07Takes.j2 k x3 (x3.toList == ([115, 104, 105, 102, 116] : List UInt8)))))
def spec_l07Takes.j2 : Nat → ByteArray → Bool → Option (Int)
 | 0, _, _ => none
 | k + 1, x3, x14 => if x14 = true then (some 2) else (if x3.toList = ([114, 101, 99, 116] : List UInt8) then (some 4) else (some (-1)))
end
def spec_l07Takes.f (k : Nat) (a0 : ByteArray) : Option (Int) := if a0.toList = ([110, 101, 119] : List UInt8) then (spec_l07Takes.j0 k a0 (a0.toList == ([110, 101, 119] : List UInt8))) else (if a0.toList = ([102, 105, 108, 108] : List UInt8) then (spec_l07Takes.j0 k a0 (a0.toList == ([102, 105, 108, 108] : List UInt8))) else (if a0.toList = ([99, 108, 105, 112] : List UInt8) then (spec_l07Takes.j0 k a0 (a0.toList == ([99, 108, 105, 112] : List UInt8))) else (if a0.toList = ([115, 97, 118, 101] : List UInt8) then (spec_l07Takes.j0 k a0 (a0.toList == ([115, 97, 118, 101] : List UInt8))) else (spec_l07Takes.j0 k a0 (a0.toList == ([114, 101, 115, 116, 111, 114, 101] : List UInt8))))))
theorem spec_l07Takes.calls (k : Nat) (a0 : ByteArray) (r : Int) (w : World) (h : spec_l07Takes.f k a0 = some r) :
  Calls Tryz.prog 26 #[.string a0] w fun e w' => e = .returned (.int .i64 r) ∧ Drawn0 w w' := by
 have H := h
 clear h
 unfold spec_l07Takes.f at H
 have e4 := aM H
 clear H
 go_enter Tryz.func26, Tryz.ntmps26
 go_upto_if 4 with (fail)
 go_cut [4] (fun v4 wc => ∃ (kq : Nat) (b0 : Bool), v4 = .bool b0 ∧ Aside0 (spec_l07Takes.j0 kq a0 b0 = some r) ∧ Aside0 (kq ≤ k) ∧ Drawn0 w wc)
 case first =>
  have H := e4.out
  clear e4
  by_cases c3 : a0.toList = ([110, 101, 119] : List UInt8)
  ·rw [if_pos c3] at H
   obtain ⟨a5, b1⟩ := eqT c3
   clear c3
   (first | rw [a5] | (simp only [i64_w, i32_w]; rw [a5]) | skip)
   have H' := aM H
   clear H
   go_wp2
   go_meet
   case rel => exact ⟨_, ((a0.toList == ([110, 101, 119] : List UInt8))), fS, H', ⟨by first | omega | exact Nat.le_refl _⟩, dS⟩
  ·rw [if_neg c3] at H
   obtain ⟨a5, b1⟩ := eqF c3
   (first | rw [a5] | (simp only [i64_w, i32_w]; rw [a5]) | skip)
   by_cases c4 : a0.toList = ([102, 105, 108, 108] : List UInt8)
   ·rw [if_pos c4] at H
    obtain ⟨b2, b6⟩ := eqT c4
    clear c4
    have H' := aM H
    clear H
    go_wp2
    go_meet
    case rel => exact ⟨_, ((a0.toList == ([102, 105, 108, 108] : List UInt8))), fS, H', ⟨by first | omega | exact Nat.le_refl _⟩, dS⟩
   ·rw [if_neg c4] at H
    obtain ⟨b2, b6⟩ := eqF c4
    by_cases c5 : a0.toList = ([99, 108, 105, 112] : List UInt8)
    ·rw [if_pos c5] at H
     obtain ⟨b7, b8⟩ := eqT c5
     clear c5
     have H' := aM H
     clear H
     go_wp2
     go_meet
     case rel => exact ⟨_, ((a0.toList == ([99, 108, 105, 112] : List UInt8))), fS, H', ⟨by first | omega | exact Nat.le_refl _⟩, dS⟩
    ·rw [if_neg c5] at H
     obtain ⟨b7, b8⟩ := eqF c5
     by_cases c6 : a0.toList = ([115, 97, 118, 101] : List UInt8)
     ·rw [if_pos c6] at H
      obtain ⟨b9, d0⟩ := eqT c6
      clear c6
      have H' := aM H
      clear H
      go_wp2
      go_meet
      case rel => exact ⟨_, ((a0.toList == ([115, 97, 118, 101] : List UInt8))), fS, H', ⟨by first | omega | exact Nat.le_refl _⟩, dS⟩
     ·rw [if_neg c6] at H
      obtain ⟨b9, d0⟩ := eqF c6
      have H' := aM H
      clear H
      go_wp2
      go_meet
      case rel => exact ⟨_, ((a0.toList == ([114, 101, 115, 116, 111, 114, 101] : List UInt8))), fS, H', ⟨by first | omega | exact Nat.le_refl _⟩, dS⟩
 case rest =>
  clear e4
  try clear c2
  try clear p2
  try clear c3
  try clear a5
  try clear b1
  try clear c4
  try clear b2
  try clear b6
  try clear c5
  try clear b7
  try clear b8
  try clear c6
  try clear b9
  try clear d0
  obtain ⟨kq, b0, rfl, HA, HJ1, ⟨mc1, rfl⟩⟩ := hcut
  cases kq with
  | zero => exact absurd HA.out (by simp [spec_l07Takes.j0])
  | succ kj1 =>
   have H := HA.out
   clear HA
   simp only [spec_l07Takes.j0] at H
   by_cases c7 : b0 = true
   ·subst c7
    rw [if_pos rfl] at H
    obtain rfl := Option.some.inj H
    go_wp2
    go_ret
    exact ⟨fS, dS⟩
   ·obtain rfl := Bool.eq_false_iff.mpr c7
    rw [if_neg nF] at H
    have e5 := aM H
    clear H
    go_upto_if 10 with (fail)
    go_cut [10] (fun e8 wc => ∃ (kq : Nat) (a7 : Bool), e8 = .bool a7 ∧ Aside0 (spec_l07Takes.j1 kq a0 a7 = some r) ∧ Aside0 (kq ≤ kj1) ∧ Drawn0 w wc)
    case first =>
     have H := e5.out
     clear e5
     by_cases c9 : a0.toList = ([103, 114, 97, 121] : List UInt8)
     ·rw [if_pos c9] at H
      obtain ⟨a6, d4⟩ := eqT c9
      clear c9
      (first | rw [a6] | (simp only [i64_w, i32_w]; rw [a6]) | skip)
      have H' := aM H
      clear H
      go_wp2
      go_meet
      case rel => exact ⟨_, ((a0.toList == ([103, 114, 97, 121] : List UInt8))), fS, H', ⟨by have := HJ1.out; first | omega | exact Nat.le_refl _⟩, dS⟩
     ·rw [if_neg c9] at H
      obtain ⟨a6, d4⟩ := eqF c9
      (first | rw [a6] | (simp only [i64_w, i32_w]; rw [a6]) | skip)
      by_cases c10 : a0.toList = ([116, 117, 114, 110] : List UInt8)
      ·rw [if_pos c10] at H
       obtain ⟨a8, a9⟩ := eqT c10
       clear c10
       have H' := aM H
       clear H
       go_wp2
       go_meet
       case rel => exact ⟨_, ((a0.toList == ([116, 117, 114, 110] : List UInt8))), fS, H', ⟨by have := HJ1.out; first | omega | exact Nat.le_refl _⟩, dS⟩
      ·rw [if_neg c10] at H
       obtain ⟨a8, a9⟩ := eqF c10
       have H' := aM H
       clear H
       go_wp2
       go_meet
       case rel => exact ⟨_, ((a0.toList == ([115, 99, 97, 108, 101] : List UInt8))), fS, H', ⟨by have := HJ1.out; first | omega | exact Nat.le_refl _⟩, dS⟩
    case rest =>
     clear e5
     try clear c1
     try clear c2
     try clear p2
     try clear c3
     try clear a5
     try clear b1
     try clear c4
     try clear b2
     try clear b6
     try clear c5
     try clear b7
     try clear b8
     try clear c6
     try clear b9
     try clear d0
     try clear c7
     try clear c9
     try clear a6
     try clear d4
     try clear c10
     try clear a8
     try clear a9
     try clear p2
     obtain ⟨kq, a7, rfl, HA, HJ7, ⟨mc7, rfl⟩⟩ := hcut
     cases kq with
     | zero => exact absurd HA.out (by simp [spec_l07Takes.j1])
     | succ kj7 =>
      have H := HA.out
      clear HA
      simp only [spec_l07Takes.j1] at H
      by_cases e6 : a7 = true
      ·subst e6
       rw [if_pos rfl] at H
       obtain rfl := Option.some.inj H
       go_wp2
       go_ret
       exact ⟨fS, dS⟩
      ·obtain rfl := Bool.eq_false_iff.mpr e6
       rw [if_neg nF] at H
       have d5 := aM H
       clear H
       go_upto_if 14 with (fail)
       go_cut [14] (fun e9 wc => ∃ (kq : Nat) (a3 : Bool), e9 = .bool a3 ∧ Aside0 (spec_l07Takes.j2 kq a0 a3 = some r) ∧ Aside0 (kq ≤ kj7) ∧ Drawn0 w wc)
       case first =>
        have H := d5.out
        clear d5
        by_cases d6 : a0.toList = ([109, 111, 118, 101, 116, 111] : List UInt8)
        ·rw [if_pos d6] at H
         obtain ⟨a2, d1⟩ := eqT d6
         clear d6
         (first | rw [a2] | (simp only [i64_w, i32_w]; rw [a2]) | skip)
         have H' := aM H
         clear H
         go_wp2
         go_meet
         case rel => exact ⟨_, ((a0.toList == ([109, 111, 118, 101, 116, 111] : List UInt8))), fS, H', ⟨by have := HJ1.out; have := HJ7.out; first | omega | exact Nat.le_refl _⟩, dS⟩
        ·rw [if_neg d6] at H
         obtain ⟨a2, d1⟩ := eqF d6
         (first | rw [a2] | (simp only [i64_w, i32_w]; rw [a2]) | skip)
         by_cases e0 : a0.toList = ([108, 105, 110, 101, 116, 111] : List UInt8)
         ·rw [if_pos e0] at H
          obtain ⟨d2, d3⟩ := eqT e0
          clear e0
          have H' := aM H
          clear H
          go_wp2
          go_meet
          case rel => exact ⟨_, ((a0.toList == ([108, 105, 110, 101, 116, 111] : List UInt8))), fS, H', ⟨by have := HJ1.out; have := HJ7.out; first | omega | exact Nat.le_refl _⟩, dS⟩
         ·rw [if_neg e0] at H
          obtain ⟨d2, d3⟩ := eqF e0
          have H' := aM H
          clear H
          go_wp2
          go_meet
          case rel => exact ⟨_, ((a0.toList == ([115, 104, 105, 102, 116] : List UInt8))), fS, H', ⟨by have := HJ1.out; have := HJ7.out; first | omega | exact Nat.le_refl _⟩, dS⟩
       case rest =>
        clear d5
        try clear c1
        try clear c2
        try clear p2
        try clear c3
        try clear a5
        try clear b1
        try clear c4
        try clear b2
        try clear b6
        try clear c5
        try clear b7
        try clear b8
        try clear c6
        try clear b9
        try clear d0
        try clear c7
        try clear c9
        try clear a6
        try clear d4
        try clear c10
        try clear a8
        try clear a9
        try clear e6
        try clear d6
        try clear a2
        try clear d1
        try clear e0
        try clear d2
        try clear d3
        try clear p2
        obtain ⟨kq, a3, rfl, HA, HJ11, ⟨mc11, rfl⟩⟩ := hcut
        cases kq with
        | zero => exact absurd HA.out (by simp [spec_l07Takes.j2])
        | succ kj11 =>
         have H := HA.out
         clear HA
         simp only [spec_l07Takes.j2] at H
         by_cases e7 : a3 = true
         ·subst e7
          rw [if_pos rfl] at H
          obtain rfl := Option.some.inj H
          go_wp2
          go_ret
          exact ⟨fS, dS⟩
         ·obtain rfl := Bool.eq_false_iff.mpr e7
          rw [if_neg nF] at H
          by_cases e1 : a0.toList = ([114, 101, 99, 116] : List UInt8)
          ·rw [if_pos e1] at H
           obtain ⟨e2, e3⟩ := eqT e1
           clear e1
           obtain rfl := Option.some.inj H
           go_wp2
           go_ret
           exact ⟨fS, dS⟩
          ·rw [if_neg e1] at H
           obtain ⟨e2, e3⟩ := eqF e1
           obtain rfl := Option.some.inj H
           go_wp2
           go_ret
           exact ⟨fS, dS⟩
def spec_PushNumber.f (k : Nat) (l0 : List Int) (a1 : Int) : Option (List Int × Bool) := (spec_l05Copy.f l0).bind fun a2 => (if a2.length < 17592186044416 then ((some (a2 ++ [a1] : List Int)).bind fun a3 => ((spec_StackOk.f k l0).bind fun a5 => (if a5 = true then ((spec_StackOk.f k a3).bind fun a6 => (if a6 = true then (some (a3, true)) else ((spec_l05Copy.f l0).bind fun a7 => (some (a7, false))))) else ((spec_l05Copy.f l0).bind fun a8 => (some (a8, false)))))) else (none))
theorem spec_PushNumber.calls (k : Nat) (A0 : Option Addr) (c0 : Nat) (l0 : List Int) (a1 : Int) (r1 : List Int) (r2 : Bool) (w : World) (hr0 : Kd.C (Kd.int .i64) w A0 l0.length l0) (d3 : l0.length ≤ c0) (h : spec_PushNumber.f k l0 a1 = some (r1, r2)) :
  Calls Tryz.prog 27 #[.slice A0 l0.length c0, .int .i64 a1] w fun e w' => ∃ v0_ : Value, e = .returned (.tuple #[v0_, .bool r2]) ∧ Kd.R (Kd.int .i64) 3 w' w.heap.size (fun _ => True) v0_ r1 ∧ Below w.heap.size w w' := by
 have a9 := aM hr0
 have b0 := aM d3
 clear hr0 d3
 have HB := aM (Below.refl w.heap.size w)
 have H := h
 clear h
 unfold spec_PushNumber.f at H
 replace H := bN H
 obtain ⟨a5, A3, H⟩ := H
 by_cases c4 : a5.length < 17592186044416
 ·rw [if_pos c4] at H
  have LMc4 := aM c4
  clear c4
  obtain ⟨a8, hy_⟩ : ∃ y_ : List Int, y_ = (a5 ++ [a1]) := ⟨_, rfl⟩
  replace H : ((spec_StackOk.f k l0).bind fun b1 => (if b1 = true then ((spec_StackOk.f k a8).bind fun b2 => (if b2 = true then (some (a8, true)) else ((spec_l05Copy.f l0).bind fun b6 => (some (b6, false))))) else ((spec_l05Copy.f l0).bind fun b7 => (some (b7, false))))) = some (r1, r2) := yS
  have Ny231 := aM hy_
  clear hy_
  replace H := bN H
  obtain ⟨b1, A5, H⟩ := H
  by_cases c6 : b1 = true
  ·subst c6
   rw [if_pos rfl] at H
   replace H := bN H
   obtain ⟨b2, A7, H⟩ := H
   by_cases c8 : b2 = true
   ·subst c8
    rw [if_pos rfl] at H
    obtain ⟨rfl, rfl⟩ := sI2 H
    go_enter Tryz.func27, Tryz.ntmps27
    go_wp2_with (first | ((with_reducible refine gC 69 ?_); refine cL (some 8) Tryz.func69 #[.slice A0 l0.length c0] ?_; (with_reducible refine (spec_l05Copy.calls _ _ l0 a5 _ ?side1 ?side2 A3.out).mono ?_); (case side1 => exact cS a9.out); (case side2 => exact b0.out); rintro e w9 ⟨a7, rfl, a6, hb⟩; refine ⟨_, rfl, ?_⟩; have a3 := aM (Kd.R_lower a6 (below_size bS)); replace HB := hB hb; (try clear hb a6)) | ((with_reducible refine gate_builtin (b := .append) (xs := #[.tmp 8, .tmp 10]) rfl ?_); at_builtin; refine Kd.R_append (Kd.int .i64) (w0 := w) w.heap.size rfl (.tmp 8) (.tmp 10) 22 3 (.int .i64 0) 8 rfl Tryz.underlying22 info3 rfl (by decide) (by omega) a7 a5 a1 [.int .i64 a1] (fun _ => True) (fun _ => False) rfl rfl ?aP (fun _ hk => hk.elim) ?aF ?aO ?aB ?aS ?aL ?_; (case aP => exact rfl); (case aB => exact bS); (case aF => exact (fun _ _ => trivial)); (case aO => exact (rS a3)); (case aS => exact (below_size bS)); (case aL => have := LMc4.out; (try dsimp only at this); omega); intro b8 e5 ho hb hg hat; rw [← Ny231.out] at ho; have a2 := aM (ho); replace HB := aM (hb); clear a3; clear ho hb hg hat) | ((with_reducible refine gC 70 ?_); refine cM (some 13) Tryz.func70 (spec_StackOk.calls k _ _ l0 _ _ (cC a9 HB) b0.out A5.out) ?_; rintro e w' ⟨rfl, ⟨nd, rfl⟩⟩; refine ⟨_, rfl, ?_⟩; obtain ⟨d4, d5, d1⟩ := Kd.R_slice a2.out; subst d1) | (go_at_call 70; (with_reducible refine (spec_StackOk.calls k _ _ a8 _ _ (cS (Kd.R_reads' a2.out).2.2) ((Kd.R_reads' a2.out).2.1) A7.out).mono ?_); rintro e w' ⟨rfl, ⟨nd, rfl⟩⟩))
    go_ret2
    exact ⟨_, eS, rS a2, bS⟩
   ·obtain rfl := Bool.eq_false_iff.mpr c8
    rw [if_neg nF] at H
    replace H := bN H
    obtain ⟨b6, d6, H⟩ := H
    obtain ⟨rfl, rfl⟩ := sI2 H
    go_enter Tryz.func27, Tryz.ntmps27
    go_wp2_with (first | ((with_reducible refine gC 69 ?_); refine cL (some 8) Tryz.func69 #[.slice A0 l0.length c0] ?_; (with_reducible refine (spec_l05Copy.calls _ _ l0 a5 _ ?side1 ?side2 A3.out).mono ?_); (case side1 => exact cS a9.out); (case side2 => exact b0.out); rintro e e6 ⟨a7, rfl, a6, hb⟩; refine ⟨_, rfl, ?_⟩; have a3 := aM (Kd.R_lower a6 (below_size bS)); replace HB := hB hb; (try clear hb a6)) | ((with_reducible refine gate_builtin (b := .append) (xs := #[.tmp 8, .tmp 10]) rfl ?_); at_builtin; refine Kd.R_append (Kd.int .i64) (w0 := w) w.heap.size rfl (.tmp 8) (.tmp 10) 22 3 (.int .i64 0) 8 rfl Tryz.underlying22 info3 rfl (by decide) (by omega) a7 a5 a1 [.int .i64 a1] (fun _ => True) (fun _ => False) rfl rfl ?aP (fun _ hk => hk.elim) ?aF ?aO ?aB ?aS ?aL ?_; (case aP => exact rfl); (case aB => exact bS); (case aF => exact (fun _ _ => trivial)); (case aO => exact (rS a3)); (case aS => exact (below_size bS)); (case aL => have := LMc4.out; (try dsimp only at this); omega); intro b8 e7 ho hb hg hat; rw [← Ny231.out] at ho; have a2 := aM (ho); replace HB := aM (hb); clear a3; clear ho hb hg hat) | ((with_reducible refine gC 70 ?_); refine cM (some 13) Tryz.func70 (spec_StackOk.calls k _ _ l0 _ _ (cC a9 HB) b0.out A5.out) ?_; rintro e w' ⟨rfl, ⟨nd, rfl⟩⟩; refine ⟨_, rfl, ?_⟩; obtain ⟨e0, e1, d2⟩ := Kd.R_slice a2.out; subst d2) | (go_at_call 70; (with_reducible refine (spec_StackOk.calls k _ _ a8 _ _ (cS (Kd.R_reads' a2.out).2.2) ((Kd.R_reads' a2.out).2.1) A7.out).mono ?_); rintro e w' ⟨rfl, ⟨nd, rfl⟩⟩) | ((with_reducible refine gC 69 ?_); refine cM (some 21) Tryz.func69 (spec_l05Copy.calls _ _ l0 b6 _ (cS (Kd.C_below a9.out bS)) b0.out d6.out) ?_; rintro e e8 ⟨e2, rfl, a6, hb⟩; refine ⟨_, rfl, ?_⟩; have b9 := aM (Kd.R_lower (Kd.R_new' a6 (Kd.R_lt (rS a2))) (below_size bS)); replace a2 := aM (Kd.R_elder' (rS a2) (Kd.R_base a6) hb); replace HB := hB hb; (try clear hb a6)))
    go_ret2
    exact ⟨_, eS, by exact rT (Kd.R_mono b9.out (fun _ hk => trivial)), bS⟩
  ·obtain rfl := Bool.eq_false_iff.mpr c6
   rw [if_neg nF] at H
   replace H := bN H
   obtain ⟨b7, e3, H⟩ := H
   obtain ⟨rfl, rfl⟩ := sI2 H
   go_enter Tryz.func27, Tryz.ntmps27
   go_wp2_with (first | ((with_reducible refine gC 69 ?_); refine cL (some 8) Tryz.func69 #[.slice A0 l0.length c0] ?_; (with_reducible refine (spec_l05Copy.calls _ _ l0 a5 _ ?side1 ?side2 A3.out).mono ?_); (case side1 => exact cS a9.out); (case side2 => exact b0.out); rintro e e9 ⟨a7, rfl, a6, hb⟩; refine ⟨_, rfl, ?_⟩; have a3 := aM (Kd.R_lower a6 (below_size bS)); replace HB := hB hb; (try clear hb a6)) | ((with_reducible refine gate_builtin (b := .append) (xs := #[.tmp 8, .tmp 10]) rfl ?_); at_builtin; refine Kd.R_append (Kd.int .i64) (w0 := w) w.heap.size rfl (.tmp 8) (.tmp 10) 22 3 (.int .i64 0) 8 rfl Tryz.underlying22 info3 rfl (by decide) (by omega) a7 a5 a1 [.int .i64 a1] (fun _ => True) (fun _ => False) rfl rfl ?aP (fun _ hk => hk.elim) ?aF ?aO ?aB ?aS ?aL ?_; (case aP => exact rfl); (case aB => exact bS); (case aF => exact (fun _ _ => trivial)); (case aO => exact (rS a3)); (case aS => exact (below_size bS)); (case aL => have := LMc4.out; (try dsimp only at this); omega); intro b8 f0 ho hb hg hat; rw [← Ny231.out] at ho; have a2 := aM (ho); replace HB := aM (hb); clear a3; clear ho hb hg hat) | ((with_reducible refine gC 70 ?_); refine cM (some 13) Tryz.func70 (spec_StackOk.calls k _ _ l0 _ _ (cC a9 HB) b0.out A5.out) ?_; rintro e w' ⟨rfl, ⟨nd, rfl⟩⟩; refine ⟨_, rfl, ?_⟩) | ((with_reducible refine gC 69 ?_); refine cM (some 21) Tryz.func69 (spec_l05Copy.calls _ _ l0 b7 _ (cS (Kd.C_below a9.out bS)) b0.out e3.out) ?_; rintro e f3 ⟨e4, rfl, a6, hb⟩; refine ⟨_, rfl, ?_⟩; have d0 := aM (Kd.R_lower (Kd.R_new' a6 (Kd.R_lt (rS a2))) (below_size bS)); replace a2 := aM (Kd.R_elder' (rS a2) (Kd.R_base a6) hb); replace HB := hB hb; (try clear hb a6)))
   go_ret2
   exact ⟨_, eS, by exact rT (Kd.R_mono d0.out (fun _ hk => trivial)), bS⟩
 ·rw [if_neg c4] at H
  exact absurd H (by simp)
def spec_IsStackOp.f (a0 : ByteArray) : Option (Bool) := if a0.toList = ([97, 100, 100] : List UInt8) then (some true) else (if a0.toList = ([115, 117, 98] : List UInt8) then (some true) else (if a0.toList = ([109, 117, 108] : List UInt8) then (some true) else (if a0.toList = ([110, 101, 103] : List UInt8) then (some true) else (if a0.toList = ([100, 117, 112] : List UInt8) then (some true) else (if a0.toList = ([112, 111, 112] : List UInt8) then (some true) else (if a0.toList = ([101, 120, 99, 104] : List UInt8) then (some true) else (some false)))))))
theorem spec_IsStackOp.lf0 {p : Prop} (h : p := by
 go_enter Tryz.func28, Tryz.ntmps28
 go_wp2
 go_ret
 exact ⟨fS, dS⟩) : p := h
theorem spec_IsStackOp.calls (a0 : ByteArray) (r : Bool) (w : World) (h : spec_IsStackOp.f a0 = some r) :
  Calls Tryz.prog 28 #[.string a0] w fun e w' => e = .returned (.bool r) ∧ Drawn0 w w' := by
 have H := h
 clear h
 unfold spec_IsStackOp.f at H
 by_cases c2 : a0.toList = ([97, 100, 100] : List UInt8)
 ·rw [if_pos c2] at H
  obtain ⟨a2, a3⟩ := eqT c2
  clear c2
  obtain rfl := Option.some.inj H
  exact spec_IsStackOp.lf0
 ·rw [if_neg c2] at H
  obtain ⟨a2, a3⟩ := eqF c2
  by_cases c3 : a0.toList = ([115, 117, 98] : List UInt8)
  ·rw [if_pos c3] at H
   obtain ⟨a5, a6⟩ := eqT c3
   clear c3
   obtain rfl := Option.some.inj H
   exact spec_IsStackOp.lf0
  ·rw [if_neg c3] at H
   obtain ⟨a5, a6⟩ := eqF c3
   by_cases c4 : a0.toList = ([109, 117, 108] : List UInt8)
   ·rw [if_pos c4] at H
    obtain ⟨a7, a8⟩ := eqT c4
    clear c4
    obtain rfl := Option.some.inj H
    exact spec_IsStackOp.lf0
   ·rw [if_neg c4] at H
    obtain ⟨a7, a8⟩ := eqF c4
    by_cases c5 : a0.toList = ([110, 101, 103] : List UInt8)
    ·rw [if_pos c5] at H
     obtain ⟨a9, b0⟩ := eqT c5
     clear c5
     obtain rfl := Option.some.inj H
     exact spec_IsStackOp.lf0
    ·rw [if_neg c5] at H
     obtain ⟨a9, b0⟩ := eqF c5
     by_cases c6 : a0.toList = ([100, 117, 112] : List UInt8)
     ·rw [if_pos c6] at H
      obtain ⟨b1, b2⟩ := eqT c6
      clear c6
      obtain rfl := Option.some.inj H
      exact spec_IsStackOp.lf0
     ·rw [if_neg c6] at H
      obtain ⟨b1, b2⟩ := eqF c6
      by_cases c7 : a0.toList = ([112, 111, 112] : List UInt8)
      ·rw [if_pos c7] at H
       obtain ⟨b6, b7⟩ := eqT c7
       clear c7
       obtain rfl := Option.some.inj H
       exact spec_IsStackOp.lf0
      ·rw [if_neg c7] at H
       obtain ⟨b6, b7⟩ := eqF c7
       by_cases c8 : a0.toList = ([101, 120, 99, 104] : List UInt8)
       ·rw [if_pos c8] at H
        obtain ⟨b8, b9⟩ := eqT c8
        clear c8
        obtain rfl := Option.some.inj H
        exact spec_IsStackOp.lf0
       ·rw [if_neg c8] at H
        obtain ⟨b8, b9⟩ := eqF c8
        obtain rfl := Option.some.inj H
        exact spec_IsStackOp.lf0
def spec_TakeNumbers.j0 : Nat → List Int → Int → Bool → Option (List Int × List Int × Bool)
 | 0, _, _, _ => none
 | k + 1, x0, x1, x17 => if x17 = true then ((spec_l05Copy.f x0).bind fun a2 => (some (a2, (([] : List Int)), false))) else (if 0 ≤ (wrap64 ((x0.length : Int) - x1)) then (if (wrap64 ((x0.length : Int) - x1)) ≤ (x0.length : Int) then ((spec_l05Copy.f (x0.take ((wrap64 ((x0.length : Int) - x1)) : Int).toNat)).bind fun a3 => ((spec_l05Copy.f (x0.drop ((wrap64 ((x0.length : Int) - x1)) : Int).toNat)).bind fun a5 => (some (a3, a5, true)))) else (none)) else (none))
def spec_TakeNumbers.f (k : Nat) (l0 : List Int) (a1 : Int) : Option (List Int × List Int × Bool) := (spec_StackOk.f k l0).bind fun a2 => (if a2 = true then ((spec_l01In.f a1 0 (l0.length : Int)).bind fun a3 => (spec_TakeNumbers.j0 k l0 a1 (!a3))) else (spec_TakeNumbers.j0 k l0 a1 true))
theorem spec_TakeNumbers.calls (k : Nat) (A0 : Option Addr) (c0 : Nat) (l0 : List Int) (a1 : Int) (r1 : List Int) (r2 : List Int) (r3 : Bool) (w : World) (hr0 : Kd.C (Kd.int .i64) w A0 l0.length l0) (e0 : l0.length ≤ c0) (h : spec_TakeNumbers.f k l0 a1 = some (r1, r2, r3)) :
  Calls Tryz.prog 30 #[.slice A0 l0.length c0, .int .i64 a1] w fun e w' => ∃ v0_ v1_ : Value, e = .returned (.tuple #[v0_, v1_, .bool r3]) ∧ Kd.R (Kd.int .i64) 3 w' w.heap.size (fun k_ => some k_ ≠ (v1_ : Value).ownBlock) v0_ r1 ∧ Kd.R (Kd.int .i64) 3 w' w.heap.size (fun k_ => some k_ ≠ (v0_ : Value).ownBlock) v1_ r2 ∧ Below w.heap.size w w' := by
 have b2 := aM hr0
 have b6 := aM e0
 clear hr0 e0
 have HB := aM (Below.refl w.heap.size w)
 have H := h
 clear h
 unfold spec_TakeNumbers.f at H
 have d4 := aM H
 clear H
 go_enter Tryz.func30, Tryz.ntmps30
 go_upto_region 1 with (fail)
 go_cut [17] (fun e7 wc => ∃ (kq : Nat) (a2 : Bool), e7 = .bool a2 ∧ Aside0 (spec_TakeNumbers.j0 kq l0 a1 a2 = some (r1, r2, r3)) ∧ Aside0 (kq ≤ k) ∧ Aside0 (Below w.heap.size w wc))
 case first =>
  have H := d4.out
  clear d4
  replace H := bN H
  obtain ⟨d5, A4, H⟩ := H
  by_cases c5 : d5 = true
  ·subst c5
   rw [if_pos rfl] at H
   replace H := bN H
   obtain ⟨b7, A6, H⟩ := H
   have H' := aM H
   clear H
   go_wp2_with (first | ((with_reducible refine gC 70 ?_); refine cM (some 9) Tryz.func70 (spec_StackOk.calls k _ _ l0 _ _ (cC b2 HB) b6.out A4.out) ?_; rintro e w' ⟨rfl, ⟨nd, rfl⟩⟩; refine ⟨_, rfl, ?_⟩) | (go_at_call 65; (with_reducible refine (spec_l01In.calls a1 0 (l0.length : Int) b7 _ A6.out).mono ?_); rintro e w' ⟨rfl, ⟨nd, rfl⟩⟩))
   go_meet
   case rel => exact ⟨_, (!b7), fS, H', ⟨by first | omega | exact Nat.le_refl _⟩, ⟨bS⟩⟩
  ·obtain rfl := Bool.eq_false_iff.mpr c5
   rw [if_neg nF] at H
   have H' := aM H
   clear H
   go_wp2_with (first | ((with_reducible refine gC 70 ?_); refine cM (some 9) Tryz.func70 (spec_StackOk.calls k _ _ l0 _ _ (cC b2 HB) b6.out A4.out) ?_; rintro e w' ⟨rfl, ⟨nd, rfl⟩⟩; refine ⟨_, rfl, ?_⟩))
   go_meet
   case rel => exact ⟨_, (true), fS, H', ⟨by first | omega | exact Nat.le_refl _⟩, ⟨bS⟩⟩
 case rest =>
  clear d4
  try clear p2
  try clear c3
  try clear c5
  obtain ⟨kq, a2, rfl, HA, HJ2, HB⟩ := hcut
  cases kq with
  | zero => exact absurd HA.out (by simp [spec_TakeNumbers.j0])
  | succ kj2 =>
   have H := HA.out
   clear HA
   simp only [spec_TakeNumbers.j0] at H
   by_cases c7 : a2 = true
   ·subst c7
    rw [if_pos rfl] at H
    replace H := bN H
    obtain ⟨b8, A8, H⟩ := H
    obtain ⟨d6, hy_⟩ : ∃ y_ : List Int, y_ = (([] : List Int)) := ⟨_, rfl⟩
    replace H : (some (b8, d6, false)) = some (r1, r2, r3) := yS
    have Ny247 := aM hy_
    clear hy_
    obtain ⟨rfl, rfl, rfl⟩ := sI3 H
    go_wp2_with (first | ((with_reducible refine gC 69 ?_); refine cM (some 19) Tryz.func69 (spec_l05Copy.calls _ _ l0 b8 _ (cC b2 HB) b6.out A8.out) ?_; rintro e w9 ⟨e8, rfl, a7, hb⟩; refine ⟨_, rfl, ?_⟩; have a3 := aM (Kd.R_lower a7 (below_size bS)); replace HB := hB hb; (try clear hb a7)) | ((with_reducible refine gate_dst (N := 20) rfl ?_); (try (refine gG (by rfl) (by rfl) ?_; dsimp only)); refine Kd.R_lit (Kd.int .i64) _ 3 ?hg (N := 20) ?hd (xs := ([] : List Int)) (inner := []) (ok := fun _ => True) (okp := fun _ => True) ?hr ?hp (fun _ hk => hk) trivial (Below.refl _ _) (Nat.le_refl _) (by simp) ?_; (case hd => rfl); (case hg => rfl); (case hr => first | (go_simp; done) | (go_simp; rfl)); (case hp => exact (Reps.none _ _)); intro e9 f8 a6 hb hg_ hnew_; clear hg_ hnew_; (first | rw [← Ny247.out] at a6 | (simp only [Int.reduceToNat] at a6; rw [← Ny247.out] at a6)); have b9 := aM (Kd.R_lower (Kd.R_new' a6 (Kd.R_lt (rS a3))) (below_size bS)); replace a3 := aM (Kd.R_elder' (rS a3) (Kd.R_base a6) hb); replace HB := hB hb; clear hb a6))
    go_ret3
    exact ⟨_, _, eS, by exact rT (Kd.R_mono a3.out (fun _ hk => hk.2)), by exact rT (Kd.R_mono b9.out (fun _ hk => hk.2)), bS⟩
   ·obtain rfl := Bool.eq_false_iff.mpr c7
    rw [if_neg nF] at H
    obtain ⟨ji12, hji12⟩ : ∃ j_ : Int, (wrap64 ((l0.length : Int) - a1)) = j_ := ⟨_, rfl⟩
    replace H : (if 0 ≤ (ji12) then (if (ji12) ≤ (l0.length : Int) then ((spec_l05Copy.f (l0.take ((ji12) : Int).toNat)).bind fun b0 => ((spec_l05Copy.f (l0.drop ((ji12) : Int).toNat)).bind fun b1 => (some (b0, b1, true)))) else (none)) else (none)) = some (r1, r2, r3) := by first | (rw [hji12] at H; exact H) | (simp only [hji12] at H ⊢; exact H)
    have hji12w : (IntKind.i64.wrap ((l0.length : Int) - a1)) = ji12 := (i64_w _).trans hji12
    by_cases d0 : 0 ≤ (ji12)
    ·rw [if_pos d0] at H
     have e1 := eq_true d0
     have e2 : decide (0 ≤ (ji12)) = true := decide_eq_true d0
     clear d0
     obtain ⟨e3, e4, H⟩ := iF H
     replace H := bN H
     obtain ⟨b0, f0, H⟩ := H
     have e5 := eq_true (dA : 0 ≤ (ji12))
     have e6 := eq_true (dA : (ji12) ≤ (l0.length : Int))
     replace H := bN H
     obtain ⟨b1, f3, H⟩ := H
     obtain ⟨rfl, rfl, rfl⟩ := sI3 H
     try go_wp2
     replace HB := hD HB
     obtain ⟨i020, hi020, _, hsz20, _⟩ := info_parts info3
     obtain ⟨hcut20, hA20, hC20⟩ := print_take_of (P := Tryz.prog) (Value.int .i64) 0 22 3 .i64 Tryz.underlying22 hi020 hsz20 A0 c0 l0 (ji12) (dA) (dA) b6.out
     have a8 := aM (Kd.C_of_reads (h1 := fun _ => rfl) (hA20 _ (Kd.reads_of_C b2.out)))
     have d1 := aM hC20
     clear hA20 hC20 hi020 hsz20
     obtain ⟨i021, hi021, _, hsz21, _⟩ := info_parts info3
     obtain ⟨f4, hcut21, hA21, hC21⟩ := print_drop_of (P := Tryz.prog) (Value.int .i64) 0 22 3 .i64 Tryz.underlying22 hi021 hsz21 A0 c0 l0 (ji12) (dA) (dA) b6.out
     have a9 := aM (Kd.C_of_reads (h1 := fun _ => rfl) (hA21 _ (Kd.reads_of_C b2.out)))
     have d2 := aM hC21
     clear hA21 hC21 hi021 hsz21
     refine start_ (n := 11) (S := fun w' => True) (ds := []) (mB 11 0) (by kernel_rfl) rfl rfl trivial (fun hHeld => ?_)
     generalize wc.drew = f9 at HB a8 a9 hHeld ⊢
     refine pU 0 (some 25) (mB 11 1) ?_
     refine pU 1 (some 26) (mB 11 3) ?_
     refine pU 2 (some 27) (mB 11 7) ?_
     refine pU 4 (some 29) (mB 11 23) ?_
     refine pU 5 (some 30) (mB 11 55) ?_
     refine pU 6 (some 31) (mB 11 119) ?_
     refine one_ (i := 3) (N := some 28) (mB 11 127) rfl rfl (by kernel_rfl) (by decide) (fun K hK => ?_)
     refine goes_ Tryz.func69 (by kernel_rfl) rfl #[.slice A0 (l0.take ((ji12) : Int).toNat).length c0] (by rfl) rfl rfl (by (try simp only [List.map_toArray, List.map_cons, List.map_nil]); first | done | (rw [show (l0.take ((ji12) : Int).toNat).length = (ji12).toNat from (by rw [List.length_take]; have h_ : ((ji12) : Int) ≤ (l0.length : Int) := dA; omega)] <;> rfl) | (simp only [hji12]; rfl) | rfl | (simp only [List.length_drop, List.length_take]; rfl)) ?_
     with_reducible refine (spec_l05Copy.calls _ _ (l0.take ((ji12) : Int).toNat) b0 _ ?side1 ?side2 f0.out).mono ?_
     (case side1 => exact cS (Kd.C_below a8.out HB.out))
     (case side2 => exact d1.out)
     rintro e g0 ⟨f5, rfl, a7, hb⟩
     refine ⟨_, rfl, ?_⟩
     have a5 := aM (Kd.R_lower a7 (below_size bS))
     replace HB := hB hb
     (try clear hb)
     (try clear f6)
     (try clear hk)
     (try clear hi)
     (try clear a7)
     refine hK.out _ _ trivial (fun hHeld => ?_)
     clear hK K
     refine norm_ (a' := ?_) ?_ ?_
     rotate_left
     ·show Act.put _ (some 28) _ = _
      simp only [Act.put, List.setIfInBounds_toArray, List.set_cons_zero, List.set_cons_succ, i64_w, i32_w]
      rfl
     refine one_ (i := 7) (N := some 32) (mB 11 255) rfl rfl (by kernel_rfl) (by decide) (fun K hK => ?_)
     refine goes_ Tryz.func69 (by kernel_rfl) rfl #[.slice f4 (l0.drop ((ji12) : Int).toNat).length (c0 - (ji12).toNat)] (by rfl) rfl rfl (by (try simp only [List.map_toArray, List.map_cons, List.map_nil]); first | done | (rw [show (l0.drop ((ji12) : Int).toNat).length = (l0.length - (ji12).toNat) from List.length_drop] <;> rfl) | (simp only [hji12]; rfl) | rfl | (simp only [List.length_drop, List.length_take]; rfl)) ?_
     with_reducible refine (spec_l05Copy.calls _ _ (l0.drop ((ji12) : Int).toNat) b1 _ ?side1 ?side2 f3.out).mono ?_
     (case side1 => exact cS (Kd.C_below a9.out HB.out))
     (case side2 => exact d2.out)
     rintro e g1 ⟨f7, rfl, a7, hb⟩
     refine ⟨_, rfl, ?_⟩
     have d3 := aM (Kd.R_lower (Kd.R_new' a7 (Kd.R_lt (rS a5))) (below_size bS))
     replace a5 := aM (Kd.R_elder' (rS a5) (Kd.R_base a7) hb)
     replace HB := hB hb
     (try clear hb)
     (try clear f6)
     (try clear hk)
     (try clear hi)
     (try clear a7)
     refine hK.out _ _ trivial (fun hHeld => ?_)
     clear hK K
     refine norm_ (a' := ?_) ?_ ?_
     rotate_left
     ·show Act.put _ (some 32) _ = _
      simp only [Act.put, List.setIfInBounds_toArray, List.set_cons_zero, List.set_cons_succ, i64_w, i32_w]
      rfl
     refine pU 8 (some 4) (mB 11 511) ?_
     refine pU 9 (some 5) (mB 11 1023) ?_
     refine pU 10 (some 6) (mB 11 2047) ?_
     refine done_ (by kernel_rfl) ?_
     try go_wp2
     go_ret3
     exact ⟨_, _, by first | rfl | (simp [errW_none, errW_some] <;> rfl) | (simp only [← hji12]; first | rfl | (simp [errW_none, errW_some] <;> rfl)) | (simp [*, errW_none, errW_some] <;> rfl), by exact rT (Kd.R_mono a5.out (fun _ hk => hk.2)), by exact rT (Kd.R_mono d3.out (fun _ hk => hk.2)), bS⟩
    ·rw [if_neg d0] at H
     exact absurd H (by simp)
end Go.Proofs.YtjkgponlahfnjaaGreat.QFnExactExecToken
