-- Made out of the translation by a program of this session (a changed copy of the print). Not trusted: Lean checks it.
import Derived.Test.YtpickbenfkcpmaaQFnRuns7x0
import Derived.Test.YtpickbenfkcpmaaQFnRuns7x2
namespace Go.Proofs.Ytpickbenfkcpmaa.QFnRuns7
open Go.RowKit Go.Proofs.YtpickbenfkcpmaaW.PrintWords Go.Proofs.YtpickbenfkcpmaaW.PrintLast Go.Proofs.YtpickbenfkcpmaaW.PrintMore
attribute [local go_sem] max2_int min2_int max_two min_two max_three min_three max_four min_four   -- for this text's walks alone
set_option linter.unusedVariables false
set_option linter.unusedSimpArgs false
set_option maxHeartbeats 8000000
set_option maxRecDepth 100000

/-! ### impl_IsName: function 38 -/
mutual
def impl_IsName.j0 : Nat → ByteArray → Bool → Option (Bool)
 | 0, _, _ => none
 | k + 1, x0, x11 => if x11 = true then (some false) else (impl_IsName.l0 k x0 0)
def impl_IsName.l0 : Nat → ByteArray → Int → Option (Bool)
 | 0, _, _ => none
 | k + 1, x0, x3 => if x3 < (x0.size : Int) then (if 0 ≤ x3 then (if (bt x0 x3) < 97 then (some false) else (if (bt x0 x3) > 122 then (some false) else (impl_IsName.l0 k x0 (wrap64 (x3 + 1))))) else (none)) else (some true)
end
def impl_IsName.f (k : Nat) (a0 : ByteArray) : Option (Bool) := if (a0.size : Int) < 1 then (impl_IsName.j0 k a0 true) else (impl_IsName.j0 k a0 (decide ((a0.size : Int) > 8)))
theorem impl_IsName.calls (k : Nat) (a0 : ByteArray) (r : Bool) (w : World) (h : impl_IsName.f k a0 = some r) :
  Calls Try.prog 38 #[.string a0] w fun e w' => e = .returned (.bool r) ∧ Drawn0 w w' := by
 have H := h
 clear h
 unfold impl_IsName.f at H
 have a8 := aM H
 clear H
 go_enter Try.func38, Try.ntmps38
 go_upto_region 1 with (fail)
 go_cut [11] (fun b6 wc => ∃ (kq : Nat) (a5 : Bool), b6 = .bool a5 ∧ Aside0 (impl_IsName.j0 kq a0 a5 = some r) ∧ Aside0 (kq ≤ k) ∧ Drawn0 w wc)
 case first =>
  have H := a8.out
  clear a8
  by_cases c3 : (a0.size : Int) < 1
  ·rw [if_pos c3] at H
   have a3 : decide ((a0.size : Int) < 1) = true := decide_eq_true c3
   have a6 : decide (a0.size < 1) = true := decide_eq_true (by omega)
   clear c3
   (first | rw [a3] | (simp only [i64_w, i32_w]; rw [a3]) | skip)
   have H' := aM H
   clear H
   go_wp2
   go_meet
   case rel => exact ⟨_, (true), fS, H', ⟨by first | omega | exact Nat.le_refl _⟩, dS⟩
  ·rw [if_neg c3] at H
   have a3 : decide ((a0.size : Int) < 1) = false := decide_eq_false c3
   have a6 : decide (a0.size < 1) = false := decide_eq_false (by omega)
   clear c3
   (first | rw [a3] | (simp only [i64_w, i32_w]; rw [a3]) | skip)
   have H' := aM H
   clear H
   go_wp2
   go_meet
   case rel => exact ⟨_, (decide ((a0.size : Int) > 8)), fS, H', ⟨by first | omega | exact Nat.le_refl _⟩, dS⟩
 case rest =>
  clear a8
  try clear p2
  try clear c3
  try clear a3
  try clear a6
  obtain ⟨kq, a5, rfl, HA, HJ1, ⟨mc1, rfl⟩⟩ := hcut
  cases kq with
  | zero => exact absurd HA.out (by simp [impl_IsName.j0])
  | succ kj1 =>
   have H := HA.out
   clear HA
   simp only [impl_IsName.j0] at H
   by_cases c4 : a5 = true
   ·subst c4
    rw [if_pos rfl] at H
    obtain rfl := Option.some.inj H
    go_wp2
    go_ret
    exact ⟨fS, dS⟩
   ·obtain rfl := Bool.eq_false_iff.mpr c4
    rw [if_neg nF] at H
    have H' := aM H
    clear H
    go_wp2
    go_loopg [3] kj1 (fun kq v3 w' => ∃ (a2 : Int), v3 = .int .i64 a2 ∧ Aside0 (impl_IsName.l0 kq a0 a2 = some r) ∧ Aside0 (kq ≤ kj1) ∧ Drawn0 w w')
    case atStart => exact ⟨(0), fS, H', ⟨Nat.le_refl _⟩, dS⟩
    case round =>
     clear H'
     try clear c1
     try clear p2
     try clear c3
     try clear a3
     try clear a6
     try clear c4
     try clear p2
     obtain ⟨a2, rfl, HA, b1, ⟨m2, rfl⟩⟩ := hrel
     cases gk with
     | zero => exact absurd HA.out (by simp [impl_IsName.l0])
     | succ k2 =>
      have H := HA.out
      clear HA
      simp only [impl_IsName.l0] at H
      rcases iD H with ⟨a9, H⟩ | ⟨a9, H⟩
      ·obtain ⟨b7, H⟩ := iT H
       rcases iD H with ⟨b0, H⟩ | ⟨b0, H⟩
       ·obtain rfl := Option.some.inj H
        have p7 : 0 ≤ (a2 : Int) := dA
        have q7 : a2 < (a0.size : Int) := dA
        have b2 := bt_at a0 a2
        replace p7 := eq_true p7
        replace q7 := eq_true q7
        go_wp2
        go_ret
        exact ⟨fS, dS⟩
       ·by_cases c10 : (bt a0 a2) > 122
        ·rw [if_pos c10] at H
         have a7 : decide (122 < (bt a0 a2)) = true := decide_eq_true c10
         clear c10
         obtain rfl := Option.some.inj H
         have p7 : 0 ≤ (a2 : Int) := dA
         have q7 : a2 < (a0.size : Int) := dA
         have b2 := bt_at a0 a2
         replace p7 := eq_true p7
         replace q7 := eq_true q7
         have p9 : 0 ≤ (a2 : Int) := dA
         have q9 : a2 < (a0.size : Int) := dA
         have b8 := bt_at a0 a2
         replace p9 := eq_true p9
         replace q9 := eq_true q9
         go_wp2
         go_ret
         exact ⟨fS, dS⟩
        ·rw [if_neg c10] at H
         have a7 : decide (122 < (bt a0 a2)) = false := decide_eq_false c10
         clear c10
         have H' := aM H
         clear H
         have p7 : 0 ≤ (a2 : Int) := dA
         have q7 : a2 < (a0.size : Int) := dA
         have b2 := bt_at a0 a2
         replace p7 := eq_true p7
         replace q7 := eq_true q7
         have p9 : 0 ≤ (a2 : Int) := dA
         have q9 : a2 < (a0.size : Int) := dA
         have b8 := bt_at a0 a2
         replace p9 := eq_true p9
         replace q9 := eq_true q9
         go_wp2
         go_roundg k2
         case measure => have := HJ1.out; have := b1.out; omega
         case rel => exact ⟨(wrap64 (a2 + 1)), fS, H', ⟨by have := HJ1.out; have := b1.out; omega⟩, dS⟩
      ·obtain rfl := Option.some.inj H
       go_wp2
       go_ret
       exact ⟨fS, dS⟩

/-! ### impl_TokenOk: function 20 -/
def impl_TokenOk.f (k : Nat) (a2 : ByteArray) (a3 : Int) : Option (Bool) := if a2.toList = ([] : List UInt8) then ((impl_within.f a3 (-999) 999).bind fun a5 => (some a5)) else ((impl_IsName.f k a2).bind fun a6 => (if a6 = true then (some (a3 == 0)) else (some false)))
theorem impl_TokenOk.calls (k : Nat) (a2 : ByteArray) (a5 : Int) (r : Bool) (w : World) (h : impl_TokenOk.f k a2 a5 = some r) :
  Calls Try.prog 20 #[.agg #[.string a2, .int .i64 a5]] w fun e w' => e = .returned (.bool r) ∧ Below w.heap.size w w' := by
 have hu46 := Try.underlying46
 have HB := aM (Below.refl w.heap.size w)
 have H := h
 clear h
 unfold impl_TokenOk.f at H
 by_cases c2 : a2.toList = ([] : List UInt8)
 ·rw [if_pos c2] at H
  obtain ⟨a7, a8⟩ := eqT c2
  clear c2
  replace H := bN H
  obtain ⟨a9, A3, H⟩ := H
  obtain rfl := Option.some.inj H
  go_enter Try.func20, Try.ntmps20
  go_wp2_with (first | ((with_reducible refine gD 1 ?_); refine bxE #[.string a2, .int .i64 a5] 46 ?_; intro a6 hg w4 a3 hb; have GE343 := gE hg; replace HB := hB hb; clear hb hg; have hz5 := cz2 a3) | ((with_reducible refine gC 34 ?_); refine cM (some 8) Try.func34 (impl_within.calls a5 (-999) 999 a9 _ A3.out) ?_; rintro e w' ⟨rfl, ⟨nd, rfl⟩⟩; refine ⟨_, rfl, ?_⟩))
  go_ret
  exact ⟨eS, bS⟩
 ·rw [if_neg c2] at H
  obtain ⟨a7, a8⟩ := eqF c2
  replace H := bN H
  obtain ⟨b0, A6, H⟩ := H
  by_cases c7 : b0 = true
  ·subst c7
   rw [if_pos rfl] at H
   obtain rfl := Option.some.inj H
   go_enter Try.func20, Try.ntmps20
   go_wp2_with (first | ((with_reducible refine gD 1 ?_); refine bxE #[.string a2, .int .i64 a5] 46 ?_; intro a6 hg w8 a3 hb; have GE343 := gE hg; replace HB := hB hb; clear hb hg; have hz9 := cz2 a3) | ((with_reducible refine gC 38 ?_); refine cM (some 11) Try.func38 (impl_IsName.calls k a2 _ _ A6.out) ?_; rintro e w' ⟨rfl, ⟨nd, rfl⟩⟩; refine ⟨_, rfl, ?_⟩))
   go_ret
   exact ⟨eS, bS⟩
  ·obtain rfl := Bool.eq_false_iff.mpr c7
   rw [if_neg nF] at H
   obtain rfl := Option.some.inj H
   go_enter Try.func20, Try.ntmps20
   go_wp2_with (first | ((with_reducible refine gD 1 ?_); refine bxE #[.string a2, .int .i64 a5] 46 ?_; intro a6 hg b1 a3 hb; have GE343 := gE hg; replace HB := hB hb; clear hb hg; have hz11 := cz2 a3) | ((with_reducible refine gC 38 ?_); refine cM (some 11) Try.func38 (impl_IsName.calls k a2 _ _ A6.out) ?_; rintro e w' ⟨rfl, ⟨nd, rfl⟩⟩; refine ⟨_, rfl, ?_⟩))
   go_ret
   exact ⟨eS, bS⟩

/-! ### impl_tokensOk: function 33 -/
def impl_tokensOk.l0 : Nat → List (S46) → Int → Int → Option (Bool)
 | 0, _, _, _ => none
 | k + 1, x5, x6, x7 => if x7 < x6 then (if 0 ≤ x7 then (if x7 < (x5.length : Int) then ((impl_TokenOk.f k ((rd_T46 x5 x7).f0) ((rd_T46 x5 x7).f1)).bind fun a2 => (if a2 = true then (impl_tokensOk.l0 k x5 x6 (wrap64 (x7 + 1))) else (some false))) else (none)) else (none)) else (some true)
def impl_tokensOk.f (k : Nat) (l0 : List (S46)) : Option (Bool) := impl_tokensOk.l0 k l0 (l0.length : Int) 0
theorem impl_tokensOk.calls (k : Nat) (A0 : Option Addr) (c0 : Nat) (l0 : List (S46)) (r : Bool) (w : World) (hr0 : Kd.C k46 w A0 l0.length l0) (b7 : l0.length ≤ c0) (h : impl_tokensOk.f k l0 = some r) :
  Calls Try.prog 33 #[.slice A0 l0.length c0] w fun e w' => e = .returned (.bool r) ∧ Below w.heap.size w w' := by
 have hu46 := Try.underlying46
 have b8 := aM hr0
 have d2 := aM b7
 clear hr0 b7
 have HB := aM (Below.refl w.heap.size w)
 have H := h
 clear h
 unfold impl_tokensOk.f at H
 have H' := aM H
 clear H
 go_enter Try.func33, Try.ntmps33
 go_wp2
 go_loopg [7] k (fun kq v7 w' => ∃ (a2 : Int), v7 = .int .i64 a2 ∧ Aside0 (impl_tokensOk.l0 kq l0 (l0.length : Int) a2 = some r) ∧ Aside0 (kq ≤ k) ∧ Aside0 (Below w.heap.size w w'))
 case atStart => exact ⟨(0), fS, H', ⟨Nat.le_refl _⟩, ⟨bS⟩⟩
 case round =>
  clear H'
  obtain ⟨a2, rfl, HA, b9, HB⟩ := hrel
  cases gk with
  | zero => exact absurd HA.out (by simp [impl_tokensOk.l0])
  | succ k1 =>
   have H := HA.out
   clear HA
   simp only [impl_tokensOk.l0] at H
   rcases iD H with ⟨b2, H⟩ | ⟨b2, H⟩
   ·obtain ⟨d0, H⟩ := iT H
    obtain ⟨d1, H⟩ := iT H
    replace H := bN H
    obtain ⟨b6, A5, H⟩ := H
    by_cases c6 : b6 = true
    ·subst c6
     rw [if_pos rfl] at H
     have H' := aM H
     clear H
     have a7 : 0 ≤ (a2 : Int) := dA
     have a8 : a2 < (l0.length : Int) := dA
     obtain ⟨b1, b0, a3, a5⟩ := at_T46 b8.out a2 a7 a8
     cases b0
     replace a3 := cB HB a3
     replace a5 := cB HB a5
     replace a7 := eq_true a7
     replace a8 := eq_true a8
     go_wp2_with (first | ((with_reducible refine gD 4 ?_); refine bxE #[.string (⟨#[]⟩ : ByteArray), .int .i64 0] 46 ?_; intro a9 hg w7 a6 hb; have GE347 := gE hg; replace HB := hB hb; clear hb hg; have hz8 := cz2 a6) | ((with_reducible refine gC 20 ?_); refine cM (some 12) Try.func20 (impl_TokenOk.calls k1 ((rd_T46 l0 a2).f0) ((rd_T46 l0 a2).f1) _ _ A5.out) ?_; rintro e w9 ⟨rfl, hb⟩; refine ⟨_, rfl, ?_⟩; replace a6 := kO a9 #[.string ((rd_T46 l0 a2).f0), .int .i64 ((rd_T46 l0 a2).f1)] 46 hb; replace HB := hB hb; (try clear hb)))
     go_roundg k1
     case measure => have := b9.out; omega
     case rel => exact ⟨(wrap64 (a2 + 1)), fS, H', ⟨by have := b9.out; omega⟩, ⟨bS⟩⟩
    ·obtain rfl := Bool.eq_false_iff.mpr c6
     rw [if_neg nF] at H
     obtain rfl := Option.some.inj H
     have a7 : 0 ≤ (a2 : Int) := dA
     have a8 : a2 < (l0.length : Int) := dA
     obtain ⟨b1, b0, a3, a5⟩ := at_T46 b8.out a2 a7 a8
     cases b0
     replace a3 := cB HB a3
     replace a5 := cB HB a5
     replace a7 := eq_true a7
     replace a8 := eq_true a8
     go_wp2_with (first | ((with_reducible refine gD 4 ?_); refine bxE #[.string (⟨#[]⟩ : ByteArray), .int .i64 0] 46 ?_; intro a9 hg d3 a6 hb; have GE347 := gE hg; replace HB := hB hb; clear hb hg; have hz11 := cz2 a6) | ((with_reducible refine gC 20 ?_); refine cM (some 12) Try.func20 (impl_TokenOk.calls k1 ((rd_T46 l0 a2).f0) ((rd_T46 l0 a2).f1) _ _ A5.out) ?_; rintro e d4 ⟨rfl, hb⟩; refine ⟨_, rfl, ?_⟩; replace a6 := kO a9 #[.string ((rd_T46 l0 a2).f0), .int .i64 ((rd_T46 l0 a2).f1)] 46 hb; replace HB := hB hb; (try clear hb)))
     go_ret
     exact ⟨eS, bS⟩
   ·obtain rfl := Option.some.inj H
    go_wp2
    go_ret
    exact ⟨eS, bS⟩

/-! ### impl_BlocksOk: function 15 -/
mutual
def impl_BlocksOk.j0 : Nat → List (S46) → Bool → Option (Bool)
 | 0, _, _ => none
 | k + 1, x0, a3 => if a3 = true then (some false) else (impl_BlocksOk.l0 k x0 0 x0 (x0.length : Int) 0)
def impl_BlocksOk.l0 : Nat → List (S46) → Int → List (S46) → Int → Int → Option (Bool)
 | 0, _, _, _, _, _ => none
 | k + 1, x0, x3, x14, x15, x16 => if x16 < x15 then (if 0 ≤ x16 then (if x16 < (x14.length : Int) then (if ((rd_T46 x14 x16).f0).toList = ([114, 101, 112, 101, 97, 116] : List UInt8) then (if x16 = 0 then (impl_BlocksOk.j2 k x0 x3 x14 x15 x16 true) else (if 0 ≤ (wrap64 (x16 - 1)) then (if (wrap64 (x16 - 1)) < (x0.length : Int) then (if ((rd_T46 x0 (wrap64 (x16 - 1))).f0).toList = ([] : List UInt8) then ((impl_within.f ((rd_T46 x0 (wrap64 (x16 - 1))).f1) 0 9).bind fun a2 => (impl_BlocksOk.j2 k x0 x3 x14 x15 x16 (!a2))) else (impl_BlocksOk.j2 k x0 x3 x14 x15 x16 true)) else (none)) else (none))) else (if ((rd_T46 x14 x16).f0).toList = ([101, 110, 100] : List UInt8) then (if (wrap64 (x3 - 1)) < 0 then (some false) else (impl_BlocksOk.l0 k x0 (wrap64 (x3 - 1)) x14 x15 (wrap64 (x16 + 1)))) else (impl_BlocksOk.l0 k x0 x3 x14 x15 (wrap64 (x16 + 1))))) else (none)) else (none)) else (some (x3 == 0))
def impl_BlocksOk.j2 : Nat → List (S46) → Int → List (S46) → Int → Int → Bool → Option (Bool)
 | 0, _, _, _, _, _, _ => none
 | k + 1, x0, x3, x14, x15, x16, a5 => if a5 = true then (some false) else (if (wrap64 (x3 + 1)) > 3 then (some false) else (impl_BlocksOk.l0 k x0 (wrap64 (x3 + 1)) x14 x15 (wrap64 (x16 + 1))))
end
def impl_BlocksOk.f (k : Nat) (l0 : List (S46)) : Option (Bool) := if (l0.length : Int) > 60 then (impl_BlocksOk.j0 k l0 true) else ((impl_tokensOk.f k l0).bind fun a2 => (impl_BlocksOk.j0 k l0 (!a2)))
theorem impl_BlocksOk.calls (k : Nat) (A0 : Option Addr) (c0 : Nat) (l0 : List (S46)) (r : Bool) (w : World) (hr0 : Kd.C k46 w A0 l0.length l0) (h3 : l0.length ≤ c0) (h : impl_BlocksOk.f k l0 = some r) :
  Calls Try.prog 15 #[.slice A0 l0.length c0] w fun e w' => e = .returned (.bool r) ∧ Below w.heap.size w w' := by
 have hu46 := Try.underlying46
 have e5 := aM hr0
 have h5 := aM h3
 clear hr0 h3
 have HB := aM (Below.refl w.heap.size w)
 have H := h
 clear h
 unfold impl_BlocksOk.f at H
 have g9 := aM H
 clear H
 go_enter Try.func15, Try.ntmps15
 go_upto_region 1 with (fail)
 go_cut [13] (fun h6 wc => ∃ (kq : Nat) (d5 : Bool), h6 = .bool d5 ∧ Aside0 (impl_BlocksOk.j0 kq l0 d5 = some r) ∧ Aside0 (kq ≤ k) ∧ Aside0 (Below w.heap.size w wc))
 case first =>
  have H := g9.out
  clear g9
  by_cases c3 : (l0.length : Int) > 60
  ·rw [if_pos c3] at H
   have d1 : decide (60 < (l0.length : Int)) = true := decide_eq_true c3
   have e0 : decide (60 < l0.length) = true := decide_eq_true (by omega)
   clear c3
   (first | rw [d1] | (simp only [i64_w, i32_w]; rw [d1]) | skip)
   have H' := aM H
   clear H
   go_wp2
   go_meet
   case rel => exact ⟨_, (true), fS, H', ⟨by first | omega | exact Nat.le_refl _⟩, ⟨bS⟩⟩
  ·rw [if_neg c3] at H
   have d1 : decide (60 < (l0.length : Int)) = false := decide_eq_false c3
   have e0 : decide (60 < l0.length) = false := decide_eq_false (by omega)
   clear c3
   (first | rw [d1] | (simp only [i64_w, i32_w]; rw [d1]) | skip)
   replace H := bN H
   obtain ⟨f9, A4, H⟩ := H
   have H' := aM H
   clear H
   go_wp2_with (first | (go_at_call 33; (with_reducible refine (impl_tokensOk.calls k _ _ l0 f9 _ (cC e5 HB) h5.out A4.out).mono ?_); rintro e w5 ⟨rfl, hb⟩; replace HB := hB hb; (try clear hb)))
   go_meet
   case rel => exact ⟨_, (!f9), fS, H', ⟨by first | omega | exact Nat.le_refl _⟩, ⟨bS⟩⟩
 case rest =>
  clear g9
  try clear c1
  try clear p2
  try clear c3
  try clear d1
  try clear e0
  obtain ⟨kq, d5, rfl, HA, HJ1, HB⟩ := hcut
  cases kq with
  | zero => exact absurd HA.out (by simp [impl_BlocksOk.j0])
  | succ kj1 =>
   have H := HA.out
   clear HA
   simp only [impl_BlocksOk.j0] at H
   by_cases c6 : d5 = true
   ·subst c6
    rw [if_pos rfl] at H
    obtain rfl := Option.some.inj H
    go_wp2
    go_ret
    exact ⟨eS, bS⟩
   ·obtain rfl := Bool.eq_false_iff.mpr c6
    rw [if_neg nF] at H
    have H' := aM H
    clear H
    go_wp2
    go_loopg [3, 16] kj1 (fun kq v3 h7 w' => ∃ (b8 : Int) (a2 : Int), v3 = .int .i64 b8 ∧ h7 = .int .i64 a2 ∧ Aside0 (impl_BlocksOk.l0 kq l0 b8 l0 (l0.length : Int) a2 = some r) ∧ Aside0 (kq ≤ kj1) ∧ Aside0 (Below w.heap.size w w'))
    case atStart => exact ⟨(0), (0), fS, fS, H', ⟨Nat.le_refl _⟩, ⟨bS⟩⟩
    case round =>
     clear H'
     try clear c1
     try clear p2
     try clear c3
     try clear d1
     try clear e0
     try clear c6
     try clear p2
     obtain ⟨b8, a2, rfl, rfl, HA, e1, HB⟩ := hrel
     cases gk with
     | zero => exact absurd HA.out (by simp [impl_BlocksOk.l0])
     | succ k2 =>
      have H := HA.out
      clear HA
      simp only [impl_BlocksOk.l0] at H
      by_cases c7 : a2 < (l0.length : Int)
      ·rw [if_pos c7] at H
       have g0 : decide (a2 < (l0.length : Int)) = true := decide_eq_true c7
       clear c7
       by_cases c8 : 0 ≤ a2
       ·rw [if_pos c8] at H
        have h0 : decide (0 ≤ a2) = true := decide_eq_true c8
        clear c8
        by_cases c9 : a2 < (l0.length : Int)
        ·rw [if_pos c9] at H
         have h1 : decide (a2 < (l0.length : Int)) = true := decide_eq_true c9
         clear c9
         by_cases c10 : ((rd_T46 l0 a2).f0).toList = ([114, 101, 112, 101, 97, 116] : List UInt8)
         ·rw [if_pos c10] at H
          obtain ⟨e6, e7⟩ := eqT c10
          clear c10
          have f5 := aM H
          clear H
          have b2 : 0 ≤ (a2 : Int) := dA
          have b6 : a2 < (l0.length : Int) := dA
          obtain ⟨b1, d4, a7, a8⟩ := at_T46 e5.out a2 b2 b6
          cases d4
          replace a7 := cB HB a7
          replace a8 := cB HB a8
          replace b2 := eq_true b2
          replace b6 := eq_true b6
          go_upto_region 9 with (first | ((with_reducible refine gD 5 ?_); refine bxE #[.string (⟨#[]⟩ : ByteArray), .int .i64 0] 46 ?_; intro a6 hg i1 b7 hb; have GE351 := gE hg; replace HB := hB hb; clear hb hg; have hz13 := cz2 b7))
          (try simp only [Act.put, List.setIfInBounds_toArray, List.set_cons_zero, List.set_cons_succ])
          go_cut [45] (fun h8 wc => ∃ (kq : Nat) (d0 : Bool), h8 = .bool d0 ∧ Aside0 (impl_BlocksOk.j2 kq l0 b8 l0 (l0.length : Int) a2 d0 = some r) ∧ Aside0 (kq ≤ k2) ∧ Aside0 (wc.heap[a6]? = some (.cells #[.string ((rd_T46 l0 a2).f0), .int .i64 ((rd_T46 l0 a2).f1)] 46 (0, 0))) ∧ Aside0 (Below w.heap.size w wc))
          case first =>
           have H := f5.out
           clear f5
           by_cases e8 : a2 = 0
           ·rw [if_pos e8] at H
            have b9 : (a2 == 0) = true := beq_iff_eq.mpr e8
            have e9 : (a2 != 0) = false := bne_eq_false_iff_eq.mpr e8
            clear e8
            (first | rw [b9] | (simp only [i64_w, i32_w]; rw [b9]) | skip)
            have H' := aM H
            clear H
            go_wp2
            go_meet
            case rel => exact ⟨_, (true), fS, H', ⟨by have := HJ1.out; have := e1.out; first | omega | exact Nat.le_refl _⟩, ⟨kS⟩, ⟨bS⟩⟩
           ·rw [if_neg e8] at H
            have b9 : (a2 == 0) = false := beq_eq_false_iff_ne.mpr e8
            have e9 : (a2 != 0) = true := bne_iff_ne.mpr e8
            (first | rw [b9] | (simp only [i64_w, i32_w]; rw [b9]) | skip)
            obtain ⟨ji15, hji15⟩ : ∃ j_ : Int, (wrap64 (a2 - 1)) = j_ := ⟨_, rfl⟩
            replace H : (if 0 ≤ (ji15) then (if (ji15) < (l0.length : Int) then (if ((rd_T46 l0 (ji15)).f0).toList = ([] : List UInt8) then ((impl_within.f ((rd_T46 l0 (ji15)).f1) 0 9).bind fun e2 => (impl_BlocksOk.j2 k2 l0 b8 l0 (l0.length : Int) a2 (!e2))) else (impl_BlocksOk.j2 k2 l0 b8 l0 (l0.length : Int) a2 true)) else (none)) else (none)) = some r := by first | (rw [hji15] at H; exact H) | (simp only [hji15] at H ⊢; exact H)
            have hji15w : (IntKind.i64.wrap (a2 - 1)) = ji15 := (i64_w _).trans hji15
            obtain ⟨g1, H⟩ := iT H
            obtain ⟨g2, H⟩ := iT H
            by_cases f7 : ((rd_T46 l0 (ji15)).f0).toList = ([] : List UInt8)
            ·rw [if_pos f7] at H
             obtain ⟨f3, f4⟩ := eqT f7
             clear f7
             replace H := bN H
             obtain ⟨e2, h9, H⟩ := H
             have H' := aM H
             clear H
             have d2 : 0 ≤ ((ji15) : Int) := dA
             have d3 : (ji15) < (l0.length : Int) := dA
             obtain ⟨d6, f6, a3, a5⟩ := at_T46 e5.out (ji15) d2 d3
             obtain rfl : b1 = d6 := (by injection f6)
             have hn352_0 : b1.block ≠ a6 := nA a3 GE351
             have hn352_1 : b1.block ≠ a6 := nA a3 GE351
             replace a3 := cB HB a3
             replace a5 := cB HB a5
             replace a3 := (cell_far (p := ⟨a6, 0, none⟩) (by first | (rw [add_block]; exact hn352_0) | (show (Addr.add _ _).block ≠ _; rw [add_block]; exact hn352_0) | exact hn352_0) (.string ((rd_T46 l0 a2).f0))).trans a3
             replace a5 := (cell_far (p := ⟨a6, 0, none⟩) (by first | (rw [add_block]; exact hn352_0) | (show (Addr.add _ _).block ≠ _; rw [add_block]; exact hn352_0) | exact hn352_0) (.string ((rd_T46 l0 a2).f0))).trans a5
             replace a3 := (cell_far (p := ⟨a6, 1, none⟩) (by first | (rw [add_block]; exact hn352_1) | (show (Addr.add _ _).block ≠ _; rw [add_block]; exact hn352_1) | exact hn352_1) (.int .i64 ((rd_T46 l0 a2).f1))).trans a3
             replace a5 := (cell_far (p := ⟨a6, 1, none⟩) (by first | (rw [add_block]; exact hn352_1) | (show (Addr.add _ _).block ≠ _; rw [add_block]; exact hn352_1) | exact hn352_1) (.int .i64 ((rd_T46 l0 a2).f1))).trans a5
             clear hn352_0
             clear hn352_1
             replace d2 := eq_true d2
             replace d3 := eq_true d3
             have e3 : 0 ≤ ((ji15) : Int) := dA
             have e4 : (ji15) < (l0.length : Int) := dA
             obtain ⟨g3, h2, a9, b0⟩ := at_T46 e5.out (ji15) e3 e4
             obtain rfl : b1 = g3 := (by injection h2)
             have hn353_0 : b1.block ≠ a6 := nA a9 GE351
             have hn353_1 : b1.block ≠ a6 := nA a9 GE351
             replace a9 := cB HB a9
             replace b0 := cB HB b0
             replace a9 := (cell_far (p := ⟨a6, 0, none⟩) (by first | (rw [add_block]; exact hn353_0) | (show (Addr.add _ _).block ≠ _; rw [add_block]; exact hn353_0) | exact hn353_0) (.string ((rd_T46 l0 a2).f0))).trans a9
             replace b0 := (cell_far (p := ⟨a6, 0, none⟩) (by first | (rw [add_block]; exact hn353_0) | (show (Addr.add _ _).block ≠ _; rw [add_block]; exact hn353_0) | exact hn353_0) (.string ((rd_T46 l0 a2).f0))).trans b0
             replace a9 := (cell_far (p := ⟨a6, 1, none⟩) (by first | (rw [add_block]; exact hn353_1) | (show (Addr.add _ _).block ≠ _; rw [add_block]; exact hn353_1) | exact hn353_1) (.int .i64 ((rd_T46 l0 a2).f1))).trans a9
             replace b0 := (cell_far (p := ⟨a6, 1, none⟩) (by first | (rw [add_block]; exact hn353_1) | (show (Addr.add _ _).block ≠ _; rw [add_block]; exact hn353_1) | exact hn353_1) (.int .i64 ((rd_T46 l0 a2).f1))).trans b0
             clear hn353_0
             clear hn353_1
             replace e3 := eq_true e3
             replace e4 := eq_true e4
             go_wp2_with (first | (go_at_call 34; (with_reducible refine (impl_within.calls ((rd_T46 l0 (ji15)).f1) 0 9 e2 _ h9.out).mono ?_); rintro e w' ⟨rfl, ⟨nd, rfl⟩⟩))
             go_meet
             case rel => exact ⟨_, (!e2), fS, H', ⟨by have := HJ1.out; have := e1.out; first | omega | exact Nat.le_refl _⟩, ⟨kS⟩, ⟨bS⟩⟩
            ·rw [if_neg f7] at H
             obtain ⟨f3, f4⟩ := eqF f7
             have H' := aM H
             clear H
             have d2 : 0 ≤ ((ji15) : Int) := dA
             have d3 : (ji15) < (l0.length : Int) := dA
             obtain ⟨d6, f6, a3, a5⟩ := at_T46 e5.out (ji15) d2 d3
             obtain rfl : b1 = d6 := (by injection f6)
             have hn352_0 : b1.block ≠ a6 := nA a3 GE351
             have hn352_1 : b1.block ≠ a6 := nA a3 GE351
             replace a3 := cB HB a3
             replace a5 := cB HB a5
             replace a3 := (cell_far (p := ⟨a6, 0, none⟩) (by first | (rw [add_block]; exact hn352_0) | (show (Addr.add _ _).block ≠ _; rw [add_block]; exact hn352_0) | exact hn352_0) (.string ((rd_T46 l0 a2).f0))).trans a3
             replace a5 := (cell_far (p := ⟨a6, 0, none⟩) (by first | (rw [add_block]; exact hn352_0) | (show (Addr.add _ _).block ≠ _; rw [add_block]; exact hn352_0) | exact hn352_0) (.string ((rd_T46 l0 a2).f0))).trans a5
             replace a3 := (cell_far (p := ⟨a6, 1, none⟩) (by first | (rw [add_block]; exact hn352_1) | (show (Addr.add _ _).block ≠ _; rw [add_block]; exact hn352_1) | exact hn352_1) (.int .i64 ((rd_T46 l0 a2).f1))).trans a3
             replace a5 := (cell_far (p := ⟨a6, 1, none⟩) (by first | (rw [add_block]; exact hn352_1) | (show (Addr.add _ _).block ≠ _; rw [add_block]; exact hn352_1) | exact hn352_1) (.int .i64 ((rd_T46 l0 a2).f1))).trans a5
             clear hn352_0
             clear hn352_1
             replace d2 := eq_true d2
             replace d3 := eq_true d3
             go_wp2
             go_meet
             case rel => exact ⟨_, (true), fS, H', ⟨by have := HJ1.out; have := e1.out; first | omega | exact Nat.le_refl _⟩, ⟨kS⟩, ⟨bS⟩⟩
          case rest =>
           clear f5
           try clear c1
           try clear p2
           try clear c3
           try clear d1
           try clear e0
           try clear p3
           try clear q3
           try clear i3
           try clear c6
           try clear p6
           try clear c7
           try clear g0
           try clear c8
           try clear h0
           try clear c9
           try clear h1
           try clear c10
           try clear e6
           try clear e7
           try clear e8
           try clear b9
           try clear e9
           try clear i4
           try clear i5
           try clear g1
           try clear i6
           try clear g2
           try clear f7
           try clear f3
           try clear f4
           try clear a7
           try clear a8
           try clear a3
           try clear a5
           try clear a9
           try clear b0
           try clear p2
           try clear b2
           try clear d2
           try clear e3
           try clear b6
           try clear d3
           try clear e4
           obtain ⟨kq, d0, rfl, HA, HJ10, b7, HB⟩ := hcut
           cases kq with
           | zero => exact absurd HA.out (by simp [impl_BlocksOk.j2])
           | succ kj10 =>
            have H := HA.out
            clear HA
            simp only [impl_BlocksOk.j2] at H
            by_cases h4 : d0 = true
            ·subst h4
             rw [if_pos rfl] at H
             obtain rfl := Option.some.inj H
             go_wp2
             go_ret
             exact ⟨eS, bS⟩
            ·obtain rfl := Bool.eq_false_iff.mpr h4
             rw [if_neg nF] at H
             by_cases f8 : (wrap64 (b8 + 1)) > 3
             ·rw [if_pos f8] at H
              have g4 : decide (3 < (wrap64 (b8 + 1))) = true := decide_eq_true f8
              clear f8
              obtain rfl := Option.some.inj H
              go_wp2
              go_ret
              exact ⟨eS, bS⟩
             ·rw [if_neg f8] at H
              have g4 : decide (3 < (wrap64 (b8 + 1))) = false := decide_eq_false f8
              clear f8
              have H' := aM H
              clear H
              go_wp2
              go_roundg kj10
              case measure => have := HJ1.out; have := e1.out; have := HJ10.out; omega
              case rel => exact ⟨(wrap64 (b8 + 1)), (wrap64 (a2 + 1)), fS, fS, H', ⟨by have := HJ1.out; have := e1.out; have := HJ10.out; omega⟩, ⟨bS⟩⟩
         ·rw [if_neg c10] at H
          obtain ⟨e6, e7⟩ := eqF c10
          by_cases g5 : ((rd_T46 l0 a2).f0).toList = ([101, 110, 100] : List UInt8)
          ·rw [if_pos g5] at H
           obtain ⟨g6, g7⟩ := eqT g5
           clear g5
           rcases iD H with ⟨g8, H⟩ | ⟨g8, H⟩
           ·obtain rfl := Option.some.inj H
            have b2 : 0 ≤ (a2 : Int) := dA
            have b6 : a2 < (l0.length : Int) := dA
            obtain ⟨b1, d4, a7, a8⟩ := at_T46 e5.out a2 b2 b6
            cases d4
            replace a7 := cB HB a7
            replace a8 := cB HB a8
            replace b2 := eq_true b2
            replace b6 := eq_true b6
            go_wp2_with (first | ((with_reducible refine gD 5 ?_); refine bxE #[.string (⟨#[]⟩ : ByteArray), .int .i64 0] 46 ?_; intro a6 hg i7 b7 hb; have GE351 := gE hg; replace HB := hB hb; clear hb hg; have hz25 := cz2 b7))
            go_ret
            exact ⟨eS, bS⟩
           ·have H' := aM H
            clear H
            have b2 : 0 ≤ (a2 : Int) := dA
            have b6 : a2 < (l0.length : Int) := dA
            obtain ⟨b1, d4, a7, a8⟩ := at_T46 e5.out a2 b2 b6
            cases d4
            replace a7 := cB HB a7
            replace a8 := cB HB a8
            replace b2 := eq_true b2
            replace b6 := eq_true b6
            go_wp2_with (first | ((with_reducible refine gD 5 ?_); refine bxE #[.string (⟨#[]⟩ : ByteArray), .int .i64 0] 46 ?_; intro a6 hg i8 b7 hb; have GE351 := gE hg; replace HB := hB hb; clear hb hg; have hz27 := cz2 b7))
            go_roundg k2
            case measure => have := HJ1.out; have := e1.out; omega
            case rel => exact ⟨(wrap64 (b8 - 1)), (wrap64 (a2 + 1)), fS, fS, H', ⟨by have := HJ1.out; have := e1.out; omega⟩, ⟨bS⟩⟩
          ·rw [if_neg g5] at H
           obtain ⟨g6, g7⟩ := eqF g5
           have H' := aM H
           clear H
           have b2 : 0 ≤ (a2 : Int) := dA
           have b6 : a2 < (l0.length : Int) := dA
           obtain ⟨b1, d4, a7, a8⟩ := at_T46 e5.out a2 b2 b6
           cases d4
           replace a7 := cB HB a7
           replace a8 := cB HB a8
           replace b2 := eq_true b2
           replace b6 := eq_true b6
           go_wp2_with (first | ((with_reducible refine gD 5 ?_); refine bxE #[.string (⟨#[]⟩ : ByteArray), .int .i64 0] 46 ?_; intro a6 hg i9 b7 hb; have GE351 := gE hg; replace HB := hB hb; clear hb hg; have hz29 := cz2 b7))
           go_roundg k2
           case measure => have := HJ1.out; have := e1.out; omega
           case rel => exact ⟨(b8), (wrap64 (a2 + 1)), fS, fS, H', ⟨by have := HJ1.out; have := e1.out; omega⟩, ⟨bS⟩⟩
        ·rw [if_neg c9] at H
         exact absurd H (by simp)
       ·rw [if_neg c8] at H
        exact absurd H (by simp)
      ·rw [if_neg c7] at H
       have g0 : decide (a2 < (l0.length : Int)) = false := decide_eq_false c7
       clear c7
       obtain rfl := Option.some.inj H
       go_wp2
       go_ret
       exact ⟨eS, bS⟩

/-! ### impl_Token: function 35 -/
def impl_Token.f (l0 : List (S46)) : Option ((List (S46))) := if 0 ≤ (l0.length : Int) then (if (l0.length : Int) ≤ (l0.length : Int) then (some (l0.take ((l0.length : Int) : Int).toNat)) else (none)) else (none)
theorem impl_Token.calls (P0_ : Nat → Prop) (A0 : Option Addr) (c0 : Nat) (l0 : List (S46)) (r : List (S46)) (w : World) (hs0 : Kd.V k46 46 w w.heap.size (fun k_ => P0_ k_) (.slice A0 l0.length c0) l0) (h : impl_Token.f l0 = some r) :
  Calls Try.prog 35 #[.slice A0 l0.length c0] w fun e w' => ∃ v0_ : Value, e = .returned (v0_) ∧ Kd.V k46 46 w' w.heap.size (fun k_ => (P0_ k_ ∨ w.heap.size ≤ k_)) v0_ r ∧ Below w.heap.size w w' := by
 have a6 := aM (show Kd.V k46 46 w w.heap.size (fun k_ => (P0_ k_ ∨ w.heap.size ≤ k_)) (.slice A0 l0.length c0) l0 from Kd.V_mono hs0 (fun k_ hk => .inl hk))
 have HB := aM (Below.refl w.heap.size w)
 have H := h
 clear h
 unfold impl_Token.f at H
 by_cases c2 : 0 ≤ (l0.length : Int)
 ·rw [if_pos c2] at H
  have a8 := eq_true c2
  have a9 : decide (0 ≤ (l0.length : Int)) = true := decide_eq_true c2
  clear c2
  obtain ⟨b0, b1, H⟩ := iF H
  obtain ⟨a2, hy_⟩ : ∃ y_ : List (S46), y_ = (l0.take ((l0.length : Int) : Int).toNat) := ⟨_, rfl⟩
  replace H : (some a2) = some r := yS
  have Ny355 := aM hy_
  clear hy_
  obtain rfl := Option.some.inj H
  have q4 : ((l0.length : Int) : Int) ≤ ((l0.length : Int) : Int) := dA
  obtain ⟨i04, hi04, _, hsz4, _⟩ := info_parts info46
  have hroom4 : l0.length ≤ c0 := (Kd.V_reads' a6.out).2.1
  have hC4 : Kd.F k46 _ _ A0 l0.length l0 := (Kd.V_at (base := w.heap.size) a6.out).2.2
  have hcut4 := cut_clip (P := Try.prog) 24 46 .i64 Try.underlying24 hi04 A0 l0.length c0 (l0.length : Int) (dA) q4 hroom4
  have a5 := Kd.F_take (m := ((l0.length : Int) : Int).toNat) hC4 (by omega)
  have hy4 : a2.length = ((l0.length : Int) : Int).toNat := (by rw [Ny355.out, List.length_take]; omega)
  rw [← Ny355.out] at a5
  rw [← hy4] at hcut4
  have a3 := aM (show Kd.V k46 46 _ w.heap.size _ (.slice A0 a2.length a2.length) a2 from Kd.V_mk (by omega) a5)
  have a7 := aM (show a2.length ≤ a2.length from by omega)
  clear a5 hC4 hroom4 hi04 hsz4
  have KY4 := aM hy4
  clear hy4
  replace q4 := eq_true q4
  go_enter Try.func35, Try.ntmps35
  go_wp2
  go_ret
  exact ⟨_, eS, by (with_reducible repeat (first | apply Kd.V_alloc | apply Kd.V_drewN | apply Kd.V_drew)); exact a3.out, bS⟩
 ·rw [if_neg c2] at H
  exact absurd H (by simp)

end Go.Proofs.Ytpickbenfkcpmaa.QFnRuns7
