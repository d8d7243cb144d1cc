-- Made out of the translation by a program of this session (a changed copy of the print). Not trusted: Lean checks it.
import Derived.Test.YtncfipboidmfbaaGreatQFnExactAddToBandx0
namespace Go.Proofs.YtncfipboidmfbaaGreat.QFnExactAddToBand
open Go.RowKit Go.Proofs.YtncfipboidmfbaaGreatW.PrintWords Go.Proofs.YtncfipboidmfbaaGreatW.PrintLast Go.Proofs.YtncfipboidmfbaaGreatW.PrintMore
attribute [local go_sem] max2_int min2_int max_two min_two max_three min_three max_four min_four   -- for this text's walks alone
set_option linter.unusedVariables false
set_option linter.unusedSimpArgs false
set_option maxHeartbeats 8000000
set_option maxRecDepth 100000

/-! ### laws_szIntS: function 106 -/
def laws_szIntS.f (l0 : List Int) (a1 : Int) : Option (Int) := if (wrap64 (a1 - (l0.length : Int))) < 0 then (some (-1)) else (some (wrap64 (a1 - (l0.length : Int))))
theorem laws_szIntS.calls (A0 : Option Addr) (c0 : Nat) (l0 : List Int) (a1 : Int) (r : Int) (w : World) (hr0 : Kd.C (Kd.int .i64) w A0 l0.length l0) (hc0 : l0.length ≤ c0) (h : laws_szIntS.f l0 a1 = some r) :
  Calls Tryz.prog 106 #[.slice A0 l0.length c0, .int .i64 a1] w fun e w' => e = .returned (.int .i64 r) ∧ Drawn0 w w' := by
 have HR0 := aM hr0
 have HC0 := aM hc0
 clear hr0 hc0
 have H := h
 clear h
 unfold laws_szIntS.f at H
 rcases iD H with ⟨c3b0, H⟩ | ⟨c3b0, H⟩
 ·obtain rfl := Option.some.inj H
  go_enter Tryz.func106, Tryz.ntmps106
  go_wp2
  go_ret
  exact ⟨fS, dS⟩
 ·obtain rfl := Option.some.inj H
  go_enter Tryz.func106, Tryz.ntmps106
  go_wp2
  go_ret
  exact ⟨fS, dS⟩

/-! ### laws_szIntSS: function 41 -/
def laws_szIntSS.l0 : Nat → List (List Int) → Int → Int → Option (Int)
 | 0, _, _, _ => none
 | k + 1, x0, x1, x5 => if x5 < (x0.length : Int) then (if 0 ≤ x5 then ((laws_szIntS.f (rd_L1 x0 x5) x1).bind fun t102 => (if t102 < 0 then (some (-1)) else (laws_szIntSS.l0 k x0 t102 (wrap64 (x5 + 1))))) else (none)) else (some x1)
def laws_szIntSS.f (k : Nat) (l0 : List (List Int)) (a1 : Int) : Option (Int) := if (wrap64 (a1 - (l0.length : Int))) < 0 then (some (-1)) else (laws_szIntSS.l0 k l0 (wrap64 (a1 - (l0.length : Int))) 0)
theorem laws_szIntSS.calls (k : Nat) (A0 : Option Addr) (c0 : Nat) (l0 : List (List Int)) (a1 : Int) (r : Int) (w : World) (hr0 : Kd.C (Kd.slice 3 (Kd.int .i64)) w A0 l0.length l0) (hc0 : l0.length ≤ c0) (h : laws_szIntSS.f k l0 a1 = some r) :
  Calls Tryz.prog 41 #[.slice A0 l0.length c0, .int .i64 a1] w fun e w' => e = .returned (.int .i64 r) ∧ Drawn0 w w' := by
 have HR0 := aM hr0
 have HC0 := aM hc0
 clear hr0 hc0
 have H := h
 clear h
 unfold laws_szIntSS.f at H
 by_cases c3 : (wrap64 (a1 - (l0.length : Int))) < 0
 ·rw [if_pos c3] at H
  have c3b0 : decide ((wrap64 (a1 - (l0.length : Int))) < 0) = true := decide_eq_true c3
  clear c3
  obtain rfl := Option.some.inj H
  go_enter Tryz.func41, Tryz.ntmps41
  go_wp2
  go_ret
  exact ⟨fS, dS⟩
 ·rw [if_neg c3] at H
  have c3b0 : decide ((wrap64 (a1 - (l0.length : Int))) < 0) = false := decide_eq_false c3
  clear c3
  have H' := aM H
  clear H
  go_enter Tryz.func41, Tryz.ntmps41
  go_wp2
  go_loopg [1, 5] k (fun kq v1 v5 w' => ∃ (x1_1 : Int) (x5_1 : Int), v1 = .int .i64 x1_1 ∧ v5 = .int .i64 x5_1 ∧ Aside0 (laws_szIntSS.l0 kq l0 x1_1 x5_1 = some r) ∧ Aside0 (kq ≤ k) ∧ Drawn0 w w')
  case atStart => exact ⟨(wrap64 (a1 - (l0.length : Int))), (0), fS, fS, H', ⟨Nat.le_refl _⟩, dS⟩
  case round =>
   clear H'
   try clear p2
   try clear c3
   try clear c3b0
   obtain ⟨x1_1, x5_1, rfl, rfl, HA, HK1, ⟨m1, rfl⟩⟩ := hrel
   cases gk with
   | zero => exact absurd HA.out (by simp [laws_szIntSS.l0])
   | succ k1 =>
    have H := HA.out
    clear HA
    simp only [laws_szIntSS.l0] at H
    rcases iD H with ⟨c4b0, H⟩ | ⟨c4b0, H⟩
    ·obtain ⟨c5b0, H⟩ := iT H
     replace H := bN H
     obtain ⟨t102, A6, H⟩ := H
     rcases iD H with ⟨c7b0, H⟩ | ⟨c7b0, H⟩
     ·obtain rfl := Option.some.inj H
      have p101 : 0 ≤ (x5_1 : Int) := dA
      have q101 : x5_1 < (l0.length : Int) := dA
      obtain ⟨ad101, A101_0, c101_0, e101, hx101_0, hl101_0, hi101_0⟩ := at_L1 HR0.out x5_1 p101 q101
      cases e101
      have HR101_0 := aM hi101_0
      have HC101_0 := aM hl101_0
      clear hi101_0 hl101_0
      replace p101 := eq_true p101
      replace q101 := eq_true q101
      go_wp2_with (first | ((with_reducible refine gC 106 ?_); refine cL (some 23) Tryz.func106 #[.slice A101_0 (rd_L1 l0 x5_1).length c101_0, .int .i64 x1_1] ?_; (with_reducible refine (laws_szIntS.calls _ _ (rd_L1 l0 x5_1) x1_1 t102 _ ?side1 ?side2 A6.out).mono ?_); (case side1 => exact cS HR101_0.out); (case side2 => exact HC101_0.out); rintro e w' ⟨rfl, ⟨nd, rfl⟩⟩; refine ⟨_, rfl, ?_⟩))
      go_ret
      exact ⟨fS, dS⟩
     ·have H' := aM H
      clear H
      have p101 : 0 ≤ (x5_1 : Int) := dA
      have q101 : x5_1 < (l0.length : Int) := dA
      obtain ⟨ad101, A101_0, c101_0, e101, hx101_0, hl101_0, hi101_0⟩ := at_L1 HR0.out x5_1 p101 q101
      cases e101
      have HR101_0 := aM hi101_0
      have HC101_0 := aM hl101_0
      clear hi101_0 hl101_0
      replace p101 := eq_true p101
      replace q101 := eq_true q101
      go_wp2_with (first | ((with_reducible refine gC 106 ?_); refine cL (some 23) Tryz.func106 #[.slice A101_0 (rd_L1 l0 x5_1).length c101_0, .int .i64 x1_1] ?_; (with_reducible refine (laws_szIntS.calls _ _ (rd_L1 l0 x5_1) x1_1 t102 _ ?side1 ?side2 A6.out).mono ?_); (case side1 => exact cS HR101_0.out); (case side2 => exact HC101_0.out); rintro e w' ⟨rfl, ⟨nd, rfl⟩⟩; refine ⟨_, rfl, ?_⟩))
      go_roundg k1
      case measure => have := HK1.out; omega
      case rel => exact ⟨(t102), (wrap64 (x5_1 + 1)), fS, fS, H', ⟨by have := HK1.out; omega⟩, dS⟩
    ·obtain rfl := Option.some.inj H
     go_wp2
     go_ret
     exact ⟨fS, dS⟩

/-! ### laws_szPointS: function 57 -/
def laws_szPointS.f (l0 : List (S153)) (a1 : Int) : Option (Int) := if (wrap64 (a1 - (l0.length : Int))) < 0 then (some (-1)) else (some (wrap64 (a1 - (l0.length : Int))))
theorem laws_szPointS.calls (A0 : Option Addr) (c0 : Nat) (l0 : List (S153)) (a1 : Int) (r : Int) (w : World) (hr0 : Kd.C k153 w A0 l0.length l0) (hc0 : l0.length ≤ c0) (h : laws_szPointS.f l0 a1 = some r) :
  Calls Tryz.prog 57 #[.slice A0 l0.length c0, .int .i64 a1] w fun e w' => e = .returned (.int .i64 r) ∧ Drawn0 w w' := by
 have HR0 := aM hr0
 have HC0 := aM hc0
 clear hr0 hc0
 have H := h
 clear h
 unfold laws_szPointS.f at H
 rcases iD H with ⟨c3b0, H⟩ | ⟨c3b0, H⟩
 ·obtain rfl := Option.some.inj H
  go_enter Tryz.func57, Tryz.ntmps57
  go_wp2
  go_ret
  exact ⟨fS, dS⟩
 ·obtain rfl := Option.some.inj H
  go_enter Tryz.func57, Tryz.ntmps57
  go_wp2
  go_ret
  exact ⟨fS, dS⟩

/-! ### laws_szObject: function 20 -/
def laws_szObject.f (l0_0 : List (S153)) (a0_1 : Int) (a0_2 : Int) (a0_3 : Int) (a0_4 : Int) (a0_5 : Int) (a1 : Int) : Option (Int) := (laws_szPointS.f l0_0 a1).bind fun t104 => (if t104 < 0 then (some (-1)) else (some t104))
theorem laws_szObject.lf0 {p : Prop} (h : p := by
 go_enter Tryz.func20, Tryz.ntmps20
 go_wp2_with (first | ((with_reducible refine gD 2 ?_); refine bxE #[.slice A0_0 l0_0.length c0_0, .int .i64 a0_1, .int .i64 a0_2, .int .i64 a0_3, .int .i64 a0_4, .int .i64 a0_5] 42 ?_; intro gb103 hg w5 BK103 hb; have GW103 := gE hg; have GE103 := gE hg; replace HB := hB hb; clear hb hg; have hz6 := cz6 BK103) | ((with_reducible refine gC 57 ?_); refine cM (some 8) Tryz.func57 (laws_szPointS.calls _ _ l0_0 a1 t104 _ (cC HR0_0 HB) HC0_0.out A3.out) ?_; rintro e w' ⟨rfl, ⟨nd, rfl⟩⟩; refine ⟨_, rfl, ?_⟩))
 go_ret
 exact ⟨eS, bS⟩) : p := h
theorem laws_szObject.calls (A0_0 : Option Addr) (c0_0 : Nat) (l0_0 : List (S153)) (a0_1 : Int) (a0_2 : Int) (a0_3 : Int) (a0_4 : Int) (a0_5 : Int) (a1 : Int) (r : Int) (w : World) (hr0_0 : Kd.C k153 w A0_0 l0_0.length l0_0) (hc0_0 : l0_0.length ≤ c0_0) (h : laws_szObject.f l0_0 a0_1 a0_2 a0_3 a0_4 a0_5 a1 = some r) :
  Calls Tryz.prog 20 #[.agg #[.slice A0_0 l0_0.length c0_0, .int .i64 a0_1, .int .i64 a0_2, .int .i64 a0_3, .int .i64 a0_4, .int .i64 a0_5], .int .i64 a1] w fun e w' => e = .returned (.int .i64 r) ∧ Below w.heap.size w w' := by
 have hu42 := Tryz.underlying42
 have HR0_0 := aM hr0_0
 have HC0_0 := aM hc0_0
 clear hr0_0 hc0_0
 have HB := aM (Below.refl w.heap.size w)
 have H := h
 clear h
 unfold laws_szObject.f at H
 replace H := bN H
 obtain ⟨t104, A3, H⟩ := H
 rcases iD H with ⟨c4b0, H⟩ | ⟨c4b0, H⟩
 ·obtain rfl := Option.some.inj H
  exact laws_szObject.lf0
 ·obtain rfl := Option.some.inj H
  exact laws_szObject.lf0

/-! ### laws_szObjectS: function 42 -/
def laws_szObjectS.l0 : Nat → List (S42) → Int → Int → Option (Int)
 | 0, _, _, _ => none
 | k + 1, x0, x1, x5 => if x5 < (x0.length : Int) then (if 0 ≤ x5 then ((laws_szObject.f ((rd_T42 x0 x5).f0) ((rd_T42 x0 x5).f1) ((rd_T42 x0 x5).f2.f0) ((rd_T42 x0 x5).f2.f1) ((rd_T42 x0 x5).f2.f2) ((rd_T42 x0 x5).f2.f3) x1).bind fun t106 => (if t106 < 0 then (some (-1)) else (laws_szObjectS.l0 k x0 t106 (wrap64 (x5 + 1))))) else (none)) else (some x1)
def laws_szObjectS.f (k : Nat) (l0 : List (S42)) (a1 : Int) : Option (Int) := if (wrap64 (a1 - (l0.length : Int))) < 0 then (some (-1)) else (laws_szObjectS.l0 k l0 (wrap64 (a1 - (l0.length : Int))) 0)
theorem laws_szObjectS.calls (k : Nat) (A0 : Option Addr) (c0 : Nat) (l0 : List (S42)) (a1 : Int) (r : Int) (w : World) (hr0 : Kd.C k42 w A0 l0.length l0) (hc0 : l0.length ≤ c0) (h : laws_szObjectS.f k l0 a1 = some r) :
  Calls Tryz.prog 42 #[.slice A0 l0.length c0, .int .i64 a1] w fun e w' => e = .returned (.int .i64 r) ∧ Below w.heap.size w w' := by
 have hu42 := Tryz.underlying42
 have HR0 := aM hr0
 have HC0 := aM hc0
 clear hr0 hc0
 have HB := aM (Below.refl w.heap.size w)
 have H := h
 clear h
 unfold laws_szObjectS.f at H
 by_cases c3 : (wrap64 (a1 - (l0.length : Int))) < 0
 ·rw [if_pos c3] at H
  have c3b0 : decide ((wrap64 (a1 - (l0.length : Int))) < 0) = true := decide_eq_true c3
  clear c3
  obtain rfl := Option.some.inj H
  go_enter Tryz.func42, Tryz.ntmps42
  go_wp2
  go_ret
  exact ⟨eS, bS⟩
 ·rw [if_neg c3] at H
  have c3b0 : decide ((wrap64 (a1 - (l0.length : Int))) < 0) = false := decide_eq_false c3
  clear c3
  have H' := aM H
  clear H
  go_enter Tryz.func42, Tryz.ntmps42
  go_wp2
  go_loopg [1, 5] k (fun kq v1 v5 w' => ∃ (x1_1 : Int) (x5_1 : Int), v1 = .int .i64 x1_1 ∧ v5 = .int .i64 x5_1 ∧ Aside0 (laws_szObjectS.l0 kq l0 x1_1 x5_1 = some r) ∧ Aside0 (kq ≤ k) ∧ Aside0 (Below w.heap.size w w'))
  case atStart => exact ⟨(wrap64 (a1 - (l0.length : Int))), (0), fS, fS, H', ⟨Nat.le_refl _⟩, ⟨bS⟩⟩
  case round =>
   clear H'
   try clear p2
   try clear c3
   try clear c3b0
   obtain ⟨x1_1, x5_1, rfl, rfl, HA, HK1, HB⟩ := hrel
   cases gk with
   | zero => exact absurd HA.out (by simp [laws_szObjectS.l0])
   | succ k1 =>
    have H := HA.out
    clear HA
    simp only [laws_szObjectS.l0] at H
    rcases iD H with ⟨c4b0, H⟩ | ⟨c4b0, H⟩
    ·obtain ⟨c5b0, H⟩ := iT H
     replace H := bN H
     obtain ⟨t106, A6, H⟩ := H
     rcases iD H with ⟨c7b0, H⟩ | ⟨c7b0, H⟩
     ·obtain rfl := Option.some.inj H
      have p105 : 0 ≤ (x5_1 : Int) := dA
      have q105 : x5_1 < (l0.length : Int) := dA
      obtain ⟨ad105, A105_0, c105_0, e105, hx105_0, hx105_1, hx105_2, hx105_3, hx105_4, hx105_5, hl105_0, hi105_0⟩ := at_T42 HR0.out x5_1 p105 q105
      cases e105
      replace hx105_0 := cB HB hx105_0
      replace hx105_1 := cB HB hx105_1
      replace hx105_2 := cB HB hx105_2
      replace hx105_3 := cB HB hx105_3
      replace hx105_4 := cB HB hx105_4
      replace hx105_5 := cB HB hx105_5
      have HR105_0 := aM hi105_0
      have HC105_0 := aM hl105_0
      clear hi105_0 hl105_0
      replace p105 := eq_true p105
      replace q105 := eq_true q105
      go_wp2_with (first | ((with_reducible refine gC 20 ?_); refine cM (some 23) Tryz.func20 (laws_szObject.calls _ _ ((rd_T42 l0 x5_1).f0) ((rd_T42 l0 x5_1).f1) ((rd_T42 l0 x5_1).f2.f0) ((rd_T42 l0 x5_1).f2.f1) ((rd_T42 l0 x5_1).f2.f2) ((rd_T42 l0 x5_1).f2.f3) x1_1 t106 _ (cC HR105_0 HB) HC105_0.out A6.out) ?_; rintro e w8 ⟨rfl, hb⟩; refine ⟨_, rfl, ?_⟩; replace HB := hB hb; (try clear hb)))
      go_ret
      exact ⟨eS, bS⟩
     ·have H' := aM H
      clear H
      have p105 : 0 ≤ (x5_1 : Int) := dA
      have q105 : x5_1 < (l0.length : Int) := dA
      obtain ⟨ad105, A105_0, c105_0, e105, hx105_0, hx105_1, hx105_2, hx105_3, hx105_4, hx105_5, hl105_0, hi105_0⟩ := at_T42 HR0.out x5_1 p105 q105
      cases e105
      replace hx105_0 := cB HB hx105_0
      replace hx105_1 := cB HB hx105_1
      replace hx105_2 := cB HB hx105_2
      replace hx105_3 := cB HB hx105_3
      replace hx105_4 := cB HB hx105_4
      replace hx105_5 := cB HB hx105_5
      have HR105_0 := aM hi105_0
      have HC105_0 := aM hl105_0
      clear hi105_0 hl105_0
      replace p105 := eq_true p105
      replace q105 := eq_true q105
      go_wp2_with (first | ((with_reducible refine gC 20 ?_); refine cM (some 23) Tryz.func20 (laws_szObject.calls _ _ ((rd_T42 l0 x5_1).f0) ((rd_T42 l0 x5_1).f1) ((rd_T42 l0 x5_1).f2.f0) ((rd_T42 l0 x5_1).f2.f1) ((rd_T42 l0 x5_1).f2.f2) ((rd_T42 l0 x5_1).f2.f3) x1_1 t106 _ (cC HR105_0 HB) HC105_0.out A6.out) ?_; rintro e w9 ⟨rfl, hb⟩; refine ⟨_, rfl, ?_⟩; replace HB := hB hb; (try clear hb)))
      go_roundg k1
      case measure => have := HK1.out; omega
      case rel => exact ⟨(t106), (wrap64 (x5_1 + 1)), fS, fS, H', ⟨by have := HK1.out; omega⟩, ⟨bS⟩⟩
    ·obtain rfl := Option.some.inj H
     go_wp2
     go_ret
     exact ⟨eS, bS⟩

/-! ### laws_szBand: function 8 -/
def laws_szBand.f (k : Nat) (a0_0 : Int) (a0_1 : Int) (l0_2 : List (List Int)) (l0_3 : List (S42)) (a1 : Int) : Option (Int) := (laws_szIntSS.f k l0_2 a1).bind fun t108 => (if t108 < 0 then (some (-1)) else ((laws_szObjectS.f k l0_3 t108).bind fun t109 => (if t109 < 0 then (some (-1)) else (some t109))))
theorem laws_szBand.lf0 {p : Prop} (h : p := by
 go_enter Tryz.func8, Tryz.ntmps8
 go_wp2_with (first | ((with_reducible refine gD 2 ?_); refine bxE #[.int .i64 a0_0, .int .i64 a0_1, .slice A0_2 l0_2.length c0_2, .slice A0_3 l0_3.length c0_3] 25 ?_; intro gb107 hg w12 BK107 hb; have GW107 := gE hg; have GE107 := gE hg; replace HB := hB hb; clear hb hg; have hz13 := cz4 BK107) | ((with_reducible refine gC 41 ?_); refine cM (some 8) Tryz.func41 (laws_szIntSS.calls k _ _ l0_2 a1 t108 _ (cC HR0_2 HB) HC0_2.out A3.out) ?_; rintro e w' ⟨rfl, ⟨nd, rfl⟩⟩; refine ⟨_, rfl, ?_⟩) | ((with_reducible refine gC 42 ?_); refine cM (some 14) Tryz.func42 (laws_szObjectS.calls k _ _ l0_3 t108 t109 _ (cS (Kd.C_below HR0_3.out bS)) HC0_3.out A7.out) ?_; rintro e w14 ⟨rfl, hb⟩; refine ⟨_, rfl, ?_⟩; replace BK107 := kB_ gb107 hb; replace HB := hB hb; (try clear hb)))
 go_ret
 exact ⟨eS, bS⟩) : p := h
theorem laws_szBand.calls (k : Nat) (a0_0 : Int) (a0_1 : Int) (A0_2 : Option Addr) (c0_2 : Nat) (l0_2 : List (List Int)) (A0_3 : Option Addr) (c0_3 : Nat) (l0_3 : List (S42)) (a1 : Int) (r : Int) (w : World) (hr0_2 : Kd.C (Kd.slice 3 (Kd.int .i64)) w A0_2 l0_2.length l0_2) (hc0_2 : l0_2.length ≤ c0_2) (hr0_3 : Kd.C k42 w A0_3 l0_3.length l0_3) (hc0_3 : l0_3.length ≤ c0_3) (h : laws_szBand.f k a0_0 a0_1 l0_2 l0_3 a1 = some r) :
  Calls Tryz.prog 8 #[.agg #[.int .i64 a0_0, .int .i64 a0_1, .slice A0_2 l0_2.length c0_2, .slice A0_3 l0_3.length c0_3], .int .i64 a1] w fun e w' => e = .returned (.int .i64 r) ∧ Below w.heap.size w w' := by
 have hu25 := Tryz.underlying25
 have HR0_2 := aM hr0_2
 have HC0_2 := aM hc0_2
 clear hr0_2 hc0_2
 have HR0_3 := aM hr0_3
 have HC0_3 := aM hc0_3
 clear hr0_3 hc0_3
 have HB := aM (Below.refl w.heap.size w)
 have H := h
 clear h
 unfold laws_szBand.f at H
 replace H := bN H
 obtain ⟨t108, A3, H⟩ := H
 rcases iD H with ⟨c4b0, H⟩ | ⟨c4b0, H⟩
 ·obtain rfl := Option.some.inj H
  exact laws_szBand.lf0
 ·replace H := bN H
  obtain ⟨t109, A7, H⟩ := H
  rcases iD H with ⟨c8b0, H⟩ | ⟨c8b0, H⟩
  ·obtain rfl := Option.some.inj H
   exact laws_szBand.lf0
  ·obtain rfl := Option.some.inj H
   exact laws_szBand.lf0

/-! ### laws_toIntS: function 109 -/
def laws_toIntS.l0 : Nat → List Int → List Int → Int → Option (List Int)
 | 0, _, _, _ => none
 | k + 1, x0, x3, x4 => if x4 < (x0.length : Int) then (if 0 ≤ x4 then (if x4 < (x3.length : Int) then (laws_toIntS.l0 k x0 (x3.set (x4 : Int).toNat (rd x0 x4)) (wrap64 (x4 + 1))) else (none)) else (none)) else (some x3)
def laws_toIntS.f (k : Nat) (l0 : List Int) : Option (List Int) := if 0 ≤ (l0.length : Int) then (if ((l0.length : Int) : Int).toNat ≤ 35184372088832 then (laws_toIntS.l0 k l0 (List.replicate ((l0.length : Int) : Int).toNat 0) 0) else (none)) else (none)
theorem laws_toIntS.calls (k : Nat) (A0 : Option Addr) (c0 : Nat) (l0 : List Int) (r : List Int) (w : World) (hr0 : Kd.C (Kd.int .i64) w A0 l0.length l0) (hc0 : l0.length ≤ c0) (h : laws_toIntS.f k l0 = some r) :
  Calls Tryz.prog 109 #[.slice A0 l0.length c0] w fun e w' => ∃ v0_ : Value, e = .returned (v0_) ∧ Kd.R (Kd.int .i64) 3 w' w.heap.size (fun _ => True) v0_ r ∧ Below w.heap.size w w' := by
 have HR0 := aM hr0
 have HC0 := aM hc0
 clear hr0 hc0
 have HB := aM (Below.refl w.heap.size w)
 have H := h
 clear h
 unfold laws_toIntS.f at H
 by_cases c2 : 0 ≤ (l0.length : Int)
 ·rw [if_pos c2] at H
  have c2b0 := eq_true c2
  have c2b1 : decide (0 ≤ (l0.length : Int)) = true := decide_eq_true c2
  clear c2
  by_cases c3 : ((l0.length : Int) : Int).toNat ≤ 35184372088832
  ·rw [if_pos c3] at H
   have c3b0 := eq_true c3
   have c3b1 : decide (((l0.length : Int) : Int).toNat ≤ 35184372088832) = true := decide_eq_true c3
   clear c3
   obtain ⟨y110, hy_⟩ : ∃ y_ : List Int, y_ = (List.replicate ((l0.length : Int) : Int).toNat 0) := ⟨_, rfl⟩
   replace H : (laws_toIntS.l0 k l0 y110 0) = some r := yS
   have Ny110 := aM hy_
   clear hy_
   have H' := aM H
   clear H
   go_enter Tryz.func109, Tryz.ntmps109
   go_wp2_with (first | ((with_reducible refine gate_dst (N := 7) rfl ?_); refine Kd.R_make (Kd.int .i64) _ 3 rfl (N := 7) rfl 54 _ _ rfl (l0.length : Int) rfl rfl Tryz.underlying54 (.int .i64 0) 8 info3 rfl (by decide) (by omega) 0 (ok := fun _ => True) (okp := fun _ => True) rfl (fun _ hk => hk) trivial (dA) (Nat.le_trans (Nat.mul_le_mul_right _ (dA : (l0.length : Int).toNat ≤ 35184372088832)) (by omega)) (Below.refl _ _) (Nat.le_refl _) ?_; intro v111 w4 ho5 hb hg_ hnew_; clear hg_ hnew_; (first | rw [← Ny110.out] at ho5 | (simp only [Int.reduceToNat] at ho5; rw [← Ny110.out] at ho5)); have HO112 := aM (Kd.R_lower ho5 (below_size bS)); replace HB := hB hb; clear hb ho5))
   go_loopg [4] k (fun kq v4 w' => ∃ (x3_1 : List Int) (x4_1 : Int), v4 = .int .i64 x4_1 ∧ Aside0 (laws_toIntS.l0 kq l0 x3_1 x4_1 = some r) ∧ Aside0 (kq ≤ k) ∧ Aside0 (Kd.R (Kd.int .i64) 3 w' w.heap.size (fun _ => True) v111 x3_1) ∧ Aside0 (Below w.heap.size w w'))
   case atStart => exact ⟨(y110), (0), fS, H', ⟨Nat.le_refl _⟩, ⟨rS HO112⟩, ⟨bS⟩⟩
   case round =>
    clear H'
    try clear c1
    try clear c2
    try clear c2b0
    try clear c2b1
    try clear p2
    try clear c3
    try clear c3b0
    try clear c3b1
    obtain ⟨x3_1, x4_1, rfl, HA, HK1, HO_3, HB⟩ := hrel
    cases gk with
    | zero => exact absurd HA.out (by simp [laws_toIntS.l0])
    | succ k1 =>
     have H := HA.out
     clear HA
     simp only [laws_toIntS.l0] at H
     rcases iD H with ⟨c6b0, H⟩ | ⟨c6b0, H⟩
     ·obtain ⟨c7b0, H⟩ := iT H
      obtain ⟨c8b0, H⟩ := iT H
      obtain ⟨y114, hy_⟩ : ∃ y_ : List Int, y_ = (x3_1.set (x4_1 : Int).toNat (rd l0 x4_1)) := ⟨_, rfl⟩
      replace H : (laws_toIntS.l0 k1 l0 y114 (wrap64 (x4_1 + 1))) = some r := yS
      have Ny114 := aM hy_
      clear hy_
      have H' := aM H
      clear H
      have p113 : 0 ≤ (x4_1 : Int) := dA
      have q113 : x4_1 < (l0.length : Int) := dA
      obtain ⟨ad113, e113, hx113_0⟩ := Kd.at_int HR0.out x4_1 p113 q113
      cases e113
      replace hx113_0 := cB HB hx113_0
      replace p113 := eq_true p113
      replace q113 := eq_true q113
      have p9 : 0 ≤ (x4_1 : Int) := dA
      have q9 : (x4_1 : Int) < ((x3_1.length : Int) : Int) := dA
      obtain ⟨go9, co9, eo9, gb9, gl9, cl9, HG9⟩ := Kd.R_form HO_3.out (by omega)
      (first | cases eo9 | (injection eo9 with ea_ en_ ec_; (first | subst ea_ | (injection ea_ with ea_; subst ea_)); subst ec_; clear en_))
      have GB9 := aM gb9
      have GG9 := aM HG9
      clear gb9 gl9 HG9
      obtain ⟨hx9_0, hf9_0⟩ := Kd.R_celln 0 HO_3.out (x4_1 : Int) p9 q9
      replace p9 := eq_true p9
      replace q9 := eq_true q9
      have HP10 := Kd.R_putg HO_3.out (x4_1 : Int) (rd l0 x4_1)
      go_wp2_with (first | ((with_reducible refine gate_store (t := 3) (p := 20) rfl ?_); refine store_event (t := 3) (p := 20) (v := ?vo_w11) (w1 := (wr.setCell ⟨go9, (x4_1 : Int).toNat, none⟩ (.int .i64 (rd l0 x4_1)))) ?hg ?ho ?hn ?hr ?_; (case ho => rfl); (case hg => rfl); (case hn => rfl); (case hr => first | (go_simp; done) | (go_simp; rfl)); intro w11 hw; have hg : wr.grownBy w11 (some go9) := (by rw [hw]; exact HP10.2); have hp_ : Kd.R (Kd.int .i64) 3 w11 w.heap.size (fun _ => True) (.slice (some ⟨go9, 0, none⟩) x3_1.length co9) y114 := (by rw [hw, Ny114.out]; exact HP10.1); clear HP10; replace HO_3 := aM (hp_); replace HB := aM ((by rw [hw]; exact below_set (HB.out) GB9.out : Below w.heap.size w w11)); clear hg hw hp_))
      go_roundg k1
      case measure => have := HK1.out; omega
      case rel => exact ⟨(y114), (wrap64 (x4_1 + 1)), fS, H', ⟨by have := HK1.out; omega⟩, ⟨rS HO_3⟩, ⟨bS⟩⟩
     ·obtain rfl := Option.some.inj H
      go_wp2
      go_ret
      exact ⟨_, eS, rS HO_3, bS⟩
  ·rw [if_neg c3] at H
   exact absurd H (by simp)
 ·rw [if_neg c2] at H
  exact absurd H (by simp)

/-! ### laws_toIntSS: function 44 -/
def laws_toIntSS.l0 : Nat → List (List Int) → List (List Int) → Int → Option ((List (List Int)))
 | 0, _, _, _ => none
 | k + 1, x0, x3, x4 => if x4 < (x0.length : Int) then (if 0 ≤ x4 then ((laws_toIntS.f k (rd_L1 x0 x4)).bind fun t119 => (if x4 < (x3.length : Int) then (laws_toIntSS.l0 k x0 (x3.set (x4 : Int).toNat t119) (wrap64 (x4 + 1))) else (none))) else (none)) else (some x3)
def laws_toIntSS.f (k : Nat) (l0 : List (List Int)) : Option ((List (List Int))) := if 0 ≤ (l0.length : Int) then (if ((l0.length : Int) : Int).toNat ≤ 11728124029610 then (laws_toIntSS.l0 k l0 (List.replicate ((l0.length : Int) : Int).toNat []) 0) else (none)) else (none)
theorem laws_toIntSS.calls (k : Nat) (A0 : Option Addr) (c0 : Nat) (l0 : List (List Int)) (r : List (List Int)) (w : World) (hr0 : Kd.C (Kd.slice 3 (Kd.int .i64)) w A0 l0.length l0) (hc0 : l0.length ≤ c0) (h : laws_toIntSS.f k l0 = some r) :
  Calls Tryz.prog 44 #[.slice A0 l0.length c0] w fun e w' => ∃ v0_ : Value, e = .returned (v0_) ∧ Kd.S (Kd.slice 3 (Kd.int .i64)) 54 w' w.heap.size (fun _ => True) v0_ r ∧ Below w.heap.size w w' := by
 have HR0 := aM hr0
 have HC0 := aM hc0
 clear hr0 hc0
 have HB := aM (Below.refl w.heap.size w)
 have H := h
 clear h
 unfold laws_toIntSS.f at H
 by_cases c2 : 0 ≤ (l0.length : Int)
 ·rw [if_pos c2] at H
  have c2b0 := eq_true c2
  have c2b1 : decide (0 ≤ (l0.length : Int)) = true := decide_eq_true c2
  clear c2
  by_cases c3 : ((l0.length : Int) : Int).toNat ≤ 11728124029610
  ·rw [if_pos c3] at H
   have c3b0 := eq_true c3
   have c3b1 : decide (((l0.length : Int) : Int).toNat ≤ 11728124029610) = true := decide_eq_true c3
   clear c3
   obtain ⟨y115, hy_⟩ : ∃ y_ : List (List Int), y_ = (List.replicate ((l0.length : Int) : Int).toNat []) := ⟨_, rfl⟩
   replace H : (laws_toIntSS.l0 k l0 y115 0) = some r := yS
   have Ny115 := aM hy_
   clear hy_
   have H' := aM H
   clear H
   go_enter Tryz.func44, Tryz.ntmps44
   go_wp2_with (first | ((with_reducible refine gate_dst (N := 7) rfl ?_); refine Kd.S_make (Kd.slice 3 (Kd.int .i64)) _ 54 rfl (N := 7) rfl 22 _ _ rfl (l0.length : Int) rfl rfl Tryz.underlying22 (.slice none 0 0) 24 info54 rfl (by decide) (by omega) [] (ok := fun _ => True) (okp := fun _ => True) ⟨_, rfl, Kd.R_nil _ _ _ _ _⟩ (fun _ hk => hk) trivial (dA) (Nat.le_trans (Nat.mul_le_mul_right _ (dA : (l0.length : Int).toNat ≤ 11728124029610)) (by omega)) (Below.refl _ _) (Nat.le_refl _) ?_; intro v116 w4 ho5 hb hg_ hnew_; clear hg_ hnew_; (first | rw [← Ny115.out] at ho5 | (simp only [Int.reduceToNat] at ho5; rw [← Ny115.out] at ho5)); have HO117 := aM (Kd.S_lower ho5 (below_size bS)); replace HB := hB hb; clear hb ho5))
   go_loopg [4] k (fun kq v4 w' => ∃ (x3_1 : List (List Int)) (x4_1 : Int), v4 = .int .i64 x4_1 ∧ Aside0 (laws_toIntSS.l0 kq l0 x3_1 x4_1 = some r) ∧ Aside0 (kq ≤ k) ∧ Aside0 (Kd.S (Kd.slice 3 (Kd.int .i64)) 54 w' w.heap.size (fun _ => True) v116 x3_1) ∧ Aside0 (Below w.heap.size w w'))
   case atStart => exact ⟨(y115), (0), fS, H', ⟨Nat.le_refl _⟩, ⟨sS HO117⟩, ⟨bS⟩⟩
   case round =>
    clear H'
    try clear c2
    try clear c2b0
    try clear c2b1
    try clear p2
    try clear c3
    try clear c3b0
    try clear c3b1
    try clear c4
    obtain ⟨x3_1, x4_1, rfl, HA, HK1, HO_3, HB⟩ := hrel
    cases gk with
    | zero => exact absurd HA.out (by simp [laws_toIntSS.l0])
    | succ k1 =>
     have H := HA.out
     clear HA
     simp only [laws_toIntSS.l0] at H
     rcases iD H with ⟨c6b0, H⟩ | ⟨c6b0, H⟩
     ·obtain ⟨c7b0, H⟩ := iT H
      replace H := bN H
      obtain ⟨t119, A8, H⟩ := H
      obtain ⟨c9b0, H⟩ := iT H
      obtain ⟨y122, hy_⟩ : ∃ y_ : List (List Int), y_ = (x3_1.set (x4_1 : Int).toNat t119) := ⟨_, rfl⟩
      replace H : (laws_toIntSS.l0 k1 l0 y122 (wrap64 (x4_1 + 1))) = some r := yS
      have Ny122 := aM hy_
      clear hy_
      have H' := aM H
      clear H
      have p118 : 0 ≤ (x4_1 : Int) := dA
      have q118 : x4_1 < (l0.length : Int) := dA
      obtain ⟨ad118, A118_0, c118_0, e118, hx118_0, hl118_0, hi118_0⟩ := at_L1 HR0.out x4_1 p118 q118
      cases e118
      replace hx118_0 := cB HB hx118_0
      have HR118_0 := aM hi118_0
      have HC118_0 := aM hl118_0
      clear hi118_0 hl118_0
      replace p118 := eq_true p118
      replace q118 := eq_true q118
      go_wp2_with (first | ((with_reducible refine gC 109 ?_); refine cM (some 20) Tryz.func109 (laws_toIntS.calls k1 _ _ (rd_L1 l0 x4_1) t119 _ (cC HR118_0 HB) HC118_0.out A8.out) ?_; rintro e w11 ⟨v120, rfl, ho0, hb⟩; refine ⟨_, rfl, ?_⟩; have HO121 := aM (Kd.R_lower ho0 (below_size bS)); replace HO_3 := aM (Kd.S_elder' (sS HO_3) (Kd.R_base ho0) hb); replace HB := hB hb; (try clear hb hk ho0); have p10 : 0 ≤ (x4_1 : Int) := dA; have q10 : (x4_1 : Int) < ((x3_1.length : Int) : Int) := dA; obtain ⟨go10, co10, eo10, gb10, gl10, cl10, HG10⟩ := Kd.S_form HO_3.out (by omega); (first | cases eo10 | (injection eo10 with ea_ en_ ec_; (first | subst ea_ | (injection ea_ with ea_; subst ea_)); subst ec_; clear en_)); have GB10 := aM gb10; have GG10 := aM HG10; clear gb10 gl10 HG10; obtain ⟨_, ce10, hcl10, hM10, hcc10, hfr10, _, _⟩ := Kd.S_elem HO_3.out [] (x4_1 : Int) p10 q10; obtain ⟨ve10_0, rfl, ge10_0⟩ := hM10; have hx10_0 := hcc10 0 _ rfl; have hf10_0 := hfr10 0; (try simp only [show ((Kd.slice 3 (Kd.int .i64))).sz = 1 from rfl, Nat.mul_one, Nat.add_zero] at hx10_0); (try simp only [show ((Kd.slice 3 (Kd.int .i64))).sz = 1 from rfl, Nat.mul_one, Nat.add_zero] at hf10_0); (try clear hM10); clear hcl10 hcc10 hfr10; replace p10 := eq_true p10; replace q10 := eq_true q10; obtain ⟨Ao14, co14, eo14⟩ := Kd.R_slice HO121.out; subst eo14; have n_ := aM (Kd.S_mono (ok' := (fun k_ => some k_ ≠ (.slice Ao14 t119.length co14 : Value).ownBlock)) HO_3.out (fun k_ hk => hk.2)); clear HO_3; have HO_3 := n_; clear n_; have HX12 := aM (show Kd.S (Kd.slice 3 (Kd.int .i64)) 54 w11 w.heap.size (fun k_ => ((fun _ => True)) k_ ∧ ¬ ((fun k_ => some k_ = (.slice Ao14 t119.length co14 : Value).ownBlock)) k_) (.slice (some ⟨go10, 0, none⟩) x3_1.length co10) x3_1 from (by exact sT (Kd.S_mono HO_3.out (fun k_ hk => ⟨trivial, fun e_ => hk e_⟩)))); obtain ⟨oki12, ce12, hcl12, hM12, hcc12, hfr12, hoki12, hH12⟩ := Kd.S_elem HX12.out [] (x4_1 : Int) (dA) (by have h_ : (x4_1 : Int) < ((x3_1.length : Int) : Int) := dA; first | exact h_ | (have e_ := (Kd.S_reads' HO_3.out).1; omega) | simpa using h_); obtain ⟨ve12_0, rfl, ge12_0⟩ := hM12; have HP12 := Kd.S_seg hH12 (dA) (by have h_ : (x4_1 : Int) < ((x3_1.length : Int) : Int) := dA; first | exact h_ | (have e_ := (Kd.S_reads' HO_3.out).1; omega) | simpa using h_) (seg := [.slice Ao14 t119.length co14]) (j := 0) (show 1 ≤ 1 from by decide) (x' := t119) (Kd.M_row (Kd.R_mono (Kd.R_tight rfl (Kd.R_mono (ok' := fun k_ => ((fun _ => True)) k_ ∧ k_ ≠ go10) (Kd.R_apart' (HO121.out) (Kd.S_typed HO_3.out) (by decide)) (fun k_ hk => ⟨trivial, fun e_ => (hk.2) (by rw [e_]; rfl)⟩))) (fun _ h_ => Or.inr (h_)))) (fun _ hk => hk) (fun k_ hk_ => ((Kd.R_mono (ok' := fun k_ => ((fun _ => True)) k_ ∧ k_ ≠ go10) (Kd.R_apart' (HO121.out) (Kd.S_typed HO_3.out) (by decide)) (fun k_ hk => ⟨trivial, fun e_ => (hk.2) (by rw [e_]; rfl)⟩))).1 k_ hk_.symm); have hx12_0 := hcc12 0 _ rfl; (try simp only [show ((Kd.slice 3 (Kd.int .i64))).sz = 1 from rfl, Nat.mul_one, Nat.add_zero] at hx12_0); have hf12_0 := hfr12 0; (try simp only [show ((Kd.slice 3 (Kd.int .i64))).sz = 1 from rfl, Nat.mul_one, Nat.add_zero] at hf12_0); (try clear hM12); clear hcl12 hcc12 hfr12 hoki12 hH12; (try simp only [show ((Kd.slice 3 (Kd.int .i64))).sz = 1 from rfl, Nat.mul_one, Nat.add_zero] at HP12)) | ((with_reducible refine gate_store (t := 54) (p := 21) rfl ?_); refine store_event (t := 54) (p := 21) (v := ?vo_w13) (w1 := (w11.setCell ⟨go10, (x4_1 : Int).toNat, none⟩ (.slice Ao14 t119.length co14))) ?hg ?ho ?hn ?hr ?_; (case ho => rfl); (case hg => rfl); (case hn => rfl); (case hr => first | (go_simp; done) | (go_simp; rfl)); intro w13 hw; have hg : w11.grownBy w13 (some go10) := (by rw [hw]; exact HP12.2); have hp_ : Kd.S (Kd.slice 3 (Kd.int .i64)) 54 w13 w.heap.size (fun _ => True) (.slice (some ⟨go10, 0, none⟩) x3_1.length co10) y122 := (by rw [hw, Ny122.out]; exact HP12.1); clear HP12; replace HO_3 := aM (hp_); replace HB := aM ((by rw [hw]; exact below_set (HB.out) GB10.out : Below w.heap.size w w13)); clear HO121; clear hg hw hp_))
      go_roundg k1
      case measure => have := HK1.out; omega
      case rel => exact ⟨(y122), (wrap64 (x4_1 + 1)), fS, H', ⟨by have := HK1.out; omega⟩, ⟨sS HO_3⟩, ⟨bS⟩⟩
     ·obtain rfl := Option.some.inj H
      go_wp2
      go_ret
      exact ⟨_, eS, sS HO_3, bS⟩
  ·rw [if_neg c3] at H
   exact absurd H (by simp)
 ·rw [if_neg c2] at H
  exact absurd H (by simp)

/-! ### laws_toPoint: function 123 -/
def laws_toPoint.f (a0_0 : Int) (a0_1 : Int) : Option (Int × Int) := some (a0_0, a0_1)
theorem laws_toPoint.calls (a0_0 : Int) (a0_1 : Int) (r1 : Int) (r2 : Int) (w : World) (h : laws_toPoint.f a0_0 a0_1 = some (r1, r2)) :
  Calls Tryz.prog 123 #[.agg #[.int .i64 a0_0, .int .i64 a0_1]] w fun e w' => e = .returned (.agg #[.int .i64 r1, .int .i64 r2]) ∧ Below w.heap.size w w' := by
 have hu153 := Tryz.underlying153
 have hu151 := Tryz.underlying151
 have HB := aM (Below.refl w.heap.size w)
 have H := h
 clear h
 unfold laws_toPoint.f at H
 obtain ⟨rfl, rfl⟩ := sI2 H
 go_enter Tryz.func123, Tryz.ntmps123
 go_wp2_with (first | ((with_reducible refine gD 1 ?_); refine bxE #[.int .i64 a0_0, .int .i64 a0_1] 153 ?_; intro gb123 hg w2 BK123 hb; have GW123 := gE hg; have GE123 := gE hg; replace HB := hB hb; clear hb hg) | ((with_reducible refine gD 2 ?_); refine bxE #[.int .i64 0, .int .i64 0] 151 ?_; intro gb124 hg w3 BK124 hb; have GW124 := gE hg; have GE124 := gE hg; have NB123_124 := nL_ gb123 hg; have NB124_123 := nG_ gb123 hg; replace BK123 := kB_ gb123 hb; replace HB := hB hb; clear hb hg) | ((with_reducible refine gD 3 ?_); refine bxE #[.int .i64 0, .int .i64 0] 151 ?_; intro gb125 hg w4 BK125 hb; have GW125 := gE hg; have GE125 := gE hg; have NB123_125 := nL_ gb123 hg; have NB125_123 := nG_ gb123 hg; have NB124_125 := nL_ gb124 hg; have NB125_124 := nG_ gb124 hg; replace BK123 := kB_ gb123 hb; replace BK124 := kB_ gb124 hb; replace HB := hB hb; clear hb hg; have hnb5 := NB123_124.out; have hnc5 := NB124_123.out; have hnb6 := NB123_125.out; have hnc6 := NB125_123.out; have hz7 := cz2 BK123; have hnb8 := NB125_124.out; have hnc8 := NB124_125.out; have hz9 := cz2 BK125; have hz10 := cz2 BK124))
 refine bodyPost_ret (results_cell_row rfl _ _ gb124 151 #[.int .i64 a0_0, .int .i64 a0_1] (0, 0) _ rfl kS Tryz.underlying151 rfl (by kernel_rfl)) rfl ?_
 exact ⟨eS, bS⟩

/-! ### laws_toPointS: function 62 -/
def laws_toPointS.l0 : Nat → List (S153) → List (S151) → Int → Option ((List (S151)))
 | 0, _, _, _ => none
 | k + 1, x0, x3, x4 => if x4 < (x0.length : Int) then (if 0 ≤ x4 then ((laws_toPoint.f ((rd_T153 x0 x4).f0) ((rd_T153 x0 x4).f1)).bind fun bt130 => (if x4 < (x3.length : Int) then (laws_toPointS.l0 k x0 (x3.set (x4 : Int).toNat (⟨bt130.1, bt130.2⟩ : S151)) (wrap64 (x4 + 1))) else (none))) else (none)) else (some x3)
def laws_toPointS.f (k : Nat) (l0 : List (S153)) : Option ((List (S151))) := if 0 ≤ (l0.length : Int) then (if ((l0.length : Int) : Int).toNat ≤ 17592186044416 then (laws_toPointS.l0 k l0 (List.replicate ((l0.length : Int) : Int).toNat z151) 0) else (none)) else (none)
theorem laws_toPointS.calls (k : Nat) (A0 : Option Addr) (c0 : Nat) (l0 : List (S153)) (r : List (S151)) (w : World) (hr0 : Kd.C k153 w A0 l0.length l0) (hc0 : l0.length ≤ c0) (h : laws_toPointS.f k l0 = some r) :
  Calls Tryz.prog 62 #[.slice A0 l0.length c0] w fun e w' => ∃ v0_ : Value, e = .returned (v0_) ∧ Kd.R k151 151 w' w.heap.size (fun _ => True) v0_ r ∧ Below w.heap.size w w' := by
 have hu153 := Tryz.underlying153
 have hu151 := Tryz.underlying151
 have HR0 := aM hr0
 have HC0 := aM hc0
 clear hr0 hc0
 have HB := aM (Below.refl w.heap.size w)
 have H := h
 clear h
 unfold laws_toPointS.f at H
 by_cases c2 : 0 ≤ (l0.length : Int)
 ·rw [if_pos c2] at H
  have c2b0 := eq_true c2
  have c2b1 : decide (0 ≤ (l0.length : Int)) = true := decide_eq_true c2
  clear c2
  by_cases c3 : ((l0.length : Int) : Int).toNat ≤ 17592186044416
  ·rw [if_pos c3] at H
   have c3b0 := eq_true c3
   have c3b1 : decide (((l0.length : Int) : Int).toNat ≤ 17592186044416) = true := decide_eq_true c3
   clear c3
   obtain ⟨y126, hy_⟩ : ∃ y_ : List (S151), y_ = (List.replicate ((l0.length : Int) : Int).toNat z151) := ⟨_, rfl⟩
   replace H : (laws_toPointS.l0 k l0 y126 0) = some r := yS
   have Ny126 := aM hy_
   clear hy_
   have H' := aM H
   clear H
   go_enter Tryz.func62, Tryz.ntmps62
   go_wp2_with (first | ((with_reducible refine gate_dst (N := 7) rfl ?_); refine Kd.R_make k151 _ 151 rfl (N := 7) rfl 46 _ _ rfl (l0.length : Int) rfl rfl Tryz.underlying46 (.agg #[(.int .i64 0), (.int .i64 0)]) 16 info151 rfl (by decide) (by omega) z151 (ok := fun _ => True) (okp := fun _ => True) (k151_mkM _ _ _ z151 ) (fun _ hk => hk) trivial (dA) (Nat.le_trans (Nat.mul_le_mul_right _ (dA : (l0.length : Int).toNat ≤ 17592186044416)) (by omega)) (Below.refl _ _) (Nat.le_refl _) ?_; intro v127 w4 ho5 hb hg_ hnew_; clear hg_ hnew_; (first | rw [← Ny126.out] at ho5 | (simp only [Int.reduceToNat] at ho5; rw [← Ny126.out] at ho5)); have HO128 := aM (Kd.R_lower ho5 (below_size bS)); replace HB := hB hb; clear hb ho5))
   go_loopg [4] k (fun kq v4 w' => ∃ (x3_1 : List (S151)) (x4_1 : Int), v4 = .int .i64 x4_1 ∧ Aside0 (laws_toPointS.l0 kq l0 x3_1 x4_1 = some r) ∧ Aside0 (kq ≤ k) ∧ Aside0 (Kd.R k151 151 w' w.heap.size (fun _ => True) v127 x3_1) ∧ Aside0 (Below w.heap.size w w'))
   case atStart => exact ⟨(y126), (0), fS, H', ⟨Nat.le_refl _⟩, ⟨rS HO128⟩, ⟨bS⟩⟩
   case round =>
    clear H'
    try clear c2
    try clear c2b0
    try clear c2b1
    try clear p2
    try clear c3
    try clear c3b0
    try clear c3b1
    obtain ⟨x3_1, x4_1, rfl, HA, HK1, HO_3, HB⟩ := hrel
    cases gk with
    | zero => exact absurd HA.out (by simp [laws_toPointS.l0])
    | succ k1 =>
     have H := HA.out
     clear HA
     simp only [laws_toPointS.l0] at H
     rcases iD H with ⟨c6b0, H⟩ | ⟨c6b0, H⟩
     ·obtain ⟨c7b0, H⟩ := iT H
      replace H := bN H
      obtain ⟨⟨t130, t131⟩, A8, H⟩ := H
      obtain ⟨c9b0, H⟩ := iT H
      obtain ⟨y132, hy_⟩ : ∃ y_ : List (S151), y_ = (x3_1.set (x4_1 : Int).toNat (⟨t130, t131⟩ : S151)) := ⟨_, rfl⟩
      replace H : (laws_toPointS.l0 k1 l0 y132 (wrap64 (x4_1 + 1))) = some r := yS
      have Ny132 := aM hy_
      clear hy_
      have H' := aM H
      clear H
      have p129 : 0 ≤ (x4_1 : Int) := dA
      have q129 : x4_1 < (l0.length : Int) := dA
      obtain ⟨ad129, e129, hx129_0, hx129_1⟩ := at_T153 HR0.out x4_1 p129 q129
      cases e129
      replace hx129_0 := cB HB hx129_0
      replace hx129_1 := cB HB hx129_1
      replace p129 := eq_true p129
      replace q129 := eq_true q129
      go_wp2_with (first | ((with_reducible refine gC 123 ?_); refine cM (some 20) Tryz.func123 (laws_toPoint.calls ((rd_T153 l0 x4_1).f0) ((rd_T153 l0 x4_1).f1) t130 t131 _ A8.out) ?_; rintro e w11 ⟨rfl, hb⟩; refine ⟨_, rfl, ?_⟩; replace HO_3 := aM (Kd.R_below (rS HO_3) hb); replace HB := hB hb; (try clear hb hk); have p10 : 0 ≤ (x4_1 : Int) := dA; have q10 : (x4_1 : Int) < ((x3_1.length : Int) : Int) := dA; obtain ⟨go10, co10, eo10, gb10, gl10, cl10, HG10⟩ := Kd.R_form HO_3.out (by omega); (first | cases eo10 | (injection eo10 with ea_ en_ ec_; (first | subst ea_ | (injection ea_ with ea_; subst ea_)); subst ec_; clear en_)); have GB10 := aM gb10; have GG10 := aM HG10; clear gb10 gl10 HG10; obtain ⟨ce10, hcl10, hM10, hcc10, hfr10⟩ := Kd.R_elem HO_3.out z151 (x4_1 : Int) p10 q10; obtain rfl := k151_openM hM10; have hx10_0 : w11.cell? ⟨go10, (x4_1 : Int).toNat * 2, none⟩ = some (.int .i64 ((rd_T151 x3_1 x4_1).f0)) := hcc10 0 _ rfl; have hx10_1 : w11.cell? ⟨go10, (x4_1 : Int).toNat * 2 + 1, none⟩ = some (.int .i64 ((rd_T151 x3_1 x4_1).f1)) := hcc10 1 _ rfl; have hf10_0 : w11.frozen? ⟨go10, (x4_1 : Int).toNat * 2, none⟩ = false := hfr10 0; have hf10_1 : w11.frozen? ⟨go10, (x4_1 : Int).toNat * 2 + 1, none⟩ = false := hfr10 1; (try clear hM10); clear hcl10 hcc10 hfr10; replace p10 := eq_true p10; replace q10 := eq_true q10; have HX12 := aM (show Kd.R k151 151 w11 w.heap.size (fun _ => True) (.slice (some ⟨go10, 0, none⟩) x3_1.length co10) x3_1 from (rS HO_3)); obtain ⟨ce12, hcl12, hM12, hcc12, hfr12⟩ := Kd.R_elem HX12.out z151 (x4_1 : Int) (dA) (by have h_ : (x4_1 : Int) < ((x3_1.length : Int) : Int) := dA; first | exact h_ | (have e_ := (Kd.R_reads' HO_3.out).1; omega) | simpa using h_); obtain rfl := k151_openM hM12; have HP12 := Kd.R_seg HX12.out (x4_1 : Int) (dA) (by have h_ : (x4_1 : Int) < ((x3_1.length : Int) : Int) := dA; first | exact h_ | (have e_ := (Kd.R_reads' HO_3.out).1; omega) | simpa using h_) (seg := [.int .i64 t130, .int .i64 t131]) (j := 0) hcl12 hcc12 (show 2 ≤ 2 from by decide) (x' := (⟨t130, t131⟩ : S151)) (k151_mkM _ _ _ (⟨t130, t131⟩ : S151) ) (fun _ hk => hk); have hx12_0 := hcc12 0 _ rfl; (try simp only [show (k151).sz = 2 from rfl, Nat.mul_one, Nat.add_zero] at hx12_0); have hf12_0 := hfr12 0; (try simp only [show (k151).sz = 2 from rfl, Nat.mul_one, Nat.add_zero] at hf12_0); have hx12_1 := hcc12 1 _ rfl; (try simp only [show (k151).sz = 2 from rfl, Nat.mul_one, Nat.add_zero] at hx12_1); have hf12_1 := hfr12 1; (try simp only [show (k151).sz = 2 from rfl, Nat.mul_one, Nat.add_zero] at hf12_1); (try clear hM12); clear hcl12 hcc12 hfr12) | ((with_reducible refine gate_store (t := 151) (p := 21) rfl ?_); refine store_event (t := 151) (p := 21) (v := ?vo_w13) (w1 := ((w11.setCell ⟨go10, (x4_1 : Int).toNat * 2, none⟩ (.int .i64 t130)).setCell ⟨go10, (x4_1 : Int).toNat * 2 + 1, none⟩ (.int .i64 t131))) ?hg ?ho ?hn ?hr ?_; (case ho => rfl); (case hg => rfl); (case hn => rfl); (case hr => first | (go_simp; done) | (go_simp; rfl)); intro w13 hw; have hg : w11.grownBy w13 (some go10) := (by rw [hw]; exact HP12.2); have hp_ : Kd.R k151 151 w13 w.heap.size (fun _ => True) (.slice (some ⟨go10, 0, none⟩) x3_1.length co10) y132 := (by rw [hw, Ny132.out]; exact HP12.1); clear HP12; replace HO_3 := aM (hp_); replace HB := aM ((by rw [hw]; exact below_set (below_set (HB.out) GB10.out) GB10.out : Below w.heap.size w w13)); clear hg hw hp_))
      go_roundg k1
      case measure => have := HK1.out; omega
      case rel => exact ⟨(y132), (wrap64 (x4_1 + 1)), fS, H', ⟨by have := HK1.out; omega⟩, ⟨rS HO_3⟩, ⟨bS⟩⟩
     ·obtain rfl := Option.some.inj H
      go_wp2
      go_ret
      exact ⟨_, eS, rS HO_3, bS⟩
  ·rw [if_neg c3] at H
   exact absurd H (by simp)
 ·rw [if_neg c2] at H
  exact absurd H (by simp)

/-! ### laws_toBox: function 63 -/
def laws_toBox.f (a0_0 : Int) (a0_1 : Int) (a0_2 : Int) (a0_3 : Int) : Option (Int × Int × Int × Int) := some (a0_0, a0_1, a0_2, a0_3)
theorem laws_toBox.calls (a0_0 : Int) (a0_1 : Int) (a0_2 : Int) (a0_3 : Int) (r1 : Int) (r2 : Int) (r3 : Int) (r4 : Int) (w : World) (h : laws_toBox.f a0_0 a0_1 a0_2 a0_3 = some (r1, r2, r3, r4)) :
  Calls Tryz.prog 63 #[.agg #[.int .i64 a0_0, .int .i64 a0_1, .int .i64 a0_2, .int .i64 a0_3]] w fun e w' => e = .returned (.agg #[.int .i64 r1, .int .i64 r2, .int .i64 r3, .int .i64 r4]) ∧ Below w.heap.size w w' := by
 have hu40 := Tryz.underlying40
 have hu47 := Tryz.underlying47
 have HB := aM (Below.refl w.heap.size w)
 have H := h
 clear h
 unfold laws_toBox.f at H
 obtain ⟨rfl, rfl, rfl, rfl⟩ := sI4 H
 go_enter Tryz.func63, Tryz.ntmps63
 go_wp2_with (first | ((with_reducible refine gD 1 ?_); refine bxE #[.int .i64 a0_0, .int .i64 a0_1, .int .i64 a0_2, .int .i64 a0_3] 40 ?_; intro gb133 hg w2 BK133 hb; have GW133 := gE hg; have GE133 := gE hg; replace HB := hB hb; clear hb hg) | ((with_reducible refine gD 2 ?_); refine bxE #[.int .i64 0, .int .i64 0, .int .i64 0, .int .i64 0] 47 ?_; intro gb134 hg w3 BK134 hb; have GW134 := gE hg; have GE134 := gE hg; have NB133_134 := nL_ gb133 hg; have NB134_133 := nG_ gb133 hg; replace BK133 := kB_ gb133 hb; replace HB := hB hb; clear hb hg) | ((with_reducible refine gD 3 ?_); refine bxE #[.int .i64 0, .int .i64 0, .int .i64 0, .int .i64 0] 47 ?_; intro gb135 hg w4 BK135 hb; have GW135 := gE hg; have GE135 := gE hg; have NB133_135 := nL_ gb133 hg; have NB135_133 := nG_ gb133 hg; have NB134_135 := nL_ gb134 hg; have NB135_134 := nG_ gb134 hg; replace BK133 := kB_ gb133 hb; replace BK134 := kB_ gb134 hb; replace HB := hB hb; clear hb hg; have hnb5 := NB133_134.out; have hnc5 := NB134_133.out; have hnb6 := NB133_135.out; have hnc6 := NB135_133.out; have hz7 := cz4 BK133; have hnb8 := NB135_134.out; have hnc8 := NB134_135.out; have hz9 := cz4 BK135; have hz10 := cz4 BK134))
 refine bodyPost_ret (results_cell_row rfl _ _ gb134 47 #[.int .i64 a0_0, .int .i64 a0_1, .int .i64 a0_2, .int .i64 a0_3] (0, 0) _ rfl kS Tryz.underlying47 rfl (by kernel_rfl)) rfl ?_
 exact ⟨eS, bS⟩

/-! ### laws_toObject: function 22 -/
def laws_toObject.f (k : Nat) (l0_0 : List (S153)) (a0_1 : Int) (a0_2 : Int) (a0_3 : Int) (a0_4 : Int) (a0_5 : Int) : Option ((List (S151)) × Int × Int × Int × Int × Int) := (laws_toPointS.f k l0_0).bind fun t139 => ((laws_toBox.f a0_2 a0_3 a0_4 a0_5).bind fun bt142 => (some (t139, a0_1, bt142.1, bt142.2.1, bt142.2.2.1, bt142.2.2.2)))
theorem laws_toObject.calls (k : Nat) (A0_0 : Option Addr) (c0_0 : Nat) (l0_0 : List (S153)) (a0_1 : Int) (a0_2 : Int) (a0_3 : Int) (a0_4 : Int) (a0_5 : Int) (r1 : List (S151)) (r2 : Int) (r3 : Int) (r4 : Int) (r5 : Int) (r6 : Int) (w : World) (hr0_0 : Kd.C k153 w A0_0 l0_0.length l0_0) (hc0_0 : l0_0.length ≤ c0_0) (h : laws_toObject.f k l0_0 a0_1 a0_2 a0_3 a0_4 a0_5 = some (r1, r2, r3, r4, r5, r6)) :
  Calls Tryz.prog 22 #[.agg #[.slice A0_0 l0_0.length c0_0, .int .i64 a0_1, .int .i64 a0_2, .int .i64 a0_3, .int .i64 a0_4, .int .i64 a0_5]] w fun e w' => ∃ v0_ : Value, e = .returned (.agg #[v0_, .int .i64 r2, .int .i64 r3, .int .i64 r4, .int .i64 r5, .int .i64 r6]) ∧ Kd.R k151 151 w' w.heap.size (fun _ => True) v0_ r1 ∧ Below w.heap.size w w' := by
 have hu42 := Tryz.underlying42
 have hu49 := Tryz.underlying49
 have hu40 := Tryz.underlying40
 have hu47 := Tryz.underlying47
 have HR0_0 := aM hr0_0
 have HC0_0 := aM hc0_0
 clear hr0_0 hc0_0
 have HB := aM (Below.refl w.heap.size w)
 have H := h
 clear h
 unfold laws_toObject.f at H
 replace H := bN H
 obtain ⟨t139, A2, H⟩ := H
 replace H := bN H
 obtain ⟨⟨t142, t143, t144, t145⟩, A3, H⟩ := H
 obtain ⟨rfl, rfl, rfl, rfl, rfl, rfl⟩ := sI6 H
 go_enter Tryz.func22, Tryz.ntmps22
 go_wp2_with (first | ((with_reducible refine gD 1 ?_); refine bxE #[.slice A0_0 l0_0.length c0_0, .int .i64 a0_1, .int .i64 a0_2, .int .i64 a0_3, .int .i64 a0_4, .int .i64 a0_5] 42 ?_; intro gb136 hg w4 BK136 hb; have GW136 := gE hg; have GE136 := gE hg; replace HB := hB hb; clear hb hg) | ((with_reducible refine gD 2 ?_); refine bxE #[.slice none 0 0, .int .i64 0, .int .i64 0, .int .i64 0, .int .i64 0, .int .i64 0] 49 ?_; intro gb137 hg w5 BK137 hb; have GW137 := gE hg; have GE137 := gE hg; have NB136_137 := nL_ gb136 hg; have NB137_136 := nG_ gb136 hg; replace BK136 := kB_ gb136 hb; replace HB := hB hb; clear hb hg) | ((with_reducible refine gD 3 ?_); refine bxE #[.slice none 0 0, .int .i64 0, .int .i64 0, .int .i64 0, .int .i64 0, .int .i64 0] 49 ?_; intro gb138 hg w6 BK138 hb; have GW138 := gE hg; have GE138 := gE hg; have NB136_138 := nL_ gb136 hg; have NB138_136 := nG_ gb136 hg; have NB137_138 := nL_ gb137 hg; have NB138_137 := nG_ gb137 hg; replace BK136 := kB_ gb136 hb; replace BK137 := kB_ gb137 hb; replace HB := hB hb; clear hb hg; have hnb7 := NB136_137.out; have hnc7 := NB137_136.out; have hnb8 := NB136_138.out; have hnc8 := NB138_136.out; have hz9 := cz6 BK136) | ((with_reducible refine gC 62 ?_); refine cM (some 6) Tryz.func62 (laws_toPointS.calls k _ _ l0_0 t139 _ (cC HR0_0 HB) HC0_0.out A2.out) ?_; rintro e w10 ⟨v140, rfl, ho0, hb⟩; refine ⟨_, rfl, ?_⟩; have HO141 := aM (Kd.R_lower ho0 (below_size bS)); replace BK136 := kB_ gb136 hb; replace BK137 := kB_ gb137 hb; replace BK138 := kB_ gb138 hb; replace HB := hB hb; (try clear hb ho0); obtain ⟨Ao11, co11, eo11⟩ := Kd.R_slice HO141.out; subst eo11; have hnb12 := NB138_137.out; have hnc12 := NB137_138.out; have hz13 := cz6 BK138; have hz14 := cz6 BK136) | ((with_reducible refine gC 63 ?_); refine cM (some 13) Tryz.func63 (laws_toBox.calls a0_2 a0_3 a0_4 a0_5 t142 t143 t144 t145 _ A3.out) ?_; rintro e w15 ⟨rfl, hb⟩; refine ⟨_, rfl, ?_⟩; replace HO141 := aM (Kd.R_below (by exact rG HO141 BK138) hb); replace BK136 := kB_ gb136 hb; replace BK137 := kB_ gb137 hb; replace BK138 := kO gb138 #[.slice Ao11 t139.length co11, .int .i64 a0_1, .int .i64 0, .int .i64 0, .int .i64 0, .int .i64 0] 49 hb; replace HB := hB hb; (try clear hb hk); have hz16 := cz6 BK138; have hz17 := cz6 BK137))
 refine bodyPost_ret (results_cell_row rfl _ _ gb137 49 #[.slice Ao11 t139.length co11, .int .i64 a0_1, .int .i64 t142, .int .i64 t143, .int .i64 t144, .int .i64 t145] (0, 0) _ rfl kS Tryz.underlying49 rfl (by kernel_rfl)) rfl ?_
 exact ⟨_, eS, by exact rT (Kd.R_mono (Kd.R_far (p := ⟨gb137, 5, none⟩) (Kd.R_far (p := ⟨gb137, 4, none⟩) (Kd.R_far (p := ⟨gb137, 3, none⟩) (Kd.R_far (p := ⟨gb137, 2, none⟩) (Kd.R_far (p := ⟨gb137, 1, none⟩) (Kd.R_far (p := ⟨gb137, 0, none⟩) (Kd.R_far (p := ⟨gb138, 5, none⟩) (Kd.R_far (p := ⟨gb138, 4, none⟩) (Kd.R_far (p := ⟨gb138, 3, none⟩) (Kd.R_far (p := ⟨gb138, 2, none⟩) (Kd.R_types (Kd.R_types HO141.out BK138.out (by decide)) BK137.out (by decide)) (fun _ hk => hk.1.2) (.int .i64 t142)) (fun _ hk => hk.1.2) (.int .i64 t143)) (fun _ hk => hk.1.2) (.int .i64 t144)) (fun _ hk => hk.1.2) (.int .i64 t145)) (fun _ hk => hk.2) (.slice Ao11 t139.length co11)) (fun _ hk => hk.2) (.int .i64 a0_1)) (fun _ hk => hk.2) (.int .i64 t142)) (fun _ hk => hk.2) (.int .i64 t143)) (fun _ hk => hk.2) (.int .i64 t144)) (fun _ hk => hk.2) (.int .i64 t145)) (fun _ hk => trivial)), bS⟩

/-! ### laws_toObjectS: function 45 -/
def laws_toObjectS.l0 : Nat → List (S42) → List (S49) → Int → Option ((List (S49)))
 | 0, _, _, _ => none
 | k + 1, x0, x3, x4 => if x4 < (x0.length : Int) then (if 0 ≤ x4 then ((laws_toObject.f k ((rd_T42 x0 x4).f0) ((rd_T42 x0 x4).f1) ((rd_T42 x0 x4).f2.f0) ((rd_T42 x0 x4).f2.f1) ((rd_T42 x0 x4).f2.f2) ((rd_T42 x0 x4).f2.f3)).bind fun bt150 => (if x4 < (x3.length : Int) then (laws_toObjectS.l0 k x0 (x3.set (x4 : Int).toNat (⟨bt150.1, bt150.2.1, (⟨bt150.2.2.1, bt150.2.2.2.1, bt150.2.2.2.2.1, bt150.2.2.2.2.2⟩ : S47)⟩ : S49)) (wrap64 (x4 + 1))) else (none))) else (none)) else (some x3)
def laws_toObjectS.f (k : Nat) (l0 : List (S42)) : Option ((List (S49))) := if 0 ≤ (l0.length : Int) then (if ((l0.length : Int) : Int).toNat ≤ 4398046511104 then (laws_toObjectS.l0 k l0 (List.replicate ((l0.length : Int) : Int).toNat z49) 0) else (none)) else (none)
theorem laws_toObjectS.calls (k : Nat) (A0 : Option Addr) (c0 : Nat) (l0 : List (S42)) (r : List (S49)) (w : World) (hr0 : Kd.C k42 w A0 l0.length l0) (hc0 : l0.length ≤ c0) (h : laws_toObjectS.f k l0 = some r) :
  Calls Tryz.prog 45 #[.slice A0 l0.length c0] w fun e w' => ∃ v0_ : Value, e = .returned (v0_) ∧ Kd.S k49 49 w' w.heap.size (fun _ => True) v0_ r ∧ Below w.heap.size w w' := by
 have hu42 := Tryz.underlying42
 have hu49 := Tryz.underlying49
 have HR0 := aM hr0
 have HC0 := aM hc0
 clear hr0 hc0
 have HB := aM (Below.refl w.heap.size w)
 have H := h
 clear h
 unfold laws_toObjectS.f at H
 by_cases c2 : 0 ≤ (l0.length : Int)
 ·rw [if_pos c2] at H
  have c2b0 := eq_true c2
  have c2b1 : decide (0 ≤ (l0.length : Int)) = true := decide_eq_true c2
  clear c2
  by_cases c3 : ((l0.length : Int) : Int).toNat ≤ 4398046511104
  ·rw [if_pos c3] at H
   have c3b0 := eq_true c3
   have c3b1 : decide (((l0.length : Int) : Int).toNat ≤ 4398046511104) = true := decide_eq_true c3
   clear c3
   obtain ⟨y146, hy_⟩ : ∃ y_ : List (S49), y_ = (List.replicate ((l0.length : Int) : Int).toNat z49) := ⟨_, rfl⟩
   replace H : (laws_toObjectS.l0 k l0 y146 0) = some r := yS
   have Ny146 := aM hy_
   clear hy_
   have H' := aM H
   clear H
   go_enter Tryz.func45, Tryz.ntmps45
   go_wp2_with (first | ((with_reducible refine gate_dst (N := 7) rfl ?_); refine Kd.S_make k49 _ 49 rfl (N := 7) rfl 28 _ _ rfl (l0.length : Int) rfl rfl Tryz.underlying28 (.agg #[(.slice none 0 0), (.int .i64 0), (.int .i64 0), (.int .i64 0), (.int .i64 0), (.int .i64 0)]) 64 info49 rfl (by decide) (by omega) z49 (ok := fun _ => True) (okp := fun _ => True) (k49_mkM _ _ _ z49 (Kd.R_nil _ _ _ _ _)) (fun _ hk => hk) trivial (dA) (Nat.le_trans (Nat.mul_le_mul_right _ (dA : (l0.length : Int).toNat ≤ 4398046511104)) (by omega)) (Below.refl _ _) (Nat.le_refl _) ?_; intro v147 w4 ho5 hb hg_ hnew_; clear hg_ hnew_; (first | rw [← Ny146.out] at ho5 | (simp only [Int.reduceToNat] at ho5; rw [← Ny146.out] at ho5)); have HO148 := aM (Kd.S_lower ho5 (below_size bS)); replace HB := hB hb; clear hb ho5))
   go_loopg [4] k (fun kq v4 w' => ∃ (x3_1 : List (S49)) (x4_1 : Int), v4 = .int .i64 x4_1 ∧ Aside0 (laws_toObjectS.l0 kq l0 x3_1 x4_1 = some r) ∧ Aside0 (kq ≤ k) ∧ Aside0 (Kd.S k49 49 w' w.heap.size (fun _ => True) v147 x3_1) ∧ Aside0 (Below w.heap.size w w'))
   case atStart => exact ⟨(y146), (0), fS, H', ⟨Nat.le_refl _⟩, ⟨sS HO148⟩, ⟨bS⟩⟩
   case round =>
    clear H'
    try clear c2
    try clear c2b0
    try clear c2b1
    try clear p2
    try clear c3
    try clear c3b0
    try clear c3b1
    try clear c4
    obtain ⟨x3_1, x4_1, rfl, HA, HK1, HO_3, HB⟩ := hrel
    cases gk with
    | zero => exact absurd HA.out (by simp [laws_toObjectS.l0])
    | succ k1 =>
     have H := HA.out
     clear HA
     simp only [laws_toObjectS.l0] at H
     rcases iD H with ⟨c6b0, H⟩ | ⟨c6b0, H⟩
     ·obtain ⟨c7b0, H⟩ := iT H
      replace H := bN H
      obtain ⟨⟨t150, t153, t154, t155, t156, t157⟩, A8, H⟩ := H
      obtain ⟨c9b0, H⟩ := iT H
      obtain ⟨y158, hy_⟩ : ∃ y_ : List (S49), y_ = (x3_1.set (x4_1 : Int).toNat (⟨t150, t153, (⟨t154, t155, t156, t157⟩ : S47)⟩ : S49)) := ⟨_, rfl⟩
      replace H : (laws_toObjectS.l0 k1 l0 y158 (wrap64 (x4_1 + 1))) = some r := yS
      have Ny158 := aM hy_
      clear hy_
      have H' := aM H
      clear H
      have p149 : 0 ≤ (x4_1 : Int) := dA
      have q149 : x4_1 < (l0.length : Int) := dA
      obtain ⟨ad149, A149_0, c149_0, e149, hx149_0, hx149_1, hx149_2, hx149_3, hx149_4, hx149_5, hl149_0, hi149_0⟩ := at_T42 HR0.out x4_1 p149 q149
      cases e149
      replace hx149_0 := cB HB hx149_0
      replace hx149_1 := cB HB hx149_1
      replace hx149_2 := cB HB hx149_2
      replace hx149_3 := cB HB hx149_3
      replace hx149_4 := cB HB hx149_4
      replace hx149_5 := cB HB hx149_5
      have HR149_0 := aM hi149_0
      have HC149_0 := aM hl149_0
      clear hi149_0 hl149_0
      replace p149 := eq_true p149
      replace q149 := eq_true q149
      go_wp2_with (first | ((with_reducible refine gC 22 ?_); refine cM (some 20) Tryz.func22 (laws_toObject.calls k1 _ _ ((rd_T42 l0 x4_1).f0) ((rd_T42 l0 x4_1).f1) ((rd_T42 l0 x4_1).f2.f0) ((rd_T42 l0 x4_1).f2.f1) ((rd_T42 l0 x4_1).f2.f2) ((rd_T42 l0 x4_1).f2.f3) t150 t153 t154 t155 t156 t157 _ (cC HR149_0 HB) HC149_0.out A8.out) ?_; rintro e w11 ⟨v151, rfl, ho0, hb⟩; refine ⟨_, rfl, ?_⟩; have HO152 := aM (Kd.R_lower ho0 (below_size bS)); replace HO_3 := aM (Kd.S_elder' (sS HO_3) (Kd.R_base ho0) hb); replace HB := hB hb; (try clear hb hk ho0); have p10 : 0 ≤ (x4_1 : Int) := dA; have q10 : (x4_1 : Int) < ((x3_1.length : Int) : Int) := dA; obtain ⟨go10, co10, eo10, gb10, gl10, cl10, HG10⟩ := Kd.S_form HO_3.out (by omega); (first | cases eo10 | (injection eo10 with ea_ en_ ec_; (first | subst ea_ | (injection ea_ with ea_; subst ea_)); subst ec_; clear en_)); have GB10 := aM gb10; have GG10 := aM HG10; clear gb10 gl10 HG10; obtain ⟨_, ce10, hcl10, hM10, hcc10, hfr10, _, _⟩ := Kd.S_elem HO_3.out z49 (x4_1 : Int) p10 q10; obtain ⟨ve10_0, rfl, ge10_0⟩ := k49_openM hM10; have hx10_0 : w11.cell? ⟨go10, (x4_1 : Int).toNat * 6, none⟩ = some (ve10_0) := hcc10 0 _ rfl; have hx10_1 : w11.cell? ⟨go10, (x4_1 : Int).toNat * 6 + 1, none⟩ = some (.int .i64 ((rd_T49 x3_1 x4_1).f1)) := hcc10 1 _ rfl; have hx10_2 : w11.cell? ⟨go10, (x4_1 : Int).toNat * 6 + 2, none⟩ = some (.int .i64 ((rd_T49 x3_1 x4_1).f2.f0)) := hcc10 2 _ rfl; have hx10_3 : w11.cell? ⟨go10, (x4_1 : Int).toNat * 6 + 3, none⟩ = some (.int .i64 ((rd_T49 x3_1 x4_1).f2.f1)) := hcc10 3 _ rfl; have hx10_4 : w11.cell? ⟨go10, (x4_1 : Int).toNat * 6 + 4, none⟩ = some (.int .i64 ((rd_T49 x3_1 x4_1).f2.f2)) := hcc10 4 _ rfl; have hx10_5 : w11.cell? ⟨go10, (x4_1 : Int).toNat * 6 + 5, none⟩ = some (.int .i64 ((rd_T49 x3_1 x4_1).f2.f3)) := hcc10 5 _ rfl; have hf10_0 : w11.frozen? ⟨go10, (x4_1 : Int).toNat * 6, none⟩ = false := hfr10 0; have hf10_1 : w11.frozen? ⟨go10, (x4_1 : Int).toNat * 6 + 1, none⟩ = false := hfr10 1; have hf10_2 : w11.frozen? ⟨go10, (x4_1 : Int).toNat * 6 + 2, none⟩ = false := hfr10 2; have hf10_3 : w11.frozen? ⟨go10, (x4_1 : Int).toNat * 6 + 3, none⟩ = false := hfr10 3; have hf10_4 : w11.frozen? ⟨go10, (x4_1 : Int).toNat * 6 + 4, none⟩ = false := hfr10 4; have hf10_5 : w11.frozen? ⟨go10, (x4_1 : Int).toNat * 6 + 5, none⟩ = false := hfr10 5; (try clear hM10); clear hcl10 hcc10 hfr10; replace p10 := eq_true p10; replace q10 := eq_true q10; obtain ⟨Ao14, co14, eo14⟩ := Kd.R_slice HO152.out; subst eo14; have n_ := aM (Kd.S_mono (ok' := (fun k_ => some k_ ≠ (.slice Ao14 t150.length co14 : Value).ownBlock)) HO_3.out (fun k_ hk => hk.2)); clear HO_3; have HO_3 := n_; clear n_; have HX12 := aM (show Kd.S k49 49 w11 w.heap.size (fun k_ => ((fun _ => True)) k_ ∧ ¬ ((fun k_ => some k_ = (.slice Ao14 t150.length co14 : Value).ownBlock)) k_) (.slice (some ⟨go10, 0, none⟩) x3_1.length co10) x3_1 from (by exact sT (Kd.S_mono HO_3.out (fun k_ hk => ⟨trivial, fun e_ => hk e_⟩)))); obtain ⟨oki12, ce12, hcl12, hM12, hcc12, hfr12, hoki12, hH12⟩ := Kd.S_elem HX12.out z49 (x4_1 : Int) (dA) (by have h_ : (x4_1 : Int) < ((x3_1.length : Int) : Int) := dA; first | exact h_ | (have e_ := (Kd.S_reads' HO_3.out).1; omega) | simpa using h_); obtain ⟨ve12_0, rfl, ge12_0⟩ := k49_openM hM12; have HP12 := Kd.S_seg hH12 (dA) (by have h_ : (x4_1 : Int) < ((x3_1.length : Int) : Int) := dA; first | exact h_ | (have e_ := (Kd.S_reads' HO_3.out).1; omega) | simpa using h_) (seg := [.slice Ao14 t150.length co14, .int .i64 t153, .int .i64 t154, .int .i64 t155, .int .i64 t156, .int .i64 t157]) (j := 0) (show 6 ≤ 6 from by decide) (x' := (⟨t150, t153, (⟨t154, t155, t156, t157⟩ : S47)⟩ : S49)) (k49_mkM _ _ _ (⟨t150, t153, (⟨t154, t155, t156, t157⟩ : S47)⟩ : S49) (Kd.R_mono (Kd.R_tight rfl (Kd.R_mono (ok' := fun k_ => ((fun _ => True)) k_ ∧ k_ ≠ go10) (Kd.R_apart' (HO152.out) (Kd.S_typed HO_3.out) (by decide)) (fun k_ hk => ⟨trivial, fun e_ => (hk.2) (by rw [e_]; rfl)⟩))) (fun _ h_ => Or.inr (h_)))) (fun _ hk => hk) (fun k_ hk_ => ((Kd.R_mono (ok' := fun k_ => ((fun _ => True)) k_ ∧ k_ ≠ go10) (Kd.R_apart' (HO152.out) (Kd.S_typed HO_3.out) (by decide)) (fun k_ hk => ⟨trivial, fun e_ => (hk.2) (by rw [e_]; rfl)⟩))).1 k_ hk_.symm); have hx12_0 := hcc12 0 _ rfl; (try simp only [show (k49).sz = 6 from rfl, Nat.mul_one, Nat.add_zero] at hx12_0); have hf12_0 := hfr12 0; (try simp only [show (k49).sz = 6 from rfl, Nat.mul_one, Nat.add_zero] at hf12_0); have hx12_1 := hcc12 1 _ rfl; (try simp only [show (k49).sz = 6 from rfl, Nat.mul_one, Nat.add_zero] at hx12_1); have hf12_1 := hfr12 1; (try simp only [show (k49).sz = 6 from rfl, Nat.mul_one, Nat.add_zero] at hf12_1); have hx12_2 := hcc12 2 _ rfl; (try simp only [show (k49).sz = 6 from rfl, Nat.mul_one, Nat.add_zero] at hx12_2); have hf12_2 := hfr12 2; (try simp only [show (k49).sz = 6 from rfl, Nat.mul_one, Nat.add_zero] at hf12_2); have hx12_3 := hcc12 3 _ rfl; (try simp only [show (k49).sz = 6 from rfl, Nat.mul_one, Nat.add_zero] at hx12_3); have hf12_3 := hfr12 3; (try simp only [show (k49).sz = 6 from rfl, Nat.mul_one, Nat.add_zero] at hf12_3); have hx12_4 := hcc12 4 _ rfl; (try simp only [show (k49).sz = 6 from rfl, Nat.mul_one, Nat.add_zero] at hx12_4); have hf12_4 := hfr12 4; (try simp only [show (k49).sz = 6 from rfl, Nat.mul_one, Nat.add_zero] at hf12_4); have hx12_5 := hcc12 5 _ rfl; (try simp only [show (k49).sz = 6 from rfl, Nat.mul_one, Nat.add_zero] at hx12_5); have hf12_5 := hfr12 5; (try simp only [show (k49).sz = 6 from rfl, Nat.mul_one, Nat.add_zero] at hf12_5); (try clear hM12); clear hcl12 hcc12 hfr12 hoki12 hH12) | ((with_reducible refine gate_store (t := 49) (p := 21) rfl ?_); refine store_event (t := 49) (p := 21) (v := ?vo_w13) (w1 := ((((((w11.setCell ⟨go10, (x4_1 : Int).toNat * 6, none⟩ (.slice Ao14 t150.length co14)).setCell ⟨go10, (x4_1 : Int).toNat * 6 + 1, none⟩ (.int .i64 t153)).setCell ⟨go10, (x4_1 : Int).toNat * 6 + 2, none⟩ (.int .i64 t154)).setCell ⟨go10, (x4_1 : Int).toNat * 6 + 3, none⟩ (.int .i64 t155)).setCell ⟨go10, (x4_1 : Int).toNat * 6 + 4, none⟩ (.int .i64 t156)).setCell ⟨go10, (x4_1 : Int).toNat * 6 + 5, none⟩ (.int .i64 t157))) ?hg ?ho ?hn ?hr ?_; (case ho => rfl); (case hg => rfl); (case hn => rfl); (case hr => first | (go_simp; done) | (go_simp; rfl)); intro w13 hw; have hg : w11.grownBy w13 (some go10) := (by rw [hw]; exact HP12.2); have hp_ : Kd.S k49 49 w13 w.heap.size (fun _ => True) (.slice (some ⟨go10, 0, none⟩) x3_1.length co10) y158 := (by rw [hw, Ny158.out]; exact HP12.1); clear HP12; replace HO_3 := aM (hp_); replace HB := aM ((by rw [hw]; exact below_set (below_set (below_set (below_set (below_set (below_set (HB.out) GB10.out) GB10.out) GB10.out) GB10.out) GB10.out) GB10.out : Below w.heap.size w w13)); clear HO152; clear hg hw hp_))
      go_roundg k1
      case measure => have := HK1.out; omega
      case rel => exact ⟨(y158), (wrap64 (x4_1 + 1)), fS, H', ⟨by have := HK1.out; omega⟩, ⟨sS HO_3⟩, ⟨bS⟩⟩
     ·obtain rfl := Option.some.inj H
      go_wp2
      go_ret
      exact ⟨_, eS, sS HO_3, bS⟩
  ·rw [if_neg c3] at H
   exact absurd H (by simp)
 ·rw [if_neg c2] at H
  exact absurd H (by simp)

/-! ### laws_toBand: function 10 -/
def laws_toBand.f (k : Nat) (a0_0 : Int) (a0_1 : Int) (l0_2 : List (List Int)) (l0_3 : List (S42)) : Option (Int × Int × (List (List Int)) × (List (S49))) := (laws_toIntSS.f k l0_2).bind fun t162 => ((laws_toObjectS.f k l0_3).bind fun t165 => (some (a0_0, a0_1, t162, t165)))
theorem laws_toBand.calls (k : Nat) (a0_0 : Int) (a0_1 : Int) (A0_2 : Option Addr) (c0_2 : Nat) (l0_2 : List (List Int)) (A0_3 : Option Addr) (c0_3 : Nat) (l0_3 : List (S42)) (r1 : Int) (r2 : Int) (r3 : List (List Int)) (r4 : List (S49)) (w : World) (hr0_2 : Kd.C (Kd.slice 3 (Kd.int .i64)) w A0_2 l0_2.length l0_2) (hc0_2 : l0_2.length ≤ c0_2) (hr0_3 : Kd.C k42 w A0_3 l0_3.length l0_3) (hc0_3 : l0_3.length ≤ c0_3) (h : laws_toBand.f k a0_0 a0_1 l0_2 l0_3 = some (r1, r2, r3, r4)) :
  Calls Tryz.prog 10 #[.agg #[.int .i64 a0_0, .int .i64 a0_1, .slice A0_2 l0_2.length c0_2, .slice A0_3 l0_3.length c0_3]] w fun e w' => ∃ v2_ v3_ : Value, e = .returned (.agg #[.int .i64 r1, .int .i64 r2, v2_, v3_]) ∧ Kd.S (Kd.slice 3 (Kd.int .i64)) 54 w' w.heap.size (fun _ => True) v2_ r3 ∧ Kd.S k49 49 w' w.heap.size (fun _ => True) v3_ r4 ∧ Below w.heap.size w w' := by
 have hu25 := Tryz.underlying25
 have hu30 := Tryz.underlying30
 have HR0_2 := aM hr0_2
 have HC0_2 := aM hc0_2
 clear hr0_2 hc0_2
 have HR0_3 := aM hr0_3
 have HC0_3 := aM hc0_3
 clear hr0_3 hc0_3
 have HB := aM (Below.refl w.heap.size w)
 have H := h
 clear h
 unfold laws_toBand.f at H
 replace H := bN H
 obtain ⟨t162, A2, H⟩ := H
 replace H := bN H
 obtain ⟨t165, A3, H⟩ := H
 obtain ⟨rfl, rfl, rfl, rfl⟩ := sI4 H
 go_enter Tryz.func10, Tryz.ntmps10
 go_wp2_with (first | ((with_reducible refine gD 1 ?_); refine bxE #[.int .i64 a0_0, .int .i64 a0_1, .slice A0_2 l0_2.length c0_2, .slice A0_3 l0_3.length c0_3] 25 ?_; intro gb159 hg w4 BK159 hb; have GW159 := gE hg; have GE159 := gE hg; replace HB := hB hb; clear hb hg) | ((with_reducible refine gD 2 ?_); refine bxE #[.int .i64 0, .int .i64 0, .slice none 0 0, .slice none 0 0] 30 ?_; intro gb160 hg w5 BK160 hb; have GW160 := gE hg; have GE160 := gE hg; have NB159_160 := nL_ gb159 hg; have NB160_159 := nG_ gb159 hg; replace BK159 := kB_ gb159 hb; replace HB := hB hb; clear hb hg) | ((with_reducible refine gD 3 ?_); refine bxE #[.int .i64 0, .int .i64 0, .slice none 0 0, .slice none 0 0] 30 ?_; intro gb161 hg w6 BK161 hb; have GW161 := gE hg; have GE161 := gE hg; have NB159_161 := nL_ gb159 hg; have NB161_159 := nG_ gb159 hg; have NB160_161 := nL_ gb160 hg; have NB161_160 := nG_ gb160 hg; replace BK159 := kB_ gb159 hb; replace BK160 := kB_ gb160 hb; replace HB := hB hb; clear hb hg; have hnb7 := NB159_160.out; have hnc7 := NB160_159.out; have hnb8 := NB159_161.out; have hnc8 := NB161_159.out; have hz9 := cz4 BK159; have hnb10 := NB161_160.out; have hnc10 := NB160_161.out; have hz11 := cz4 BK161) | ((with_reducible refine gC 44 ?_); refine cM (some 12) Tryz.func44 (laws_toIntSS.calls k _ _ l0_2 t162 _ (Kd.C_below HR0_2.out bS) HC0_2.out A2.out) ?_; rintro e w12 ⟨v163, rfl, ho0, hb⟩; refine ⟨_, rfl, ?_⟩; have HO164 := aM (Kd.S_lower ho0 (below_size bS)); replace BK159 := kB_ gb159 hb; replace BK160 := kB_ gb160 hb; replace BK161 := kO gb161 #[.int .i64 a0_0, .int .i64 a0_1, .slice none 0 0, .slice none 0 0] 30 hb; replace HB := hB hb; (try clear hb ho0); obtain ⟨Ao13, co13, eo13⟩ := Kd.S_slice HO164.out; subst eo13; have hz14 := cz4 BK161; have hz15 := cz4 BK159) | ((with_reducible refine gC 45 ?_); refine cM (some 16) Tryz.func45 (laws_toObjectS.calls k _ _ l0_3 t165 _ (Kd.C_below HR0_3.out bS) HC0_3.out A3.out) ?_; rintro e w16 ⟨v166, rfl, ho0, hb⟩; refine ⟨_, rfl, ?_⟩; have HO167 := aM (Kd.S_lower ho0 (below_size bS)); replace HO164 := aM (Kd.S_below (by exact sG HO164 BK161) hb); replace BK159 := kB_ gb159 hb; replace BK160 := kB_ gb160 hb; replace BK161 := kO gb161 #[.int .i64 a0_0, .int .i64 a0_1, .slice Ao13 t162.length co13, .slice none 0 0] 30 hb; replace HB := hB hb; (try clear hb hk ho0); obtain ⟨Ao17, co17, eo17⟩ := Kd.S_slice HO167.out; subst eo17; have hz18 := cz4 BK161; have hz19 := cz4 BK160))
 refine bodyPost_ret (results_cell_row rfl _ _ gb160 30 #[.int .i64 a0_0, .int .i64 a0_1, .slice Ao13 t162.length co13, .slice Ao17 t165.length co17] (0, 0) _ rfl kS Tryz.underlying30 rfl (by kernel_rfl)) rfl ?_
 exact ⟨_, _, eS, by exact sT (Kd.S_mono (Kd.S_far (p := ⟨gb160, 3, none⟩) (Kd.S_far (p := ⟨gb160, 2, none⟩) (Kd.S_far (p := ⟨gb160, 1, none⟩) (Kd.S_far (p := ⟨gb160, 0, none⟩) (Kd.S_far (p := ⟨gb161, 3, none⟩) (Kd.S_types (Kd.S_types HO164.out BK161.out (by decide)) BK160.out (by decide)) (fun _ hk => hk.1.2) (.slice Ao17 t165.length co17)) (fun _ hk => hk.2) (.int .i64 a0_0)) (fun _ hk => hk.2) (.int .i64 a0_1)) (fun _ hk => hk.2) (.slice Ao13 t162.length co13)) (fun _ hk => hk.2) (.slice Ao17 t165.length co17)) (fun _ hk => trivial)), by exact sT (Kd.S_mono (Kd.S_far (p := ⟨gb160, 3, none⟩) (Kd.S_far (p := ⟨gb160, 2, none⟩) (Kd.S_far (p := ⟨gb160, 1, none⟩) (Kd.S_far (p := ⟨gb160, 0, none⟩) (Kd.S_far (p := ⟨gb161, 3, none⟩) (Kd.S_types (Kd.S_types HO167.out BK161.out (by decide)) BK160.out (by decide)) (fun _ hk => hk.1.2) (.slice Ao17 t165.length co17)) (fun _ hk => hk.2) (.int .i64 a0_0)) (fun _ hk => hk.2) (.int .i64 a0_1)) (fun _ hk => hk.2) (.slice Ao13 t162.length co13)) (fun _ hk => hk.2) (.slice Ao17 t165.length co17)) (fun _ hk => trivial)), bS⟩

/-! ### laws_eqIntS: function 47 -/
def laws_eqIntS.l0 : Nat → List Int → List Int → Int → Option (Bool)
 | 0, _, _, _ => none
 | k + 1, x0, x1, x5 => if x5 < (x0.length : Int) then (if 0 ≤ x5 then (if x5 < (x1.length : Int) then (if (rd x0 x5) = (rd x1 x5) then (laws_eqIntS.l0 k x0 x1 (wrap64 (x5 + 1))) else (some false)) else (none)) else (none)) else (some true)
def laws_eqIntS.f (k : Nat) (l0 : List Int) (l1 : List Int) : Option (Bool) := if (l0.length : Int) = (l1.length : Int) then (laws_eqIntS.l0 k l0 l1 0) else (some false)
theorem laws_eqIntS.calls (k : Nat) (A0 : Option Addr) (c0 : Nat) (l0 : List Int) (A1 : Option Addr) (c1 : Nat) (l1 : List Int) (r : Bool) (w : World) (hr0 : Kd.C (Kd.int .i64) w A0 l0.length l0) (hc0 : l0.length ≤ c0) (hr1 : Kd.C (Kd.int .i64) w A1 l1.length l1) (hc1 : l1.length ≤ c1) (h : laws_eqIntS.f k l0 l1 = some r) :
  Calls Tryz.prog 47 #[.slice A0 l0.length c0, .slice A1 l1.length c1] w fun e w' => e = .returned (.bool r) ∧ Drawn0 w w' := by
 have HR0 := aM hr0
 have HC0 := aM hc0
 clear hr0 hc0
 have HR1 := aM hr1
 have HC1 := aM hc1
 clear hr1 hc1
 have H := h
 clear h
 unfold laws_eqIntS.f at H
 by_cases c3 : (l0.length : Int) = (l1.length : Int)
 ·rw [if_pos c3] at H
  have c3b0 : ((l0.length : Int) == (l1.length : Int)) = true := beq_iff_eq.mpr c3
  have c3b1 : ((l0.length : Int) != (l1.length : Int)) = false := bne_eq_false_iff_eq.mpr c3
  have c3b2 : (l0.length == l1.length) = true := by first | simpa using c3 | (simp at c3 ⊢; omega)
  clear c3
  have H' := aM H
  clear H
  go_enter Tryz.func47, Tryz.ntmps47
  go_wp2
  repeat (go_quiet (fail); try go_wp2)
  go_loopg [5] k (fun kq v5 w' => ∃ (x5_1 : Int), v5 = .int .i64 x5_1 ∧ Aside0 (laws_eqIntS.l0 kq l0 l1 x5_1 = some r) ∧ Aside0 (kq ≤ k) ∧ Drawn0 w w')
  case atStart => exact ⟨(0), fS, H', ⟨Nat.le_refl _⟩, dS⟩
  case round =>
   clear H'
   try clear c1
   try clear p2
   try clear c3
   try clear c3b0
   try clear c3b1
   try clear c3b2
   obtain ⟨x5_1, rfl, HA, HK1, ⟨m1, rfl⟩⟩ := hrel
   cases gk with
   | zero => exact absurd HA.out (by simp [laws_eqIntS.l0])
   | succ k1 =>
    have H := HA.out
    clear HA
    simp only [laws_eqIntS.l0] at H
    rcases iD H with ⟨c4b0, H⟩ | ⟨c4b0, H⟩
    ·obtain ⟨c5b0, H⟩ := iT H
     obtain ⟨c6b0, H⟩ := iT H
     by_cases c7 : (rd l0 x5_1) = (rd l1 x5_1)
     ·rw [if_pos c7] at H
      have c7b0 : ((rd l0 x5_1) == (rd l1 x5_1)) = true := beq_iff_eq.mpr c7
      have c7b1 : ((rd l0 x5_1) != (rd l1 x5_1)) = false := bne_eq_false_iff_eq.mpr c7
      clear c7
      have H' := aM H
      clear H
      have p168 : 0 ≤ (x5_1 : Int) := dA
      have q168 : x5_1 < (l0.length : Int) := dA
      obtain ⟨ad168, e168, hx168_0⟩ := Kd.at_int HR0.out x5_1 p168 q168
      cases e168
      replace p168 := eq_true p168
      replace q168 := eq_true q168
      have p169 : 0 ≤ (x5_1 : Int) := dA
      have q169 : x5_1 < (l1.length : Int) := dA
      obtain ⟨ad169, e169, hx169_0⟩ := Kd.at_int HR1.out x5_1 p169 q169
      cases e169
      replace p169 := eq_true p169
      replace q169 := eq_true q169
      go_wp2
      repeat (go_quiet (fail); try go_wp2)
      go_roundg k1
      case measure => have := HK1.out; omega
      case rel => exact ⟨(wrap64 (x5_1 + 1)), fS, H', ⟨by have := HK1.out; omega⟩, dS⟩
     ·rw [if_neg c7] at H
      have c7b0 : ((rd l0 x5_1) == (rd l1 x5_1)) = false := beq_eq_false_iff_ne.mpr c7
      have c7b1 : ((rd l0 x5_1) != (rd l1 x5_1)) = true := bne_iff_ne.mpr c7
      obtain rfl := Option.some.inj H
      have p168 : 0 ≤ (x5_1 : Int) := dA
      have q168 : x5_1 < (l0.length : Int) := dA
      obtain ⟨ad168, e168, hx168_0⟩ := Kd.at_int HR0.out x5_1 p168 q168
      cases e168
      replace p168 := eq_true p168
      replace q168 := eq_true q168
      have p169 : 0 ≤ (x5_1 : Int) := dA
      have q169 : x5_1 < (l1.length : Int) := dA
      obtain ⟨ad169, e169, hx169_0⟩ := Kd.at_int HR1.out x5_1 p169 q169
      cases e169
      replace p169 := eq_true p169
      replace q169 := eq_true q169
      go_wp2
      repeat (go_quiet (fail); try go_wp2)
      go_ret
      exact ⟨fS, dS⟩
    ·obtain rfl := Option.some.inj H
     go_wp2
     repeat (go_quiet (fail); try go_wp2)
     go_ret
     exact ⟨fS, dS⟩
 ·rw [if_neg c3] at H
  have c3b0 : ((l0.length : Int) == (l1.length : Int)) = false := beq_eq_false_iff_ne.mpr c3
  have c3b1 : ((l0.length : Int) != (l1.length : Int)) = true := bne_iff_ne.mpr c3
  have c3b2 : (l0.length == l1.length) = false := by first | simpa using c3 | (simp at c3 ⊢; omega)
  obtain rfl := Option.some.inj H
  go_enter Tryz.func47, Tryz.ntmps47
  go_wp2
  repeat (go_quiet (fail); try go_wp2)
  go_ret
  exact ⟨fS, dS⟩

/-! ### laws_eqIntSS: function 12 -/
def laws_eqIntSS.l0 : Nat → List (List Int) → List (List Int) → Int → Option (Bool)
 | 0, _, _, _ => none
 | k + 1, x0, x1, x5 => if x5 < (x0.length : Int) then (if 0 ≤ x5 then (if x5 < (x1.length : Int) then ((laws_eqIntS.f k (rd_L1 x0 x5) (rd_L1 x1 x5)).bind fun t172 => (if t172 = true then (laws_eqIntSS.l0 k x0 x1 (wrap64 (x5 + 1))) else (some false))) else (none)) else (none)) else (some true)
def laws_eqIntSS.f (k : Nat) (l0 : List (List Int)) (l1 : List (List Int)) : Option (Bool) := if (l0.length : Int) = (l1.length : Int) then (laws_eqIntSS.l0 k l0 l1 0) else (some false)
theorem laws_eqIntSS.calls (k : Nat) (A0 : Option Addr) (c0 : Nat) (l0 : List (List Int)) (A1 : Option Addr) (c1 : Nat) (l1 : List (List Int)) (r : Bool) (w : World) (hr0 : Kd.C (Kd.slice 3 (Kd.int .i64)) w A0 l0.length l0) (hc0 : l0.length ≤ c0) (hr1 : Kd.C (Kd.slice 3 (Kd.int .i64)) w A1 l1.length l1) (hc1 : l1.length ≤ c1) (h : laws_eqIntSS.f k l0 l1 = some r) :
  Calls Tryz.prog 12 #[.slice A0 l0.length c0, .slice A1 l1.length c1] w fun e w' => e = .returned (.bool r) ∧ Drawn0 w w' := by
 have HR0 := aM hr0
 have HC0 := aM hc0
 clear hr0 hc0
 have HR1 := aM hr1
 have HC1 := aM hc1
 clear hr1 hc1
 have H := h
 clear h
 unfold laws_eqIntSS.f at H
 by_cases c3 : (l0.length : Int) = (l1.length : Int)
 ·rw [if_pos c3] at H
  have c3b0 : ((l0.length : Int) == (l1.length : Int)) = true := beq_iff_eq.mpr c3
  have c3b1 : ((l0.length : Int) != (l1.length : Int)) = false := bne_eq_false_iff_eq.mpr c3
  have c3b2 : (l0.length == l1.length) = true := by first | simpa using c3 | (simp at c3 ⊢; omega)
  clear c3
  have H' := aM H
  clear H
  go_enter Tryz.func12, Tryz.ntmps12
  go_wp2
  repeat (go_quiet (fail); try go_wp2)
  go_loopg [5] k (fun kq v5 w' => ∃ (x5_1 : Int), v5 = .int .i64 x5_1 ∧ Aside0 (laws_eqIntSS.l0 kq l0 l1 x5_1 = some r) ∧ Aside0 (kq ≤ k) ∧ Drawn0 w w')
  case atStart => exact ⟨(0), fS, H', ⟨Nat.le_refl _⟩, dS⟩
  case round =>
   clear H'
   try clear c1
   try clear p2
   try clear c3
   try clear c3b0
   try clear c3b1
   try clear c3b2
   obtain ⟨x5_1, rfl, HA, HK1, ⟨m1, rfl⟩⟩ := hrel
   cases gk with
   | zero => exact absurd HA.out (by simp [laws_eqIntSS.l0])
   | succ k1 =>
    have H := HA.out
    clear HA
    simp only [laws_eqIntSS.l0] at H
    rcases iD H with ⟨c4b0, H⟩ | ⟨c4b0, H⟩
    ·obtain ⟨c5b0, H⟩ := iT H
     obtain ⟨c6b0, H⟩ := iT H
     replace H := bN H
     obtain ⟨t172, A7, H⟩ := H
     by_cases c8 : t172 = true
     ·subst c8
      rw [if_pos rfl] at H
      have H' := aM H
      clear H
      have p170 : 0 ≤ (x5_1 : Int) := dA
      have q170 : x5_1 < (l0.length : Int) := dA
      obtain ⟨ad170, A170_0, c170_0, e170, hx170_0, hl170_0, hi170_0⟩ := at_L1 HR0.out x5_1 p170 q170
      cases e170
      have HR170_0 := aM hi170_0
      have HC170_0 := aM hl170_0
      clear hi170_0 hl170_0
      replace p170 := eq_true p170
      replace q170 := eq_true q170
      have p171 : 0 ≤ (x5_1 : Int) := dA
      have q171 : x5_1 < (l1.length : Int) := dA
      obtain ⟨ad171, A171_0, c171_0, e171, hx171_0, hl171_0, hi171_0⟩ := at_L1 HR1.out x5_1 p171 q171
      cases e171
      have HR171_0 := aM hi171_0
      have HC171_0 := aM hl171_0
      clear hi171_0 hl171_0
      replace p171 := eq_true p171
      replace q171 := eq_true q171
      go_wp2_with (first | (go_at_call 47; (with_reducible refine (laws_eqIntS.calls k1 _ _ (rd_L1 l0 x5_1) _ _ (rd_L1 l1 x5_1) _ _ ?side1 ?side2 ?side3 ?side4 A7.out).mono ?_); (case side1 => exact cS HR170_0.out); (case side2 => exact HC170_0.out); (case side3 => exact cS HR171_0.out); (case side4 => exact HC171_0.out); rintro e w' ⟨rfl, ⟨nd, rfl⟩⟩; (try first | exact ⟨rfl, _, World.drewN_drewN _ _ _⟩ | exact ⟨rfl, _, Eq.trans (World.drewN_drewN _ _ _) (congrArg (World.drewN _) (Nat.add_assoc _ _ _))⟩)))
      repeat (go_quiet (first | (go_at_call 47; (with_reducible refine (laws_eqIntS.calls k1 _ _ (rd_L1 l0 x5_1) _ _ (rd_L1 l1 x5_1) _ _ ?side1 ?side2 ?side3 ?side4 A7.out).mono ?_); (case side1 => exact cS HR170_0.out); (case side2 => exact HC170_0.out); (case side3 => exact cS HR171_0.out); (case side4 => exact HC171_0.out); rintro e w' ⟨rfl, ⟨nd, rfl⟩⟩; (try first | exact ⟨rfl, _, World.drewN_drewN _ _ _⟩ | exact ⟨rfl, _, Eq.trans (World.drewN_drewN _ _ _) (congrArg (World.drewN _) (Nat.add_assoc _ _ _))⟩))); try go_wp2_with (first | (go_at_call 47; (with_reducible refine (laws_eqIntS.calls k1 _ _ (rd_L1 l0 x5_1) _ _ (rd_L1 l1 x5_1) _ _ ?side1 ?side2 ?side3 ?side4 A7.out).mono ?_); (case side1 => exact cS HR170_0.out); (case side2 => exact HC170_0.out); (case side3 => exact cS HR171_0.out); (case side4 => exact HC171_0.out); rintro e w' ⟨rfl, ⟨nd, rfl⟩⟩; (try first | exact ⟨rfl, _, World.drewN_drewN _ _ _⟩ | exact ⟨rfl, _, Eq.trans (World.drewN_drewN _ _ _) (congrArg (World.drewN _) (Nat.add_assoc _ _ _))⟩))))
      go_roundg k1
      case measure => have := HK1.out; omega
      case rel => exact ⟨(wrap64 (x5_1 + 1)), fS, H', ⟨by have := HK1.out; omega⟩, dS⟩
     ·obtain rfl := Bool.eq_false_iff.mpr c8
      rw [if_neg nF] at H
      obtain rfl := Option.some.inj H
      have p170 : 0 ≤ (x5_1 : Int) := dA
      have q170 : x5_1 < (l0.length : Int) := dA
      obtain ⟨ad170, A170_0, c170_0, e170, hx170_0, hl170_0, hi170_0⟩ := at_L1 HR0.out x5_1 p170 q170
      cases e170
      have HR170_0 := aM hi170_0
      have HC170_0 := aM hl170_0
      clear hi170_0 hl170_0
      replace p170 := eq_true p170
      replace q170 := eq_true q170
      have p171 : 0 ≤ (x5_1 : Int) := dA
      have q171 : x5_1 < (l1.length : Int) := dA
      obtain ⟨ad171, A171_0, c171_0, e171, hx171_0, hl171_0, hi171_0⟩ := at_L1 HR1.out x5_1 p171 q171
      cases e171
      have HR171_0 := aM hi171_0
      have HC171_0 := aM hl171_0
      clear hi171_0 hl171_0
      replace p171 := eq_true p171
      replace q171 := eq_true q171
      go_wp2_with (first | (go_at_call 47; (with_reducible refine (laws_eqIntS.calls k1 _ _ (rd_L1 l0 x5_1) _ _ (rd_L1 l1 x5_1) _ _ ?side1 ?side2 ?side3 ?side4 A7.out).mono ?_); (case side1 => exact cS HR170_0.out); (case side2 => exact HC170_0.out); (case side3 => exact cS HR171_0.out); (case side4 => exact HC171_0.out); rintro e w' ⟨rfl, ⟨nd, rfl⟩⟩; (try first | exact ⟨rfl, _, World.drewN_drewN _ _ _⟩ | exact ⟨rfl, _, Eq.trans (World.drewN_drewN _ _ _) (congrArg (World.drewN _) (Nat.add_assoc _ _ _))⟩)))
      repeat (go_quiet (first | (go_at_call 47; (with_reducible refine (laws_eqIntS.calls k1 _ _ (rd_L1 l0 x5_1) _ _ (rd_L1 l1 x5_1) _ _ ?side1 ?side2 ?side3 ?side4 A7.out).mono ?_); (case side1 => exact cS HR170_0.out); (case side2 => exact HC170_0.out); (case side3 => exact cS HR171_0.out); (case side4 => exact HC171_0.out); rintro e w' ⟨rfl, ⟨nd, rfl⟩⟩; (try first | exact ⟨rfl, _, World.drewN_drewN _ _ _⟩ | exact ⟨rfl, _, Eq.trans (World.drewN_drewN _ _ _) (congrArg (World.drewN _) (Nat.add_assoc _ _ _))⟩))); try go_wp2_with (first | (go_at_call 47; (with_reducible refine (laws_eqIntS.calls k1 _ _ (rd_L1 l0 x5_1) _ _ (rd_L1 l1 x5_1) _ _ ?side1 ?side2 ?side3 ?side4 A7.out).mono ?_); (case side1 => exact cS HR170_0.out); (case side2 => exact HC170_0.out); (case side3 => exact cS HR171_0.out); (case side4 => exact HC171_0.out); rintro e w' ⟨rfl, ⟨nd, rfl⟩⟩; (try first | exact ⟨rfl, _, World.drewN_drewN _ _ _⟩ | exact ⟨rfl, _, Eq.trans (World.drewN_drewN _ _ _) (congrArg (World.drewN _) (Nat.add_assoc _ _ _))⟩))))
      go_ret
      exact ⟨fS, dS⟩
    ·obtain rfl := Option.some.inj H
     go_wp2
     repeat (go_quiet (fail); try go_wp2)
     go_ret
     exact ⟨fS, dS⟩
 ·rw [if_neg c3] at H
  have c3b0 : ((l0.length : Int) == (l1.length : Int)) = false := beq_eq_false_iff_ne.mpr c3
  have c3b1 : ((l0.length : Int) != (l1.length : Int)) = true := bne_iff_ne.mpr c3
  have c3b2 : (l0.length == l1.length) = false := by first | simpa using c3 | (simp at c3 ⊢; omega)
  obtain rfl := Option.some.inj H
  go_enter Tryz.func12, Tryz.ntmps12
  go_wp2
  repeat (go_quiet (fail); try go_wp2)
  go_ret
  exact ⟨fS, dS⟩

/-! ### laws_eqPoint: function 133 -/
def laws_eqPoint.f (a0_0 : Int) (a0_1 : Int) (a1_0 : Int) (a1_1 : Int) : Option (Bool) := if a0_0 = a1_0 then (if a0_1 = a1_1 then (some true) else (some false)) else (some false)
theorem laws_eqPoint.lf0 {p : Prop} (h : p := by
 go_enter Tryz.func133, Tryz.ntmps133
 go_wp2_with (first | ((with_reducible refine gD 2 ?_); refine bxE #[.int .i64 a0_0, .int .i64 a0_1] 151 ?_; intro gb173 hg w10 BK173 hb; have GW173 := gE hg; have GE173 := gE hg; replace HB := hB hb; clear hb hg) | ((with_reducible refine gD 3 ?_); refine bxE #[.int .i64 a1_0, .int .i64 a1_1] 151 ?_; intro gb174 hg w11 BK174 hb; have GW174 := gE hg; have GE174 := gE hg; have NB173_174 := nL_ gb173 hg; have NB174_173 := nG_ gb173 hg; replace BK173 := kB_ gb173 hb; replace HB := hB hb; clear hb hg; have hnb12 := NB173_174.out; have hnc12 := NB174_173.out; have hz13 := cz2 BK173; have hz14 := cz2 BK174))
 go_ret
 exact ⟨eS, bS⟩) : p := h
theorem laws_eqPoint.calls (a0_0 : Int) (a0_1 : Int) (a1_0 : Int) (a1_1 : Int) (r : Bool) (w : World) (h : laws_eqPoint.f a0_0 a0_1 a1_0 a1_1 = some r) :
  Calls Tryz.prog 133 #[.agg #[.int .i64 a0_0, .int .i64 a0_1], .agg #[.int .i64 a1_0, .int .i64 a1_1]] w fun e w' => e = .returned (.bool r) ∧ Below w.heap.size w w' := by
 have hu151 := Tryz.underlying151
 have HB := aM (Below.refl w.heap.size w)
 have H := h
 clear h
 unfold laws_eqPoint.f at H
 by_cases c3 : a0_0 = a1_0
 ·rw [if_pos c3] at H
  have c3b0 : (a0_0 == a1_0) = true := beq_iff_eq.mpr c3
  have c3b1 : (a0_0 != a1_0) = false := bne_eq_false_iff_eq.mpr c3
  clear c3
  by_cases c4 : a0_1 = a1_1
  ·rw [if_pos c4] at H
   have c4b0 : (a0_1 == a1_1) = true := beq_iff_eq.mpr c4
   have c4b1 : (a0_1 != a1_1) = false := bne_eq_false_iff_eq.mpr c4
   clear c4
   obtain rfl := Option.some.inj H
   exact laws_eqPoint.lf0
  ·rw [if_neg c4] at H
   have c4b0 : (a0_1 == a1_1) = false := beq_eq_false_iff_ne.mpr c4
   have c4b1 : (a0_1 != a1_1) = true := bne_iff_ne.mpr c4
   obtain rfl := Option.some.inj H
   exact laws_eqPoint.lf0
 ·rw [if_neg c3] at H
  have c3b0 : (a0_0 == a1_0) = false := beq_eq_false_iff_ne.mpr c3
  have c3b1 : (a0_0 != a1_0) = true := bne_iff_ne.mpr c3
  obtain rfl := Option.some.inj H
  exact laws_eqPoint.lf0

/-! ### laws_eqPointS: function 68 -/
def laws_eqPointS.l0 : Nat → List (S151) → List (S151) → Int → Option (Bool)
 | 0, _, _, _ => none
 | k + 1, x0, x1, x5 => if x5 < (x0.length : Int) then (if 0 ≤ x5 then (if x5 < (x1.length : Int) then ((laws_eqPoint.f ((rd_T151 x0 x5).f0) ((rd_T151 x0 x5).f1) ((rd_T151 x1 x5).f0) ((rd_T151 x1 x5).f1)).bind fun t177 => (if t177 = true then (laws_eqPointS.l0 k x0 x1 (wrap64 (x5 + 1))) else (some false))) else (none)) else (none)) else (some true)
def laws_eqPointS.f (k : Nat) (l0 : List (S151)) (l1 : List (S151)) : Option (Bool) := if (l0.length : Int) = (l1.length : Int) then (laws_eqPointS.l0 k l0 l1 0) else (some false)
def laws_eqPointS.T6 : Bool × List (List Nat × List Nat) := (true, [([], []), ([], []), ([0, 1], [0, 1]), ([2], [2]), ([], []), ([], []), ([4, 5], [4, 5]), ([6], [6]), ([3, 7], [3, 7]), ([8], [8])])
def laws_eqPointS.B6 : List Nat := [0, 0, 3, 7, 0, 0, 48, 112, 255, 511]
theorem laws_eqPointS.tab6 : rtab .any (opsOf Tryz.f68 6) = laws_eqPointS.T6 := by kernel_rfl
theorem laws_eqPointS.bits6 : waitsOk laws_eqPointS.T6.2 laws_eqPointS.B6 = true := by kernel_rfl
theorem laws_eqPointS.calls (k : Nat) (A0 : Option Addr) (c0 : Nat) (l0 : List (S151)) (A1 : Option Addr) (c1 : Nat) (l1 : List (S151)) (r : Bool) (w : World) (hr0 : Kd.C k151 w A0 l0.length l0) (hc0 : l0.length ≤ c0) (hr1 : Kd.C k151 w A1 l1.length l1) (hc1 : l1.length ≤ c1) (h : laws_eqPointS.f k l0 l1 = some r) :
  Calls Tryz.prog 68 #[.slice A0 l0.length c0, .slice A1 l1.length c1] w fun e w' => e = .returned (.bool r) ∧ Below w.heap.size w w' := by
 have hu151 := Tryz.underlying151
 have HR0 := aM hr0
 have HC0 := aM hc0
 clear hr0 hc0
 have HR1 := aM hr1
 have HC1 := aM hc1
 clear hr1 hc1
 have HB := aM (Below.refl w.heap.size w)
 have H := h
 clear h
 unfold laws_eqPointS.f at H
 by_cases c3 : (l0.length : Int) = (l1.length : Int)
 ·rw [if_pos c3] at H
  have c3b0 : ((l0.length : Int) == (l1.length : Int)) = true := beq_iff_eq.mpr c3
  have c3b1 : ((l0.length : Int) != (l1.length : Int)) = false := bne_eq_false_iff_eq.mpr c3
  have c3b2 : (l0.length == l1.length) = true := by first | simpa using c3 | (simp at c3 ⊢; omega)
  clear c3
  have H' := aM H
  clear H
  go_enter Tryz.func68, Tryz.ntmps68
  go_wp2
  go_loopg [5] k (fun kq v5 w' => ∃ (x5_1 : Int), v5 = .int .i64 x5_1 ∧ Aside0 (laws_eqPointS.l0 kq l0 l1 x5_1 = some r) ∧ Aside0 (kq ≤ k) ∧ Aside0 (Below w.heap.size w w'))
  case atStart => exact ⟨(0), fS, H', ⟨Nat.le_refl _⟩, ⟨bS⟩⟩
  case round =>
   clear H'
   try clear c1
   try clear p2
   try clear c3
   try clear c3b0
   try clear c3b1
   try clear c3b2
   obtain ⟨x5_1, rfl, HA, HK1, HB⟩ := hrel
   cases gk with
   | zero => exact absurd HA.out (by simp [laws_eqPointS.l0])
   | succ k1 =>
    have H := HA.out
    clear HA
    simp only [laws_eqPointS.l0] at H
    rcases iD H with ⟨c4b0, H⟩ | ⟨c4b0, H⟩
    ·obtain ⟨c5b0, H⟩ := iT H
     obtain ⟨c6b0, H⟩ := iT H
     replace H := bN H
     obtain ⟨t177, A7, H⟩ := H
     by_cases c8 : t177 = true
     ·subst c8
      rw [if_pos rfl] at H
      have H' := aM H
      clear H
      try go_wp2
      replace HB := aM (below_drew1 HB.out)
      have p175 : 0 ≤ (x5_1 : Int) := dA
      have q175 : x5_1 < (l0.length : Int) := dA
      obtain ⟨ad175, e175, hx175_0, hx175_1⟩ := at_T151 HR0.out x5_1 p175 q175
      have hw175_1 := hx175_1
      have hw175_0 := hx175_0
      cases e175
      replace hx175_0 := cB HB hx175_0
      replace hx175_1 := cB HB hx175_1
      replace p175 := eq_true p175
      replace q175 := eq_true q175
      have p176 : 0 ≤ (x5_1 : Int) := dA
      have q176 : x5_1 < (l1.length : Int) := dA
      obtain ⟨ad176, e176, hx176_0, hx176_1⟩ := at_T151 HR1.out x5_1 p176 q176
      have hw176_1 := hx176_1
      have hw176_0 := hx176_0
      cases e176
      replace hx176_0 := cB HB hx176_0
      replace hx176_1 := cB HB hx176_1
      replace p176 := eq_true p176
      replace q176 := eq_true q176
      refine start_ (n := 10) (S := fun w' => w'.cell? (ad175.add ((x5_1).toNat * 2)) = some (.int .i64 ((rd_T151 l0 x5_1).f0)) ∧ w'.cell? ⟨(ad175.add ((x5_1).toNat * 2)).block, (ad175.add ((x5_1).toNat * 2)).off + 1, none⟩ = some (.int .i64 ((rd_T151 l0 x5_1).f1)) ∧ w'.cell? (ad176.add ((x5_1).toNat * 2)) = some (.int .i64 ((rd_T151 l1 x5_1).f0)) ∧ w'.cell? ⟨(ad176.add ((x5_1).toNat * 2)).block, (ad176.add ((x5_1).toNat * 2)).off + 1, none⟩ = some (.int .i64 ((rd_T151 l1 x5_1).f1))) (ds := []) (mB 10 0) (by kernel_rfl) rfl rfl ⟨(cB HB hw175_0), (cB HB hw175_1), (cB HB hw176_0), (cB HB hw176_1)⟩ (fun hHeld => ?_); refine with_tabW laws_eqPointS.tab6 laws_eqPointS.bits6 (fun HT_ HW_ => ?_)
      generalize wr.drew = w9 at HB hx175_0 hx175_1 hx176_0 hx176_1 hHeld ⊢
      refine pU 0 (some 17) (mB 10 1) ?_
      refine pU 1 (some 18) (mB 10 3) ?_
      refine pU 2 (some 19) (mB 10 7) ?_
      refine pU 4 (some 21) (mB 10 23) ?_
      refine pU 5 (some 22) (mB 10 55) ?_
      refine pU 6 (some 23) (mB 10 119) ?_
      refine tK 3 (some 20) (mB 10 127) ?_
      refine tK 7 (some 24) (mB 10 255) ?_
      refine one_ (i := 8) (N := some 25) (mB 10 511) rfl rfl (one_of HT_.out (by kernel_rfl)) (by decide) (fun K hK => ?_)
      refine goes_ Tryz.func133 (by kernel_rfl) rfl #[.agg #[.int .i64 ((rd_T151 l0 x5_1).f0), .int .i64 ((rd_T151 l0 x5_1).f1)], .agg #[.int .i64 ((rd_T151 l1 x5_1).f0), .int .i64 ((rd_T151 l1 x5_1).f1)]] (by rfl) rfl rfl mA ?_
      with_reducible refine (laws_eqPoint.calls ((rd_T151 l0 x5_1).f0) ((rd_T151 l0 x5_1).f1) ((rd_T151 l1 x5_1).f0) ((rd_T151 l1 x5_1).f1) _ _ A7.out).mono ?_
      rintro e w10 ⟨rfl, hb⟩
      refine ⟨_, rfl, ?_⟩
      replace HB := hB hb
      (try clear hb)
      (try clear hb2)
      (try clear hk)
      (try clear hi)
      refine hK.out _ _ ⟨(cB HB hw175_0), (cB HB hw175_1), (cB HB hw176_0), (cB HB hw176_1)⟩ (fun hHeld => ?_)
      clear hK K
      refine norm_ (a' := ?_) ?_ ?_
      rotate_left
      ·show Act.put _ (some 25) _ = _
       simp only [Act.put, List.setIfInBounds_toArray, List.set_cons_zero, List.set_cons_succ, i64_w, i32_w]
       rfl
      refine pU 9 (some 26) (mB 10 1023) ?_
      refine done_ (done_of HT_.out (by kernel_rfl)) ?_
      try go_wp2
      go_roundg k1
      case measure => have := HK1.out; omega
      case rel => exact ⟨(wrap64 (x5_1 + 1)), fS, H', ⟨by have := HK1.out; omega⟩, ⟨bS⟩⟩
     ·obtain rfl := Bool.eq_false_iff.mpr c8
      rw [if_neg nF] at H
      obtain rfl := Option.some.inj H
      try go_wp2
      replace HB := aM (below_drew1 HB.out)
      have p175 : 0 ≤ (x5_1 : Int) := dA
      have q175 : x5_1 < (l0.length : Int) := dA
      obtain ⟨ad175, e175, hx175_0, hx175_1⟩ := at_T151 HR0.out x5_1 p175 q175
      have hw175_1 := hx175_1
      have hw175_0 := hx175_0
      cases e175
      replace hx175_0 := cB HB hx175_0
      replace hx175_1 := cB HB hx175_1
      replace p175 := eq_true p175
      replace q175 := eq_true q175
      have p176 : 0 ≤ (x5_1 : Int) := dA
      have q176 : x5_1 < (l1.length : Int) := dA
      obtain ⟨ad176, e176, hx176_0, hx176_1⟩ := at_T151 HR1.out x5_1 p176 q176
      have hw176_1 := hx176_1
      have hw176_0 := hx176_0
      cases e176
      replace hx176_0 := cB HB hx176_0
      replace hx176_1 := cB HB hx176_1
      replace p176 := eq_true p176
      replace q176 := eq_true q176
      refine start_ (n := 10) (S := fun w' => w'.cell? (ad175.add ((x5_1).toNat * 2)) = some (.int .i64 ((rd_T151 l0 x5_1).f0)) ∧ w'.cell? ⟨(ad175.add ((x5_1).toNat * 2)).block, (ad175.add ((x5_1).toNat * 2)).off + 1, none⟩ = some (.int .i64 ((rd_T151 l0 x5_1).f1)) ∧ w'.cell? (ad176.add ((x5_1).toNat * 2)) = some (.int .i64 ((rd_T151 l1 x5_1).f0)) ∧ w'.cell? ⟨(ad176.add ((x5_1).toNat * 2)).block, (ad176.add ((x5_1).toNat * 2)).off + 1, none⟩ = some (.int .i64 ((rd_T151 l1 x5_1).f1))) (ds := []) (mB 10 0) (by kernel_rfl) rfl rfl ⟨(cB HB hw175_0), (cB HB hw175_1), (cB HB hw176_0), (cB HB hw176_1)⟩ (fun hHeld => ?_); refine with_tabW laws_eqPointS.tab6 laws_eqPointS.bits6 (fun HT_ HW_ => ?_)
      generalize wr.drew = w11 at HB hx175_0 hx175_1 hx176_0 hx176_1 hHeld ⊢
      refine pU 0 (some 17) (mB 10 1) ?_
      refine pU 1 (some 18) (mB 10 3) ?_
      refine pU 2 (some 19) (mB 10 7) ?_
      refine pU 4 (some 21) (mB 10 23) ?_
      refine pU 5 (some 22) (mB 10 55) ?_
      refine pU 6 (some 23) (mB 10 119) ?_
      refine tK 3 (some 20) (mB 10 127) ?_
      refine tK 7 (some 24) (mB 10 255) ?_
      refine one_ (i := 8) (N := some 25) (mB 10 511) rfl rfl (one_of HT_.out (by kernel_rfl)) (by decide) (fun K hK => ?_)
      refine goes_ Tryz.func133 (by kernel_rfl) rfl #[.agg #[.int .i64 ((rd_T151 l0 x5_1).f0), .int .i64 ((rd_T151 l0 x5_1).f1)], .agg #[.int .i64 ((rd_T151 l1 x5_1).f0), .int .i64 ((rd_T151 l1 x5_1).f1)]] (by rfl) rfl rfl mA ?_
      with_reducible refine (laws_eqPoint.calls ((rd_T151 l0 x5_1).f0) ((rd_T151 l0 x5_1).f1) ((rd_T151 l1 x5_1).f0) ((rd_T151 l1 x5_1).f1) _ _ A7.out).mono ?_
      rintro e w12 ⟨rfl, hb⟩
      refine ⟨_, rfl, ?_⟩
      replace HB := hB hb
      (try clear hb)
      (try clear hb2)
      (try clear hk)
      (try clear hi)
      refine hK.out _ _ ⟨(cB HB hw175_0), (cB HB hw175_1), (cB HB hw176_0), (cB HB hw176_1)⟩ (fun hHeld => ?_)
      clear hK K
      refine norm_ (a' := ?_) ?_ ?_
      rotate_left
      ·show Act.put _ (some 25) _ = _
       simp only [Act.put, List.setIfInBounds_toArray, List.set_cons_zero, List.set_cons_succ, i64_w, i32_w]
       rfl
      refine pU 9 (some 26) (mB 10 1023) ?_
      refine done_ (done_of HT_.out (by kernel_rfl)) ?_
      try go_wp2
      go_ret
      exact ⟨eS, bS⟩
    ·obtain rfl := Option.some.inj H
     go_wp2
     go_ret
     exact ⟨eS, bS⟩
 ·rw [if_neg c3] at H
  have c3b0 : ((l0.length : Int) == (l1.length : Int)) = false := beq_eq_false_iff_ne.mpr c3
  have c3b1 : ((l0.length : Int) != (l1.length : Int)) = true := bne_iff_ne.mpr c3
  have c3b2 : (l0.length == l1.length) = false := by first | simpa using c3 | (simp at c3 ⊢; omega)
  obtain rfl := Option.some.inj H
  go_enter Tryz.func68, Tryz.ntmps68
  go_wp2
  go_ret
  exact ⟨eS, bS⟩

/-! ### laws_eqBox: function 69 -/
def laws_eqBox.f (a0_0 : Int) (a0_1 : Int) (a0_2 : Int) (a0_3 : Int) (a1_0 : Int) (a1_1 : Int) (a1_2 : Int) (a1_3 : Int) : Option (Bool) := if a0_0 = a1_0 then (if a0_1 = a1_1 then (if a0_2 = a1_2 then (if a0_3 = a1_3 then (some true) else (some false)) else (some false)) else (some false)) else (some false)
theorem laws_eqBox.lf0 {p : Prop} (h : p := by
 go_enter Tryz.func69, Tryz.ntmps69
 go_wp2_with (first | ((with_reducible refine gD 2 ?_); refine bxE #[.int .i64 a0_0, .int .i64 a0_1, .int .i64 a0_2, .int .i64 a0_3] 47 ?_; intro gb178 hg w12 BK178 hb; have GW178 := gE hg; have GE178 := gE hg; replace HB := hB hb; clear hb hg) | ((with_reducible refine gD 3 ?_); refine bxE #[.int .i64 a1_0, .int .i64 a1_1, .int .i64 a1_2, .int .i64 a1_3] 47 ?_; intro gb179 hg w13 BK179 hb; have GW179 := gE hg; have GE179 := gE hg; have NB178_179 := nL_ gb178 hg; have NB179_178 := nG_ gb178 hg; replace BK178 := kB_ gb178 hb; replace HB := hB hb; clear hb hg; have hnb14 := NB178_179.out; have hnc14 := NB179_178.out; have hz15 := cz4 BK178; have hz16 := cz4 BK179))
 go_ret
 exact ⟨eS, bS⟩) : p := h
theorem laws_eqBox.calls (a0_0 : Int) (a0_1 : Int) (a0_2 : Int) (a0_3 : Int) (a1_0 : Int) (a1_1 : Int) (a1_2 : Int) (a1_3 : Int) (r : Bool) (w : World) (h : laws_eqBox.f a0_0 a0_1 a0_2 a0_3 a1_0 a1_1 a1_2 a1_3 = some r) :
  Calls Tryz.prog 69 #[.agg #[.int .i64 a0_0, .int .i64 a0_1, .int .i64 a0_2, .int .i64 a0_3], .agg #[.int .i64 a1_0, .int .i64 a1_1, .int .i64 a1_2, .int .i64 a1_3]] w fun e w' => e = .returned (.bool r) ∧ Below w.heap.size w w' := by
 have hu47 := Tryz.underlying47
 have HB := aM (Below.refl w.heap.size w)
 have H := h
 clear h
 unfold laws_eqBox.f at H
 by_cases c3 : a0_0 = a1_0
 ·rw [if_pos c3] at H
  have c3b0 : (a0_0 == a1_0) = true := beq_iff_eq.mpr c3
  have c3b1 : (a0_0 != a1_0) = false := bne_eq_false_iff_eq.mpr c3
  clear c3
  by_cases c4 : a0_1 = a1_1
  ·rw [if_pos c4] at H
   have c4b0 : (a0_1 == a1_1) = true := beq_iff_eq.mpr c4
   have c4b1 : (a0_1 != a1_1) = false := bne_eq_false_iff_eq.mpr c4
   clear c4
   by_cases c5 : a0_2 = a1_2
   ·rw [if_pos c5] at H
    have c5b0 : (a0_2 == a1_2) = true := beq_iff_eq.mpr c5
    have c5b1 : (a0_2 != a1_2) = false := bne_eq_false_iff_eq.mpr c5
    clear c5
    by_cases c6 : a0_3 = a1_3
    ·rw [if_pos c6] at H
     have c6b0 : (a0_3 == a1_3) = true := beq_iff_eq.mpr c6
     have c6b1 : (a0_3 != a1_3) = false := bne_eq_false_iff_eq.mpr c6
     clear c6
     obtain rfl := Option.some.inj H
     exact laws_eqBox.lf0
    ·rw [if_neg c6] at H
     have c6b0 : (a0_3 == a1_3) = false := beq_eq_false_iff_ne.mpr c6
     have c6b1 : (a0_3 != a1_3) = true := bne_iff_ne.mpr c6
     obtain rfl := Option.some.inj H
     exact laws_eqBox.lf0
   ·rw [if_neg c5] at H
    have c5b0 : (a0_2 == a1_2) = false := beq_eq_false_iff_ne.mpr c5
    have c5b1 : (a0_2 != a1_2) = true := bne_iff_ne.mpr c5
    obtain rfl := Option.some.inj H
    exact laws_eqBox.lf0
  ·rw [if_neg c4] at H
   have c4b0 : (a0_1 == a1_1) = false := beq_eq_false_iff_ne.mpr c4
   have c4b1 : (a0_1 != a1_1) = true := bne_iff_ne.mpr c4
   obtain rfl := Option.some.inj H
   exact laws_eqBox.lf0
 ·rw [if_neg c3] at H
  have c3b0 : (a0_0 == a1_0) = false := beq_eq_false_iff_ne.mpr c3
  have c3b1 : (a0_0 != a1_0) = true := bne_iff_ne.mpr c3
  obtain rfl := Option.some.inj H
  exact laws_eqBox.lf0

/-! ### laws_eqObject: function 24 -/
def laws_eqObject.f (k : Nat) (l0_0 : List (S151)) (a0_1 : Int) (a0_2 : Int) (a0_3 : Int) (a0_4 : Int) (a0_5 : Int) (l1_0 : List (S151)) (a1_1 : Int) (a1_2 : Int) (a1_3 : Int) (a1_4 : Int) (a1_5 : Int) : Option (Bool) := (laws_eqPointS.f k l0_0 l1_0).bind fun t182 => (if t182 = true then (if a0_1 = a1_1 then ((laws_eqBox.f a0_2 a0_3 a0_4 a0_5 a1_2 a1_3 a1_4 a1_5).bind fun t183 => (if t183 = true then (some true) else (some false))) else (some false)) else (some false))
theorem laws_eqObject.lf0 {p : Prop} (h : p := by
 go_enter Tryz.func24, Tryz.ntmps24
 go_wp2_with (first | ((with_reducible refine gD 2 ?_); refine bxE #[.slice A0_0 l0_0.length c0_0, .int .i64 a0_1, .int .i64 a0_2, .int .i64 a0_3, .int .i64 a0_4, .int .i64 a0_5] 49 ?_; intro gb180 hg w17 BK180 hb; have GW180 := gE hg; have GE180 := gE hg; replace HB := hB hb; clear hb hg) | ((with_reducible refine gD 3 ?_); refine bxE #[.slice A1_0 l1_0.length c1_0, .int .i64 a1_1, .int .i64 a1_2, .int .i64 a1_3, .int .i64 a1_4, .int .i64 a1_5] 49 ?_; intro gb181 hg w18 BK181 hb; have GW181 := gE hg; have GE181 := gE hg; have NB180_181 := nL_ gb180 hg; have NB181_180 := nG_ gb180 hg; replace BK180 := kB_ gb180 hb; replace HB := hB hb; clear hb hg; have hnb19 := NB180_181.out; have hnc19 := NB181_180.out; have hz20 := cz6 BK180; have hz21 := cz6 BK181) | ((with_reducible refine gC 68 ?_); refine cM (some 9) Tryz.func68 (laws_eqPointS.calls k _ _ l0_0 _ _ l1_0 _ _ (cC HR0_0 HB) HC0_0.out (cC HR1_0 HB) HC1_0.out A3.out) ?_; rintro e w22 ⟨rfl, hb⟩; refine ⟨_, rfl, ?_⟩; replace BK180 := kB_ gb180 hb; replace BK181 := kB_ gb181 hb; replace HB := hB hb; (try clear hb); have hz23 := cz6 BK180; have hz24 := cz6 BK181) | ((with_reducible refine gC 69 ?_); refine cM (some 20) Tryz.func69 (laws_eqBox.calls a0_2 a0_3 a0_4 a0_5 a1_2 a1_3 a1_4 a1_5 _ _ A6.out) ?_; rintro e w25 ⟨rfl, hb⟩; refine ⟨_, rfl, ?_⟩; replace BK180 := kB_ gb180 hb; replace BK181 := kB_ gb181 hb; replace HB := hB hb; (try clear hb)))
 go_ret
 exact ⟨eS, bS⟩) : p := h
theorem laws_eqObject.calls (k : Nat) (A0_0 : Option Addr) (c0_0 : Nat) (l0_0 : List (S151)) (a0_1 : Int) (a0_2 : Int) (a0_3 : Int) (a0_4 : Int) (a0_5 : Int) (A1_0 : Option Addr) (c1_0 : Nat) (l1_0 : List (S151)) (a1_1 : Int) (a1_2 : Int) (a1_3 : Int) (a1_4 : Int) (a1_5 : Int) (r : Bool) (w : World) (hr0_0 : Kd.C k151 w A0_0 l0_0.length l0_0) (hc0_0 : l0_0.length ≤ c0_0) (hr1_0 : Kd.C k151 w A1_0 l1_0.length l1_0) (hc1_0 : l1_0.length ≤ c1_0) (h : laws_eqObject.f k l0_0 a0_1 a0_2 a0_3 a0_4 a0_5 l1_0 a1_1 a1_2 a1_3 a1_4 a1_5 = some r) :
  Calls Tryz.prog 24 #[.agg #[.slice A0_0 l0_0.length c0_0, .int .i64 a0_1, .int .i64 a0_2, .int .i64 a0_3, .int .i64 a0_4, .int .i64 a0_5], .agg #[.slice A1_0 l1_0.length c1_0, .int .i64 a1_1, .int .i64 a1_2, .int .i64 a1_3, .int .i64 a1_4, .int .i64 a1_5]] w fun e w' => e = .returned (.bool r) ∧ Below w.heap.size w w' := by
 have hu49 := Tryz.underlying49
 have hu47 := Tryz.underlying47
 have HR0_0 := aM hr0_0
 have HC0_0 := aM hc0_0
 clear hr0_0 hc0_0
 have HR1_0 := aM hr1_0
 have HC1_0 := aM hc1_0
 clear hr1_0 hc1_0
 have HB := aM (Below.refl w.heap.size w)
 have H := h
 clear h
 unfold laws_eqObject.f at H
 replace H := bN H
 obtain ⟨t182, A3, H⟩ := H
 by_cases c4 : t182 = true
 ·subst c4
  rw [if_pos rfl] at H
  by_cases c5 : a0_1 = a1_1
  ·rw [if_pos c5] at H
   have c5b0 : (a0_1 == a1_1) = true := beq_iff_eq.mpr c5
   have c5b1 : (a0_1 != a1_1) = false := bne_eq_false_iff_eq.mpr c5
   clear c5
   replace H := bN H
   obtain ⟨t183, A6, H⟩ := H
   by_cases c7 : t183 = true
   ·subst c7
    rw [if_pos rfl] at H
    obtain rfl := Option.some.inj H
    exact laws_eqObject.lf0
   ·obtain rfl := Bool.eq_false_iff.mpr c7
    rw [if_neg nF] at H
    obtain rfl := Option.some.inj H
    exact laws_eqObject.lf0
  ·rw [if_neg c5] at H
   have c5b0 : (a0_1 == a1_1) = false := beq_eq_false_iff_ne.mpr c5
   have c5b1 : (a0_1 != a1_1) = true := bne_iff_ne.mpr c5
   obtain rfl := Option.some.inj H
   exact laws_eqObject.lf0
 ·obtain rfl := Bool.eq_false_iff.mpr c4
  rw [if_neg nF] at H
  obtain rfl := Option.some.inj H
  go_enter Tryz.func24, Tryz.ntmps24
  go_wp2_with (first | ((with_reducible refine gD 2 ?_); refine bxE #[.slice A0_0 l0_0.length c0_0, .int .i64 a0_1, .int .i64 a0_2, .int .i64 a0_3, .int .i64 a0_4, .int .i64 a0_5] 49 ?_; intro gb180 hg w34 BK180 hb; have GW180 := gE hg; have GE180 := gE hg; replace HB := hB hb; clear hb hg) | ((with_reducible refine gD 3 ?_); refine bxE #[.slice A1_0 l1_0.length c1_0, .int .i64 a1_1, .int .i64 a1_2, .int .i64 a1_3, .int .i64 a1_4, .int .i64 a1_5] 49 ?_; intro gb181 hg w35 BK181 hb; have GW181 := gE hg; have GE181 := gE hg; have NB180_181 := nL_ gb180 hg; have NB181_180 := nG_ gb180 hg; replace BK180 := kB_ gb180 hb; replace HB := hB hb; clear hb hg; have hnb36 := NB180_181.out; have hnc36 := NB181_180.out; have hz37 := cz6 BK180; have hz38 := cz6 BK181) | ((with_reducible refine gC 68 ?_); refine cM (some 9) Tryz.func68 (laws_eqPointS.calls k _ _ l0_0 _ _ l1_0 _ _ (cC HR0_0 HB) HC0_0.out (cC HR1_0 HB) HC1_0.out A3.out) ?_; rintro e w39 ⟨rfl, hb⟩; refine ⟨_, rfl, ?_⟩; replace BK180 := kB_ gb180 hb; replace BK181 := kB_ gb181 hb; replace HB := hB hb; (try clear hb)))
  go_ret
  exact ⟨eS, bS⟩

/-! ### laws_eqObjectS: function 48 -/
def laws_eqObjectS.l0 : Nat → List (S49) → List (S49) → Int → Option (Bool)
 | 0, _, _, _ => none
 | k + 1, x0, x1, x5 => if x5 < (x0.length : Int) then (if 0 ≤ x5 then (if x5 < (x1.length : Int) then ((laws_eqObject.f k ((rd_T49 x0 x5).f0) ((rd_T49 x0 x5).f1) ((rd_T49 x0 x5).f2.f0) ((rd_T49 x0 x5).f2.f1) ((rd_T49 x0 x5).f2.f2) ((rd_T49 x0 x5).f2.f3) ((rd_T49 x1 x5).f0) ((rd_T49 x1 x5).f1) ((rd_T49 x1 x5).f2.f0) ((rd_T49 x1 x5).f2.f1) ((rd_T49 x1 x5).f2.f2) ((rd_T49 x1 x5).f2.f3)).bind fun t186 => (if t186 = true then (laws_eqObjectS.l0 k x0 x1 (wrap64 (x5 + 1))) else (some false))) else (none)) else (none)) else (some true)
def laws_eqObjectS.f (k : Nat) (l0 : List (S49)) (l1 : List (S49)) : Option (Bool) := if (l0.length : Int) = (l1.length : Int) then (laws_eqObjectS.l0 k l0 l1 0) else (some false)
def laws_eqObjectS.T6 : Bool × List (List Nat × List Nat) := (true, [([], []), ([], []), ([0, 1], [0, 1]), ([2], [2]), ([], []), ([], []), ([4, 5], [4, 5]), ([6], [6]), ([3, 7], [3, 7]), ([8], [8])])
def laws_eqObjectS.B6 : List Nat := [0, 0, 3, 7, 0, 0, 48, 112, 255, 511]
theorem laws_eqObjectS.tab6 : rtab .any (opsOf Tryz.f48 6) = laws_eqObjectS.T6 := by kernel_rfl
theorem laws_eqObjectS.bits6 : waitsOk laws_eqObjectS.T6.2 laws_eqObjectS.B6 = true := by kernel_rfl
theorem laws_eqObjectS.calls (k : Nat) (A0 : Option Addr) (c0 : Nat) (l0 : List (S49)) (A1 : Option Addr) (c1 : Nat) (l1 : List (S49)) (r : Bool) (w : World) (hr0 : Kd.C k49 w A0 l0.length l0) (hc0 : l0.length ≤ c0) (hr1 : Kd.C k49 w A1 l1.length l1) (hc1 : l1.length ≤ c1) (h : laws_eqObjectS.f k l0 l1 = some r) :
  Calls Tryz.prog 48 #[.slice A0 l0.length c0, .slice A1 l1.length c1] w fun e w' => e = .returned (.bool r) ∧ Below w.heap.size w w' := by
 have hu49 := Tryz.underlying49
 have HR0 := aM hr0
 have HC0 := aM hc0
 clear hr0 hc0
 have HR1 := aM hr1
 have HC1 := aM hc1
 clear hr1 hc1
 have HB := aM (Below.refl w.heap.size w)
 have H := h
 clear h
 unfold laws_eqObjectS.f at H
 by_cases c3 : (l0.length : Int) = (l1.length : Int)
 ·rw [if_pos c3] at H
  have c3b0 : ((l0.length : Int) == (l1.length : Int)) = true := beq_iff_eq.mpr c3
  have c3b1 : ((l0.length : Int) != (l1.length : Int)) = false := bne_eq_false_iff_eq.mpr c3
  have c3b2 : (l0.length == l1.length) = true := by first | simpa using c3 | (simp at c3 ⊢; omega)
  clear c3
  have H' := aM H
  clear H
  go_enter Tryz.func48, Tryz.ntmps48
  go_wp2
  go_loopg [5] k (fun kq v5 w' => ∃ (x5_1 : Int), v5 = .int .i64 x5_1 ∧ Aside0 (laws_eqObjectS.l0 kq l0 l1 x5_1 = some r) ∧ Aside0 (kq ≤ k) ∧ Aside0 (Below w.heap.size w w'))
  case atStart => exact ⟨(0), fS, H', ⟨Nat.le_refl _⟩, ⟨bS⟩⟩
  case round =>
   clear H'
   try clear c1
   try clear p2
   try clear c3
   try clear c3b0
   try clear c3b1
   try clear c3b2
   obtain ⟨x5_1, rfl, HA, HK1, HB⟩ := hrel
   cases gk with
   | zero => exact absurd HA.out (by simp [laws_eqObjectS.l0])
   | succ k1 =>
    have H := HA.out
    clear HA
    simp only [laws_eqObjectS.l0] at H
    rcases iD H with ⟨c4b0, H⟩ | ⟨c4b0, H⟩
    ·obtain ⟨c5b0, H⟩ := iT H
     obtain ⟨c6b0, H⟩ := iT H
     replace H := bN H
     obtain ⟨t186, A7, H⟩ := H
     by_cases c8 : t186 = true
     ·subst c8
      rw [if_pos rfl] at H
      have H' := aM H
      clear H
      try go_wp2
      replace HB := aM (below_drew1 HB.out)
      have p184 : 0 ≤ (x5_1 : Int) := dA
      have q184 : x5_1 < (l0.length : Int) := dA
      obtain ⟨ad184, A184_0, c184_0, e184, hx184_0, hx184_1, hx184_2, hx184_3, hx184_4, hx184_5, hl184_0, hi184_0⟩ := at_T49 HR0.out x5_1 p184 q184
      have hw184_5 := hx184_5
      have hw184_4 := hx184_4
      have hw184_3 := hx184_3
      have hw184_2 := hx184_2
      have hw184_1 := hx184_1
      have hw184_0 := hx184_0
      cases e184
      replace hx184_0 := cB HB hx184_0
      replace hx184_1 := cB HB hx184_1
      replace hx184_2 := cB HB hx184_2
      replace hx184_3 := cB HB hx184_3
      replace hx184_4 := cB HB hx184_4
      replace hx184_5 := cB HB hx184_5
      have HR184_0 := aM hi184_0
      have HC184_0 := aM hl184_0
      clear hi184_0 hl184_0
      replace p184 := eq_true p184
      replace q184 := eq_true q184
      have p185 : 0 ≤ (x5_1 : Int) := dA
      have q185 : x5_1 < (l1.length : Int) := dA
      obtain ⟨ad185, A185_0, c185_0, e185, hx185_0, hx185_1, hx185_2, hx185_3, hx185_4, hx185_5, hl185_0, hi185_0⟩ := at_T49 HR1.out x5_1 p185 q185
      have hw185_5 := hx185_5
      have hw185_4 := hx185_4
      have hw185_3 := hx185_3
      have hw185_2 := hx185_2
      have hw185_1 := hx185_1
      have hw185_0 := hx185_0
      cases e185
      replace hx185_0 := cB HB hx185_0
      replace hx185_1 := cB HB hx185_1
      replace hx185_2 := cB HB hx185_2
      replace hx185_3 := cB HB hx185_3
      replace hx185_4 := cB HB hx185_4
      replace hx185_5 := cB HB hx185_5
      have HR185_0 := aM hi185_0
      have HC185_0 := aM hl185_0
      clear hi185_0 hl185_0
      replace p185 := eq_true p185
      replace q185 := eq_true q185
      refine start_ (n := 10) (S := fun w' => w'.cell? (ad184.add ((x5_1).toNat * 6)) = some (.slice A184_0 ((rd_T49 l0 x5_1).f0).length c184_0) ∧ w'.cell? ⟨(ad184.add ((x5_1).toNat * 6)).block, (ad184.add ((x5_1).toNat * 6)).off + 1, none⟩ = some (.int .i64 ((rd_T49 l0 x5_1).f1)) ∧ w'.cell? ⟨(ad184.add ((x5_1).toNat * 6)).block, (ad184.add ((x5_1).toNat * 6)).off + 2, none⟩ = some (.int .i64 ((rd_T49 l0 x5_1).f2.f0)) ∧ w'.cell? ⟨(ad184.add ((x5_1).toNat * 6)).block, (ad184.add ((x5_1).toNat * 6)).off + 3, none⟩ = some (.int .i64 ((rd_T49 l0 x5_1).f2.f1)) ∧ w'.cell? ⟨(ad184.add ((x5_1).toNat * 6)).block, (ad184.add ((x5_1).toNat * 6)).off + 4, none⟩ = some (.int .i64 ((rd_T49 l0 x5_1).f2.f2)) ∧ w'.cell? ⟨(ad184.add ((x5_1).toNat * 6)).block, (ad184.add ((x5_1).toNat * 6)).off + 5, none⟩ = some (.int .i64 ((rd_T49 l0 x5_1).f2.f3)) ∧ w'.cell? (ad185.add ((x5_1).toNat * 6)) = some (.slice A185_0 ((rd_T49 l1 x5_1).f0).length c185_0) ∧ w'.cell? ⟨(ad185.add ((x5_1).toNat * 6)).block, (ad185.add ((x5_1).toNat * 6)).off + 1, none⟩ = some (.int .i64 ((rd_T49 l1 x5_1).f1)) ∧ w'.cell? ⟨(ad185.add ((x5_1).toNat * 6)).block, (ad185.add ((x5_1).toNat * 6)).off + 2, none⟩ = some (.int .i64 ((rd_T49 l1 x5_1).f2.f0)) ∧ w'.cell? ⟨(ad185.add ((x5_1).toNat * 6)).block, (ad185.add ((x5_1).toNat * 6)).off + 3, none⟩ = some (.int .i64 ((rd_T49 l1 x5_1).f2.f1)) ∧ w'.cell? ⟨(ad185.add ((x5_1).toNat * 6)).block, (ad185.add ((x5_1).toNat * 6)).off + 4, none⟩ = some (.int .i64 ((rd_T49 l1 x5_1).f2.f2)) ∧ w'.cell? ⟨(ad185.add ((x5_1).toNat * 6)).block, (ad185.add ((x5_1).toNat * 6)).off + 5, none⟩ = some (.int .i64 ((rd_T49 l1 x5_1).f2.f3))) (ds := []) (mB 10 0) (by kernel_rfl) rfl rfl ⟨(cB HB hw184_0), (cB HB hw184_1), (cB HB hw184_2), (cB HB hw184_3), (cB HB hw184_4), (cB HB hw184_5), (cB HB hw185_0), (cB HB hw185_1), (cB HB hw185_2), (cB HB hw185_3), (cB HB hw185_4), (cB HB hw185_5)⟩ (fun hHeld => ?_); refine with_tabW laws_eqObjectS.tab6 laws_eqObjectS.bits6 (fun HT_ HW_ => ?_)
      generalize wr.drew = w9 at HB HR184_0 HR185_0 hx184_0 hx184_1 hx184_2 hx184_3 hx184_4 hx184_5 hx185_0 hx185_1 hx185_2 hx185_3 hx185_4 hx185_5 hHeld ⊢
      refine pU 0 (some 17) (mB 10 1) ?_
      refine pU 1 (some 18) (mB 10 3) ?_
      refine pU 2 (some 19) (mB 10 7) ?_
      refine pU 4 (some 21) (mB 10 23) ?_
      refine pU 5 (some 22) (mB 10 55) ?_
      refine pU 6 (some 23) (mB 10 119) ?_
      refine tK 3 (some 20) (mB 10 127) ?_
      refine tK 7 (some 24) (mB 10 255) ?_
      refine one_ (i := 8) (N := some 25) (mB 10 511) rfl rfl (one_of HT_.out (by kernel_rfl)) (by decide) (fun K hK => ?_)
      refine goes_ Tryz.func24 (by kernel_rfl) rfl #[.agg #[.slice A184_0 ((rd_T49 l0 x5_1).f0).length c184_0, .int .i64 ((rd_T49 l0 x5_1).f1), .int .i64 ((rd_T49 l0 x5_1).f2.f0), .int .i64 ((rd_T49 l0 x5_1).f2.f1), .int .i64 ((rd_T49 l0 x5_1).f2.f2), .int .i64 ((rd_T49 l0 x5_1).f2.f3)], .agg #[.slice A185_0 ((rd_T49 l1 x5_1).f0).length c185_0, .int .i64 ((rd_T49 l1 x5_1).f1), .int .i64 ((rd_T49 l1 x5_1).f2.f0), .int .i64 ((rd_T49 l1 x5_1).f2.f1), .int .i64 ((rd_T49 l1 x5_1).f2.f2), .int .i64 ((rd_T49 l1 x5_1).f2.f3)]] (by rfl) rfl rfl mA ?_
      with_reducible refine (laws_eqObject.calls k1 _ _ ((rd_T49 l0 x5_1).f0) ((rd_T49 l0 x5_1).f1) ((rd_T49 l0 x5_1).f2.f0) ((rd_T49 l0 x5_1).f2.f1) ((rd_T49 l0 x5_1).f2.f2) ((rd_T49 l0 x5_1).f2.f3) _ _ ((rd_T49 l1 x5_1).f0) ((rd_T49 l1 x5_1).f1) ((rd_T49 l1 x5_1).f2.f0) ((rd_T49 l1 x5_1).f2.f1) ((rd_T49 l1 x5_1).f2.f2) ((rd_T49 l1 x5_1).f2.f3) _ _ ?side1 ?side2 ?side3 ?side4 A7.out).mono ?_
      (case side1 => exact cS (Kd.C_below HR184_0.out HB.out))
      (case side2 => exact HC184_0.out)
      (case side3 => exact cS (Kd.C_below HR185_0.out HB.out))
      (case side4 => exact HC185_0.out)
      rintro e w10 ⟨rfl, hb⟩
      refine ⟨_, rfl, ?_⟩
      replace HB := hB hb
      (try clear hb)
      (try clear hb2)
      (try clear hk)
      (try clear hi)
      refine hK.out _ _ ⟨(cB HB hw184_0), (cB HB hw184_1), (cB HB hw184_2), (cB HB hw184_3), (cB HB hw184_4), (cB HB hw184_5), (cB HB hw185_0), (cB HB hw185_1), (cB HB hw185_2), (cB HB hw185_3), (cB HB hw185_4), (cB HB hw185_5)⟩ (fun hHeld => ?_)
      clear hK K
      refine norm_ (a' := ?_) ?_ ?_
      rotate_left
      ·show Act.put _ (some 25) _ = _
       simp only [Act.put, List.setIfInBounds_toArray, List.set_cons_zero, List.set_cons_succ, i64_w, i32_w]
       rfl
      refine pU 9 (some 26) (mB 10 1023) ?_
      refine done_ (done_of HT_.out (by kernel_rfl)) ?_
      try go_wp2
      go_roundg k1
      case measure => have := HK1.out; omega
      case rel => exact ⟨(wrap64 (x5_1 + 1)), fS, H', ⟨by have := HK1.out; omega⟩, ⟨bS⟩⟩
     ·obtain rfl := Bool.eq_false_iff.mpr c8
      rw [if_neg nF] at H
      obtain rfl := Option.some.inj H
      try go_wp2
      replace HB := aM (below_drew1 HB.out)
      have p184 : 0 ≤ (x5_1 : Int) := dA
      have q184 : x5_1 < (l0.length : Int) := dA
      obtain ⟨ad184, A184_0, c184_0, e184, hx184_0, hx184_1, hx184_2, hx184_3, hx184_4, hx184_5, hl184_0, hi184_0⟩ := at_T49 HR0.out x5_1 p184 q184
      have hw184_5 := hx184_5
      have hw184_4 := hx184_4
      have hw184_3 := hx184_3
      have hw184_2 := hx184_2
      have hw184_1 := hx184_1
      have hw184_0 := hx184_0
      cases e184
      replace hx184_0 := cB HB hx184_0
      replace hx184_1 := cB HB hx184_1
      replace hx184_2 := cB HB hx184_2
      replace hx184_3 := cB HB hx184_3
      replace hx184_4 := cB HB hx184_4
      replace hx184_5 := cB HB hx184_5
      have HR184_0 := aM hi184_0
      have HC184_0 := aM hl184_0
      clear hi184_0 hl184_0
      replace p184 := eq_true p184
      replace q184 := eq_true q184
      have p185 : 0 ≤ (x5_1 : Int) := dA
      have q185 : x5_1 < (l1.length : Int) := dA
      obtain ⟨ad185, A185_0, c185_0, e185, hx185_0, hx185_1, hx185_2, hx185_3, hx185_4, hx185_5, hl185_0, hi185_0⟩ := at_T49 HR1.out x5_1 p185 q185
      have hw185_5 := hx185_5
      have hw185_4 := hx185_4
      have hw185_3 := hx185_3
      have hw185_2 := hx185_2
      have hw185_1 := hx185_1
      have hw185_0 := hx185_0
      cases e185
      replace hx185_0 := cB HB hx185_0
      replace hx185_1 := cB HB hx185_1
      replace hx185_2 := cB HB hx185_2
      replace hx185_3 := cB HB hx185_3
      replace hx185_4 := cB HB hx185_4
      replace hx185_5 := cB HB hx185_5
      have HR185_0 := aM hi185_0
      have HC185_0 := aM hl185_0
      clear hi185_0 hl185_0
      replace p185 := eq_true p185
      replace q185 := eq_true q185
      refine start_ (n := 10) (S := fun w' => w'.cell? (ad184.add ((x5_1).toNat * 6)) = some (.slice A184_0 ((rd_T49 l0 x5_1).f0).length c184_0) ∧ w'.cell? ⟨(ad184.add ((x5_1).toNat * 6)).block, (ad184.add ((x5_1).toNat * 6)).off + 1, none⟩ = some (.int .i64 ((rd_T49 l0 x5_1).f1)) ∧ w'.cell? ⟨(ad184.add ((x5_1).toNat * 6)).block, (ad184.add ((x5_1).toNat * 6)).off + 2, none⟩ = some (.int .i64 ((rd_T49 l0 x5_1).f2.f0)) ∧ w'.cell? ⟨(ad184.add ((x5_1).toNat * 6)).block, (ad184.add ((x5_1).toNat * 6)).off + 3, none⟩ = some (.int .i64 ((rd_T49 l0 x5_1).f2.f1)) ∧ w'.cell? ⟨(ad184.add ((x5_1).toNat * 6)).block, (ad184.add ((x5_1).toNat * 6)).off + 4, none⟩ = some (.int .i64 ((rd_T49 l0 x5_1).f2.f2)) ∧ w'.cell? ⟨(ad184.add ((x5_1).toNat * 6)).block, (ad184.add ((x5_1).toNat * 6)).off + 5, none⟩ = some (.int .i64 ((rd_T49 l0 x5_1).f2.f3)) ∧ w'.cell? (ad185.add ((x5_1).toNat * 6)) = some (.slice A185_0 ((rd_T49 l1 x5_1).f0).length c185_0) ∧ w'.cell? ⟨(ad185.add ((x5_1).toNat * 6)).block, (ad185.add ((x5_1).toNat * 6)).off + 1, none⟩ = some (.int .i64 ((rd_T49 l1 x5_1).f1)) ∧ w'.cell? ⟨(ad185.add ((x5_1).toNat * 6)).block, (ad185.add ((x5_1).toNat * 6)).off + 2, none⟩ = some (.int .i64 ((rd_T49 l1 x5_1).f2.f0)) ∧ w'.cell? ⟨(ad185.add ((x5_1).toNat * 6)).block, (ad185.add ((x5_1).toNat * 6)).off + 3, none⟩ = some (.int .i64 ((rd_T49 l1 x5_1).f2.f1)) ∧ w'.cell? ⟨(ad185.add ((x5_1).toNat * 6)).block, (ad185.add ((x5_1).toNat * 6)).off + 4, none⟩ = some (.int .i64 ((rd_T49 l1 x5_1).f2.f2)) ∧ w'.cell? ⟨(ad185.add ((x5_1).toNat * 6)).block, (ad185.add ((x5_1).toNat * 6)).off + 5, none⟩ = some (.int .i64 ((rd_T49 l1 x5_1).f2.f3))) (ds := []) (mB 10 0) (by kernel_rfl) rfl rfl ⟨(cB HB hw184_0), (cB HB hw184_1), (cB HB hw184_2), (cB HB hw184_3), (cB HB hw184_4), (cB HB hw184_5), (cB HB hw185_0), (cB HB hw185_1), (cB HB hw185_2), (cB HB hw185_3), (cB HB hw185_4), (cB HB hw185_5)⟩ (fun hHeld => ?_); refine with_tabW laws_eqObjectS.tab6 laws_eqObjectS.bits6 (fun HT_ HW_ => ?_)
      generalize wr.drew = w11 at HB HR184_0 HR185_0 hx184_0 hx184_1 hx184_2 hx184_3 hx184_4 hx184_5 hx185_0 hx185_1 hx185_2 hx185_3 hx185_4 hx185_5 hHeld ⊢
      refine pU 0 (some 17) (mB 10 1) ?_
      refine pU 1 (some 18) (mB 10 3) ?_
      refine pU 2 (some 19) (mB 10 7) ?_
      refine pU 4 (some 21) (mB 10 23) ?_
      refine pU 5 (some 22) (mB 10 55) ?_
      refine pU 6 (some 23) (mB 10 119) ?_
      refine tK 3 (some 20) (mB 10 127) ?_
      refine tK 7 (some 24) (mB 10 255) ?_
      refine one_ (i := 8) (N := some 25) (mB 10 511) rfl rfl (one_of HT_.out (by kernel_rfl)) (by decide) (fun K hK => ?_)
      refine goes_ Tryz.func24 (by kernel_rfl) rfl #[.agg #[.slice A184_0 ((rd_T49 l0 x5_1).f0).length c184_0, .int .i64 ((rd_T49 l0 x5_1).f1), .int .i64 ((rd_T49 l0 x5_1).f2.f0), .int .i64 ((rd_T49 l0 x5_1).f2.f1), .int .i64 ((rd_T49 l0 x5_1).f2.f2), .int .i64 ((rd_T49 l0 x5_1).f2.f3)], .agg #[.slice A185_0 ((rd_T49 l1 x5_1).f0).length c185_0, .int .i64 ((rd_T49 l1 x5_1).f1), .int .i64 ((rd_T49 l1 x5_1).f2.f0), .int .i64 ((rd_T49 l1 x5_1).f2.f1), .int .i64 ((rd_T49 l1 x5_1).f2.f2), .int .i64 ((rd_T49 l1 x5_1).f2.f3)]] (by rfl) rfl rfl mA ?_
      with_reducible refine (laws_eqObject.calls k1 _ _ ((rd_T49 l0 x5_1).f0) ((rd_T49 l0 x5_1).f1) ((rd_T49 l0 x5_1).f2.f0) ((rd_T49 l0 x5_1).f2.f1) ((rd_T49 l0 x5_1).f2.f2) ((rd_T49 l0 x5_1).f2.f3) _ _ ((rd_T49 l1 x5_1).f0) ((rd_T49 l1 x5_1).f1) ((rd_T49 l1 x5_1).f2.f0) ((rd_T49 l1 x5_1).f2.f1) ((rd_T49 l1 x5_1).f2.f2) ((rd_T49 l1 x5_1).f2.f3) _ _ ?side1 ?side2 ?side3 ?side4 A7.out).mono ?_
      (case side1 => exact cS (Kd.C_below HR184_0.out HB.out))
      (case side2 => exact HC184_0.out)
      (case side3 => exact cS (Kd.C_below HR185_0.out HB.out))
      (case side4 => exact HC185_0.out)
      rintro e w12 ⟨rfl, hb⟩
      refine ⟨_, rfl, ?_⟩
      replace HB := hB hb
      (try clear hb)
      (try clear hb2)
      (try clear hk)
      (try clear hi)
      refine hK.out _ _ ⟨(cB HB hw184_0), (cB HB hw184_1), (cB HB hw184_2), (cB HB hw184_3), (cB HB hw184_4), (cB HB hw184_5), (cB HB hw185_0), (cB HB hw185_1), (cB HB hw185_2), (cB HB hw185_3), (cB HB hw185_4), (cB HB hw185_5)⟩ (fun hHeld => ?_)
      clear hK K
      refine norm_ (a' := ?_) ?_ ?_
      rotate_left
      ·show Act.put _ (some 25) _ = _
       simp only [Act.put, List.setIfInBounds_toArray, List.set_cons_zero, List.set_cons_succ, i64_w, i32_w]
       rfl
      refine pU 9 (some 26) (mB 10 1023) ?_
      refine done_ (done_of HT_.out (by kernel_rfl)) ?_
      try go_wp2
      go_ret
      exact ⟨eS, bS⟩
    ·obtain rfl := Option.some.inj H
     go_wp2
     go_ret
     exact ⟨eS, bS⟩
 ·rw [if_neg c3] at H
  have c3b0 : ((l0.length : Int) == (l1.length : Int)) = false := beq_eq_false_iff_ne.mpr c3
  have c3b1 : ((l0.length : Int) != (l1.length : Int)) = true := bne_iff_ne.mpr c3
  have c3b2 : (l0.length == l1.length) = false := by first | simpa using c3 | (simp at c3 ⊢; omega)
  obtain rfl := Option.some.inj H
  go_enter Tryz.func48, Tryz.ntmps48
  go_wp2
  go_ret
  exact ⟨eS, bS⟩

/-! ### laws_eqBand: function 13 -/
def laws_eqBand.f (k : Nat) (a0_0 : Int) (a0_1 : Int) (l0_2 : List (List Int)) (l0_3 : List (S49)) (a1_0 : Int) (a1_1 : Int) (l1_2 : List (List Int)) (l1_3 : List (S49)) : Option (Bool) := if a0_0 = a1_0 then (if a0_1 = a1_1 then ((laws_eqIntSS.f k l0_2 l1_2).bind fun t189 => (if t189 = true then ((laws_eqObjectS.f k l0_3 l1_3).bind fun t190 => (if t190 = true then (some true) else (some false))) else (some false))) else (some false)) else (some false)
theorem laws_eqBand.lf0 {p : Prop} (h : p := by
 go_enter Tryz.func13, Tryz.ntmps13
 go_wp2_with (first | ((with_reducible refine gD 2 ?_); refine bxE #[.int .i64 a0_0, .int .i64 a0_1, .slice A0_2 l0_2.length c0_2, .slice A0_3 l0_3.length c0_3] 30 ?_; intro gb187 hg w15 BK187 hb; have GW187 := gE hg; have GE187 := gE hg; replace HB := hB hb; clear hb hg) | ((with_reducible refine gD 3 ?_); refine bxE #[.int .i64 a1_0, .int .i64 a1_1, .slice A1_2 l1_2.length c1_2, .slice A1_3 l1_3.length c1_3] 30 ?_; intro gb188 hg w16 BK188 hb; have GW188 := gE hg; have GE188 := gE hg; have NB187_188 := nL_ gb187 hg; have NB188_187 := nG_ gb187 hg; replace BK187 := kB_ gb187 hb; replace HB := hB hb; clear hb hg; have hnb17 := NB187_188.out; have hnc17 := NB188_187.out; have hz18 := cz4 BK187; have hz19 := cz4 BK188) | ((with_reducible refine gC 12 ?_); refine cM (some 19) Tryz.func12 (laws_eqIntSS.calls k _ _ l0_2 _ _ l1_2 _ _ (cC HR0_2 HB) HC0_2.out (cC HR1_2 HB) HC1_2.out A5.out) ?_; rintro e w' ⟨rfl, ⟨nd, rfl⟩⟩; refine ⟨_, rfl, ?_⟩) | ((with_reducible refine gC 48 ?_); refine cM (some 25) Tryz.func48 (laws_eqObjectS.calls k _ _ l0_3 _ _ l1_3 _ _ (cS (Kd.C_below HR0_3.out bS)) HC0_3.out (cS (Kd.C_below HR1_3.out bS)) HC1_3.out A7.out) ?_; rintro e w20 ⟨rfl, hb⟩; refine ⟨_, rfl, ?_⟩; replace BK187 := kB_ gb187 hb; replace BK188 := kB_ gb188 hb; replace HB := hB hb; (try clear hb)))
 go_ret
 exact ⟨eS, bS⟩) : p := h
theorem laws_eqBand.calls (k : Nat) (a0_0 : Int) (a0_1 : Int) (A0_2 : Option Addr) (c0_2 : Nat) (l0_2 : List (List Int)) (A0_3 : Option Addr) (c0_3 : Nat) (l0_3 : List (S49)) (a1_0 : Int) (a1_1 : Int) (A1_2 : Option Addr) (c1_2 : Nat) (l1_2 : List (List Int)) (A1_3 : Option Addr) (c1_3 : Nat) (l1_3 : List (S49)) (r : Bool) (w : World) (hr0_2 : Kd.C (Kd.slice 3 (Kd.int .i64)) w A0_2 l0_2.length l0_2) (hc0_2 : l0_2.length ≤ c0_2) (hr0_3 : Kd.C k49 w A0_3 l0_3.length l0_3) (hc0_3 : l0_3.length ≤ c0_3) (hr1_2 : Kd.C (Kd.slice 3 (Kd.int .i64)) w A1_2 l1_2.length l1_2) (hc1_2 : l1_2.length ≤ c1_2) (hr1_3 : Kd.C k49 w A1_3 l1_3.length l1_3) (hc1_3 : l1_3.length ≤ c1_3) (h : laws_eqBand.f k a0_0 a0_1 l0_2 l0_3 a1_0 a1_1 l1_2 l1_3 = some r) :
  Calls Tryz.prog 13 #[.agg #[.int .i64 a0_0, .int .i64 a0_1, .slice A0_2 l0_2.length c0_2, .slice A0_3 l0_3.length c0_3], .agg #[.int .i64 a1_0, .int .i64 a1_1, .slice A1_2 l1_2.length c1_2, .slice A1_3 l1_3.length c1_3]] w fun e w' => e = .returned (.bool r) ∧ Below w.heap.size w w' := by
 have hu30 := Tryz.underlying30
 have HR0_2 := aM hr0_2
 have HC0_2 := aM hc0_2
 clear hr0_2 hc0_2
 have HR0_3 := aM hr0_3
 have HC0_3 := aM hc0_3
 clear hr0_3 hc0_3
 have HR1_2 := aM hr1_2
 have HC1_2 := aM hc1_2
 clear hr1_2 hc1_2
 have HR1_3 := aM hr1_3
 have HC1_3 := aM hc1_3
 clear hr1_3 hc1_3
 have HB := aM (Below.refl w.heap.size w)
 have H := h
 clear h
 unfold laws_eqBand.f at H
 by_cases c3 : a0_0 = a1_0
 ·rw [if_pos c3] at H
  have c3b0 : (a0_0 == a1_0) = true := beq_iff_eq.mpr c3
  have c3b1 : (a0_0 != a1_0) = false := bne_eq_false_iff_eq.mpr c3
  clear c3
  by_cases c4 : a0_1 = a1_1
  ·rw [if_pos c4] at H
   have c4b0 : (a0_1 == a1_1) = true := beq_iff_eq.mpr c4
   have c4b1 : (a0_1 != a1_1) = false := bne_eq_false_iff_eq.mpr c4
   clear c4
   replace H := bN H
   obtain ⟨t189, A5, H⟩ := H
   by_cases c6 : t189 = true
   ·subst c6
    rw [if_pos rfl] at H
    replace H := bN H
    obtain ⟨t190, A7, H⟩ := H
    by_cases c8 : t190 = true
    ·subst c8
     rw [if_pos rfl] at H
     obtain rfl := Option.some.inj H
     exact laws_eqBand.lf0
    ·obtain rfl := Bool.eq_false_iff.mpr c8
     rw [if_neg nF] at H
     obtain rfl := Option.some.inj H
     exact laws_eqBand.lf0
   ·obtain rfl := Bool.eq_false_iff.mpr c6
    rw [if_neg nF] at H
    obtain rfl := Option.some.inj H
    exact laws_eqBand.lf0
  ·rw [if_neg c4] at H
   have c4b0 : (a0_1 == a1_1) = false := beq_eq_false_iff_ne.mpr c4
   have c4b1 : (a0_1 != a1_1) = true := bne_iff_ne.mpr c4
   obtain rfl := Option.some.inj H
   exact laws_eqBand.lf0
 ·rw [if_neg c3] at H
  have c3b0 : (a0_0 == a1_0) = false := beq_eq_false_iff_ne.mpr c3
  have c3b1 : (a0_0 != a1_0) = true := bne_iff_ne.mpr c3
  obtain rfl := Option.some.inj H
  exact laws_eqBand.lf0

/-! ### laws_markIntS: function 50 -/
def laws_markIntS.l0 : Nat → List Int → Int → Int → Option (Int × List Int)
 | 0, _, _, _ => none
 | k + 1, x0, x1, x5 => if x5 < (x0.length : Int) then (if 0 ≤ x5 then (laws_markIntS.l0 k (x0.set (x5 : Int).toNat x1) (wrap64 (x1 + 1)) (wrap64 (x5 + 1))) else (none)) else (some (x1, x0))
def laws_markIntS.f (k : Nat) (l0 : List Int) (a1 : Int) : Option (Int × List Int) := laws_markIntS.l0 k l0 a1 0
theorem laws_markIntS.calls (k : Nat) (P0_ : Nat → Prop) (u9000_ : Value) (l0 : List Int) (a1 : Int) (r1 : Int) (r2 : List Int) (w0 w : World) (hB : Below w0.heap.size w0 w) (ho0 : Kd.R (Kd.int .i64) 3 w w0.heap.size P0_ u9000_ l0) (h : laws_markIntS.f k l0 a1 = some (r1, r2)) :
  Calls Tryz.prog 50 #[u9000_, .int .i64 a1] w fun e w' => e = .returned (.int .i64 r1) ∧ Kd.R (Kd.int .i64) 3 w' w0.heap.size (fun k_ => (P0_ k_ ∨ w.heap.size ≤ k_)) u9000_ r2 ∧ Below w0.heap.size w0 w' ∧ Kept w w' (fun k_ => P0_ k_) := by
 have HO0 := aM (show Kd.R (Kd.int .i64) 3 w w0.heap.size (fun k_ => (P0_ k_ ∨ w.heap.size ≤ k_)) u9000_ l0 from Kd.R_mono ho0 (fun k_ hk => (.inl hk)))
 have HK := aM (Kept.refl w (fun k_ => P0_ k_))
 have HW0 := aM hB.size
 have HB := aM hB
 clear hB
 have H := h
 clear h
 unfold laws_markIntS.f at H
 have H' := aM H
 clear H
 go_enter Tryz.func50, Tryz.ntmps50
 go_wp2
 go_loopg [1, 5] k (fun kq v1 v5 w' => ∃ (x0_1 : List Int) (x1_1 : Int) (x5_1 : Int), v1 = .int .i64 x1_1 ∧ v5 = .int .i64 x5_1 ∧ Aside0 (laws_markIntS.l0 kq x0_1 x1_1 x5_1 = some (r1, r2)) ∧ Aside0 (kq ≤ k) ∧ Aside0 (Kd.R (Kd.int .i64) 3 w' w0.heap.size (fun k_ => (P0_ k_ ∨ w.heap.size ≤ k_)) u9000_ x0_1) ∧ Aside0 (Kept w w' (fun k_ => P0_ k_)) ∧ Aside0 (Below w0.heap.size w0 w'))
 case atStart => exact ⟨(l0), (a1), (0), fS, fS, H', ⟨Nat.le_refl _⟩, ⟨rS HO0⟩, ⟨by repeat (first | (with_reducible first | exact HK.out | apply Kept.alloc | apply Kept.drewN | apply Kept.drew) | exact HK.out)⟩, ⟨bS⟩⟩
 case round =>
  clear H'
  try clear p2
  obtain ⟨x0_1, x1_1, x5_1, rfl, rfl, HA, HK1, HO_0, HK, HB⟩ := hrel
  cases gk with
  | zero => exact absurd HA.out (by simp [laws_markIntS.l0])
  | succ k1 =>
   have H := HA.out
   clear HA
   simp only [laws_markIntS.l0] at H
   rcases iD H with ⟨c3b0, H⟩ | ⟨c3b0, H⟩
   ·obtain ⟨c4b0, H⟩ := iT H
    obtain ⟨y191, hy_⟩ : ∃ y_ : List Int, y_ = (x0_1.set (x5_1 : Int).toNat x1_1) := ⟨_, rfl⟩
    replace H : (laws_markIntS.l0 k1 y191 (wrap64 (x1_1 + 1)) (wrap64 (x5_1 + 1))) = some (r1, r2) := yS
    have Ny191 := aM hy_
    clear hy_
    have H' := aM H
    clear H
    obtain ⟨Ao6, co6, eo6⟩ := Kd.R_slice HO_0.out
    subst eo6
    have p5 : 0 ≤ (x5_1 : Int) := dA
    have q5 : (x5_1 : Int) < ((x0_1.length : Int) : Int) := dA
    obtain ⟨go5, co5, eo5, gb5, gl5, cl5, HG5⟩ := Kd.R_form HO_0.out (by omega)
    (first | cases eo5 | (injection eo5 with ea_ en_ ec_; (first | subst ea_ | (injection ea_ with ea_; subst ea_)); subst ec_; clear en_))
    have GB5 := aM gb5
    have GG5 := aM HG5
    clear gb5 gl5 HG5
    have HMgo5 := aM (show (P0_ go5 ∨ w.heap.size ≤ go5) from (HO_0.out.1 _ rfl))
    obtain ⟨hx5_0, hf5_0⟩ := Kd.R_celln 0 HO_0.out (x5_1 : Int) p5 q5
    replace p5 := eq_true p5
    replace q5 := eq_true q5
    have HP7 := Kd.R_putg HO_0.out (x5_1 : Int) x1_1
    go_wp2_with (first | ((with_reducible refine gate_store (t := 3) (p := 15) rfl ?_); refine store_event (t := 3) (p := 15) (v := ?vo_w8) (w1 := (wr.setCell ⟨go5, (x5_1 : Int).toNat, none⟩ (.int .i64 x1_1))) ?hg ?ho ?hn ?hr ?_; (case ho => rfl); (case hg => rfl); (case hn => rfl); (case hr => first | (go_simp; done) | (go_simp; rfl)); intro w8 hw; have hg : wr.grownBy w8 (some go5) := (by rw [hw]; exact HP7.2); have hp_ : Kd.R (Kd.int .i64) 3 w8 w0.heap.size (fun k_ => (P0_ k_ ∨ w.heap.size ≤ k_)) (.slice (some ⟨go5, 0, none⟩) x0_1.length co6) y191 := (by rw [hw, Ny191.out]; exact HP7.1); clear HP7; replace HB := aM ((by rw [hw]; exact below_set (HB.out) GB5.out : Below w0.heap.size w0 w8)); replace HK := aM (Kept.of_grown (S := (fun k_ => P0_ k_)) hg (by repeat (first | (with_reducible first | exact HK.out | apply Kept.alloc | apply Kept.drewN | apply Kept.drew) | exact HK.out)) (fun k_ e_ => (HO_0.out.1 k_ e_))); replace HO_0 := aM (hp_); clear hg hw hp_))
    go_roundg k1
    case measure => have := HK1.out; omega
    case rel => exact ⟨(y191), (wrap64 (x1_1 + 1)), (wrap64 (x5_1 + 1)), fS, fS, H', ⟨by have := HK1.out; omega⟩, ⟨rS HO_0⟩, ⟨by repeat (first | (with_reducible first | exact HK.out | apply Kept.alloc | apply Kept.drewN | apply Kept.drew) | exact HK.out)⟩, ⟨bS⟩⟩
   ·obtain ⟨rfl, rfl⟩ := sI2 H
    obtain ⟨Ao9, co9, eo9⟩ := Kd.R_slice HO_0.out
    subst eo9
    go_wp2
    go_ret
    exact ⟨eS, rS HO_0, bS, by repeat (first | (with_reducible first | exact HK.out | apply Kept.alloc | apply Kept.drewN | apply Kept.drew) | exact HK.out)⟩

/-! ### laws_markIntSS: function 15 -/
def laws_markIntSS.l0 : Nat → List (List Int) → Int → Int → Option (Int × (List (List Int)))
 | 0, _, _, _ => none
 | k + 1, x0, x1, x5 => if x5 < (x0.length : Int) then (if 0 ≤ x5 then ((laws_markIntS.f k (x0.getD x5.toNat []) x1).bind fun bt => (laws_markIntSS.l0 k (x0.set (x5 : Int).toNat bt.2) bt.1 (wrap64 (x5 + 1)))) else (none)) else (some (x1, x0))
def laws_markIntSS.f (k : Nat) (l0 : List (List Int)) (a1 : Int) : Option (Int × (List (List Int))) := laws_markIntSS.l0 k l0 a1 0
theorem laws_markIntSS.calls (k : Nat) (P0_ : Nat → Prop) (u9000_ : Value) (l0 : List (List Int)) (a1 : Int) (r1 : Int) (r2 : List (List Int)) (w0 w : World) (hB : Below w0.heap.size w0 w) (ho0 : Kd.S (Kd.slice 3 (Kd.int .i64)) 54 w w0.heap.size P0_ u9000_ l0) (h : laws_markIntSS.f k l0 a1 = some (r1, r2)) :
  Calls Tryz.prog 15 #[u9000_, .int .i64 a1] w fun e w' => e = .returned (.int .i64 r1) ∧ Kd.S (Kd.slice 3 (Kd.int .i64)) 54 w' w0.heap.size (fun k_ => (P0_ k_ ∨ w.heap.size ≤ k_)) u9000_ r2 ∧ Below w0.heap.size w0 w' ∧ Kept w w' (fun k_ => P0_ k_) := by
 have HO0 := aM (show Kd.S (Kd.slice 3 (Kd.int .i64)) 54 w w0.heap.size (fun k_ => (P0_ k_ ∨ w.heap.size ≤ k_)) u9000_ l0 from Kd.S_mono ho0 (fun k_ hk => (.inl hk)))
 have HK := aM (Kept.refl w (fun k_ => P0_ k_))
 have HB := aM hB
 clear hB ho0
 have H' := aM (show laws_markIntSS.l0 k l0 a1 0 = some (r1, r2) from h)
 clear h
 go_enter Tryz.func15, Tryz.ntmps15
 go_wp2
 go_loopg [1, 5] k (fun kq v1 v5 w' => ∃ (x0_1 : List (List Int)) (x1_1 : Int) (x5_1 : Int), v1 = .int .i64 x1_1 ∧ v5 = .int .i64 x5_1 ∧ Aside0 (laws_markIntSS.l0 kq x0_1 x1_1 x5_1 = some (r1, r2)) ∧ Aside0 (kq ≤ k) ∧ Aside0 (Kd.S (Kd.slice 3 (Kd.int .i64)) 54 w' w0.heap.size (fun k_ => (P0_ k_ ∨ w.heap.size ≤ k_)) u9000_ x0_1) ∧ Aside0 (Kept w w' (fun k_ => P0_ k_)) ∧ Aside0 (Below w0.heap.size w0 w'))
 case atStart => exact ⟨(l0), (a1), (0), rfl, rfl, H', ⟨Nat.le_refl _⟩, HO0, HK, HB⟩
 case round =>
  clear H' HO0
  obtain ⟨x0_1, x1_1, x5_1, rfl, rfl, HA, HK1, HO_0, HK, HB⟩ := hrel
  cases gk with
  | zero => exact absurd HA.out (by simp [laws_markIntSS.l0])
  | succ k1 =>
   have H := HA.out
   clear HA
   simp only [laws_markIntSS.l0] at H
   by_cases c3 : x5_1 < (x0_1.length : Int)
   ·rw [if_pos c3] at H
    have c3b0 : decide (x5_1 < (x0_1.length : Int)) = true := decide_eq_true c3
    by_cases c4 : 0 ≤ x5_1
    ·rw [if_pos c4] at H
     replace H := bN H
     obtain ⟨⟨t1, t2⟩, A5, H⟩ := H
     have H' := aM H
     clear H
     obtain ⟨go5, co5, rfl, gb5, gl5, _⟩ := Kd.S_form HO_0.out (by omega)
     obtain ⟨oki, c, _, hM, hcc, _, hoki, hH⟩ := Kd.S_elem HO_0.out [] x5_1 c4 c3
     obtain ⟨vi, rfl, hR⟩ := hM
     obtain ⟨Ai, ci, rfl⟩ := Kd.R_slice hR
     have hx5 : wr.cell? ⟨go5, (x5_1 : Int).toNat, none⟩ = some (.slice Ai (x0_1.getD x5_1.toNat []).length ci) := by
      have h_ := hcc 0 _ rfl
      simpa only [show ((Kd.slice 3 (Kd.int .i64))).sz = 1 from rfl, Nat.mul_one, Nat.add_zero] using h_
     generalize hxi : x0_1.getD x5_1.toNat [] = xi at A5 hR hx5 hH
     clear hxi
     have HH := aM hH
     have HR := aM hR
     have HI := aM hoki
     have HN := aM (fun k_ (h_ : wr.heap.size ≤ k_) => (Or.inr (Nat.le_trans HK.out.1 h_) : P0_ k_ ∨ w.heap.size ≤ k_))
     clear hcc hoki hH hR HO_0 gb5 gl5
     have p5 := eq_true c4
     have q5 := eq_true c3
     clear c3 c4
     go_wp2_with (first | ((with_reducible refine gC 50 ?_); refine cM (some 17) Tryz.func50 (laws_markIntS.calls k1 oki _ xi x1_1 t1 t2 w0 _ HB.out HR.out A5.out) ?_; rintro e w8 ⟨rfl, hi, hb, hkp⟩; refine ⟨_, rfl, ?_⟩; have HO_0 := aM (Kd.H_back (H_lent HH.out hkp HN.out) (Kd.M_row hi) (fun _ hk => hk)); replace HK := aM (Kept.then_ HK.out hkp (fun k_ hk => (HI.out k_ hk).1)); replace HB := aM hb; clear hi hb hkp hx5 HH HR HI HN))
     go_roundg k1
     case measure => have := HK1.out; omega
     case rel => exact ⟨x0_1.set (x5_1 : Int).toNat t2, t1, wrap64 (x5_1 + 1), rfl, fS, H', ⟨by have := HK1.out; omega⟩, HO_0, HK, HB⟩
    ·rw [if_neg c4] at H
     exact absurd H (by simp)
   ·rw [if_neg c3] at H
    have c3b0 : decide (x5_1 < (x0_1.length : Int)) = false := decide_eq_false c3
    clear c3
    obtain ⟨rfl, rfl⟩ := sI2 H
    obtain ⟨Ao9, co9, eo9⟩ := Kd.S_slice HO_0.out
    subst eo9
    go_wp2
    go_ret
    exact ⟨eS, HO_0.out, HB.out, HK.out⟩


/-! ### laws_markPointS: function 70 -/
def laws_markPointS.l0 : Nat → List (S151) → Int → Int → Option (Int × (List (S151)))
 | 0, _, _, _ => none
 | k + 1, x0, x1, x5 => if x5 < (x0.length : Int) then (if 0 ≤ x5 then ((some (x0.set (x5 : Int).toNat (⟨x1, (rd_T151 x0 x5).f1⟩ : S151) : List (S151))).bind fun y192 => (laws_markPointS.l0 k (y192.set (x5 : Int).toNat (⟨(rd_T151 y192 x5).f0, wrap64 (x1 + 1)⟩ : S151)) (wrap64 ((wrap64 (x1 + 1)) + 1)) (wrap64 (x5 + 1)))) else (none)) else (some (x1, x0))
def laws_markPointS.f (k : Nat) (l0 : List (S151)) (a1 : Int) : Option (Int × (List (S151))) := laws_markPointS.l0 k l0 a1 0
theorem laws_markPointS.calls (k : Nat) (P0_ : Nat → Prop) (u9000_ : Value) (l0 : List (S151)) (a1 : Int) (r1 : Int) (r2 : List (S151)) (w0 w : World) (hB : Below w0.heap.size w0 w) (ho0 : Kd.R k151 151 w w0.heap.size P0_ u9000_ l0) (h : laws_markPointS.f k l0 a1 = some (r1, r2)) :
  Calls Tryz.prog 70 #[u9000_, .int .i64 a1] w fun e w' => e = .returned (.int .i64 r1) ∧ Kd.R k151 151 w' w0.heap.size (fun k_ => (P0_ k_ ∨ w.heap.size ≤ k_)) u9000_ r2 ∧ Below w0.heap.size w0 w' ∧ Kept w w' (fun k_ => P0_ k_) := by
 have HO0 := aM (show Kd.R k151 151 w w0.heap.size (fun k_ => (P0_ k_ ∨ w.heap.size ≤ k_)) u9000_ l0 from Kd.R_mono ho0 (fun k_ hk => (.inl hk)))
 have HK := aM (Kept.refl w (fun k_ => P0_ k_))
 have HW0 := aM hB.size
 have HB := aM hB
 clear hB
 have H := h
 clear h
 unfold laws_markPointS.f at H
 have H' := aM H
 clear H
 go_enter Tryz.func70, Tryz.ntmps70
 go_wp2
 go_loopg [1, 5] k (fun kq v1 v5 w' => ∃ (x0_1 : List (S151)) (x1_1 : Int) (x5_1 : Int), v1 = .int .i64 x1_1 ∧ v5 = .int .i64 x5_1 ∧ Aside0 (laws_markPointS.l0 kq x0_1 x1_1 x5_1 = some (r1, r2)) ∧ Aside0 (kq ≤ k) ∧ Aside0 (Kd.R k151 151 w' w0.heap.size (fun k_ => (P0_ k_ ∨ w.heap.size ≤ k_)) u9000_ x0_1) ∧ Aside0 (Kept w w' (fun k_ => P0_ k_)) ∧ Aside0 (Below w0.heap.size w0 w'))
 case atStart => exact ⟨(l0), (a1), (0), fS, fS, H', ⟨Nat.le_refl _⟩, ⟨rS HO0⟩, ⟨by repeat (first | (with_reducible first | exact HK.out | apply Kept.alloc | apply Kept.drewN | apply Kept.drew) | exact HK.out)⟩, ⟨bS⟩⟩
 case round =>
  clear H'
  try clear p2
  obtain ⟨x0_1, x1_1, x5_1, rfl, rfl, HA, HK1, HO_0, HK, HB⟩ := hrel
  cases gk with
  | zero => exact absurd HA.out (by simp [laws_markPointS.l0])
  | succ k1 =>
   have H := HA.out
   clear HA
   simp only [laws_markPointS.l0] at H
   rcases iD H with ⟨c3b0, H⟩ | ⟨c3b0, H⟩
   ·obtain ⟨c4b0, H⟩ := iT H
    obtain ⟨y192, hy_⟩ : ∃ y_ : List (S151), y_ = (x0_1.set (x5_1 : Int).toNat (⟨x1_1, (rd_T151 x0_1 x5_1).f1⟩ : S151)) := ⟨_, rfl⟩
    replace H : (laws_markPointS.l0 k1 (y192.set (x5_1 : Int).toNat (⟨(rd_T151 y192 x5_1).f0, wrap64 (x1_1 + 1)⟩ : S151)) (wrap64 ((wrap64 (x1_1 + 1)) + 1)) (wrap64 (x5_1 + 1))) = some (r1, r2) := yS
    have Ny192 := aM hy_
    clear hy_
    obtain ⟨y193, hy_⟩ : ∃ y_ : List (S151), y_ = (y192.set (x5_1 : Int).toNat (⟨(rd_T151 y192 x5_1).f0, wrap64 (x1_1 + 1)⟩ : S151)) := ⟨_, rfl⟩
    replace H : (laws_markPointS.l0 k1 y193 (wrap64 ((wrap64 (x1_1 + 1)) + 1)) (wrap64 (x5_1 + 1))) = some (r1, r2) := yS
    have Ny193 := aM hy_
    clear hy_
    have H' := aM H
    clear H
    obtain ⟨Ao7, co7, eo7⟩ := Kd.R_slice HO_0.out
    subst eo7
    have p5 : 0 ≤ (x5_1 : Int) := dA
    have q5 : (x5_1 : Int) < ((x0_1.length : Int) : Int) := dA
    obtain ⟨go5, co5, eo5, gb5, gl5, cl5, HG5⟩ := Kd.R_form HO_0.out (by omega)
    (first | cases eo5 | (injection eo5 with ea_ en_ ec_; (first | subst ea_ | (injection ea_ with ea_; subst ea_)); subst ec_; clear en_))
    have GB5 := aM gb5
    have GG5 := aM HG5
    clear gb5 gl5 HG5
    have HMgo5 := aM (show (P0_ go5 ∨ w.heap.size ≤ go5) from (HO_0.out.1 _ rfl))
    obtain ⟨ce5, hcl5, hM5, hcc5, hfr5⟩ := Kd.R_elem HO_0.out z151 (x5_1 : Int) p5 q5
    obtain rfl := k151_openM hM5
    have hx5_0 : wr.cell? ⟨go5, (x5_1 : Int).toNat * 2, none⟩ = some (.int .i64 ((rd_T151 x0_1 x5_1).f0)) := hcc5 0 _ rfl
    have hx5_1 : wr.cell? ⟨go5, (x5_1 : Int).toNat * 2 + 1, none⟩ = some (.int .i64 ((rd_T151 x0_1 x5_1).f1)) := hcc5 1 _ rfl
    have hf5_0 : wr.frozen? ⟨go5, (x5_1 : Int).toNat * 2, none⟩ = false := hfr5 0
    have hf5_1 : wr.frozen? ⟨go5, (x5_1 : Int).toNat * 2 + 1, none⟩ = false := hfr5 1
    (try clear hM5); clear hcl5 hcc5 hfr5
    replace p5 := eq_true p5
    replace q5 := eq_true q5
    have HX8 := aM (show Kd.R k151 151 wr w0.heap.size (fun k_ => (P0_ k_ ∨ w.heap.size ≤ k_)) (.slice (some ⟨go5, 0, none⟩) x0_1.length co7) x0_1 from (rS HO_0))
    obtain ⟨ce8, hcl8, hM8, hcc8, hfr8⟩ := Kd.R_elem HX8.out z151 (x5_1 : Int) (dA) (by have h_ : (x5_1 : Int) < ((x0_1.length : Int) : Int) := dA; first | exact h_ | (have e_ := (Kd.R_reads' HO_0.out).1; omega) | simpa using h_)
    obtain rfl := k151_openM hM8
    have HP8 := Kd.R_seg HX8.out (x5_1 : Int) (dA) (by have h_ : (x5_1 : Int) < ((x0_1.length : Int) : Int) := dA; first | exact h_ | (have e_ := (Kd.R_reads' HO_0.out).1; omega) | simpa using h_) (seg := [.int .i64 x1_1]) (j := 0) hcl8 hcc8 (show 1 ≤ 2 from by decide) (x' := (⟨x1_1, (rd_T151 x0_1 x5_1).f1⟩ : S151)) (k151_mkM _ _ _ (⟨x1_1, (rd_T151 x0_1 x5_1).f1⟩ : S151) ) (fun _ hk => hk)
    have hx8_0 := hcc8 0 _ rfl
    (try simp only [show (k151).sz = 2 from rfl, Nat.mul_one, Nat.add_zero] at hx8_0)
    have hf8_0 := hfr8 0
    (try simp only [show (k151).sz = 2 from rfl, Nat.mul_one, Nat.add_zero] at hf8_0)
    (try clear hM8); clear hcl8 hcc8 hfr8
    go_wp2_with (first | ((with_reducible refine gate_store (t := 3) (p := 16) rfl ?_); refine store_event (t := 3) (p := 16) (v := ?vo_w9) (w1 := (wr.setCell ⟨go5, (x5_1 : Int).toNat * 2, none⟩ (.int .i64 x1_1))) ?hg ?ho ?hn ?hr ?_; (case ho => rfl); (case hg => rfl); (case hn => rfl); (case hr => first | (go_simp; done) | (go_simp; rfl)); intro w9 hw; have hg : wr.grownBy w9 (some go5) := (by rw [hw]; exact HP8.2); have hp_ : Kd.R k151 151 w9 w0.heap.size (fun k_ => (P0_ k_ ∨ w.heap.size ≤ k_)) (.slice (some ⟨go5, 0, none⟩) x0_1.length co7) y192 := (by rw [hw, Ny192.out]; exact HP8.1); clear HP8; replace HB := aM ((by rw [hw]; exact below_set (HB.out) GB5.out : Below w0.heap.size w0 w9)); replace HK := aM (Kept.of_grown (S := (fun k_ => P0_ k_)) hg (by repeat (first | (with_reducible first | exact HK.out | apply Kept.alloc | apply Kept.drewN | apply Kept.drew) | exact HK.out)) (fun k_ e_ => (HO_0.out.1 k_ e_))); replace HO_0 := aM (hp_); clear hg hw hp_; have p6 : 0 ≤ (x5_1 : Int) := dA; have q6 : (x5_1 : Int) < ((x0_1.length : Int) : Int) := dA; obtain ⟨ce6, hcl6, hM6, hcc6, hfr6⟩ := Kd.R_elem HO_0.out z151 (x5_1 : Int) p6 q6; obtain rfl := k151_openM hM6; have hx6_0 : w9.cell? ⟨go5, (x5_1 : Int).toNat * 2, none⟩ = some (.int .i64 ((rd_T151 y192 x5_1).f0)) := hcc6 0 _ rfl; have hx6_1 : w9.cell? ⟨go5, (x5_1 : Int).toNat * 2 + 1, none⟩ = some (.int .i64 ((rd_T151 y192 x5_1).f1)) := hcc6 1 _ rfl; have hf6_0 : w9.frozen? ⟨go5, (x5_1 : Int).toNat * 2, none⟩ = false := hfr6 0; have hf6_1 : w9.frozen? ⟨go5, (x5_1 : Int).toNat * 2 + 1, none⟩ = false := hfr6 1; (try clear hM6); clear hcl6 hcc6 hfr6; replace p6 := eq_true p6; replace q6 := eq_true q6; have HX10 := aM (show Kd.R k151 151 w9 w0.heap.size (fun k_ => (P0_ k_ ∨ w.heap.size ≤ k_)) (.slice (some ⟨go5, 0, none⟩) x0_1.length co7) y192 from (rS HO_0)); obtain ⟨ce10, hcl10, hM10, hcc10, hfr10⟩ := Kd.R_elem HX10.out z151 (x5_1 : Int) (dA) (by have h_ : (x5_1 : Int) < ((x0_1.length : Int) : Int) := dA; first | exact h_ | (have e_ := (Kd.R_reads' HO_0.out).1; omega) | simpa using h_); obtain rfl := k151_openM hM10; have HP10 := Kd.R_seg HX10.out (x5_1 : Int) (dA) (by have h_ : (x5_1 : Int) < ((x0_1.length : Int) : Int) := dA; first | exact h_ | (have e_ := (Kd.R_reads' HO_0.out).1; omega) | simpa using h_) (seg := [.int .i64 (wrap64 (x1_1 + 1))]) (j := 1) hcl10 hcc10 (show 2 ≤ 2 from by decide) (x' := (⟨(rd_T151 y192 x5_1).f0, wrap64 (x1_1 + 1)⟩ : S151)) (k151_mkM _ _ _ (⟨(rd_T151 y192 x5_1).f0, wrap64 (x1_1 + 1)⟩ : S151) ) (fun _ hk => hk); have hx10_1 := hcc10 1 _ rfl; (try simp only [show (k151).sz = 2 from rfl, Nat.mul_one, Nat.add_zero] at hx10_1); have hf10_1 := hfr10 1; (try simp only [show (k151).sz = 2 from rfl, Nat.mul_one, Nat.add_zero] at hf10_1); (try clear hM10); clear hcl10 hcc10 hfr10) | ((with_reducible refine gate_store (t := 3) (p := 23) rfl ?_); refine store_event (t := 3) (p := 23) (v := ?vo_w11) (w1 := (w9.setCell ⟨go5, (x5_1 : Int).toNat * 2 + 1, none⟩ (.int .i64 (wrap64 (x1_1 + 1))))) ?hg ?ho ?hn ?hr ?_; (case ho => rfl); (case hg => rfl); (case hn => rfl); (case hr => first | (go_simp; done) | (go_simp; rfl)); intro w11 hw; have hg : w9.grownBy w11 (some go5) := (by rw [hw]; exact HP10.2); have hp_ : Kd.R k151 151 w11 w0.heap.size (fun k_ => (P0_ k_ ∨ w.heap.size ≤ k_)) (.slice (some ⟨go5, 0, none⟩) x0_1.length co7) y193 := (by rw [hw, Ny193.out]; exact HP10.1); clear HP10; replace HB := aM ((by rw [hw]; exact below_set (HB.out) GB5.out : Below w0.heap.size w0 w11)); replace HK := aM (Kept.of_grown (S := (fun k_ => P0_ k_)) hg (by repeat (first | (with_reducible first | exact HK.out | apply Kept.alloc | apply Kept.drewN | apply Kept.drew) | exact HK.out)) (fun k_ e_ => (HO_0.out.1 k_ e_))); replace HO_0 := aM (hp_); clear hg hw hp_))
    go_roundg k1
    case measure => have := HK1.out; omega
    case rel => exact ⟨(y193), (wrap64 ((wrap64 (x1_1 + 1)) + 1)), (wrap64 (x5_1 + 1)), fS, fS, H', ⟨by have := HK1.out; omega⟩, ⟨rS HO_0⟩, ⟨by repeat (first | (with_reducible first | exact HK.out | apply Kept.alloc | apply Kept.drewN | apply Kept.drew) | exact HK.out)⟩, ⟨bS⟩⟩
   ·obtain ⟨rfl, rfl⟩ := sI2 H
    obtain ⟨Ao12, co12, eo12⟩ := Kd.R_slice HO_0.out
    subst eo12
    go_wp2
    go_ret
    exact ⟨eS, rS HO_0, bS, by repeat (first | (with_reducible first | exact HK.out | apply Kept.alloc | apply Kept.drewN | apply Kept.drew) | exact HK.out)⟩

/-! ### laws_markObjectS: function 49 -/
def laws_markObjectS.l0 : Nat → List S49 → Int → Int → Option (Int × (List S49))
 | 0, _, _, _ => none
 | k + 1, x0, x1, x5 => if x5 < (x0.length : Int) then (if 0 ≤ x5 then ((laws_markPointS.f k (x0.getD x5.toNat z49).f0 (x1)).bind fun bt => (laws_markObjectS.l0 k (x0.set (x5 : Int).toNat (⟨bt.2, bt.1, (⟨wrap64 (bt.1 + 1), wrap64 ((wrap64 (bt.1 + 1)) + 1), wrap64 ((wrap64 ((wrap64 (bt.1 + 1)) + 1)) + 1), wrap64 ((wrap64 ((wrap64 ((wrap64 (bt.1 + 1)) + 1)) + 1)) + 1)⟩ : S47)⟩ : S49)) (wrap64 ((wrap64 ((wrap64 ((wrap64 ((wrap64 (bt.1 + 1)) + 1)) + 1)) + 1)) + 1)) (wrap64 (x5 + 1)))) else (none)) else (some (x1, x0))
def laws_markObjectS.f (k : Nat) (l0 : List S49) (a1 : Int) : Option (Int × (List S49)) := laws_markObjectS.l0 k l0 a1 0
theorem laws_markObjectS.calls (k : Nat) (P0_ : Nat → Prop) (u9000_ : Value) (l0 : List S49) (a1 : Int) (r1 : Int) (r2 : List S49) (w0 w : World) (hB : Below w0.heap.size w0 w) (ho0 : Kd.S k49 49 w w0.heap.size P0_ u9000_ l0) (h : laws_markObjectS.f k l0 a1 = some (r1, r2)) :
  Calls Tryz.prog 49 #[u9000_, .int .i64 a1] w fun e w' => e = .returned (.int .i64 r1) ∧ Kd.S k49 49 w' w0.heap.size (fun k_ => (P0_ k_ ∨ w.heap.size ≤ k_)) u9000_ r2 ∧ Below w0.heap.size w0 w' ∧ Kept w w' (fun k_ => P0_ k_) := by
 have HO0 := aM (show Kd.S k49 49 w w0.heap.size (fun k_ => (P0_ k_ ∨ w.heap.size ≤ k_)) u9000_ l0 from Kd.S_mono ho0 (fun k_ hk => (.inl hk)))
 have HK := aM (Kept.refl w (fun k_ => P0_ k_))
 have HB := aM hB
 clear hB ho0
 have H' := aM (show laws_markObjectS.l0 k l0 a1 0 = some (r1, r2) from h)
 clear h
 have hu49 := Tryz.underlying49
 have hu47 := Tryz.underlying47
 go_enter Tryz.func49, Tryz.ntmps49
 go_wp2
 go_loopg [1, 5] k (fun kq v1 v5 w' => ∃ (x0_1 : List S49) (x1_1 : Int) (x5_1 : Int), v1 = .int .i64 x1_1 ∧ v5 = .int .i64 x5_1 ∧ Aside0 (laws_markObjectS.l0 kq x0_1 x1_1 x5_1 = some (r1, r2)) ∧ Aside0 (kq ≤ k) ∧ Aside0 (Kd.S k49 49 w' w0.heap.size (fun k_ => (P0_ k_ ∨ w.heap.size ≤ k_)) u9000_ x0_1) ∧ Aside0 (Kept w w' (fun k_ => P0_ k_)) ∧ Aside0 (Below w0.heap.size w0 w'))
 case atStart => exact ⟨(l0), (a1), (0), rfl, rfl, H', ⟨Nat.le_refl _⟩, HO0, HK, HB⟩
 case round =>
  clear H' HO0
  obtain ⟨x0_1, x1_1, x5_1, rfl, rfl, HA, HK1, HO_0, HK, HB⟩ := hrel
  cases gk with
  | zero => exact absurd HA.out (by simp [laws_markObjectS.l0])
  | succ k1 =>
   have H := HA.out
   clear HA
   simp only [laws_markObjectS.l0] at H
   by_cases c3 : x5_1 < (x0_1.length : Int)
   ·rw [if_pos c3] at H
    have c3b0 : decide (x5_1 < (x0_1.length : Int)) = true := decide_eq_true c3
    by_cases c4 : 0 ≤ x5_1
    ·rw [if_pos c4] at H
     replace H := bN H
     obtain ⟨⟨t1, t2⟩, A5, H⟩ := H
     have H' := aM H
     clear H
     have HG := aM (show ∀ k_, u9000_.ownBlock = some k_ → (P0_ k_ ∨ w.heap.size ≤ k_) from (Kd.S_R HO_0.out).1)
     obtain ⟨go5, co5, rfl, gb5, gl5, _⟩ := Kd.S_form HO_0.out (by omega)
     replace HG := aM (HG.out go5 rfl)
     obtain ⟨oki, c, _, hM, _, _, hoki, hH⟩ := Kd.S_elem HO_0.out z49 x5_1 c4 c3
     obtain ⟨v0, rfl, hR⟩ := k49_openM hM
     obtain ⟨Ai, ci, rfl⟩ := Kd.R_slice hR
     clear hM
     generalize hxi : (x0_1.getD x5_1.toNat z49).f0 = xi at A5 hR hH
     clear hxi
     generalize (x0_1.getD x5_1.toNat z49).f1 = y1 at hH
     generalize (x0_1.getD x5_1.toNat z49).f2.f0 = y2 at hH
     generalize (x0_1.getD x5_1.toNat z49).f2.f1 = y3 at hH
     generalize (x0_1.getD x5_1.toNat z49).f2.f2 = y4 at hH
     generalize (x0_1.getD x5_1.toNat z49).f2.f3 = y5 at hH
     have HH : Aside0 (Kd.H k49 49 wr w0.heap.size (fun k_ => (P0_ k_ ∨ w.heap.size ≤ k_)) (.slice (some ⟨go5, 0, none⟩) x0_1.length co5) x0_1 x5_1 oki [.slice Ai xi.length ci, .int .i64 y1, .int .i64 y2, .int .i64 y3, .int .i64 y4, .int .i64 y5]) := ⟨hH⟩
     have HR := aM hR
     have HI := aM hoki
     have HF := aM (fun k_ (h_ : oki k_) => (hoki k_ h_).2)
     have GB := aM gb5
     have P5 := aM c4
     have Q5 := aM c3
     clear hoki hH hR HO_0 gb5 gl5
     have p5 := eq_true c4
     have q5 := eq_true c3
     clear c3 c4
     have hs : wr.cell? ⟨go5, (x5_1 : Int).toNat * 6, none⟩ = some (.slice Ai xi.length ci) := (H_cells HH.out P5.out Q5.out).1 0 _ rfl; have hf : wr.frozen? ⟨go5, (x5_1 : Int).toNat * 6, none⟩ = false := (H_cells HH.out P5.out Q5.out).2 0
     go_wp2_with (first | ((with_reducible refine gC 70 ?_); refine cM (some 18) Tryz.func70 (laws_markPointS.calls k1 oki _ xi (x1_1) t1 t2 w0 _ HB.out HR.out A5.out) ?_; rintro e wz0 ⟨rfl, hi, hb, hkp⟩; refine ⟨_, rfl, ?_⟩; (try clear hs hf); have HN := fun k_ (h_ : wr.heap.size ≤ k_) => (Or.inr (Nat.le_trans HK.out.1 h_) : P0_ k_ ∨ w.heap.size ≤ k_); have GL := H_lt HH.out P5.out Q5.out; replace HF : Aside0 (∀ k_, (oki k_ ∨ wr.heap.size ≤ k_) → k_ ≠ go5) := ⟨fun k_ h_ => h_.elim (HF.out k_) (fun h2 e_ => by omega)⟩; replace HH : Aside0 (Kd.H k49 49 wz0 w0.heap.size (fun k_ => (P0_ k_ ∨ w.heap.size ≤ k_)) (.slice (some ⟨go5, 0, none⟩) x0_1.length co5) x0_1 x5_1 (fun k_ => oki k_ ∨ wr.heap.size ≤ k_) [.slice Ai xi.length ci, .int .i64 y1, .int .i64 y2, .int .i64 y3, .int .i64 y4, .int .i64 y5]) := ⟨H_lent HH.out hkp HN⟩; replace HR := aM hi; replace HK := aM (Kept.then_ HK.out hkp (fun k_ hk => (HI.out k_ hk).1)); replace HB := aM hb; clear hi hb hkp HN GL; have hs : wz0.cell? ⟨go5, (x5_1 : Int).toNat * 6 + 1, none⟩ = some (.int .i64 y1) := (H_cells HH.out P5.out Q5.out).1 1 _ rfl; have hf : wz0.frozen? ⟨go5, (x5_1 : Int).toNat * 6 + 1, none⟩ = false := (H_cells HH.out P5.out Q5.out).2 1) | ((with_reducible refine gate_store (t := 3) (p := 23) rfl ?_); refine store_event (t := 3) (p := 23) (v := ?vo_wz1) (w1 := (wz0.setCell ⟨go5, (x5_1 : Int).toNat * 6 + 1, none⟩ (.int .i64 (t1)))) ?hg ?ho ?hn ?hr ?_; (case ho => rfl); (case hg => rfl); (case hn => rfl); (case hr => first | (go_simp; done) | (go_simp; rfl)); intro wz1 hw; have h_ := H_put HH.out P5.out Q5.out 1 (by decide) rfl (.int .i64 (t1)) rfl; replace HH : Aside0 (Kd.H k49 49 wz1 w0.heap.size (fun k_ => (P0_ k_ ∨ w.heap.size ≤ k_)) (.slice (some ⟨go5, 0, none⟩) x0_1.length co5) x0_1 x5_1 (fun k_ => oki k_ ∨ wr.heap.size ≤ k_) [.slice Ai xi.length ci, .int .i64 (t1), .int .i64 y2, .int .i64 y3, .int .i64 y4, .int .i64 y5]) := ⟨by rw [hw]; exact h_.1⟩; replace HR : Aside0 (Kd.R k151 151 wz1 w0.heap.size (fun k_ => oki k_ ∨ wr.heap.size ≤ k_) (.slice Ai xi.length ci) t2) := ⟨by rw [hw]; exact Kd.R_far HR.out HF.out _⟩; replace HK : Aside0 (Kept w wz1 (fun k_ => P0_ k_)) := ⟨by rw [hw]; exact Kept.setCell HK.out HG.out _⟩; replace HB : Aside0 (Below w0.heap.size w0 wz1) := ⟨by rw [hw]; exact below_set HB.out GB.out⟩; clear h_ hw hs hf; have hs : wz1.cell? ⟨go5, (x5_1 : Int).toNat * 6 + 2, none⟩ = some (.int .i64 y2) := (H_cells HH.out P5.out Q5.out).1 2 _ rfl; have hf : wz1.frozen? ⟨go5, (x5_1 : Int).toNat * 6 + 2, none⟩ = false := (H_cells HH.out P5.out Q5.out).2 2) | ((with_reducible refine gate_store (t := 3) (p := 31) rfl ?_); refine store_event (t := 3) (p := 31) (v := ?vo_wz2) (w1 := (wz1.setCell ⟨go5, (x5_1 : Int).toNat * 6 + 2, none⟩ (.int .i64 (wrap64 (t1 + 1))))) ?hg ?ho ?hn ?hr ?_; (case ho => rfl); (case hg => rfl); (case hn => rfl); (case hr => first | (go_simp; done) | (go_simp; rfl)); intro wz2 hw; have h_ := H_put HH.out P5.out Q5.out 2 (by decide) rfl (.int .i64 (wrap64 (t1 + 1))) rfl; replace HH : Aside0 (Kd.H k49 49 wz2 w0.heap.size (fun k_ => (P0_ k_ ∨ w.heap.size ≤ k_)) (.slice (some ⟨go5, 0, none⟩) x0_1.length co5) x0_1 x5_1 (fun k_ => oki k_ ∨ wr.heap.size ≤ k_) [.slice Ai xi.length ci, .int .i64 (t1), .int .i64 (wrap64 (t1 + 1)), .int .i64 y3, .int .i64 y4, .int .i64 y5]) := ⟨by rw [hw]; exact h_.1⟩; replace HR : Aside0 (Kd.R k151 151 wz2 w0.heap.size (fun k_ => oki k_ ∨ wr.heap.size ≤ k_) (.slice Ai xi.length ci) t2) := ⟨by rw [hw]; exact Kd.R_far HR.out HF.out _⟩; replace HK : Aside0 (Kept w wz2 (fun k_ => P0_ k_)) := ⟨by rw [hw]; exact Kept.setCell HK.out HG.out _⟩; replace HB : Aside0 (Below w0.heap.size w0 wz2) := ⟨by rw [hw]; exact below_set HB.out GB.out⟩; clear h_ hw hs hf; have hs : wz2.cell? ⟨go5, (x5_1 : Int).toNat * 6 + 3, none⟩ = some (.int .i64 y3) := (H_cells HH.out P5.out Q5.out).1 3 _ rfl; have hf : wz2.frozen? ⟨go5, (x5_1 : Int).toNat * 6 + 3, none⟩ = false := (H_cells HH.out P5.out Q5.out).2 3) | ((with_reducible refine gate_store (t := 3) (p := 39) rfl ?_); refine store_event (t := 3) (p := 39) (v := ?vo_wz3) (w1 := (wz2.setCell ⟨go5, (x5_1 : Int).toNat * 6 + 3, none⟩ (.int .i64 (wrap64 ((wrap64 (t1 + 1)) + 1))))) ?hg ?ho ?hn ?hr ?_; (case ho => rfl); (case hg => rfl); (case hn => rfl); (case hr => first | (go_simp; done) | (go_simp; rfl)); intro wz3 hw; have h_ := H_put HH.out P5.out Q5.out 3 (by decide) rfl (.int .i64 (wrap64 ((wrap64 (t1 + 1)) + 1))) rfl; replace HH : Aside0 (Kd.H k49 49 wz3 w0.heap.size (fun k_ => (P0_ k_ ∨ w.heap.size ≤ k_)) (.slice (some ⟨go5, 0, none⟩) x0_1.length co5) x0_1 x5_1 (fun k_ => oki k_ ∨ wr.heap.size ≤ k_) [.slice Ai xi.length ci, .int .i64 (t1), .int .i64 (wrap64 (t1 + 1)), .int .i64 (wrap64 ((wrap64 (t1 + 1)) + 1)), .int .i64 y4, .int .i64 y5]) := ⟨by rw [hw]; exact h_.1⟩; replace HR : Aside0 (Kd.R k151 151 wz3 w0.heap.size (fun k_ => oki k_ ∨ wr.heap.size ≤ k_) (.slice Ai xi.length ci) t2) := ⟨by rw [hw]; exact Kd.R_far HR.out HF.out _⟩; replace HK : Aside0 (Kept w wz3 (fun k_ => P0_ k_)) := ⟨by rw [hw]; exact Kept.setCell HK.out HG.out _⟩; replace HB : Aside0 (Below w0.heap.size w0 wz3) := ⟨by rw [hw]; exact below_set HB.out GB.out⟩; clear h_ hw hs hf; have hs : wz3.cell? ⟨go5, (x5_1 : Int).toNat * 6 + 4, none⟩ = some (.int .i64 y4) := (H_cells HH.out P5.out Q5.out).1 4 _ rfl; have hf : wz3.frozen? ⟨go5, (x5_1 : Int).toNat * 6 + 4, none⟩ = false := (H_cells HH.out P5.out Q5.out).2 4) | ((with_reducible refine gate_store (t := 3) (p := 47) rfl ?_); refine store_event (t := 3) (p := 47) (v := ?vo_wz4) (w1 := (wz3.setCell ⟨go5, (x5_1 : Int).toNat * 6 + 4, none⟩ (.int .i64 (wrap64 ((wrap64 ((wrap64 (t1 + 1)) + 1)) + 1))))) ?hg ?ho ?hn ?hr ?_; (case ho => rfl); (case hg => rfl); (case hn => rfl); (case hr => first | (go_simp; done) | (go_simp; rfl)); intro wz4 hw; have h_ := H_put HH.out P5.out Q5.out 4 (by decide) rfl (.int .i64 (wrap64 ((wrap64 ((wrap64 (t1 + 1)) + 1)) + 1))) rfl; replace HH : Aside0 (Kd.H k49 49 wz4 w0.heap.size (fun k_ => (P0_ k_ ∨ w.heap.size ≤ k_)) (.slice (some ⟨go5, 0, none⟩) x0_1.length co5) x0_1 x5_1 (fun k_ => oki k_ ∨ wr.heap.size ≤ k_) [.slice Ai xi.length ci, .int .i64 (t1), .int .i64 (wrap64 (t1 + 1)), .int .i64 (wrap64 ((wrap64 (t1 + 1)) + 1)), .int .i64 (wrap64 ((wrap64 ((wrap64 (t1 + 1)) + 1)) + 1)), .int .i64 y5]) := ⟨by rw [hw]; exact h_.1⟩; replace HR : Aside0 (Kd.R k151 151 wz4 w0.heap.size (fun k_ => oki k_ ∨ wr.heap.size ≤ k_) (.slice Ai xi.length ci) t2) := ⟨by rw [hw]; exact Kd.R_far HR.out HF.out _⟩; replace HK : Aside0 (Kept w wz4 (fun k_ => P0_ k_)) := ⟨by rw [hw]; exact Kept.setCell HK.out HG.out _⟩; replace HB : Aside0 (Below w0.heap.size w0 wz4) := ⟨by rw [hw]; exact below_set HB.out GB.out⟩; clear h_ hw hs hf; have hs : wz4.cell? ⟨go5, (x5_1 : Int).toNat * 6 + 5, none⟩ = some (.int .i64 y5) := (H_cells HH.out P5.out Q5.out).1 5 _ rfl; have hf : wz4.frozen? ⟨go5, (x5_1 : Int).toNat * 6 + 5, none⟩ = false := (H_cells HH.out P5.out Q5.out).2 5) | ((with_reducible refine gate_store (t := 3) (p := 55) rfl ?_); refine store_event (t := 3) (p := 55) (v := ?vo_wz5) (w1 := (wz4.setCell ⟨go5, (x5_1 : Int).toNat * 6 + 5, none⟩ (.int .i64 (wrap64 ((wrap64 ((wrap64 ((wrap64 (t1 + 1)) + 1)) + 1)) + 1))))) ?hg ?ho ?hn ?hr ?_; (case ho => rfl); (case hg => rfl); (case hn => rfl); (case hr => first | (go_simp; done) | (go_simp; rfl)); intro wz5 hw; have h_ := H_put HH.out P5.out Q5.out 5 (by decide) rfl (.int .i64 (wrap64 ((wrap64 ((wrap64 ((wrap64 (t1 + 1)) + 1)) + 1)) + 1))) rfl; replace HH : Aside0 (Kd.H k49 49 wz5 w0.heap.size (fun k_ => (P0_ k_ ∨ w.heap.size ≤ k_)) (.slice (some ⟨go5, 0, none⟩) x0_1.length co5) x0_1 x5_1 (fun k_ => oki k_ ∨ wr.heap.size ≤ k_) [.slice Ai xi.length ci, .int .i64 (t1), .int .i64 (wrap64 (t1 + 1)), .int .i64 (wrap64 ((wrap64 (t1 + 1)) + 1)), .int .i64 (wrap64 ((wrap64 ((wrap64 (t1 + 1)) + 1)) + 1)), .int .i64 (wrap64 ((wrap64 ((wrap64 ((wrap64 (t1 + 1)) + 1)) + 1)) + 1))]) := ⟨by rw [hw]; exact h_.1⟩; replace HR : Aside0 (Kd.R k151 151 wz5 w0.heap.size (fun k_ => oki k_ ∨ wr.heap.size ≤ k_) (.slice Ai xi.length ci) t2) := ⟨by rw [hw]; exact Kd.R_far HR.out HF.out _⟩; replace HK : Aside0 (Kept w wz5 (fun k_ => P0_ k_)) := ⟨by rw [hw]; exact Kept.setCell HK.out HG.out _⟩; replace HB : Aside0 (Below w0.heap.size w0 wz5) := ⟨by rw [hw]; exact below_set HB.out GB.out⟩; clear h_ hw hs hf))
     go_roundg k1
     case measure => have := HK1.out; omega
     case rel => exact ⟨x0_1.set (x5_1 : Int).toNat (⟨t2, t1, (⟨wrap64 (t1 + 1), wrap64 ((wrap64 (t1 + 1)) + 1), wrap64 ((wrap64 ((wrap64 (t1 + 1)) + 1)) + 1), wrap64 ((wrap64 ((wrap64 ((wrap64 (t1 + 1)) + 1)) + 1)) + 1)⟩ : S47)⟩ : S49), (wrap64 ((wrap64 ((wrap64 ((wrap64 ((wrap64 (t1 + 1)) + 1)) + 1)) + 1)) + 1)), wrap64 (x5_1 + 1), fS, fS, H', ⟨by have := HK1.out; omega⟩, ⟨Kd.H_back HH.out (k49_mkM _ _ _ ((⟨t2, t1, (⟨wrap64 (t1 + 1), wrap64 ((wrap64 (t1 + 1)) + 1), wrap64 ((wrap64 ((wrap64 (t1 + 1)) + 1)) + 1), wrap64 ((wrap64 ((wrap64 ((wrap64 (t1 + 1)) + 1)) + 1)) + 1)⟩ : S47)⟩ : S49) : S49) HR.out) (fun _ hk => hk)⟩, HK, HB⟩
    ·rw [if_neg c4] at H
     exact absurd H (by simp)
   ·rw [if_neg c3] at H
    have c3b0 : decide (x5_1 < (x0_1.length : Int)) = false := decide_eq_false c3
    clear c3
    obtain ⟨rfl, rfl⟩ := sI2 H
    obtain ⟨Ao9, co9, eo9⟩ := Kd.S_slice HO_0.out
    subst eo9
    go_wp2
    go_ret
    exact ⟨eS, HO_0.out, HB.out, HK.out⟩


/-! ### laws_markBand: function 14 -/
def laws_markBand.f (k : Nat) (a0_0 : Int) (a0_1 : Int) (l0_2 : List (List Int)) (l0_3 : List (S49)) (a1 : Int) : Option (Int × (List (List Int)) × (List (S49))) := (laws_markIntSS.f k l0_2 a1).bind fun bt1 => ((laws_markObjectS.f k l0_3 bt1.1).bind fun bt2 => (some (bt2.1, bt1.2, bt2.2)))
theorem laws_markBand.calls (k : Nat) (a0_0 : Int) (a0_1 : Int) (P2_ : Nat → Prop) (u2_ : Value) (l0_2 : List (List Int)) (P3_ : Nat → Prop) (u3_ : Value) (l0_3 : List (S49)) (a1 : Int) (r1 : Int) (r2 : List (List Int)) (r3 : List (S49)) (w0 w : World) (hB : Below w0.heap.size w0 w) (ho2 : Kd.S (Kd.slice 3 (Kd.int .i64)) 54 w w0.heap.size P2_ u2_ l0_2) (ho3 : Kd.S k49 49 w w0.heap.size P3_ u3_ l0_3) (h : laws_markBand.f k a0_0 a0_1 l0_2 l0_3 a1 = some (r1, r2, r3)) :
  Calls Tryz.prog 14 #[.agg #[.int .i64 a0_0, .int .i64 a0_1, u2_, u3_], .int .i64 a1] w fun e w' => e = .returned (.int .i64 r1) ∧ Kd.S (Kd.slice 3 (Kd.int .i64)) 54 w' w0.heap.size (fun k_ => (P2_ k_ ∨ w.heap.size ≤ k_)) u2_ r2 ∧ Kd.S k49 49 w' w0.heap.size (fun k_ => (P3_ k_ ∨ w.heap.size ≤ k_)) u3_ r3 ∧ Below w0.heap.size w0 w' ∧ Kept w w' (fun k_ => (P2_ k_ ∨ P3_ k_)) := by
 have hu_ := Tryz.underlying30
 have HO2 := aM (show Kd.S (Kd.slice 3 (Kd.int .i64)) 54 w w0.heap.size (fun k_ => P2_ k_ ∧ k_ < w.heap.size ∧ ∃ q_, q_ ∈ 54 :: ((Kd.slice 3 (Kd.int .i64))).E ∧ ∃ c_, w.heap[k_]? = some (.cells c_ q_ (0, 0))) u2_ l0_2 from Kd.S_mono (Kd.S_bound ho2) (fun k_ hk => ⟨hk.1, hk.2.2.1, hk.2.2.2⟩))
 have HO3 := aM (show Kd.S k49 49 w w0.heap.size (fun k_ => P3_ k_ ∧ k_ < w.heap.size ∧ ∃ q_, q_ ∈ 49 :: (k49).E ∧ ∃ c_, w.heap[k_]? = some (.cells c_ q_ (0, 0))) u3_ l0_3 from Kd.S_mono (Kd.S_bound ho3) (fun k_ hk => ⟨hk.1, hk.2.2.1, hk.2.2.2⟩))
 have HK := aM (Kept.refl w (fun k_ => P2_ k_ ∨ P3_ k_))
 have HB := aM hB
 clear hB ho2 ho3
 have H := h
 clear h
 unfold laws_markBand.f at H
 replace H := bN H
 obtain ⟨⟨t1, t2⟩, FA1, H⟩ := H
 replace H := bN H
 obtain ⟨⟨t3, t4⟩, FA2, H⟩ := H
 obtain ⟨rfl, rfl, rfl⟩ := sI3 H
 obtain ⟨A2, c2, e2⟩ := Kd.S_slice HO2.out
 subst e2
 obtain ⟨A3, c3, e3⟩ := Kd.S_slice HO3.out
 subst e3
 go_enter Tryz.func14, Tryz.ntmps14
 go_wp2_with (first | ((with_reducible refine gD 2 ?_); refine bxE #[.int .i64 a0_0, .int .i64 a0_1, .slice A2 l0_2.length c2, .slice A3 l0_3.length c3] 30 ?_; intro gb hg w5 BK hb; have GW := aM ((by rw [hg]; exact (show Kept w _ (fun k_ => P2_ k_ ∨ P3_ k_) from by repeat (first | (with_reducible first | exact HK.out | apply Kept.alloc | apply Kept.drewN | apply Kept.drew) | exact HK.out)).1 : w.heap.size ≤ gb)); replace HO2 := sB HO2 hb; replace HO3 := sB HO3 hb; replace HK := aM (Kept.below (S := (fun k_ => P2_ k_ ∨ P3_ k_)) (by repeat (first | (with_reducible first | exact HK.out | apply Kept.alloc | apply Kept.drewN | apply Kept.drew) | exact HK.out)) hb); replace HB := hB hb; clear hb hg; have hz_a := cz4 BK) | ((with_reducible refine gC 15 ?_); refine cL (some 8) Tryz.func15 #[.slice A2 l0_2.length c2, .int .i64 (a1)] ?_; (with_reducible refine (laws_markIntSS.calls k (fun k_ => P2_ k_ ∧ k_ < w.heap.size ∧ ∃ q_, q_ ∈ 54 :: ((Kd.slice 3 (Kd.int .i64))).E ∧ ∃ c_, w.heap[k_]? = some (.cells c_ q_ (0, 0))) (.slice A2 l0_2.length c2) l0_2 (a1) t1 t2 w0 _ ?side1 ?side2 FA1.out).mono ?_); (case side1 => repeat (first | (with_reducible first | exact HB.out | apply below_alloc | apply pw_below_drewN | apply below_drew1) | exact HB.out)); (case side2 => exact (sS HO2)); rintro e w8 ⟨rfl, hy, hb, hkp⟩; refine ⟨_, rfl, ?_⟩; have HN := aM (show Kept w _ (fun k_ => P2_ k_ ∨ P3_ k_) from by repeat (first | (with_reducible first | exact HK.out | apply Kept.alloc | apply Kept.drewN | apply Kept.drew) | exact HK.out)).1; replace BK := aM (blk_kept (g := gb) kS hkp (fun hs_ => Nat.not_lt.2 GW.out hs_.2.1)); replace HO3 := aM (Kd.S_mono (ok' := (fun k_ => P3_ k_ ∧ k_ < w.heap.size ∧ ∃ q_, q_ ∈ 49 :: (k49).E ∧ ∃ c_, w.heap[k_]? = some (.cells c_ q_ (0, 0)))) (Kd.S_keptB (sS HO3) hkp (fun k_ h1_ h2_ => typed_two h1_.2.2 h2_.2.2 (by decide))) (fun _ h_ => h_.1)); replace HK := aM (Kept.then_ (S := (fun k_ => P2_ k_ ∨ P3_ k_)) (by repeat (first | (with_reducible first | exact HK.out | apply Kept.alloc | apply Kept.drewN | apply Kept.drew) | exact HK.out)) hkp (fun k_ hs_ => Or.inl (Or.inl hs_.1))); replace HO2 := aM (Kd.S_mono (ok' := fun k_ => (fun k_ => P2_ k_ ∧ k_ < w.heap.size ∧ ∃ q_, q_ ∈ 54 :: ((Kd.slice 3 (Kd.int .i64))).E ∧ ∃ c_, w.heap[k_]? = some (.cells c_ q_ (0, 0))) k_ ∨ w.heap.size ≤ k_) hy (fun k_ h_ => Or.elim h_ Or.inl (fun h2_ => Or.inr (Nat.le_trans HN.out h2_)))); replace HB := aM hb; clear hb hkp hy HN; have hz_w8 := cz4 BK) | ((with_reducible refine gC 49 ?_); refine cL (some 12) Tryz.func49 #[.slice A3 l0_3.length c3, .int .i64 (t1)] ?_; (with_reducible refine (laws_markObjectS.calls k (fun k_ => P3_ k_ ∧ k_ < w.heap.size ∧ ∃ q_, q_ ∈ 49 :: (k49).E ∧ ∃ c_, w.heap[k_]? = some (.cells c_ q_ (0, 0))) (.slice A3 l0_3.length c3) l0_3 (t1) t3 t4 w0 _ ?side1 ?side2 FA2.out).mono ?_); (case side1 => repeat (first | (with_reducible first | exact HB.out | apply below_alloc | apply pw_below_drewN | apply below_drew1) | exact HB.out)); (case side2 => exact (sS HO3)); rintro e w9 ⟨rfl, hy, hb, hkp⟩; refine ⟨_, rfl, ?_⟩; have HN := aM (show Kept w _ (fun k_ => P2_ k_ ∨ P3_ k_) from by repeat (first | (with_reducible first | exact HK.out | apply Kept.alloc | apply Kept.drewN | apply Kept.drew) | exact HK.out)).1; replace BK := aM (blk_kept (g := gb) kS hkp (fun hs_ => Nat.not_lt.2 GW.out hs_.2.1)); replace HO2 := aM (Kd.S_mono (ok' := fun k_ => (fun k_ => P2_ k_ ∧ k_ < w.heap.size ∧ ∃ q_, q_ ∈ 54 :: ((Kd.slice 3 (Kd.int .i64))).E ∧ ∃ c_, w.heap[k_]? = some (.cells c_ q_ (0, 0))) k_ ∨ w.heap.size ≤ k_) (Kd.S_keptB (sS HO2) hkp (fun k_ h1_ h2_ => Or.elim h1_ (fun h1_ => typed_two h1_.2.2 h2_.2.2 (by decide)) (fun h1_ => Nat.not_lt.2 h1_ h2_.2.1))) (fun _ h_ => h_.1)); replace HK := aM (Kept.then_ (S := (fun k_ => P2_ k_ ∨ P3_ k_)) (by repeat (first | (with_reducible first | exact HK.out | apply Kept.alloc | apply Kept.drewN | apply Kept.drew) | exact HK.out)) hkp (fun k_ hs_ => Or.inl (Or.inr hs_.1))); replace HO3 := aM (Kd.S_mono (ok' := fun k_ => (fun k_ => P3_ k_ ∧ k_ < w.heap.size ∧ ∃ q_, q_ ∈ 49 :: (k49).E ∧ ∃ c_, w.heap[k_]? = some (.cells c_ q_ (0, 0))) k_ ∨ w.heap.size ≤ k_) hy (fun k_ h_ => Or.elim h_ Or.inl (fun h2_ => Or.inr (Nat.le_trans HN.out h2_)))); replace HB := aM hb; clear hb hkp hy HN; have hz_w9 := cz4 BK))
 go_ret
 exact ⟨eS, Kd.S_mono (ok := fun k_ => (fun k_ => P2_ k_ ∧ k_ < w.heap.size ∧ ∃ q_, q_ ∈ 54 :: ((Kd.slice 3 (Kd.int .i64))).E ∧ ∃ c_, w.heap[k_]? = some (.cells c_ q_ (0, 0))) k_ ∨ w.heap.size ≤ k_) (sS HO2) (fun k_ h_ => Or.elim h_ (fun h_ => Or.inl h_.1) Or.inr), Kd.S_mono (ok := fun k_ => (fun k_ => P3_ k_ ∧ k_ < w.heap.size ∧ ∃ q_, q_ ∈ 49 :: (k49).E ∧ ∃ c_, w.heap[k_]? = some (.cells c_ q_ (0, 0))) k_ ∨ w.heap.size ≤ k_) (sS HO3) (fun k_ h_ => Or.elim h_ (fun h_ => Or.inl h_.1) Or.inr), bS, by repeat (first | (with_reducible first | exact HK.out | apply Kept.alloc | apply Kept.drewN | apply Kept.drew) | exact HK.out)⟩


/-! ### laws_heldIntS: function 51 -/
def laws_heldIntS.l0 : Nat → List Int → Int → Int → Option (Int)
 | 0, _, _, _ => none
 | k + 1, x0, x1, x5 => if x5 < (x0.length : Int) then (if 0 ≤ x5 then (if (rd x0 x5) = x1 then (laws_heldIntS.l0 k x0 (wrap64 (x1 + 1)) (wrap64 (x5 + 1))) else (some (-1))) else (none)) else (some x1)
def laws_heldIntS.f (k : Nat) (l0 : List Int) (a1 : Int) : Option (Int) := laws_heldIntS.l0 k l0 a1 0
theorem laws_heldIntS.calls (k : Nat) (A0 : Option Addr) (c0 : Nat) (l0 : List Int) (a1 : Int) (r : Int) (w : World) (hr0 : Kd.C (Kd.int .i64) w A0 l0.length l0) (hc0 : l0.length ≤ c0) (h : laws_heldIntS.f k l0 a1 = some r) :
  Calls Tryz.prog 51 #[.slice A0 l0.length c0, .int .i64 a1] w fun e w' => e = .returned (.int .i64 r) ∧ Drawn0 w w' := by
 have HR0 := aM hr0
 have HC0 := aM hc0
 clear hr0 hc0
 have H := h
 clear h
 unfold laws_heldIntS.f at H
 have H' := aM H
 clear H
 go_enter Tryz.func51, Tryz.ntmps51
 go_wp2
 go_loopg [1, 5] k (fun kq v1 v5 w' => ∃ (x1_1 : Int) (x5_1 : Int), v1 = .int .i64 x1_1 ∧ v5 = .int .i64 x5_1 ∧ Aside0 (laws_heldIntS.l0 kq l0 x1_1 x5_1 = some r) ∧ Aside0 (kq ≤ k) ∧ Drawn0 w w')
 case atStart => exact ⟨(a1), (0), fS, fS, H', ⟨Nat.le_refl _⟩, dS⟩
 case round =>
  clear H'
  try clear p2
  obtain ⟨x1_1, x5_1, rfl, rfl, HA, HK1, ⟨m1, rfl⟩⟩ := hrel
  cases gk with
  | zero => exact absurd HA.out (by simp [laws_heldIntS.l0])
  | succ k1 =>
   have H := HA.out
   clear HA
   simp only [laws_heldIntS.l0] at H
   rcases iD H with ⟨c3b0, H⟩ | ⟨c3b0, H⟩
   ·obtain ⟨c4b0, H⟩ := iT H
    by_cases c5 : (rd l0 x5_1) = x1_1
    ·rw [if_pos c5] at H
     have c5b0 : ((rd l0 x5_1) == x1_1) = true := beq_iff_eq.mpr c5
     have c5b1 : ((rd l0 x5_1) != x1_1) = false := bne_eq_false_iff_eq.mpr c5
     clear c5
     have H' := aM H
     clear H
     have p194 : 0 ≤ (x5_1 : Int) := dA
     have q194 : x5_1 < (l0.length : Int) := dA
     obtain ⟨ad194, e194, hx194_0⟩ := Kd.at_int HR0.out x5_1 p194 q194
     cases e194
     replace p194 := eq_true p194
     replace q194 := eq_true q194
     go_wp2
     go_roundg k1
     case measure => have := HK1.out; omega
     case rel => exact ⟨(wrap64 (x1_1 + 1)), (wrap64 (x5_1 + 1)), fS, fS, H', ⟨by have := HK1.out; omega⟩, dS⟩
    ·rw [if_neg c5] at H
     have c5b0 : ((rd l0 x5_1) == x1_1) = false := beq_eq_false_iff_ne.mpr c5
     have c5b1 : ((rd l0 x5_1) != x1_1) = true := bne_iff_ne.mpr c5
     obtain rfl := Option.some.inj H
     have p194 : 0 ≤ (x5_1 : Int) := dA
     have q194 : x5_1 < (l0.length : Int) := dA
     obtain ⟨ad194, e194, hx194_0⟩ := Kd.at_int HR0.out x5_1 p194 q194
     cases e194
     replace p194 := eq_true p194
     replace q194 := eq_true q194
     go_wp2
     go_ret
     exact ⟨fS, dS⟩
   ·obtain rfl := Option.some.inj H
    go_wp2
    go_ret
    exact ⟨fS, dS⟩

/-! ### laws_heldIntSS: function 16 -/
def laws_heldIntSS.l0 : Nat → List (List Int) → Int → Int → Option (Int)
 | 0, _, _, _ => none
 | k + 1, x0, x1, x5 => if x5 < (x0.length : Int) then (if 0 ≤ x5 then ((laws_heldIntS.f k (rd_L1 x0 x5) x1).bind fun t196 => (if t196 < 0 then (some (-1)) else (laws_heldIntSS.l0 k x0 t196 (wrap64 (x5 + 1))))) else (none)) else (some x1)
def laws_heldIntSS.f (k : Nat) (l0 : List (List Int)) (a1 : Int) : Option (Int) := laws_heldIntSS.l0 k l0 a1 0
theorem laws_heldIntSS.calls (k : Nat) (A0 : Option Addr) (c0 : Nat) (l0 : List (List Int)) (a1 : Int) (r : Int) (w : World) (hr0 : Kd.C (Kd.slice 3 (Kd.int .i64)) w A0 l0.length l0) (hc0 : l0.length ≤ c0) (h : laws_heldIntSS.f k l0 a1 = some r) :
  Calls Tryz.prog 16 #[.slice A0 l0.length c0, .int .i64 a1] w fun e w' => e = .returned (.int .i64 r) ∧ Drawn0 w w' := by
 have HR0 := aM hr0
 have HC0 := aM hc0
 clear hr0 hc0
 have H := h
 clear h
 unfold laws_heldIntSS.f at H
 have H' := aM H
 clear H
 go_enter Tryz.func16, Tryz.ntmps16
 go_wp2
 go_loopg [1, 5] k (fun kq v1 v5 w' => ∃ (x1_1 : Int) (x5_1 : Int), v1 = .int .i64 x1_1 ∧ v5 = .int .i64 x5_1 ∧ Aside0 (laws_heldIntSS.l0 kq l0 x1_1 x5_1 = some r) ∧ Aside0 (kq ≤ k) ∧ Drawn0 w w')
 case atStart => exact ⟨(a1), (0), fS, fS, H', ⟨Nat.le_refl _⟩, dS⟩
 case round =>
  clear H'
  try clear c1
  try clear p2
  obtain ⟨x1_1, x5_1, rfl, rfl, HA, HK1, ⟨m1, rfl⟩⟩ := hrel
  cases gk with
  | zero => exact absurd HA.out (by simp [laws_heldIntSS.l0])
  | succ k1 =>
   have H := HA.out
   clear HA
   simp only [laws_heldIntSS.l0] at H
   rcases iD H with ⟨c3b0, H⟩ | ⟨c3b0, H⟩
   ·obtain ⟨c4b0, H⟩ := iT H
    replace H := bN H
    obtain ⟨t196, A5, H⟩ := H
    rcases iD H with ⟨c6b0, H⟩ | ⟨c6b0, H⟩
    ·obtain rfl := Option.some.inj H
     have p195 : 0 ≤ (x5_1 : Int) := dA
     have q195 : x5_1 < (l0.length : Int) := dA
     obtain ⟨ad195, A195_0, c195_0, e195, hx195_0, hl195_0, hi195_0⟩ := at_L1 HR0.out x5_1 p195 q195
     cases e195
     have HR195_0 := aM hi195_0
     have HC195_0 := aM hl195_0
     clear hi195_0 hl195_0
     replace p195 := eq_true p195
     replace q195 := eq_true q195
     go_wp2_with (first | ((with_reducible refine gC 51 ?_); refine cL (some 17) Tryz.func51 #[.slice A195_0 (rd_L1 l0 x5_1).length c195_0, .int .i64 x1_1] ?_; (with_reducible refine (laws_heldIntS.calls k1 _ _ (rd_L1 l0 x5_1) x1_1 t196 _ ?side1 ?side2 A5.out).mono ?_); (case side1 => exact cS HR195_0.out); (case side2 => exact HC195_0.out); rintro e w' ⟨rfl, ⟨nd, rfl⟩⟩; refine ⟨_, rfl, ?_⟩))
     go_ret
     exact ⟨fS, dS⟩
    ·have H' := aM H
     clear H
     have p195 : 0 ≤ (x5_1 : Int) := dA
     have q195 : x5_1 < (l0.length : Int) := dA
     obtain ⟨ad195, A195_0, c195_0, e195, hx195_0, hl195_0, hi195_0⟩ := at_L1 HR0.out x5_1 p195 q195
     cases e195
     have HR195_0 := aM hi195_0
     have HC195_0 := aM hl195_0
     clear hi195_0 hl195_0
     replace p195 := eq_true p195
     replace q195 := eq_true q195
     go_wp2_with (first | ((with_reducible refine gC 51 ?_); refine cL (some 17) Tryz.func51 #[.slice A195_0 (rd_L1 l0 x5_1).length c195_0, .int .i64 x1_1] ?_; (with_reducible refine (laws_heldIntS.calls k1 _ _ (rd_L1 l0 x5_1) x1_1 t196 _ ?side1 ?side2 A5.out).mono ?_); (case side1 => exact cS HR195_0.out); (case side2 => exact HC195_0.out); rintro e w' ⟨rfl, ⟨nd, rfl⟩⟩; refine ⟨_, rfl, ?_⟩))
     go_roundg k1
     case measure => have := HK1.out; omega
     case rel => exact ⟨(t196), (wrap64 (x5_1 + 1)), fS, fS, H', ⟨by have := HK1.out; omega⟩, dS⟩
   ·obtain rfl := Option.some.inj H
    go_wp2
    go_ret
    exact ⟨fS, dS⟩

/-! ### laws_heldPointS: function 119 -/
def laws_heldPointS.l0 : Nat → List (S151) → Int → Int → Option (Int)
 | 0, _, _, _ => none
 | k + 1, x0, x1, x5 => if x5 < (x0.length : Int) then (if 0 ≤ x5 then (if ((rd_T151 x0 x5).f0) = x1 then (if ((rd_T151 x0 x5).f1) = (wrap64 (x1 + 1)) then (laws_heldPointS.l0 k x0 (wrap64 ((wrap64 (x1 + 1)) + 1)) (wrap64 (x5 + 1))) else (some (-1))) else (some (-1))) else (none)) else (some x1)
def laws_heldPointS.f (k : Nat) (l0 : List (S151)) (a1 : Int) : Option (Int) := laws_heldPointS.l0 k l0 a1 0
theorem laws_heldPointS.calls (k : Nat) (A0 : Option Addr) (c0 : Nat) (l0 : List (S151)) (a1 : Int) (r : Int) (w : World) (hr0 : Kd.C k151 w A0 l0.length l0) (hc0 : l0.length ≤ c0) (h : laws_heldPointS.f k l0 a1 = some r) :
  Calls Tryz.prog 119 #[.slice A0 l0.length c0, .int .i64 a1] w fun e w' => e = .returned (.int .i64 r) ∧ Drawn0 w w' := by
 have HR0 := aM hr0
 have HC0 := aM hc0
 clear hr0 hc0
 have H := h
 clear h
 unfold laws_heldPointS.f at H
 have H' := aM H
 clear H
 go_enter Tryz.func119, Tryz.ntmps119
 go_wp2
 go_loopg [1, 5] k (fun kq v1 v5 w' => ∃ (x1_1 : Int) (x5_1 : Int), v1 = .int .i64 x1_1 ∧ v5 = .int .i64 x5_1 ∧ Aside0 (laws_heldPointS.l0 kq l0 x1_1 x5_1 = some r) ∧ Aside0 (kq ≤ k) ∧ Drawn0 w w')
 case atStart => exact ⟨(a1), (0), fS, fS, H', ⟨Nat.le_refl _⟩, dS⟩
 case round =>
  clear H'
  try clear c1
  try clear p2
  obtain ⟨x1_1, x5_1, rfl, rfl, HA, HK1, ⟨m1, rfl⟩⟩ := hrel
  cases gk with
  | zero => exact absurd HA.out (by simp [laws_heldPointS.l0])
  | succ k1 =>
   have H := HA.out
   clear HA
   simp only [laws_heldPointS.l0] at H
   rcases iD H with ⟨c3b0, H⟩ | ⟨c3b0, H⟩
   ·obtain ⟨c4b0, H⟩ := iT H
    by_cases c5 : ((rd_T151 l0 x5_1).f0) = x1_1
    ·rw [if_pos c5] at H
     have c5b0 : (((rd_T151 l0 x5_1).f0) == x1_1) = true := beq_iff_eq.mpr c5
     have c5b1 : (((rd_T151 l0 x5_1).f0) != x1_1) = false := bne_eq_false_iff_eq.mpr c5
     clear c5
     by_cases c6 : ((rd_T151 l0 x5_1).f1) = (wrap64 (x1_1 + 1))
     ·rw [if_pos c6] at H
      have c6b0 : (((rd_T151 l0 x5_1).f1) == (wrap64 (x1_1 + 1))) = true := beq_iff_eq.mpr c6
      have c6b1 : (((rd_T151 l0 x5_1).f1) != (wrap64 (x1_1 + 1))) = false := bne_eq_false_iff_eq.mpr c6
      clear c6
      have H' := aM H
      clear H
      have p197 : 0 ≤ (x5_1 : Int) := dA
      have q197 : x5_1 < (l0.length : Int) := dA
      obtain ⟨ad197, e197, hx197_0, hx197_1⟩ := at_T151 HR0.out x5_1 p197 q197
      cases e197
      replace p197 := eq_true p197
      replace q197 := eq_true q197
      have p198 : 0 ≤ (x5_1 : Int) := dA
      have q198 : x5_1 < (l0.length : Int) := dA
      obtain ⟨ad198, e198, hx198_0, hx198_1⟩ := at_T151 HR0.out x5_1 p198 q198
      obtain rfl : ad197 = ad198 := (by injection e198)
      replace p198 := eq_true p198
      replace q198 := eq_true q198
      go_wp2
      go_roundg k1
      case measure => have := HK1.out; omega
      case rel => exact ⟨(wrap64 ((wrap64 (x1_1 + 1)) + 1)), (wrap64 (x5_1 + 1)), fS, fS, H', ⟨by have := HK1.out; omega⟩, dS⟩
     ·rw [if_neg c6] at H
      have c6b0 : (((rd_T151 l0 x5_1).f1) == (wrap64 (x1_1 + 1))) = false := beq_eq_false_iff_ne.mpr c6
      have c6b1 : (((rd_T151 l0 x5_1).f1) != (wrap64 (x1_1 + 1))) = true := bne_iff_ne.mpr c6
      obtain rfl := Option.some.inj H
      have p197 : 0 ≤ (x5_1 : Int) := dA
      have q197 : x5_1 < (l0.length : Int) := dA
      obtain ⟨ad197, e197, hx197_0, hx197_1⟩ := at_T151 HR0.out x5_1 p197 q197
      cases e197
      replace p197 := eq_true p197
      replace q197 := eq_true q197
      have p198 : 0 ≤ (x5_1 : Int) := dA
      have q198 : x5_1 < (l0.length : Int) := dA
      obtain ⟨ad198, e198, hx198_0, hx198_1⟩ := at_T151 HR0.out x5_1 p198 q198
      obtain rfl : ad197 = ad198 := (by injection e198)
      replace p198 := eq_true p198
      replace q198 := eq_true q198
      go_wp2
      go_ret
      exact ⟨fS, dS⟩
    ·rw [if_neg c5] at H
     have c5b0 : (((rd_T151 l0 x5_1).f0) == x1_1) = false := beq_eq_false_iff_ne.mpr c5
     have c5b1 : (((rd_T151 l0 x5_1).f0) != x1_1) = true := bne_iff_ne.mpr c5
     obtain rfl := Option.some.inj H
     have p197 : 0 ≤ (x5_1 : Int) := dA
     have q197 : x5_1 < (l0.length : Int) := dA
     obtain ⟨ad197, e197, hx197_0, hx197_1⟩ := at_T151 HR0.out x5_1 p197 q197
     cases e197
     replace p197 := eq_true p197
     replace q197 := eq_true q197
     go_wp2
     go_ret
     exact ⟨fS, dS⟩
   ·obtain rfl := Option.some.inj H
    go_wp2
    go_ret
    exact ⟨fS, dS⟩

/-! ### laws_heldObjectS: function 56 -/
def laws_heldObjectS.l0 : Nat → List (S49) → Int → Int → Option (Int)
 | 0, _, _, _ => none
 | k + 1, x0, x1, x5 => if x5 < (x0.length : Int) then (if 0 ≤ x5 then ((laws_heldPointS.f k ((rd_T49 x0 x5).f0) x1).bind fun t200 => (if t200 < 0 then (some (-1)) else (if ((rd_T49 x0 x5).f1) = t200 then (if ((rd_T49 x0 x5).f2.f0) = (wrap64 (t200 + 1)) then (if ((rd_T49 x0 x5).f2.f1) = (wrap64 ((wrap64 (t200 + 1)) + 1)) then (if ((rd_T49 x0 x5).f2.f2) = (wrap64 ((wrap64 ((wrap64 (t200 + 1)) + 1)) + 1)) then (if ((rd_T49 x0 x5).f2.f3) = (wrap64 ((wrap64 ((wrap64 ((wrap64 (t200 + 1)) + 1)) + 1)) + 1)) then (laws_heldObjectS.l0 k x0 (wrap64 ((wrap64 ((wrap64 ((wrap64 ((wrap64 (t200 + 1)) + 1)) + 1)) + 1)) + 1)) (wrap64 (x5 + 1))) else (some (-1))) else (some (-1))) else (some (-1))) else (some (-1))) else (some (-1))))) else (none)) else (some x1)
def laws_heldObjectS.f (k : Nat) (l0 : List (S49)) (a1 : Int) : Option (Int) := laws_heldObjectS.l0 k l0 a1 0
theorem laws_heldObjectS.calls (k : Nat) (A0 : Option Addr) (c0 : Nat) (l0 : List (S49)) (a1 : Int) (r : Int) (w : World) (hr0 : Kd.C k49 w A0 l0.length l0) (hc0 : l0.length ≤ c0) (h : laws_heldObjectS.f k l0 a1 = some r) :
  Calls Tryz.prog 56 #[.slice A0 l0.length c0, .int .i64 a1] w fun e w' => e = .returned (.int .i64 r) ∧ Drawn0 w w' := by
 have HR0 := aM hr0
 have HC0 := aM hc0
 clear hr0 hc0
 have H := h
 clear h
 unfold laws_heldObjectS.f at H
 have H' := aM H
 clear H
 go_enter Tryz.func56, Tryz.ntmps56
 go_wp2
 go_loopg [1, 5] k (fun kq v1 v5 w' => ∃ (x1_1 : Int) (x5_1 : Int), v1 = .int .i64 x1_1 ∧ v5 = .int .i64 x5_1 ∧ Aside0 (laws_heldObjectS.l0 kq l0 x1_1 x5_1 = some r) ∧ Aside0 (kq ≤ k) ∧ Drawn0 w w')
 case atStart => exact ⟨(a1), (0), fS, fS, H', ⟨Nat.le_refl _⟩, dS⟩
 case round =>
  clear H'
  try clear p2
  obtain ⟨x1_1, x5_1, rfl, rfl, HA, HK1, ⟨m1, rfl⟩⟩ := hrel
  cases gk with
  | zero => exact absurd HA.out (by simp [laws_heldObjectS.l0])
  | succ k1 =>
   have H := HA.out
   clear HA
   simp only [laws_heldObjectS.l0] at H
   rcases iD H with ⟨c3b0, H⟩ | ⟨c3b0, H⟩
   ·obtain ⟨c4b0, H⟩ := iT H
    replace H := bN H
    obtain ⟨t200, A5, H⟩ := H
    rcases iD H with ⟨c6b0, H⟩ | ⟨c6b0, H⟩
    ·obtain rfl := Option.some.inj H
     have p199 : 0 ≤ (x5_1 : Int) := dA
     have q199 : x5_1 < (l0.length : Int) := dA
     obtain ⟨ad199, A199_0, c199_0, e199, hx199_0, hx199_1, hx199_2, hx199_3, hx199_4, hx199_5, hl199_0, hi199_0⟩ := at_T49 HR0.out x5_1 p199 q199
     cases e199
     have HR199_0 := aM hi199_0
     have HC199_0 := aM hl199_0
     clear hi199_0 hl199_0
     replace p199 := eq_true p199
     replace q199 := eq_true q199
     go_wp2_with (first | ((with_reducible refine gC 119 ?_); refine cL (some 18) Tryz.func119 #[.slice A199_0 ((rd_T49 l0 x5_1).f0).length c199_0, .int .i64 x1_1] ?_; (with_reducible refine (laws_heldPointS.calls k1 _ _ ((rd_T49 l0 x5_1).f0) x1_1 t200 _ ?side1 ?side2 A5.out).mono ?_); (case side1 => exact cS HR199_0.out); (case side2 => exact HC199_0.out); rintro e w' ⟨rfl, ⟨nd, rfl⟩⟩; refine ⟨_, rfl, ?_⟩))
     go_ret
     exact ⟨fS, dS⟩
    ·by_cases c7 : ((rd_T49 l0 x5_1).f1) = t200
     ·rw [if_pos c7] at H
      have c7b0 : (((rd_T49 l0 x5_1).f1) == t200) = true := beq_iff_eq.mpr c7
      have c7b1 : (((rd_T49 l0 x5_1).f1) != t200) = false := bne_eq_false_iff_eq.mpr c7
      clear c7
      by_cases c8 : ((rd_T49 l0 x5_1).f2.f0) = (wrap64 (t200 + 1))
      ·rw [if_pos c8] at H
       have c8b0 : (((rd_T49 l0 x5_1).f2.f0) == (wrap64 (t200 + 1))) = true := beq_iff_eq.mpr c8
       have c8b1 : (((rd_T49 l0 x5_1).f2.f0) != (wrap64 (t200 + 1))) = false := bne_eq_false_iff_eq.mpr c8
       clear c8
       by_cases c9 : ((rd_T49 l0 x5_1).f2.f1) = (wrap64 ((wrap64 (t200 + 1)) + 1))
       ·rw [if_pos c9] at H
        have c9b0 : (((rd_T49 l0 x5_1).f2.f1) == (wrap64 ((wrap64 (t200 + 1)) + 1))) = true := beq_iff_eq.mpr c9
        have c9b1 : (((rd_T49 l0 x5_1).f2.f1) != (wrap64 ((wrap64 (t200 + 1)) + 1))) = false := bne_eq_false_iff_eq.mpr c9
        clear c9
        by_cases c10 : ((rd_T49 l0 x5_1).f2.f2) = (wrap64 ((wrap64 ((wrap64 (t200 + 1)) + 1)) + 1))
        ·rw [if_pos c10] at H
         have c10b0 : (((rd_T49 l0 x5_1).f2.f2) == (wrap64 ((wrap64 ((wrap64 (t200 + 1)) + 1)) + 1))) = true := beq_iff_eq.mpr c10
         have c10b1 : (((rd_T49 l0 x5_1).f2.f2) != (wrap64 ((wrap64 ((wrap64 (t200 + 1)) + 1)) + 1))) = false := bne_eq_false_iff_eq.mpr c10
         clear c10
         by_cases c11 : ((rd_T49 l0 x5_1).f2.f3) = (wrap64 ((wrap64 ((wrap64 ((wrap64 (t200 + 1)) + 1)) + 1)) + 1))
         ·rw [if_pos c11] at H
          have c11b0 : (((rd_T49 l0 x5_1).f2.f3) == (wrap64 ((wrap64 ((wrap64 ((wrap64 (t200 + 1)) + 1)) + 1)) + 1))) = true := beq_iff_eq.mpr c11
          have c11b1 : (((rd_T49 l0 x5_1).f2.f3) != (wrap64 ((wrap64 ((wrap64 ((wrap64 (t200 + 1)) + 1)) + 1)) + 1))) = false := bne_eq_false_iff_eq.mpr c11
          clear c11
          have H' := aM H
          clear H
          have p199 : 0 ≤ (x5_1 : Int) := dA
          have q199 : x5_1 < (l0.length : Int) := dA
          obtain ⟨ad199, A199_0, c199_0, e199, hx199_0, hx199_1, hx199_2, hx199_3, hx199_4, hx199_5, hl199_0, hi199_0⟩ := at_T49 HR0.out x5_1 p199 q199
          cases e199
          have HR199_0 := aM hi199_0
          have HC199_0 := aM hl199_0
          clear hi199_0 hl199_0
          replace p199 := eq_true p199
          replace q199 := eq_true q199
          go_wp2_with (first | ((with_reducible refine gC 119 ?_); refine cL (some 18) Tryz.func119 #[.slice A199_0 ((rd_T49 l0 x5_1).f0).length c199_0, .int .i64 x1_1] ?_; (with_reducible refine (laws_heldPointS.calls k1 _ _ ((rd_T49 l0 x5_1).f0) x1_1 t200 _ ?side1 ?side2 A5.out).mono ?_); (case side1 => exact cS HR199_0.out); (case side2 => exact HC199_0.out); rintro e w' ⟨rfl, ⟨nd, rfl⟩⟩; refine ⟨_, rfl, ?_⟩; have p201 : 0 ≤ (x5_1 : Int) := dA; have q201 : x5_1 < (l0.length : Int) := dA; obtain ⟨ad201, A201_0, c201_0, e201, hx201_0, hx201_1, hx201_2, hx201_3, hx201_4, hx201_5, hl201_0, hi201_0⟩ := at_T49 HR0.out x5_1 p201 q201; obtain rfl : ad199 = ad201 := (by injection e201); have HR201_0 := aM hi201_0; have HC201_0 := aM hl201_0; clear hi201_0 hl201_0; replace p201 := eq_true p201; replace q201 := eq_true q201; have ea_ := Option.some.inj (hx199_0.symm.trans hx201_0); injection ea_ with ea_ en_ ec_; subst ea_; subst ec_; clear en_; have p202 : 0 ≤ (x5_1 : Int) := dA; have q202 : x5_1 < (l0.length : Int) := dA; obtain ⟨ad202, A202_0, c202_0, e202, hx202_0, hx202_1, hx202_2, hx202_3, hx202_4, hx202_5, hl202_0, hi202_0⟩ := at_T49 HR0.out x5_1 p202 q202; obtain rfl : ad199 = ad202 := (by injection e202); have HR202_0 := aM hi202_0; have HC202_0 := aM hl202_0; clear hi202_0 hl202_0; replace p202 := eq_true p202; replace q202 := eq_true q202; have ea_ := Option.some.inj (hx199_0.symm.trans hx202_0); injection ea_ with ea_ en_ ec_; subst ea_; subst ec_; clear en_; have p203 : 0 ≤ (x5_1 : Int) := dA; have q203 : x5_1 < (l0.length : Int) := dA; obtain ⟨ad203, A203_0, c203_0, e203, hx203_0, hx203_1, hx203_2, hx203_3, hx203_4, hx203_5, hl203_0, hi203_0⟩ := at_T49 HR0.out x5_1 p203 q203; obtain rfl : ad199 = ad203 := (by injection e203); have HR203_0 := aM hi203_0; have HC203_0 := aM hl203_0; clear hi203_0 hl203_0; replace p203 := eq_true p203; replace q203 := eq_true q203; have ea_ := Option.some.inj (hx199_0.symm.trans hx203_0); injection ea_ with ea_ en_ ec_; subst ea_; subst ec_; clear en_; have p204 : 0 ≤ (x5_1 : Int) := dA; have q204 : x5_1 < (l0.length : Int) := dA; obtain ⟨ad204, A204_0, c204_0, e204, hx204_0, hx204_1, hx204_2, hx204_3, hx204_4, hx204_5, hl204_0, hi204_0⟩ := at_T49 HR0.out x5_1 p204 q204; obtain rfl : ad199 = ad204 := (by injection e204); have HR204_0 := aM hi204_0; have HC204_0 := aM hl204_0; clear hi204_0 hl204_0; replace p204 := eq_true p204; replace q204 := eq_true q204; have ea_ := Option.some.inj (hx199_0.symm.trans hx204_0); injection ea_ with ea_ en_ ec_; subst ea_; subst ec_; clear en_; have p205 : 0 ≤ (x5_1 : Int) := dA; have q205 : x5_1 < (l0.length : Int) := dA; obtain ⟨ad205, A205_0, c205_0, e205, hx205_0, hx205_1, hx205_2, hx205_3, hx205_4, hx205_5, hl205_0, hi205_0⟩ := at_T49 HR0.out x5_1 p205 q205; obtain rfl : ad199 = ad205 := (by injection e205); have HR205_0 := aM hi205_0; have HC205_0 := aM hl205_0; clear hi205_0 hl205_0; replace p205 := eq_true p205; replace q205 := eq_true q205; have ea_ := Option.some.inj (hx199_0.symm.trans hx205_0); injection ea_ with ea_ en_ ec_; subst ea_; subst ec_; clear en_))
          go_roundg k1
          case measure => have := HK1.out; omega
          case rel => exact ⟨(wrap64 ((wrap64 ((wrap64 ((wrap64 ((wrap64 (t200 + 1)) + 1)) + 1)) + 1)) + 1)), (wrap64 (x5_1 + 1)), fS, fS, H', ⟨by have := HK1.out; omega⟩, dS⟩
         ·rw [if_neg c11] at H
          have c11b0 : (((rd_T49 l0 x5_1).f2.f3) == (wrap64 ((wrap64 ((wrap64 ((wrap64 (t200 + 1)) + 1)) + 1)) + 1))) = false := beq_eq_false_iff_ne.mpr c11
          have c11b1 : (((rd_T49 l0 x5_1).f2.f3) != (wrap64 ((wrap64 ((wrap64 ((wrap64 (t200 + 1)) + 1)) + 1)) + 1))) = true := bne_iff_ne.mpr c11
          obtain rfl := Option.some.inj H
          have p199 : 0 ≤ (x5_1 : Int) := dA
          have q199 : x5_1 < (l0.length : Int) := dA
          obtain ⟨ad199, A199_0, c199_0, e199, hx199_0, hx199_1, hx199_2, hx199_3, hx199_4, hx199_5, hl199_0, hi199_0⟩ := at_T49 HR0.out x5_1 p199 q199
          cases e199
          have HR199_0 := aM hi199_0
          have HC199_0 := aM hl199_0
          clear hi199_0 hl199_0
          replace p199 := eq_true p199
          replace q199 := eq_true q199
          go_wp2_with (first | ((with_reducible refine gC 119 ?_); refine cL (some 18) Tryz.func119 #[.slice A199_0 ((rd_T49 l0 x5_1).f0).length c199_0, .int .i64 x1_1] ?_; (with_reducible refine (laws_heldPointS.calls k1 _ _ ((rd_T49 l0 x5_1).f0) x1_1 t200 _ ?side1 ?side2 A5.out).mono ?_); (case side1 => exact cS HR199_0.out); (case side2 => exact HC199_0.out); rintro e w' ⟨rfl, ⟨nd, rfl⟩⟩; refine ⟨_, rfl, ?_⟩; have p201 : 0 ≤ (x5_1 : Int) := dA; have q201 : x5_1 < (l0.length : Int) := dA; obtain ⟨ad201, A201_0, c201_0, e201, hx201_0, hx201_1, hx201_2, hx201_3, hx201_4, hx201_5, hl201_0, hi201_0⟩ := at_T49 HR0.out x5_1 p201 q201; obtain rfl : ad199 = ad201 := (by injection e201); have HR201_0 := aM hi201_0; have HC201_0 := aM hl201_0; clear hi201_0 hl201_0; replace p201 := eq_true p201; replace q201 := eq_true q201; have ea_ := Option.some.inj (hx199_0.symm.trans hx201_0); injection ea_ with ea_ en_ ec_; subst ea_; subst ec_; clear en_; have p202 : 0 ≤ (x5_1 : Int) := dA; have q202 : x5_1 < (l0.length : Int) := dA; obtain ⟨ad202, A202_0, c202_0, e202, hx202_0, hx202_1, hx202_2, hx202_3, hx202_4, hx202_5, hl202_0, hi202_0⟩ := at_T49 HR0.out x5_1 p202 q202; obtain rfl : ad199 = ad202 := (by injection e202); have HR202_0 := aM hi202_0; have HC202_0 := aM hl202_0; clear hi202_0 hl202_0; replace p202 := eq_true p202; replace q202 := eq_true q202; have ea_ := Option.some.inj (hx199_0.symm.trans hx202_0); injection ea_ with ea_ en_ ec_; subst ea_; subst ec_; clear en_; have p203 : 0 ≤ (x5_1 : Int) := dA; have q203 : x5_1 < (l0.length : Int) := dA; obtain ⟨ad203, A203_0, c203_0, e203, hx203_0, hx203_1, hx203_2, hx203_3, hx203_4, hx203_5, hl203_0, hi203_0⟩ := at_T49 HR0.out x5_1 p203 q203; obtain rfl : ad199 = ad203 := (by injection e203); have HR203_0 := aM hi203_0; have HC203_0 := aM hl203_0; clear hi203_0 hl203_0; replace p203 := eq_true p203; replace q203 := eq_true q203; have ea_ := Option.some.inj (hx199_0.symm.trans hx203_0); injection ea_ with ea_ en_ ec_; subst ea_; subst ec_; clear en_; have p204 : 0 ≤ (x5_1 : Int) := dA; have q204 : x5_1 < (l0.length : Int) := dA; obtain ⟨ad204, A204_0, c204_0, e204, hx204_0, hx204_1, hx204_2, hx204_3, hx204_4, hx204_5, hl204_0, hi204_0⟩ := at_T49 HR0.out x5_1 p204 q204; obtain rfl : ad199 = ad204 := (by injection e204); have HR204_0 := aM hi204_0; have HC204_0 := aM hl204_0; clear hi204_0 hl204_0; replace p204 := eq_true p204; replace q204 := eq_true q204; have ea_ := Option.some.inj (hx199_0.symm.trans hx204_0); injection ea_ with ea_ en_ ec_; subst ea_; subst ec_; clear en_; have p205 : 0 ≤ (x5_1 : Int) := dA; have q205 : x5_1 < (l0.length : Int) := dA; obtain ⟨ad205, A205_0, c205_0, e205, hx205_0, hx205_1, hx205_2, hx205_3, hx205_4, hx205_5, hl205_0, hi205_0⟩ := at_T49 HR0.out x5_1 p205 q205; obtain rfl : ad199 = ad205 := (by injection e205); have HR205_0 := aM hi205_0; have HC205_0 := aM hl205_0; clear hi205_0 hl205_0; replace p205 := eq_true p205; replace q205 := eq_true q205; have ea_ := Option.some.inj (hx199_0.symm.trans hx205_0); injection ea_ with ea_ en_ ec_; subst ea_; subst ec_; clear en_))
          go_ret
          exact ⟨fS, dS⟩
        ·rw [if_neg c10] at H
         have c10b0 : (((rd_T49 l0 x5_1).f2.f2) == (wrap64 ((wrap64 ((wrap64 (t200 + 1)) + 1)) + 1))) = false := beq_eq_false_iff_ne.mpr c10
         have c10b1 : (((rd_T49 l0 x5_1).f2.f2) != (wrap64 ((wrap64 ((wrap64 (t200 + 1)) + 1)) + 1))) = true := bne_iff_ne.mpr c10
         obtain rfl := Option.some.inj H
         have p199 : 0 ≤ (x5_1 : Int) := dA
         have q199 : x5_1 < (l0.length : Int) := dA
         obtain ⟨ad199, A199_0, c199_0, e199, hx199_0, hx199_1, hx199_2, hx199_3, hx199_4, hx199_5, hl199_0, hi199_0⟩ := at_T49 HR0.out x5_1 p199 q199
         cases e199
         have HR199_0 := aM hi199_0
         have HC199_0 := aM hl199_0
         clear hi199_0 hl199_0
         replace p199 := eq_true p199
         replace q199 := eq_true q199
         go_wp2_with (first | ((with_reducible refine gC 119 ?_); refine cL (some 18) Tryz.func119 #[.slice A199_0 ((rd_T49 l0 x5_1).f0).length c199_0, .int .i64 x1_1] ?_; (with_reducible refine (laws_heldPointS.calls k1 _ _ ((rd_T49 l0 x5_1).f0) x1_1 t200 _ ?side1 ?side2 A5.out).mono ?_); (case side1 => exact cS HR199_0.out); (case side2 => exact HC199_0.out); rintro e w' ⟨rfl, ⟨nd, rfl⟩⟩; refine ⟨_, rfl, ?_⟩; have p201 : 0 ≤ (x5_1 : Int) := dA; have q201 : x5_1 < (l0.length : Int) := dA; obtain ⟨ad201, A201_0, c201_0, e201, hx201_0, hx201_1, hx201_2, hx201_3, hx201_4, hx201_5, hl201_0, hi201_0⟩ := at_T49 HR0.out x5_1 p201 q201; obtain rfl : ad199 = ad201 := (by injection e201); have HR201_0 := aM hi201_0; have HC201_0 := aM hl201_0; clear hi201_0 hl201_0; replace p201 := eq_true p201; replace q201 := eq_true q201; have ea_ := Option.some.inj (hx199_0.symm.trans hx201_0); injection ea_ with ea_ en_ ec_; subst ea_; subst ec_; clear en_; have p202 : 0 ≤ (x5_1 : Int) := dA; have q202 : x5_1 < (l0.length : Int) := dA; obtain ⟨ad202, A202_0, c202_0, e202, hx202_0, hx202_1, hx202_2, hx202_3, hx202_4, hx202_5, hl202_0, hi202_0⟩ := at_T49 HR0.out x5_1 p202 q202; obtain rfl : ad199 = ad202 := (by injection e202); have HR202_0 := aM hi202_0; have HC202_0 := aM hl202_0; clear hi202_0 hl202_0; replace p202 := eq_true p202; replace q202 := eq_true q202; have ea_ := Option.some.inj (hx199_0.symm.trans hx202_0); injection ea_ with ea_ en_ ec_; subst ea_; subst ec_; clear en_; have p203 : 0 ≤ (x5_1 : Int) := dA; have q203 : x5_1 < (l0.length : Int) := dA; obtain ⟨ad203, A203_0, c203_0, e203, hx203_0, hx203_1, hx203_2, hx203_3, hx203_4, hx203_5, hl203_0, hi203_0⟩ := at_T49 HR0.out x5_1 p203 q203; obtain rfl : ad199 = ad203 := (by injection e203); have HR203_0 := aM hi203_0; have HC203_0 := aM hl203_0; clear hi203_0 hl203_0; replace p203 := eq_true p203; replace q203 := eq_true q203; have ea_ := Option.some.inj (hx199_0.symm.trans hx203_0); injection ea_ with ea_ en_ ec_; subst ea_; subst ec_; clear en_; have p204 : 0 ≤ (x5_1 : Int) := dA; have q204 : x5_1 < (l0.length : Int) := dA; obtain ⟨ad204, A204_0, c204_0, e204, hx204_0, hx204_1, hx204_2, hx204_3, hx204_4, hx204_5, hl204_0, hi204_0⟩ := at_T49 HR0.out x5_1 p204 q204; obtain rfl : ad199 = ad204 := (by injection e204); have HR204_0 := aM hi204_0; have HC204_0 := aM hl204_0; clear hi204_0 hl204_0; replace p204 := eq_true p204; replace q204 := eq_true q204; have ea_ := Option.some.inj (hx199_0.symm.trans hx204_0); injection ea_ with ea_ en_ ec_; subst ea_; subst ec_; clear en_))
         go_ret
         exact ⟨fS, dS⟩
       ·rw [if_neg c9] at H
        have c9b0 : (((rd_T49 l0 x5_1).f2.f1) == (wrap64 ((wrap64 (t200 + 1)) + 1))) = false := beq_eq_false_iff_ne.mpr c9
        have c9b1 : (((rd_T49 l0 x5_1).f2.f1) != (wrap64 ((wrap64 (t200 + 1)) + 1))) = true := bne_iff_ne.mpr c9
        obtain rfl := Option.some.inj H
        have p199 : 0 ≤ (x5_1 : Int) := dA
        have q199 : x5_1 < (l0.length : Int) := dA
        obtain ⟨ad199, A199_0, c199_0, e199, hx199_0, hx199_1, hx199_2, hx199_3, hx199_4, hx199_5, hl199_0, hi199_0⟩ := at_T49 HR0.out x5_1 p199 q199
        cases e199
        have HR199_0 := aM hi199_0
        have HC199_0 := aM hl199_0
        clear hi199_0 hl199_0
        replace p199 := eq_true p199
        replace q199 := eq_true q199
        go_wp2_with (first | ((with_reducible refine gC 119 ?_); refine cL (some 18) Tryz.func119 #[.slice A199_0 ((rd_T49 l0 x5_1).f0).length c199_0, .int .i64 x1_1] ?_; (with_reducible refine (laws_heldPointS.calls k1 _ _ ((rd_T49 l0 x5_1).f0) x1_1 t200 _ ?side1 ?side2 A5.out).mono ?_); (case side1 => exact cS HR199_0.out); (case side2 => exact HC199_0.out); rintro e w' ⟨rfl, ⟨nd, rfl⟩⟩; refine ⟨_, rfl, ?_⟩; have p201 : 0 ≤ (x5_1 : Int) := dA; have q201 : x5_1 < (l0.length : Int) := dA; obtain ⟨ad201, A201_0, c201_0, e201, hx201_0, hx201_1, hx201_2, hx201_3, hx201_4, hx201_5, hl201_0, hi201_0⟩ := at_T49 HR0.out x5_1 p201 q201; obtain rfl : ad199 = ad201 := (by injection e201); have HR201_0 := aM hi201_0; have HC201_0 := aM hl201_0; clear hi201_0 hl201_0; replace p201 := eq_true p201; replace q201 := eq_true q201; have ea_ := Option.some.inj (hx199_0.symm.trans hx201_0); injection ea_ with ea_ en_ ec_; subst ea_; subst ec_; clear en_; have p202 : 0 ≤ (x5_1 : Int) := dA; have q202 : x5_1 < (l0.length : Int) := dA; obtain ⟨ad202, A202_0, c202_0, e202, hx202_0, hx202_1, hx202_2, hx202_3, hx202_4, hx202_5, hl202_0, hi202_0⟩ := at_T49 HR0.out x5_1 p202 q202; obtain rfl : ad199 = ad202 := (by injection e202); have HR202_0 := aM hi202_0; have HC202_0 := aM hl202_0; clear hi202_0 hl202_0; replace p202 := eq_true p202; replace q202 := eq_true q202; have ea_ := Option.some.inj (hx199_0.symm.trans hx202_0); injection ea_ with ea_ en_ ec_; subst ea_; subst ec_; clear en_; have p203 : 0 ≤ (x5_1 : Int) := dA; have q203 : x5_1 < (l0.length : Int) := dA; obtain ⟨ad203, A203_0, c203_0, e203, hx203_0, hx203_1, hx203_2, hx203_3, hx203_4, hx203_5, hl203_0, hi203_0⟩ := at_T49 HR0.out x5_1 p203 q203; obtain rfl : ad199 = ad203 := (by injection e203); have HR203_0 := aM hi203_0; have HC203_0 := aM hl203_0; clear hi203_0 hl203_0; replace p203 := eq_true p203; replace q203 := eq_true q203; have ea_ := Option.some.inj (hx199_0.symm.trans hx203_0); injection ea_ with ea_ en_ ec_; subst ea_; subst ec_; clear en_))
        go_ret
        exact ⟨fS, dS⟩
      ·rw [if_neg c8] at H
       have c8b0 : (((rd_T49 l0 x5_1).f2.f0) == (wrap64 (t200 + 1))) = false := beq_eq_false_iff_ne.mpr c8
       have c8b1 : (((rd_T49 l0 x5_1).f2.f0) != (wrap64 (t200 + 1))) = true := bne_iff_ne.mpr c8
       obtain rfl := Option.some.inj H
       have p199 : 0 ≤ (x5_1 : Int) := dA
       have q199 : x5_1 < (l0.length : Int) := dA
       obtain ⟨ad199, A199_0, c199_0, e199, hx199_0, hx199_1, hx199_2, hx199_3, hx199_4, hx199_5, hl199_0, hi199_0⟩ := at_T49 HR0.out x5_1 p199 q199
       cases e199
       have HR199_0 := aM hi199_0
       have HC199_0 := aM hl199_0
       clear hi199_0 hl199_0
       replace p199 := eq_true p199
       replace q199 := eq_true q199
       go_wp2_with (first | ((with_reducible refine gC 119 ?_); refine cL (some 18) Tryz.func119 #[.slice A199_0 ((rd_T49 l0 x5_1).f0).length c199_0, .int .i64 x1_1] ?_; (with_reducible refine (laws_heldPointS.calls k1 _ _ ((rd_T49 l0 x5_1).f0) x1_1 t200 _ ?side1 ?side2 A5.out).mono ?_); (case side1 => exact cS HR199_0.out); (case side2 => exact HC199_0.out); rintro e w' ⟨rfl, ⟨nd, rfl⟩⟩; refine ⟨_, rfl, ?_⟩; have p201 : 0 ≤ (x5_1 : Int) := dA; have q201 : x5_1 < (l0.length : Int) := dA; obtain ⟨ad201, A201_0, c201_0, e201, hx201_0, hx201_1, hx201_2, hx201_3, hx201_4, hx201_5, hl201_0, hi201_0⟩ := at_T49 HR0.out x5_1 p201 q201; obtain rfl : ad199 = ad201 := (by injection e201); have HR201_0 := aM hi201_0; have HC201_0 := aM hl201_0; clear hi201_0 hl201_0; replace p201 := eq_true p201; replace q201 := eq_true q201; have ea_ := Option.some.inj (hx199_0.symm.trans hx201_0); injection ea_ with ea_ en_ ec_; subst ea_; subst ec_; clear en_; have p202 : 0 ≤ (x5_1 : Int) := dA; have q202 : x5_1 < (l0.length : Int) := dA; obtain ⟨ad202, A202_0, c202_0, e202, hx202_0, hx202_1, hx202_2, hx202_3, hx202_4, hx202_5, hl202_0, hi202_0⟩ := at_T49 HR0.out x5_1 p202 q202; obtain rfl : ad199 = ad202 := (by injection e202); have HR202_0 := aM hi202_0; have HC202_0 := aM hl202_0; clear hi202_0 hl202_0; replace p202 := eq_true p202; replace q202 := eq_true q202; have ea_ := Option.some.inj (hx199_0.symm.trans hx202_0); injection ea_ with ea_ en_ ec_; subst ea_; subst ec_; clear en_))
       go_ret
       exact ⟨fS, dS⟩
     ·rw [if_neg c7] at H
      have c7b0 : (((rd_T49 l0 x5_1).f1) == t200) = false := beq_eq_false_iff_ne.mpr c7
      have c7b1 : (((rd_T49 l0 x5_1).f1) != t200) = true := bne_iff_ne.mpr c7
      obtain rfl := Option.some.inj H
      have p199 : 0 ≤ (x5_1 : Int) := dA
      have q199 : x5_1 < (l0.length : Int) := dA
      obtain ⟨ad199, A199_0, c199_0, e199, hx199_0, hx199_1, hx199_2, hx199_3, hx199_4, hx199_5, hl199_0, hi199_0⟩ := at_T49 HR0.out x5_1 p199 q199
      cases e199
      have HR199_0 := aM hi199_0
      have HC199_0 := aM hl199_0
      clear hi199_0 hl199_0
      replace p199 := eq_true p199
      replace q199 := eq_true q199
      go_wp2_with (first | ((with_reducible refine gC 119 ?_); refine cL (some 18) Tryz.func119 #[.slice A199_0 ((rd_T49 l0 x5_1).f0).length c199_0, .int .i64 x1_1] ?_; (with_reducible refine (laws_heldPointS.calls k1 _ _ ((rd_T49 l0 x5_1).f0) x1_1 t200 _ ?side1 ?side2 A5.out).mono ?_); (case side1 => exact cS HR199_0.out); (case side2 => exact HC199_0.out); rintro e w' ⟨rfl, ⟨nd, rfl⟩⟩; refine ⟨_, rfl, ?_⟩; have p201 : 0 ≤ (x5_1 : Int) := dA; have q201 : x5_1 < (l0.length : Int) := dA; obtain ⟨ad201, A201_0, c201_0, e201, hx201_0, hx201_1, hx201_2, hx201_3, hx201_4, hx201_5, hl201_0, hi201_0⟩ := at_T49 HR0.out x5_1 p201 q201; obtain rfl : ad199 = ad201 := (by injection e201); have HR201_0 := aM hi201_0; have HC201_0 := aM hl201_0; clear hi201_0 hl201_0; replace p201 := eq_true p201; replace q201 := eq_true q201; have ea_ := Option.some.inj (hx199_0.symm.trans hx201_0); injection ea_ with ea_ en_ ec_; subst ea_; subst ec_; clear en_))
      go_ret
      exact ⟨fS, dS⟩
   ·obtain rfl := Option.some.inj H
    go_wp2
    go_ret
    exact ⟨fS, dS⟩

end Go.Proofs.YtncfipboidmfbaaGreat.QFnExactAddToBand
