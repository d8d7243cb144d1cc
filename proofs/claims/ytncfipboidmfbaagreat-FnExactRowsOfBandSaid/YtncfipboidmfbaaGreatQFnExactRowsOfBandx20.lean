-- Made out of the translation by a program of this session (a changed copy of the print). Not trusted: Lean checks it.
import Derived.Test.YtncfipboidmfbaaGreatQFnExactRowsOfBandx0
import Derived.Test.YtncfipboidmfbaaGreatQFnExactRowsOfBandx1
import Derived.Test.YtncfipboidmfbaaGreatQFnExactRowsOfBandx9
import Derived.Test.YtncfipboidmfbaaGreatQFnExactRowsOfBandx10
import Derived.Test.YtncfipboidmfbaaGreatQFnExactRowsOfBandx17
import Derived.Test.YtncfipboidmfbaaGreatQFnExactRowsOfBandx19
namespace Go.Proofs.YtncfipboidmfbaaGreat.QFnExactRowsOfBand
open Go.RowKit Go.Proofs.YtncfipboidmfbaaGreatW.PrintWords Go.Proofs.YtncfipboidmfbaaGreatW.PrintLast Go.Proofs.YtncfipboidmfbaaGreatW.PrintMore
attribute [local go_sem] max2_int min2_int max_two min_two max_three min_three max_four min_four   -- for this text's walks alone
set_option linter.unusedVariables false
set_option linter.unusedSimpArgs false
set_option maxHeartbeats 8000000
set_option maxRecDepth 100000

/-! ### laws_heldIntS: function 51 -/
def laws_heldIntS.l0 : Nat → List Int → Int → Int → Option (Int)
 | 0, _, _, _ => none
 | k + 1, x0, x1, x5 => if x5 < (x0.length : Int) then (if 0 ≤ x5 then (if (rd x0 x5) = x1 then (laws_heldIntS.l0 k x0 (wrap64 (x1 + 1)) (wrap64 (x5 + 1))) else (some (-1))) else (none)) else (some x1)
def laws_heldIntS.f (k : Nat) (l0 : List Int) (a1 : Int) : Option (Int) := laws_heldIntS.l0 k l0 a1 0
theorem laws_heldIntS.calls (k : Nat) (A0 : Option Addr) (c0 : Nat) (l0 : List Int) (a1 : Int) (r : Int) (w : World) (hr0 : Kd.C (Kd.int .i64) w A0 l0.length l0) (hc0 : l0.length ≤ c0) (h : laws_heldIntS.f k l0 a1 = some r) :
  Calls Tryz.prog 51 #[.slice A0 l0.length c0, .int .i64 a1] w fun e w' => e = .returned (.int .i64 r) ∧ Drawn0 w w' := by
 have HR0 := Aside0.mk hr0
 have HC0 := Aside0.mk hc0
 clear hr0 hc0
 have H : (laws_heldIntS.l0 k l0 a1 0) = some r := h
 clear h
 have H' := Aside0.mk H
 clear H
 go_enter Tryz.func51, Tryz.ntmps51
 go_wp2
 go_loopg [1, 5] k (fun kq v1 v5 w' => ∃ (x1_1 : Int) (x5_1 : Int), v1 = .int .i64 x1_1 ∧ v5 = .int .i64 x5_1 ∧ Aside0 (laws_heldIntS.l0 kq l0 x1_1 x5_1 = some r) ∧ Aside0 (kq ≤ k) ∧ Drawn0 w w')
 case atStart => exact ⟨(a1), (0), (by first | rfl | (simp; done) | (simp [*]; done)), (by first | rfl | (simp; done) | (simp [*]; done)), H', ⟨Nat.le_refl _⟩, by repeat (first | exact Drawn0.refl _ | apply Drawn0.step)⟩
 case round =>
  clear H'
  try clear p2
  obtain ⟨x1_1, x5_1, rfl, rfl, HA, HK1, ⟨m1, rfl⟩⟩ := hrel
  cases gk with
  | zero => exact absurd HA.out (by simp [laws_heldIntS.l0])
  | succ k1 =>
   have H := HA.out
   clear HA
   simp only [laws_heldIntS.l0] at H
   by_cases c3 : x5_1 < (l0.length : Int)
   ·rw [if_pos c3] at H
    have c3b0 : decide (x5_1 < (l0.length : Int)) = true := decide_eq_true c3
    clear c3
    by_cases c4 : 0 ≤ x5_1
    ·rw [if_pos c4] at H
     have c4b0 : decide (0 ≤ x5_1) = true := decide_eq_true c4
     clear c4
     by_cases c5 : (rd l0 x5_1) = x1_1
     ·rw [if_pos c5] at H
      have c5b0 : ((rd l0 x5_1) == x1_1) = true := beq_iff_eq.mpr c5
      have c5b1 : ((rd l0 x5_1) != x1_1) = false := bne_eq_false_iff_eq.mpr c5
      clear c5
      have H' := Aside0.mk H
      clear H
      have p624 : 0 ≤ (x5_1 : Int) := of_decide_eq_true (by first | (with_reducible assumption) | assumption)
      have q624 : x5_1 < (l0.length : Int) := of_decide_eq_true (by first | (with_reducible assumption) | assumption)
      obtain ⟨ad624, e624, hx624_0⟩ := Kd.at_int HR0.out x5_1 p624 q624
      cases e624
      replace p624 := eq_true p624
      replace q624 := eq_true q624
      go_wp2
      go_roundg k1
      case measure => have := HK1.out; omega
      case rel => exact ⟨(wrap64 (x1_1 + 1)), (wrap64 (x5_1 + 1)), (by first | rfl | (simp; done) | (simp [*]; done)), (by first | rfl | (simp; done) | (simp [*]; done)), H', ⟨by have := HK1.out; omega⟩, by repeat (first | exact Drawn0.refl _ | apply Drawn0.step)⟩
     ·rw [if_neg c5] at H
      have c5b0 : ((rd l0 x5_1) == x1_1) = false := beq_eq_false_iff_ne.mpr c5
      have c5b1 : ((rd l0 x5_1) != x1_1) = true := bne_iff_ne.mpr c5
      obtain rfl := Option.some.inj H
      simp only [Option.some.injEq, Prod.mk.injEq] at H
      obtain ⟨rfl⟩ := H
      have p624 : 0 ≤ (x5_1 : Int) := of_decide_eq_true (by first | (with_reducible assumption) | assumption)
      have q624 : x5_1 < (l0.length : Int) := of_decide_eq_true (by first | (with_reducible assumption) | assumption)
      obtain ⟨ad624, e624, hx624_0⟩ := Kd.at_int HR0.out x5_1 p624 q624
      cases e624
      replace p624 := eq_true p624
      replace q624 := eq_true q624
      go_wp2
      go_ret
      exact ⟨by first | rfl | (simp; done) | (simp [*]; done), by repeat (first | exact Drawn0.refl _ | apply Drawn0.step)⟩
    ·rw [if_neg c4] at H
     exact absurd H (by simp)
   ·rw [if_neg c3] at H
    have c3b0 : decide (x5_1 < (l0.length : Int)) = false := decide_eq_false c3
    clear c3
    obtain rfl := Option.some.inj H
    simp only [Option.some.injEq, Prod.mk.injEq] at H
    obtain ⟨rfl⟩ := H
    go_wp2
    go_ret
    exact ⟨by first | rfl | (simp; done) | (simp [*]; done), by repeat (first | exact Drawn0.refl _ | apply Drawn0.step)⟩

/-! ### laws_heldIntSS: function 16 -/
def laws_heldIntSS.l0 : Nat → List (List Int) → Int → Int → Option (Int)
 | 0, _, _, _ => none
 | k + 1, x0, x1, x5 => if x5 < (x0.length : Int) then (if 0 ≤ x5 then ((laws_heldIntS.f k (rd_L1 x0 x5) x1).bind fun t626 => (if t626 < 0 then (some (-1)) else (laws_heldIntSS.l0 k x0 t626 (wrap64 (x5 + 1))))) else (none)) else (some x1)
def laws_heldIntSS.f (k : Nat) (l0 : List (List Int)) (a1 : Int) : Option (Int) := laws_heldIntSS.l0 k l0 a1 0
theorem laws_heldIntSS.calls (k : Nat) (A0 : Option Addr) (c0 : Nat) (l0 : List (List Int)) (a1 : Int) (r : Int) (w : World) (hr0 : Kd.C (Kd.slice 3 (Kd.int .i64)) w A0 l0.length l0) (hc0 : l0.length ≤ c0) (h : laws_heldIntSS.f k l0 a1 = some r) :
  Calls Tryz.prog 16 #[.slice A0 l0.length c0, .int .i64 a1] w fun e w' => e = .returned (.int .i64 r) ∧ Drawn0 w w' := by
 have HR0 := Aside0.mk hr0
 have HC0 := Aside0.mk hc0
 clear hr0 hc0
 have H : (laws_heldIntSS.l0 k l0 a1 0) = some r := h
 clear h
 have H' := Aside0.mk H
 clear H
 go_enter Tryz.func16, Tryz.ntmps16
 go_wp2
 go_loopg [1, 5] k (fun kq v1 v5 w' => ∃ (x1_1 : Int) (x5_1 : Int), v1 = .int .i64 x1_1 ∧ v5 = .int .i64 x5_1 ∧ Aside0 (laws_heldIntSS.l0 kq l0 x1_1 x5_1 = some r) ∧ Aside0 (kq ≤ k) ∧ Drawn0 w w')
 case atStart => exact ⟨(a1), (0), (by first | rfl | (simp; done) | (simp [*]; done)), (by first | rfl | (simp; done) | (simp [*]; done)), H', ⟨Nat.le_refl _⟩, by repeat (first | exact Drawn0.refl _ | apply Drawn0.step)⟩
 case round =>
  clear H'
  try clear c1
  try clear p2
  obtain ⟨x1_1, x5_1, rfl, rfl, HA, HK1, ⟨m1, rfl⟩⟩ := hrel
  cases gk with
  | zero => exact absurd HA.out (by simp [laws_heldIntSS.l0])
  | succ k1 =>
   have H := HA.out
   clear HA
   simp only [laws_heldIntSS.l0] at H
   by_cases c3 : x5_1 < (l0.length : Int)
   ·rw [if_pos c3] at H
    have c3b0 : decide (x5_1 < (l0.length : Int)) = true := decide_eq_true c3
    clear c3
    by_cases c4 : 0 ≤ x5_1
    ·rw [if_pos c4] at H
     have c4b0 : decide (0 ≤ x5_1) = true := decide_eq_true c4
     clear c4
     replace H := bN H
     obtain ⟨t626, A5, H⟩ := H
     by_cases c6 : t626 < 0
     ·rw [if_pos c6] at H
      have c6b0 : decide (t626 < 0) = true := decide_eq_true c6
      clear c6
      obtain rfl := Option.some.inj H
      simp only [Option.some.injEq, Prod.mk.injEq] at H
      obtain ⟨rfl⟩ := H
      have p625 : 0 ≤ (x5_1 : Int) := of_decide_eq_true (by first | (with_reducible assumption) | assumption)
      have q625 : x5_1 < (l0.length : Int) := of_decide_eq_true (by first | (with_reducible assumption) | assumption)
      obtain ⟨ad625, A625_0, c625_0, e625, hx625_0, hl625_0, hi625_0⟩ := at_L1 HR0.out x5_1 p625 q625
      cases e625
      have HR625_0 := Aside0.mk hi625_0
      have HC625_0 := Aside0.mk hl625_0
      clear hi625_0 hl625_0
      replace p625 := eq_true p625
      replace q625 := eq_true q625
      go_wp2_with (first | ((with_reducible refine gC 51 ?_); refine cL (some 17) Tryz.func51 #[.slice A625_0 (rd_L1 l0 x5_1).length c625_0, .int .i64 x1_1] ?_; (with_reducible refine (laws_heldIntS.calls k1 _ _ (rd_L1 l0 x5_1) x1_1 t626 _ ?side1 ?side2 A5.out).mono ?_); (case side1 => repeat (first | exact HR625_0.out | (with_reducible refine Kd.C_alloc ?_ _) | (with_reducible refine Kd.C_drewN ?_ _) | (with_reducible refine Kd.C_drew ?_))); (case side2 => exact HC625_0.out); rintro e w' ⟨rfl, ⟨nd, rfl⟩⟩; refine ⟨_, rfl, ?_⟩))
      go_ret
      exact ⟨by first | rfl | (simp; done) | (simp [*]; done), by repeat (first | exact Drawn0.refl _ | apply Drawn0.step)⟩
     ·rw [if_neg c6] at H
      have c6b0 : decide (t626 < 0) = false := decide_eq_false c6
      clear c6
      have H' := Aside0.mk H
      clear H
      have p625 : 0 ≤ (x5_1 : Int) := of_decide_eq_true (by first | (with_reducible assumption) | assumption)
      have q625 : x5_1 < (l0.length : Int) := of_decide_eq_true (by first | (with_reducible assumption) | assumption)
      obtain ⟨ad625, A625_0, c625_0, e625, hx625_0, hl625_0, hi625_0⟩ := at_L1 HR0.out x5_1 p625 q625
      cases e625
      have HR625_0 := Aside0.mk hi625_0
      have HC625_0 := Aside0.mk hl625_0
      clear hi625_0 hl625_0
      replace p625 := eq_true p625
      replace q625 := eq_true q625
      go_wp2_with (first | ((with_reducible refine gC 51 ?_); refine cL (some 17) Tryz.func51 #[.slice A625_0 (rd_L1 l0 x5_1).length c625_0, .int .i64 x1_1] ?_; (with_reducible refine (laws_heldIntS.calls k1 _ _ (rd_L1 l0 x5_1) x1_1 t626 _ ?side1 ?side2 A5.out).mono ?_); (case side1 => repeat (first | exact HR625_0.out | (with_reducible refine Kd.C_alloc ?_ _) | (with_reducible refine Kd.C_drewN ?_ _) | (with_reducible refine Kd.C_drew ?_))); (case side2 => exact HC625_0.out); rintro e w' ⟨rfl, ⟨nd, rfl⟩⟩; refine ⟨_, rfl, ?_⟩))
      go_roundg k1
      case measure => have := HK1.out; omega
      case rel => exact ⟨(t626), (wrap64 (x5_1 + 1)), (by first | rfl | (simp; done) | (simp [*]; done)), (by first | rfl | (simp; done) | (simp [*]; done)), H', ⟨by have := HK1.out; omega⟩, by repeat (first | exact Drawn0.refl _ | apply Drawn0.step)⟩
    ·rw [if_neg c4] at H
     exact absurd H (by simp)
   ·rw [if_neg c3] at H
    have c3b0 : decide (x5_1 < (l0.length : Int)) = false := decide_eq_false c3
    clear c3
    obtain rfl := Option.some.inj H
    simp only [Option.some.injEq, Prod.mk.injEq] at H
    obtain ⟨rfl⟩ := H
    go_wp2
    go_ret
    exact ⟨by first | rfl | (simp; done) | (simp [*]; done), by repeat (first | exact Drawn0.refl _ | apply Drawn0.step)⟩

/-! ### laws_FnExactRowsOfBand: function 3 -/
def laws_FnExactRowsOfBand.f (k : Nat) (a0_0 : Int) (a0_1 : Int) (l0_2 : List (List Int)) (l0_3 : List (S42)) : Option (Bool) := (laws_szBand.f k a0_0 a0_1 l0_2 l0_3 1048576).bind fun t628 => (if t628 < 0 then (some true) else ((laws_toBand.f k a0_0 a0_1 l0_2 l0_3).bind fun bt629 => ((spec_RowsOfBand.f k bt629.1 bt629.2.1 bt629.2.2.1 bt629.2.2.2).bind fun t637 => ((laws_toBand.f k a0_0 a0_1 l0_2 l0_3).bind fun bt640 => ((impl_RowsOfBand.f k bt640.1 bt640.2.1 bt640.2.2.1 bt640.2.2.2).bind fun t649 => ((laws_eqIntSS.f k t649 t637).bind fun t652 => (if t652 = true then ((laws_toBand.f k a0_0 a0_1 l0_2 l0_3).bind fun bt653 => ((laws_eqBand.f k bt640.1 bt640.2.1 bt640.2.2.1 bt640.2.2.2 bt653.1 bt653.2.1 bt653.2.2.1 bt653.2.2.2).bind fun t661 => (if t661 = true then ((laws_markBand.f k bt640.1 bt640.2.1 bt640.2.2.1 bt640.2.2.2 1).bind fun bt662 => (if bt662.1 < 0 then (some false) else ((laws_eqIntSS.f k t649 t637).bind fun t665 => (if t665 = true then ((laws_markIntSS.f k t649 1).bind fun bt666 => ((laws_heldIntSS.f k bt666.2 1).bind fun t668 => (if t668 < 0 then (some false) else (if t668 = bt666.1 then ((laws_toBand.f k a0_0 a0_1 l0_2 l0_3).bind fun bt669 => ((impl_RowsOfBand.f k bt669.1 bt669.2.1 bt669.2.2.1 bt669.2.2.2).bind fun t677 => ((laws_eqIntSS.f k t677 t637).bind fun t680 => (if t680 = true then ((laws_heldIntSS.f k bt666.2 1).bind fun t681 => (if t681 < 0 then (some false) else (if t681 = bt666.1 then (some true) else (some false)))) else (some false))))) else (some false))))) else (some false))))) else (some false)))) else (some false))))))))
theorem laws_FnExactRowsOfBand.calls (k : Nat) (a0_0 : Int) (a0_1 : Int) (A0_2 : Option Addr) (c0_2 : Nat) (l0_2 : List (List Int)) (A0_3 : Option Addr) (c0_3 : Nat) (l0_3 : List (S42)) (r : Bool) (w : World) (hr0_2 : Kd.C (Kd.slice 3 (Kd.int .i64)) w A0_2 l0_2.length l0_2) (hc0_2 : l0_2.length ≤ c0_2) (hr0_3 : Kd.C k42 w A0_3 l0_3.length l0_3) (hc0_3 : l0_3.length ≤ c0_3) (h : laws_FnExactRowsOfBand.f k a0_0 a0_1 l0_2 l0_3 = some r) (hT : r = true) :
  Calls Tryz.prog 3 #[.agg #[.int .i64 a0_0, .int .i64 a0_1, .slice A0_2 l0_2.length c0_2, .slice A0_3 l0_3.length c0_3]] w fun e w' => e = .returned (.bool r) ∧ Below w.heap.size w w' := by
 have hu25 := Tryz.underlying25
 have hu30 := Tryz.underlying30
 have HR0_2 := Aside0.mk hr0_2
 have HC0_2 := Aside0.mk hc0_2
 clear hr0_2 hc0_2
 have HR0_3 := Aside0.mk hr0_3
 have HC0_3 := Aside0.mk hc0_3
 clear hr0_3 hc0_3
 have HB := Aside0.mk (Below.refl w.heap.size w)
 have H : ((laws_szBand.f k a0_0 a0_1 l0_2 l0_3 1048576).bind fun t628 => (if t628 < 0 then (some true) else ((laws_toBand.f k a0_0 a0_1 l0_2 l0_3).bind fun bt629 => ((spec_RowsOfBand.f k bt629.1 bt629.2.1 bt629.2.2.1 bt629.2.2.2).bind fun t637 => ((laws_toBand.f k a0_0 a0_1 l0_2 l0_3).bind fun bt640 => ((impl_RowsOfBand.f k bt640.1 bt640.2.1 bt640.2.2.1 bt640.2.2.2).bind fun t649 => ((laws_eqIntSS.f k t649 t637).bind fun t652 => (if t652 = true then ((laws_toBand.f k a0_0 a0_1 l0_2 l0_3).bind fun bt653 => ((laws_eqBand.f k bt640.1 bt640.2.1 bt640.2.2.1 bt640.2.2.2 bt653.1 bt653.2.1 bt653.2.2.1 bt653.2.2.2).bind fun t661 => (if t661 = true then ((laws_markBand.f k bt640.1 bt640.2.1 bt640.2.2.1 bt640.2.2.2 1).bind fun bt662 => (if bt662.1 < 0 then (some false) else ((laws_eqIntSS.f k t649 t637).bind fun t665 => (if t665 = true then ((laws_markIntSS.f k t649 1).bind fun bt666 => ((laws_heldIntSS.f k bt666.2 1).bind fun t668 => (if t668 < 0 then (some false) else (if t668 = bt666.1 then ((laws_toBand.f k a0_0 a0_1 l0_2 l0_3).bind fun bt669 => ((impl_RowsOfBand.f k bt669.1 bt669.2.1 bt669.2.2.1 bt669.2.2.2).bind fun t677 => ((laws_eqIntSS.f k t677 t637).bind fun t680 => (if t680 = true then ((laws_heldIntSS.f k bt666.2 1).bind fun t681 => (if t681 < 0 then (some false) else (if t681 = bt666.1 then (some true) else (some false)))) else (some false))))) else (some false))))) else (some false))))) else (some false)))) else (some false))))))))) = some r := h
 clear h
 replace H := bN H
 obtain ⟨t628, A2, H⟩ := H
 by_cases c3 : t628 < 0
 ·rw [if_pos c3] at H
  have c3b0 : decide (t628 < 0) = true := decide_eq_true c3
  clear c3
  obtain rfl := Option.some.inj H
  (try clear hT)
  go_enter Tryz.func3, Tryz.ntmps3
  go_wp2_with (first | ((with_reducible refine gD 1 ?_); refine bxE #[.int .i64 a0_0, .int .i64 a0_1, .slice A0_2 l0_2.length c0_2, .slice A0_3 l0_3.length c0_3] 25 ?_; intro gb627 hg w4 BK627 hb; have GW627 := gE hg; have GE627 := gE hg; replace HB := hB hb; clear hb hg; have hz5 := cz4 BK627) | ((with_reducible refine gC 8 ?_); refine cL (some 13) Tryz.func8 #[.agg #[.int .i64 a0_0, .int .i64 a0_1, .slice A0_2 l0_2.length c0_2, .slice A0_3 l0_3.length c0_3], .int .i64 1048576] ?_; (with_reducible refine (laws_szBand.calls k a0_0 a0_1 _ _ l0_2 _ _ l0_3 1048576 t628 _ ?side1 ?side2 ?side3 ?side4 A2.out).mono ?_); (case side1 => exact cS (Kd.C_below HR0_2.out HB.out)); (case side2 => exact HC0_2.out); (case side3 => exact cS (Kd.C_below HR0_3.out HB.out)); (case side4 => exact HC0_3.out); rintro e w6 ⟨rfl, hb⟩; refine ⟨_, rfl, ?_⟩; replace BK627 := kB (g := gb627) hb; replace HB := hB hb; (try clear hb); (try clear hb2); (try clear hk); (try clear hi)))
  go_ret
  exact ⟨eS, bS⟩
 ·rw [if_neg c3] at H
  have c3b0 : decide (t628 < 0) = false := decide_eq_false c3
  clear c3
  replace H := bN H
  obtain ⟨⟨t629, t630, t631, t634⟩, A7, H⟩ := H
  replace H := bN H
  obtain ⟨t637, A8, H⟩ := H
  replace H := bN H
  obtain ⟨⟨t640, t641, t642, t645⟩, A9, H⟩ := H
  replace H := bN H
  obtain ⟨t649, A10, H⟩ := H
  replace H := bN H
  obtain ⟨t652, A11, H⟩ := H
  by_cases c12 : t652 = true
  ·subst c12
   rw [if_pos rfl] at H
   replace H := bN H
   obtain ⟨⟨t653, t654, t655, t658⟩, A13, H⟩ := H
   replace H := bN H
   obtain ⟨t661, A14, H⟩ := H
   by_cases c15 : t661 = true
   ·subst c15
    rw [if_pos rfl] at H
    replace H := bN H
    obtain ⟨⟨t662, t663, t664⟩, A16, H⟩ := H
    by_cases c17 : t662 < 0
    ·rw [if_pos c17] at H; exact absurd ((Option.some.inj H).trans hT) (by decide)
    ·rw [if_neg c17] at H
     have c17b0 : decide (t662 < 0) = false := decide_eq_false c17
     clear c17
     replace H := bN H
     obtain ⟨t665, A18, H⟩ := H
     by_cases c19 : t665 = true
     ·subst c19
      rw [if_pos rfl] at H
      replace H := bN H
      obtain ⟨⟨t666, t667⟩, A20, H⟩ := H
      replace H := bN H
      obtain ⟨t668, A21, H⟩ := H
      by_cases c22 : t668 < 0
      ·rw [if_pos c22] at H; exact absurd ((Option.some.inj H).trans hT) (by decide)
      ·rw [if_neg c22] at H
       have c22b0 : decide (t668 < 0) = false := decide_eq_false c22
       clear c22
       by_cases c23 : t668 = t666
       ·rw [if_pos c23] at H
        have c23b0 : (t668 == t666) = true := beq_iff_eq.mpr c23
        have c23b1 : (t668 != t666) = false := bne_eq_false_iff_eq.mpr c23
        clear c23
        replace H := bN H
        obtain ⟨⟨t669, t670, t671, t674⟩, A24, H⟩ := H
        replace H := bN H
        obtain ⟨t677, A25, H⟩ := H
        replace H := bN H
        obtain ⟨t680, A26, H⟩ := H
        by_cases c27 : t680 = true
        ·subst c27
         rw [if_pos rfl] at H
         replace H := bN H
         obtain ⟨t681, A28, H⟩ := H
         by_cases c29 : t681 < 0
         ·rw [if_pos c29] at H; exact absurd ((Option.some.inj H).trans hT) (by decide)
         ·rw [if_neg c29] at H
          have c29b0 : decide (t681 < 0) = false := decide_eq_false c29
          clear c29
          by_cases c30 : t681 = t666
          ·rw [if_pos c30] at H
           have c30b0 : (t681 == t666) = true := beq_iff_eq.mpr c30
           have c30b1 : (t681 != t666) = false := bne_eq_false_iff_eq.mpr c30
           clear c30
           obtain rfl := Option.some.inj H
           (try clear hT)
           go_enter Tryz.func3, Tryz.ntmps3
           try go_wp2_with (first | ((with_reducible refine gD 1 ?_); refine bxE #[.int .i64 a0_0, .int .i64 a0_1, .slice A0_2 l0_2.length c0_2, .slice A0_3 l0_3.length c0_3] 25 ?_; intro gb627 hg w31 BK627 hb; have GW627 := gE hg; have GE627 := gE hg; replace HB := hB hb; clear hb hg; have hz32 := cz4 BK627) | ((with_reducible refine gC 8 ?_); refine cL (some 13) Tryz.func8 #[.agg #[.int .i64 a0_0, .int .i64 a0_1, .slice A0_2 l0_2.length c0_2, .slice A0_3 l0_3.length c0_3], .int .i64 1048576] ?_; (with_reducible refine (laws_szBand.calls k a0_0 a0_1 _ _ l0_2 _ _ l0_3 1048576 t628 _ ?side1 ?side2 ?side3 ?side4 A2.out).mono ?_); (case side1 => exact cS (Kd.C_below HR0_2.out HB.out)); (case side2 => exact HC0_2.out); (case side3 => exact cS (Kd.C_below HR0_3.out HB.out)); (case side4 => exact HC0_3.out); rintro e w33 ⟨rfl, hb⟩; refine ⟨_, rfl, ?_⟩; replace BK627 := kB (g := gb627) hb; replace HB := hB hb; (try clear hb); (try clear hb2); (try clear hk); (try clear hi); have hz34 := cz4 BK627) | ((with_reducible refine gC 10 ?_); refine cL (some 17) Tryz.func10 #[.agg #[.int .i64 a0_0, .int .i64 a0_1, .slice A0_2 l0_2.length c0_2, .slice A0_3 l0_3.length c0_3]] ?_; (with_reducible refine (laws_toBand.calls k a0_0 a0_1 _ _ l0_2 _ _ l0_3 t629 t630 t631 t634 _ ?side1 ?side2 ?side3 ?side4 A7.out).mono ?_); (case side1 => exact cS (Kd.C_below HR0_2.out HB.out)); (case side2 => exact HC0_2.out); (case side3 => exact cS (Kd.C_below HR0_3.out HB.out)); (case side4 => exact HC0_3.out); rintro e w35 ⟨v632, v635, rfl, ho0, ho1, hb⟩; refine ⟨_, rfl, ?_⟩; obtain ⟨b633, HZ633, hz633⟩ := S_born ho0; have HL633 := Aside0.mk (show w.heap.size ≤ b633 from by rw [HZ633.out]; exact (below_size bS)); obtain ⟨b636, HZ636, hz636⟩ := S_born ho1; have HL636 := Aside0.mk (show w.heap.size ≤ b636 from by rw [HZ636.out]; exact (below_size bS)); have HO633 := Aside0.mk (hz633); have HO636 := Aside0.mk (hz636); replace BK627 := kB (g := gb627) hb; replace HB := hB hb; (try clear hb); (try clear hb2); (try clear hk); (try clear hi); (try clear ho0); (try clear ho1); obtain ⟨Ao36, co36, eo36⟩ := Kd.S_slice HO633.out; subst eo36; obtain ⟨Ao37, co37, eo37⟩ := Kd.S_slice HO636.out; subst eo37) | ((with_reducible refine gC 9 ?_); refine cL (some 18) Tryz.func9 #[.agg #[.int .i64 t629, .int .i64 t630, .slice Ao36 t631.length co36, .slice Ao37 t634.length co37]] ?_; (with_reducible refine (spec_RowsOfBand.calls k t629 t630 _ _ t631 _ _ t634 t637 _ ?side1 ?side2 ?side3 ?side4 A8.out).mono ?_); (case side1 => exact cS (Kd.S_reads' HO633.out).2.2); (case side2 => exact (Kd.S_reads' HO633.out).2.1); (case side3 => exact cS (Kd.S_reads' HO636.out).2.2); (case side4 => exact (Kd.S_reads' HO636.out).2.1); rintro e w38 ⟨v638, rfl, ho0, hb⟩; refine ⟨_, rfl, ?_⟩; obtain ⟨b639, HZ639, hz639⟩ := S_born ho0; have HL639 := Aside0.mk (show w.heap.size ≤ b639 from by rw [HZ639.out]; exact (below_size bS)); have HO639 := Aside0.mk (hz639); replace HO633 := Aside0.mk (S_oldB (by (with_reducible repeat (first | apply Kd.S_alloc | apply Kd.S_drewN | apply Kd.S_drew)); exact HO633.out) hb HZ639.out); replace HO636 := Aside0.mk (S_oldB (by (with_reducible repeat (first | apply Kd.S_alloc | apply Kd.S_drewN | apply Kd.S_drew)); exact HO636.out) hb HZ639.out); replace BK627 := kB (g := gb627) hb; replace HB := hB hb; (try clear hb); (try clear hb2); (try clear hk); (try clear hi); (try clear ho0); have hz39 := cz4 BK627) | ((with_reducible refine gC 10 ?_); refine cL (some 20) Tryz.func10 #[.agg #[.int .i64 a0_0, .int .i64 a0_1, .slice A0_2 l0_2.length c0_2, .slice A0_3 l0_3.length c0_3]] ?_; (with_reducible refine (laws_toBand.calls k a0_0 a0_1 _ _ l0_2 _ _ l0_3 t640 t641 t642 t645 _ ?side1 ?side2 ?side3 ?side4 A9.out).mono ?_); (case side1 => exact cS (Kd.C_below HR0_2.out HB.out)); (case side2 => exact HC0_2.out); (case side3 => exact cS (Kd.C_below HR0_3.out HB.out)); (case side4 => exact HC0_3.out); rintro e w40 ⟨v643, v646, rfl, ho0, ho1, hb⟩; refine ⟨_, rfl, ?_⟩; obtain ⟨b644, HZ644, hz644⟩ := S_born ho0; have HL644 := Aside0.mk (show w.heap.size ≤ b644 from by rw [HZ644.out]; exact (below_size bS)); obtain ⟨b647, HZ647, hz647⟩ := S_born ho1; have HL647 := Aside0.mk (show w.heap.size ≤ b647 from by rw [HZ647.out]; exact (below_size bS)); have HO644 := Aside0.mk (hz644); have HO647 := Aside0.mk (hz647); replace HO633 := Aside0.mk (S_ltB (S_oldB (by (with_reducible repeat (first | apply Kd.S_alloc | apply Kd.S_drewN | apply Kd.S_drew)); exact HO633.out) hb HZ644.out) HZ644.out HZ647.out); replace HO636 := Aside0.mk (S_ltB (S_oldB (by (with_reducible repeat (first | apply Kd.S_alloc | apply Kd.S_drewN | apply Kd.S_drew)); exact HO636.out) hb HZ644.out) HZ644.out HZ647.out); replace HO639 := Aside0.mk (S_ltB (S_oldB (by (with_reducible repeat (first | apply Kd.S_alloc | apply Kd.S_drewN | apply Kd.S_drew)); exact HO639.out) hb HZ644.out) HZ644.out HZ647.out); replace BK627 := kB (g := gb627) hb; replace HB := hB hb; (try clear hb); (try clear hb2); (try clear hk); (try clear hi); (try clear ho0); (try clear ho1)) | ((with_reducible refine gD 5 ?_); refine bxE #[.int .i64 0, .int .i64 0, .slice none 0 0, .slice none 0 0] 30 ?_; intro gb648 hg w41 BK648 hb; have GW648 := gE hg; have GE648 := gE hg; have NB627_648 := nL (g := gb627) hg; have NB648_627 := nG (g := gb627) hg; replace HO633 := Aside0.mk (Kd.S_below (by (with_reducible repeat (first | apply Kd.S_alloc | apply Kd.S_drewN | apply Kd.S_drew)); exact HO633.out) hb); replace HO636 := Aside0.mk (Kd.S_below (by (with_reducible repeat (first | apply Kd.S_alloc | apply Kd.S_drewN | apply Kd.S_drew)); exact HO636.out) hb); replace HO639 := Aside0.mk (Kd.S_below (by (with_reducible repeat (first | apply Kd.S_alloc | apply Kd.S_drewN | apply Kd.S_drew)); exact HO639.out) hb); replace HO644 := Aside0.mk (Kd.S_below (by (with_reducible repeat (first | apply Kd.S_alloc | apply Kd.S_drewN | apply Kd.S_drew)); exact HO644.out) hb); replace HO647 := Aside0.mk (Kd.S_below (by (with_reducible repeat (first | apply Kd.S_alloc | apply Kd.S_drewN | apply Kd.S_drew)); exact HO647.out) hb); replace BK627 := kB (g := gb627) hb; replace HB := hB hb; clear hb hg; have hnb42 := NB648_627.out; have hnc42 := NB627_648.out; have hz43 := cz4 BK648; obtain ⟨Ao44, co44, eo44⟩ := Kd.S_slice HO644.out; subst eo44; obtain ⟨Ao45, co45, eo45⟩ := Kd.S_slice HO647.out; subst eo45) | ((with_reducible refine gC 11 ?_); refine cL (some 22) Tryz.func11 #[.agg #[.int .i64 t640, .int .i64 t641, .slice Ao44 t642.length co44, .slice Ao45 t645.length co45]] ?_; (with_reducible refine (impl_RowsOfBand.calls k t640 t641 _ _ t642 _ _ t645 t649 _ ?side1 ?side2 ?side3 ?side4 A10.out).mono ?_); (case side1 => exact (Kd.S_reads' (e := 54) (n := t642.length) (c := co44) (by (with_reducible repeat (first | apply Kd.S_alloc | apply Kd.S_drewN | apply Kd.S_drew)); exact (Kd.S_mono (Kd.S_far (p := ⟨gb648, 3, none⟩) (Kd.S_far (p := ⟨gb648, 2, none⟩) (Kd.S_far (p := ⟨gb648, 1, none⟩) (Kd.S_far (p := ⟨gb648, 0, none⟩) (Kd.S_types HO644.out BK648.out (by decide)) (fun _ hk => hk.2) (.int .i64 t640)) (fun _ hk => hk.2) (.int .i64 t641)) (fun _ hk => hk.2) (.slice Ao44 t642.length co44)) (fun _ hk => hk.2) (.slice Ao45 t645.length co45)) (fun _ h_ => h_.1)))).2.2); (case side2 => exact (Kd.S_reads' HO644.out).2.1); (case side3 => exact (Kd.S_reads' (e := 49) (n := t645.length) (c := co45) (by (with_reducible repeat (first | apply Kd.S_alloc | apply Kd.S_drewN | apply Kd.S_drew)); exact (Kd.S_mono (Kd.S_far (p := ⟨gb648, 3, none⟩) (Kd.S_far (p := ⟨gb648, 2, none⟩) (Kd.S_far (p := ⟨gb648, 1, none⟩) (Kd.S_far (p := ⟨gb648, 0, none⟩) (Kd.S_types HO647.out BK648.out (by decide)) (fun _ hk => hk.2) (.int .i64 t640)) (fun _ hk => hk.2) (.int .i64 t641)) (fun _ hk => hk.2) (.slice Ao44 t642.length co44)) (fun _ hk => hk.2) (.slice Ao45 t645.length co45)) (fun _ h_ => h_.1)))).2.2); (case side4 => exact (Kd.S_reads' HO647.out).2.1); rintro e w46 ⟨v650, rfl, ho0, hb⟩; refine ⟨_, rfl, ?_⟩; obtain ⟨b651, HZ651, hz651⟩ := S_born ho0; have HL651 := Aside0.mk (show w.heap.size ≤ b651 from by rw [HZ651.out]; exact (below_size bS)); have HO651 := Aside0.mk (hz651); replace HO633 := Aside0.mk (S_oldB (by (with_reducible repeat (first | apply Kd.S_alloc | apply Kd.S_drewN | apply Kd.S_drew)); exact (Kd.S_mono (Kd.S_far (p := ⟨gb648, 3, none⟩) (Kd.S_far (p := ⟨gb648, 2, none⟩) (Kd.S_far (p := ⟨gb648, 1, none⟩) (Kd.S_far (p := ⟨gb648, 0, none⟩) (Kd.S_types HO633.out BK648.out (by decide)) (fun _ hk => hk.2) (.int .i64 t640)) (fun _ hk => hk.2) (.int .i64 t641)) (fun _ hk => hk.2) (.slice Ao44 t642.length co44)) (fun _ hk => hk.2) (.slice Ao45 t645.length co45)) (fun _ h_ => h_.1))) hb HZ651.out); replace HO636 := Aside0.mk (S_oldB (by (with_reducible repeat (first | apply Kd.S_alloc | apply Kd.S_drewN | apply Kd.S_drew)); exact (Kd.S_mono (Kd.S_far (p := ⟨gb648, 3, none⟩) (Kd.S_far (p := ⟨gb648, 2, none⟩) (Kd.S_far (p := ⟨gb648, 1, none⟩) (Kd.S_far (p := ⟨gb648, 0, none⟩) (Kd.S_types HO636.out BK648.out (by decide)) (fun _ hk => hk.2) (.int .i64 t640)) (fun _ hk => hk.2) (.int .i64 t641)) (fun _ hk => hk.2) (.slice Ao44 t642.length co44)) (fun _ hk => hk.2) (.slice Ao45 t645.length co45)) (fun _ h_ => h_.1))) hb HZ651.out); replace HO639 := Aside0.mk (S_oldB (by (with_reducible repeat (first | apply Kd.S_alloc | apply Kd.S_drewN | apply Kd.S_drew)); exact (Kd.S_mono (Kd.S_far (p := ⟨gb648, 3, none⟩) (Kd.S_far (p := ⟨gb648, 2, none⟩) (Kd.S_far (p := ⟨gb648, 1, none⟩) (Kd.S_far (p := ⟨gb648, 0, none⟩) (Kd.S_types HO639.out BK648.out (by decide)) (fun _ hk => hk.2) (.int .i64 t640)) (fun _ hk => hk.2) (.int .i64 t641)) (fun _ hk => hk.2) (.slice Ao44 t642.length co44)) (fun _ hk => hk.2) (.slice Ao45 t645.length co45)) (fun _ h_ => h_.1))) hb HZ651.out); replace HO644 := Aside0.mk (S_oldB (by (with_reducible repeat (first | apply Kd.S_alloc | apply Kd.S_drewN | apply Kd.S_drew)); exact (Kd.S_mono (Kd.S_far (p := ⟨gb648, 3, none⟩) (Kd.S_far (p := ⟨gb648, 2, none⟩) (Kd.S_far (p := ⟨gb648, 1, none⟩) (Kd.S_far (p := ⟨gb648, 0, none⟩) (Kd.S_types HO644.out BK648.out (by decide)) (fun _ hk => hk.2) (.int .i64 t640)) (fun _ hk => hk.2) (.int .i64 t641)) (fun _ hk => hk.2) (.slice Ao44 t642.length co44)) (fun _ hk => hk.2) (.slice Ao45 t645.length co45)) (fun _ h_ => h_.1))) hb HZ651.out); replace HO647 := Aside0.mk (S_oldB (by (with_reducible repeat (first | apply Kd.S_alloc | apply Kd.S_drewN | apply Kd.S_drew)); exact (Kd.S_mono (Kd.S_far (p := ⟨gb648, 3, none⟩) (Kd.S_far (p := ⟨gb648, 2, none⟩) (Kd.S_far (p := ⟨gb648, 1, none⟩) (Kd.S_far (p := ⟨gb648, 0, none⟩) (Kd.S_types HO647.out BK648.out (by decide)) (fun _ hk => hk.2) (.int .i64 t640)) (fun _ hk => hk.2) (.int .i64 t641)) (fun _ hk => hk.2) (.slice Ao44 t642.length co44)) (fun _ hk => hk.2) (.slice Ao45 t645.length co45)) (fun _ h_ => h_.1))) hb HZ651.out); replace BK627 := kB (g := gb627) hb; replace BK648 := Aside0.mk (blk_below (g := gb648) (o := .cells #[.int .i64 t640, .int .i64 t641, .slice Ao44 t642.length co44, .slice Ao45 t645.length co45] 30 (0, 0)) kS hb); replace HB := hB hb; (try clear hb); (try clear hb2); (try clear hk); (try clear hi); (try clear ho0); obtain ⟨Ao47, co47, eo47⟩ := Kd.S_slice HO651.out; subst eo47; obtain ⟨Ao48, co48, eo48⟩ := Kd.S_slice HO639.out; subst eo48) | ((with_reducible refine gC 12 ?_); refine cL (some 25) Tryz.func12 #[.slice Ao47 t649.length co47, .slice Ao48 t637.length co48] ?_; (with_reducible refine (laws_eqIntSS.calls k _ _ t649 _ _ t637 _ _ ?side1 ?side2 ?side3 ?side4 A11.out).mono ?_); (case side1 => exact cS (Kd.S_reads' HO651.out).2.2); (case side2 => exact (Kd.S_reads' HO651.out).2.1); (case side3 => exact cS (Kd.S_reads' HO639.out).2.2); (case side4 => exact (Kd.S_reads' HO639.out).2.1); rintro e w' ⟨rfl, ⟨nd, rfl⟩⟩; refine ⟨_, rfl, ?_⟩))
           (try (rw [drewN_self w46]; generalize hq_ : World.drewN w46 _ = w46; replace HO633 : Aside0 (Kd.S (Kd.slice 3 (Kd.int .i64)) 54 w46 b633 (fun k_ => ((((True ∧ k_ < b639) ∧ k_ < b644) ∧ k_ < b647) ∧ k_ < b651)) (.slice Ao36 t631.length co36) t631) := ⟨by rw [← hq_]; exact (by (with_reducible repeat (first | apply Kd.S_alloc | apply Kd.S_drewN | apply Kd.S_drew)); exact HO633.out)⟩; replace HO636 : Aside0 (Kd.S k49 49 w46 b636 (fun k_ => ((((True ∧ k_ < b639) ∧ k_ < b644) ∧ k_ < b647) ∧ k_ < b651)) (.slice Ao37 t634.length co37) t634) := ⟨by rw [← hq_]; exact (by (with_reducible repeat (first | apply Kd.S_alloc | apply Kd.S_drewN | apply Kd.S_drew)); exact HO636.out)⟩; replace HO639 : Aside0 (Kd.S (Kd.slice 3 (Kd.int .i64)) 54 w46 b639 (fun k_ => (((True ∧ k_ < b644) ∧ k_ < b647) ∧ k_ < b651)) (.slice Ao48 t637.length co48) t637) := ⟨by rw [← hq_]; exact (by (with_reducible repeat (first | apply Kd.S_alloc | apply Kd.S_drewN | apply Kd.S_drew)); exact HO639.out)⟩; replace HO644 : Aside0 (Kd.S (Kd.slice 3 (Kd.int .i64)) 54 w46 b644 (fun k_ => (True ∧ k_ < b651)) (.slice Ao44 t642.length co44) t642) := ⟨by rw [← hq_]; exact (by (with_reducible repeat (first | apply Kd.S_alloc | apply Kd.S_drewN | apply Kd.S_drew)); exact HO644.out)⟩; replace HO647 : Aside0 (Kd.S k49 49 w46 b647 (fun k_ => (True ∧ k_ < b651)) (.slice Ao45 t645.length co45) t645) := ⟨by rw [← hq_]; exact (by (with_reducible repeat (first | apply Kd.S_alloc | apply Kd.S_drewN | apply Kd.S_drew)); exact HO647.out)⟩; replace HO651 : Aside0 (Kd.S (Kd.slice 3 (Kd.int .i64)) 54 w46 b651 (fun _ => True) (.slice Ao47 t649.length co47) t649) := ⟨by rw [← hq_]; exact (by (with_reducible repeat (first | apply Kd.S_alloc | apply Kd.S_drewN | apply Kd.S_drew)); exact HO651.out)⟩; replace BK627 : Aside0 (w46.heap[gb627]? = some (.cells #[.int .i64 a0_0, .int .i64 a0_1, .slice A0_2 l0_2.length c0_2, .slice A0_3 l0_3.length c0_3] 25 (0, 0))) := ⟨by rw [← hq_]; exact kS⟩; replace BK648 : Aside0 (w46.heap[gb648]? = some (.cells #[.int .i64 t640, .int .i64 t641, .slice Ao44 t642.length co44, .slice Ao45 t645.length co45] 30 (0, 0))) := ⟨by rw [← hq_]; exact kS⟩; replace HB : Aside0 (Below w.heap.size w w46) := ⟨by rw [← hq_]; exact bS⟩; clear hq_))
           replace HO633 := Aside0.mk (Kd.S_drew HO633.out)
           replace HO636 := Aside0.mk (Kd.S_drew HO636.out)
           replace HO639 := Aside0.mk (Kd.S_drew HO639.out)
           replace HO644 := Aside0.mk (Kd.S_drew HO644.out)
           replace HO647 := Aside0.mk (Kd.S_drew HO647.out)
           replace HO651 := Aside0.mk (Kd.S_drew HO651.out)
           replace BK627 := Aside0.mk (blk_drew BK627.out)
           replace BK648 := Aside0.mk (blk_drew BK648.out)
           replace HB := Aside0.mk (below_drew1 HB.out)
           refine start_ (n := 5) (S := fun w' => w'.cell? ⟨gb648, 0, none⟩ = some (.int .i64 t640) ∧ w'.cell? ⟨gb648, 1, none⟩ = some (.int .i64 t641) ∧ w'.cell? ⟨gb648, 2, none⟩ = some (.slice Ao44 t642.length co44) ∧ w'.cell? ⟨gb648, 3, none⟩ = some (.slice Ao45 t645.length co45) ∧ w'.cell? ⟨gb627, 0, none⟩ = some (.int .i64 a0_0) ∧ w'.cell? ⟨gb627, 1, none⟩ = some (.int .i64 a0_1) ∧ w'.cell? ⟨gb627, 2, none⟩ = some (.slice A0_2 l0_2.length c0_2) ∧ w'.cell? ⟨gb627, 3, none⟩ = some (.slice A0_3 l0_3.length c0_3)) (ds := []) #[false, false, false, false, false] (by kernel_rfl) rfl rfl ⟨(blk_cell BK648.out 0).trans rfl, (blk_cell BK648.out 1).trans rfl, (blk_cell BK648.out 2).trans rfl, (blk_cell BK648.out 3).trans rfl, (blk_cell BK627.out 0).trans rfl, (blk_cell BK627.out 1).trans rfl, (blk_cell BK627.out 2).trans rfl, (blk_cell BK627.out 3).trans rfl⟩ (fun hHeld => ?_)
           generalize w46.drew = w49 at HO633 HO636 HO639 HO644 HO647 HO651 BK627 BK648 HB hHeld ⊢
           refine tK 0 (some 27) #[true, false, false, false, false] ?_
           refine tK 1 (some 28) #[true, true, false, false, false] ?_
           refine one_ (i := 2) (N := some 29) #[true, true, true, false, false] rfl rfl (by kernel_rfl) (by decide) (fun K hK => ?_)
           refine goes_ Tryz.func10 (by kernel_rfl) rfl #[.agg #[.int .i64 a0_0, .int .i64 a0_1, .slice A0_2 l0_2.length c0_2, .slice A0_3 l0_3.length c0_3]] (by rfl) rfl rfl (by (try simp only [List.map_toArray, List.map_cons, List.map_nil]); first | done | rfl | (simp only [List.length_drop, List.length_take]; rfl)) ?_
           with_reducible refine (laws_toBand.calls k a0_0 a0_1 _ _ l0_2 _ _ l0_3 t653 t654 t655 t658 _ ?side1 ?side2 ?side3 ?side4 A13.out).mono ?_
           (case side1 => exact cS (Kd.C_below HR0_2.out HB.out))
           (case side2 => exact HC0_2.out)
           (case side3 => exact cS (Kd.C_below HR0_3.out HB.out))
           (case side4 => exact HC0_3.out)
           rintro e w50 ⟨v656, v659, rfl, ho0, ho1, hb⟩
           refine ⟨_, rfl, ?_⟩
           obtain ⟨b657, HZ657, hz657⟩ := S_born ho0
           have HL657 := Aside0.mk (show w.heap.size ≤ b657 from by rw [HZ657.out]; exact (below_size bS))
           obtain ⟨b660, HZ660, hz660⟩ := S_born ho1
           have HL660 := Aside0.mk (show w.heap.size ≤ b660 from by rw [HZ660.out]; exact (below_size bS))
           have HO657 := Aside0.mk (hz657)
           have HO660 := Aside0.mk (hz660)
           replace HO633 := Aside0.mk (S_ltB (S_oldB (by (with_reducible repeat (first | apply Kd.S_alloc | apply Kd.S_drewN | apply Kd.S_drew)); exact HO633.out) hb HZ657.out) HZ657.out HZ660.out)
           replace HO636 := Aside0.mk (S_ltB (S_oldB (by (with_reducible repeat (first | apply Kd.S_alloc | apply Kd.S_drewN | apply Kd.S_drew)); exact HO636.out) hb HZ657.out) HZ657.out HZ660.out)
           replace HO639 := Aside0.mk (S_ltB (S_oldB (by (with_reducible repeat (first | apply Kd.S_alloc | apply Kd.S_drewN | apply Kd.S_drew)); exact HO639.out) hb HZ657.out) HZ657.out HZ660.out)
           replace HO644 := Aside0.mk (S_ltB (S_oldB (by (with_reducible repeat (first | apply Kd.S_alloc | apply Kd.S_drewN | apply Kd.S_drew)); exact HO644.out) hb HZ657.out) HZ657.out HZ660.out)
           replace HO647 := Aside0.mk (S_ltB (S_oldB (by (with_reducible repeat (first | apply Kd.S_alloc | apply Kd.S_drewN | apply Kd.S_drew)); exact HO647.out) hb HZ657.out) HZ657.out HZ660.out)
           replace HO651 := Aside0.mk (S_ltB (S_oldB (by (with_reducible repeat (first | apply Kd.S_alloc | apply Kd.S_drewN | apply Kd.S_drew)); exact HO651.out) hb HZ657.out) HZ657.out HZ660.out)
           replace BK627 := kB (g := gb627) hb
           replace BK648 := kB (g := gb648) hb
           replace HB := hB hb
           (try clear hb)
           (try clear hb2)
           (try clear hk)
           (try clear hi)
           (try clear ho0)
           (try clear ho1)
           obtain ⟨Ao51, co51, eo51⟩ := Kd.S_slice HO657.out
           (first | subst eo51 | (injection eo51 with f1_ f2_ f3_; have f4_ := f1_.symm; have f5_ := f3_.symm; clear f1_ f2_ f3_; subst f4_; subst f5_))
           obtain ⟨Ao52, co52, eo52⟩ := Kd.S_slice HO660.out
           (first | subst eo52 | (injection eo52 with f1_ f2_ f3_; have f4_ := f1_.symm; have f5_ := f3_.symm; clear f1_ f2_ f3_; subst f4_; subst f5_))
           refine hK.out _ _ ⟨(blk_cell BK648.out 0).trans rfl, (blk_cell BK648.out 1).trans rfl, (blk_cell BK648.out 2).trans rfl, (blk_cell BK648.out 3).trans rfl, (blk_cell BK627.out 0).trans rfl, (blk_cell BK627.out 1).trans rfl, (blk_cell BK627.out 2).trans rfl, (blk_cell BK627.out 3).trans rfl⟩ (fun hHeld => ?_)
           clear hK K
           refine norm_ (a' := ?_) ?_ ?_
           rotate_left
           ·show Act.put _ (some 29) _ = _
            simp only [Act.put, List.setIfInBounds_toArray, List.set_cons_zero, List.set_cons_succ, i64_w, i32_w]
            rfl
           refine one_ (i := 3) (N := some 30) #[true, true, true, true, false] rfl rfl (by kernel_rfl) (by decide) (fun K hK => ?_)
           refine goes_ Tryz.func13 (by kernel_rfl) rfl #[.agg #[.int .i64 t640, .int .i64 t641, .slice Ao44 t642.length co44, .slice Ao45 t645.length co45], .agg #[.int .i64 t653, .int .i64 t654, .slice Ao51 t655.length co51, .slice Ao52 t658.length co52]] (by rfl) rfl rfl (by (try simp only [List.map_toArray, List.map_cons, List.map_nil]); first | done | rfl | (simp only [List.length_drop, List.length_take]; rfl)) ?_
           with_reducible refine (laws_eqBand.calls k t640 t641 _ _ t642 _ _ t645 t653 t654 _ _ t655 _ _ t658 _ _ ?side1 ?side2 ?side3 ?side4 ?side5 ?side6 ?side7 ?side8 A14.out).mono ?_
           (case side1 => exact cS (Kd.S_reads' HO644.out).2.2)
           (case side2 => exact (Kd.S_reads' HO644.out).2.1)
           (case side3 => exact cS (Kd.S_reads' HO647.out).2.2)
           (case side4 => exact (Kd.S_reads' HO647.out).2.1)
           (case side5 => exact cS (Kd.S_reads' HO657.out).2.2)
           (case side6 => exact (Kd.S_reads' HO657.out).2.1)
           (case side7 => exact cS (Kd.S_reads' HO660.out).2.2)
           (case side8 => exact (Kd.S_reads' HO660.out).2.1)
           rintro e w53 ⟨rfl, hb⟩
           refine ⟨_, rfl, ?_⟩
           replace HO633 := Aside0.mk (Kd.S_below (by (with_reducible repeat (first | apply Kd.S_alloc | apply Kd.S_drewN | apply Kd.S_drew)); exact HO633.out) hb)
           replace HO636 := Aside0.mk (Kd.S_below (by (with_reducible repeat (first | apply Kd.S_alloc | apply Kd.S_drewN | apply Kd.S_drew)); exact HO636.out) hb)
           replace HO639 := Aside0.mk (Kd.S_below (by (with_reducible repeat (first | apply Kd.S_alloc | apply Kd.S_drewN | apply Kd.S_drew)); exact HO639.out) hb)
           replace HO644 := Aside0.mk (Kd.S_below (by (with_reducible repeat (first | apply Kd.S_alloc | apply Kd.S_drewN | apply Kd.S_drew)); exact HO644.out) hb)
           replace HO647 := Aside0.mk (Kd.S_below (by (with_reducible repeat (first | apply Kd.S_alloc | apply Kd.S_drewN | apply Kd.S_drew)); exact HO647.out) hb)
           replace HO651 := Aside0.mk (Kd.S_below (by (with_reducible repeat (first | apply Kd.S_alloc | apply Kd.S_drewN | apply Kd.S_drew)); exact HO651.out) hb)
           replace HO657 := Aside0.mk (Kd.S_below (by (with_reducible repeat (first | apply Kd.S_alloc | apply Kd.S_drewN | apply Kd.S_drew)); exact HO657.out) hb)
           replace HO660 := Aside0.mk (Kd.S_below (by (with_reducible repeat (first | apply Kd.S_alloc | apply Kd.S_drewN | apply Kd.S_drew)); exact HO660.out) hb)
           replace BK627 := kB (g := gb627) hb
           replace BK648 := kB (g := gb648) hb
           replace HB := hB hb
           (try clear hb)
           (try clear hb2)
           (try clear hk)
           (try clear hi)
           refine hK.out _ _ ⟨(blk_cell BK648.out 0).trans rfl, (blk_cell BK648.out 1).trans rfl, (blk_cell BK648.out 2).trans rfl, (blk_cell BK648.out 3).trans rfl, (blk_cell BK627.out 0).trans rfl, (blk_cell BK627.out 1).trans rfl, (blk_cell BK627.out 2).trans rfl, (blk_cell BK627.out 3).trans rfl⟩ (fun hHeld => ?_)
           clear hK K
           refine norm_ (a' := ?_) ?_ ?_
           rotate_left
           ·show Act.put _ (some 30) _ = _
            simp only [Act.put, List.setIfInBounds_toArray, List.set_cons_zero, List.set_cons_succ, i64_w, i32_w]
            rfl
           refine pU 4 (some 31) #[true, true, true, true, true] ?_
           refine done_ (by kernel_rfl) ?_
           have hz54 := cz4 BK648
           try go_wp2_with (first | ((with_reducible refine gC 14 ?_); refine cL (some 34) Tryz.func14 #[.agg #[.int .i64 t640, .int .i64 t641, .slice Ao44 t642.length co44, .slice Ao45 t645.length co45], .int .i64 1] ?_; (with_reducible refine (laws_markBand.calls k t640 t641 (fun k_ => (w.heap.size ≤ k_ ∧ ∃ q_, q_ ∈ 54 :: (Kd.slice 3 (Kd.int .i64)).E ∧ ∃ c_, w53.heap[k_]? = some (.cells c_ q_ (0, 0))) ∧ b644 ≤ k_ ∧ k_ < b651 ∧ k_ < b657 ∧ k_ < b660 ∧ True) (.slice Ao44 t642.length co44) t642 (fun k_ => (w.heap.size ≤ k_ ∧ ∃ q_, q_ ∈ 49 :: k49.E ∧ ∃ c_, w53.heap[k_]? = some (.cells c_ q_ (0, 0))) ∧ b647 ≤ k_ ∧ k_ < b651 ∧ k_ < b657 ∧ k_ < b660 ∧ True) (.slice Ao45 t645.length co45) t645 1 t662 t663 t664 w _ ?side1 ?side2 ?side3 A16.out).mono ?_); (case side1 => repeat (first | (with_reducible first | exact HB.out | apply below_alloc | apply pw_below_drewN | apply below_drew1 | refine below_set ?_ GE627.out | refine below_set ?_ GE648.out) | exact HB.out)); (case side2 => (with_reducible repeat (first | apply Kd.S_alloc | apply Kd.S_drewN | apply Kd.S_drew)); exact Kd.S_lower (Kd.S_mono (Kd.S_bound HO644.out) (fun k_ h_ => ⟨⟨Nat.le_trans HL644.out h_.2.1, h_.2.2.2⟩, h_.2.1, h_.1.1.1.2, h_.1.1.2, h_.1.2, trivial⟩)) HL644.out); (case side3 => (with_reducible repeat (first | apply Kd.S_alloc | apply Kd.S_drewN | apply Kd.S_drew)); exact Kd.S_lower (Kd.S_mono (Kd.S_bound HO647.out) (fun k_ h_ => ⟨⟨Nat.le_trans HL647.out h_.2.1, h_.2.2.2⟩, h_.2.1, h_.1.1.1.2, h_.1.1.2, h_.1.2, trivial⟩)) HL647.out); rintro e w55 ⟨rfl, hy0, hy1, hb, hkp⟩; refine ⟨_, rfl, ?_⟩; replace BK627 := Aside0.mk (blk_kept (g := gb627) kS hkp (fun hs_ => Or.elim hs_ (fun e_ => (fun e_ => typed_one (by exact BK627.out) e_.1.2 (by decide)) e_) (fun e_ => (fun e_ => typed_one (by exact BK627.out) e_.1.2 (by decide)) e_))); replace HO633 := Aside0.mk (Kd.S_mono (ok' := fun k_ => k_ < b639 ∧ k_ < b644 ∧ k_ < b647 ∧ k_ < b651 ∧ k_ < b657 ∧ k_ < b660) (Kd.S_keptB ((S_not (fun k_ => (w.heap.size ≤ k_ ∧ ∃ q_, q_ ∈ 49 :: k49.E ∧ ∃ c_, w53.heap[k_]? = some (.cells c_ q_ (0, 0))) ∧ b647 ≤ k_ ∧ k_ < b651 ∧ k_ < b657 ∧ k_ < b660 ∧ True) (S_not (fun k_ => (w.heap.size ≤ k_ ∧ ∃ q_, q_ ∈ 54 :: (Kd.slice 3 (Kd.int .i64)).E ∧ ∃ c_, w53.heap[k_]? = some (.cells c_ q_ (0, 0))) ∧ b644 ≤ k_ ∧ k_ < b651 ∧ k_ < b657 ∧ k_ < b660 ∧ True) HO633.out (fun k_ h_ e_ => Nat.not_le.2 (h_.1.1.1.1.1.2) e_.2.1)) (fun k_ h_ e_ => Nat.not_le.2 (h_.1.1.1.1.1.2) e_.2.1))) hkp (fun k_ hk_ hs_ => Or.elim hs_ (fun e_ => (hk_.1.2) e_) (fun e_ => (hk_.2) e_))) (fun k_ hk_ => ⟨hk_.1.1.1.1.1.1.1.1.2, hk_.1.1.1.1.1.1.1.2, hk_.1.1.1.1.1.1.2, hk_.1.1.1.1.1.2, hk_.1.1.1.1.2, hk_.1.1.1.2⟩)); replace HO636 := Aside0.mk (Kd.S_mono (ok' := fun k_ => k_ < b639 ∧ k_ < b644 ∧ k_ < b647 ∧ k_ < b651 ∧ k_ < b657 ∧ k_ < b660) (Kd.S_keptB ((S_not (fun k_ => (w.heap.size ≤ k_ ∧ ∃ q_, q_ ∈ 49 :: k49.E ∧ ∃ c_, w53.heap[k_]? = some (.cells c_ q_ (0, 0))) ∧ b647 ≤ k_ ∧ k_ < b651 ∧ k_ < b657 ∧ k_ < b660 ∧ True) (S_not (fun k_ => (w.heap.size ≤ k_ ∧ ∃ q_, q_ ∈ 54 :: (Kd.slice 3 (Kd.int .i64)).E ∧ ∃ c_, w53.heap[k_]? = some (.cells c_ q_ (0, 0))) ∧ b644 ≤ k_ ∧ k_ < b651 ∧ k_ < b657 ∧ k_ < b660 ∧ True) HO636.out (fun k_ h_ e_ => Nat.not_le.2 (h_.1.1.1.1.1.2) e_.2.1)) (fun k_ h_ e_ => Nat.not_le.2 (h_.1.1.1.1.1.2) e_.2.1))) hkp (fun k_ hk_ hs_ => Or.elim hs_ (fun e_ => (hk_.1.2) e_) (fun e_ => (hk_.2) e_))) (fun k_ hk_ => ⟨hk_.1.1.1.1.1.1.1.1.2, hk_.1.1.1.1.1.1.1.2, hk_.1.1.1.1.1.1.2, hk_.1.1.1.1.1.2, hk_.1.1.1.1.2, hk_.1.1.1.2⟩)); replace HO639 := Aside0.mk (Kd.S_mono (ok' := fun k_ => k_ < b644 ∧ k_ < b647 ∧ k_ < b651 ∧ k_ < b657 ∧ k_ < b660) (Kd.S_keptB ((S_not (fun k_ => (w.heap.size ≤ k_ ∧ ∃ q_, q_ ∈ 49 :: k49.E ∧ ∃ c_, w53.heap[k_]? = some (.cells c_ q_ (0, 0))) ∧ b647 ≤ k_ ∧ k_ < b651 ∧ k_ < b657 ∧ k_ < b660 ∧ True) (S_not (fun k_ => (w.heap.size ≤ k_ ∧ ∃ q_, q_ ∈ 54 :: (Kd.slice 3 (Kd.int .i64)).E ∧ ∃ c_, w53.heap[k_]? = some (.cells c_ q_ (0, 0))) ∧ b644 ≤ k_ ∧ k_ < b651 ∧ k_ < b657 ∧ k_ < b660 ∧ True) HO639.out (fun k_ h_ e_ => Nat.not_le.2 (h_.1.1.1.1.1.2) e_.2.1)) (fun k_ h_ e_ => Nat.not_le.2 (h_.1.1.1.1.1.2) e_.2.1))) hkp (fun k_ hk_ hs_ => Or.elim hs_ (fun e_ => (hk_.1.2) e_) (fun e_ => (hk_.2) e_))) (fun k_ hk_ => ⟨hk_.1.1.1.1.1.1.1.2, hk_.1.1.1.1.1.1.2, hk_.1.1.1.1.1.2, hk_.1.1.1.1.2, hk_.1.1.1.2⟩)); replace HO644 := Aside0.mk (Kd.S_mono (ok' := fun _ => True) hy0 (fun _ _ => trivial)); replace HO647 := Aside0.mk (Kd.S_mono (ok' := fun _ => True) hy1 (fun _ _ => trivial)); replace BK648 := Aside0.mk (blk_kept (g := gb648) kS hkp (fun hs_ => Or.elim hs_ (fun e_ => (fun e_ => typed_one (by exact BK648.out) e_.1.2 (by decide)) e_) (fun e_ => (fun e_ => typed_one (by exact BK648.out) e_.1.2 (by decide)) e_))); replace HO651 := Aside0.mk (Kd.S_mono (ok' := fun k_ => k_ < b657 ∧ k_ < b660) (Kd.S_keptB ((S_not (fun k_ => (w.heap.size ≤ k_ ∧ ∃ q_, q_ ∈ 49 :: k49.E ∧ ∃ c_, w53.heap[k_]? = some (.cells c_ q_ (0, 0))) ∧ b647 ≤ k_ ∧ k_ < b651 ∧ k_ < b657 ∧ k_ < b660 ∧ True) (S_not (fun k_ => (w.heap.size ≤ k_ ∧ ∃ q_, q_ ∈ 54 :: (Kd.slice 3 (Kd.int .i64)).E ∧ ∃ c_, w53.heap[k_]? = some (.cells c_ q_ (0, 0))) ∧ b644 ≤ k_ ∧ k_ < b651 ∧ k_ < b657 ∧ k_ < b660 ∧ True) HO651.out (fun k_ h_ e_ => Nat.not_lt.2 h_.2.1 (e_.2.2.1))) (fun k_ h_ e_ => Nat.not_lt.2 h_.2.1 (e_.2.2.1)))) hkp (fun k_ hk_ hs_ => Or.elim hs_ (fun e_ => (hk_.1.2) e_) (fun e_ => (hk_.2) e_))) (fun k_ hk_ => ⟨hk_.1.1.1.1.2, hk_.1.1.1.2⟩)); replace HO657 := Aside0.mk (Kd.S_mono (ok' := fun k_ => True) (Kd.S_keptB ((S_not (fun k_ => (w.heap.size ≤ k_ ∧ ∃ q_, q_ ∈ 49 :: k49.E ∧ ∃ c_, w53.heap[k_]? = some (.cells c_ q_ (0, 0))) ∧ b647 ≤ k_ ∧ k_ < b651 ∧ k_ < b657 ∧ k_ < b660 ∧ True) (S_not (fun k_ => (w.heap.size ≤ k_ ∧ ∃ q_, q_ ∈ 54 :: (Kd.slice 3 (Kd.int .i64)).E ∧ ∃ c_, w53.heap[k_]? = some (.cells c_ q_ (0, 0))) ∧ b644 ≤ k_ ∧ k_ < b651 ∧ k_ < b657 ∧ k_ < b660 ∧ True) HO657.out (fun k_ h_ e_ => Nat.not_lt.2 h_.2.1 (e_.2.2.2.1))) (fun k_ h_ e_ => Nat.not_lt.2 h_.2.1 (e_.2.2.2.1)))) hkp (fun k_ hk_ hs_ => Or.elim hs_ (fun e_ => (hk_.1.2) e_) (fun e_ => (hk_.2) e_))) (fun k_ hk_ => trivial)); replace HO660 := Aside0.mk (Kd.S_mono (ok' := fun k_ => True) (Kd.S_keptB ((S_not (fun k_ => (w.heap.size ≤ k_ ∧ ∃ q_, q_ ∈ 49 :: k49.E ∧ ∃ c_, w53.heap[k_]? = some (.cells c_ q_ (0, 0))) ∧ b647 ≤ k_ ∧ k_ < b651 ∧ k_ < b657 ∧ k_ < b660 ∧ True) (S_not (fun k_ => (w.heap.size ≤ k_ ∧ ∃ q_, q_ ∈ 54 :: (Kd.slice 3 (Kd.int .i64)).E ∧ ∃ c_, w53.heap[k_]? = some (.cells c_ q_ (0, 0))) ∧ b644 ≤ k_ ∧ k_ < b651 ∧ k_ < b657 ∧ k_ < b660 ∧ True) HO660.out (fun k_ h_ e_ => Nat.not_lt.2 h_.2.1 (e_.2.2.2.2.1))) (fun k_ h_ e_ => Nat.not_lt.2 h_.2.1 (e_.2.2.2.2.1)))) hkp (fun k_ hk_ hs_ => Or.elim hs_ (fun e_ => (hk_.1.2) e_) (fun e_ => (hk_.2) e_))) (fun k_ hk_ => trivial)); replace HB := Aside0.mk (hb); (try clear hb); (try clear hkp); (try clear hy0); (try clear hy1)) | (go_at_call 12; (with_reducible refine (laws_eqIntSS.calls k _ _ t649 _ _ t637 _ _ ?side1 ?side2 ?side3 ?side4 A18.out).mono ?_); (case side1 => exact cS (Kd.S_reads' HO651.out).2.2); (case side2 => exact (Kd.S_reads' HO651.out).2.1); (case side3 => exact cS (Kd.S_reads' HO639.out).2.2); (case side4 => exact (Kd.S_reads' HO639.out).2.1); rintro e w' ⟨rfl, ⟨nd, rfl⟩⟩) | ((with_reducible refine gC 15 ?_); refine cL (some 45) Tryz.func15 #[.slice Ao47 t649.length co47, .int .i64 1] ?_; (with_reducible refine (laws_markIntSS.calls k (fun k_ => (w.heap.size ≤ k_ ∧ ∃ q_, q_ ∈ 54 :: (Kd.slice 3 (Kd.int .i64)).E ∧ ∃ c_, w55.heap[k_]? = some (.cells c_ q_ (0, 0))) ∧ b651 ≤ k_ ∧ k_ < b657 ∧ k_ < b660 ∧ True) (.slice Ao47 t649.length co47) t649 1 t666 t667 w _ ?side1 ?side2 A20.out).mono ?_); (case side1 => repeat (first | (with_reducible first | exact HB.out | apply below_alloc | apply pw_below_drewN | apply below_drew1 | refine below_set ?_ GE627.out | refine below_set ?_ GE648.out) | exact HB.out)); (case side2 => (with_reducible repeat (first | apply Kd.S_alloc | apply Kd.S_drewN | apply Kd.S_drew)); exact Kd.S_lower (Kd.S_mono (Kd.S_bound HO651.out) (fun k_ h_ => ⟨⟨Nat.le_trans HL651.out h_.2.1, h_.2.2.2⟩, h_.2.1, h_.1.1, h_.1.2, trivial⟩)) HL651.out); rintro e w56 ⟨rfl, hy0, hb, hkp⟩; refine ⟨_, rfl, ?_⟩; replace BK627 := Aside0.mk (blk_kept (g := gb627) kS hkp (fun hs_ => (fun e_ => typed_one (by exact BK627.out) e_.1.2 (by decide)) hs_)); replace HO633 := Aside0.mk (Kd.S_mono (ok' := fun k_ => k_ < b639 ∧ k_ < b644 ∧ k_ < b647 ∧ k_ < b651 ∧ k_ < b657 ∧ k_ < b660) (Kd.S_keptB ((S_not (fun k_ => (w.heap.size ≤ k_ ∧ ∃ q_, q_ ∈ 54 :: (Kd.slice 3 (Kd.int .i64)).E ∧ ∃ c_, w55.heap[k_]? = some (.cells c_ q_ (0, 0))) ∧ b651 ≤ k_ ∧ k_ < b657 ∧ k_ < b660 ∧ True) HO633.out (fun k_ h_ e_ => Nat.not_le.2 (h_.1.2.2.2.1) e_.2.1))) hkp (fun k_ hk_ hs_ => (hk_.2) hs_)) (fun k_ hk_ => ⟨hk_.1.1.1, hk_.1.1.2.1, hk_.1.1.2.2.1, hk_.1.1.2.2.2.1, hk_.1.1.2.2.2.2.1, hk_.1.1.2.2.2.2.2⟩)); replace HO636 := Aside0.mk (Kd.S_mono (ok' := fun k_ => k_ < b639 ∧ k_ < b644 ∧ k_ < b647 ∧ k_ < b651 ∧ k_ < b657 ∧ k_ < b660) (Kd.S_keptB ((S_not (fun k_ => (w.heap.size ≤ k_ ∧ ∃ q_, q_ ∈ 54 :: (Kd.slice 3 (Kd.int .i64)).E ∧ ∃ c_, w55.heap[k_]? = some (.cells c_ q_ (0, 0))) ∧ b651 ≤ k_ ∧ k_ < b657 ∧ k_ < b660 ∧ True) HO636.out (fun k_ h_ e_ => Nat.not_le.2 (h_.1.2.2.2.1) e_.2.1))) hkp (fun k_ hk_ hs_ => (hk_.2) hs_)) (fun k_ hk_ => ⟨hk_.1.1.1, hk_.1.1.2.1, hk_.1.1.2.2.1, hk_.1.1.2.2.2.1, hk_.1.1.2.2.2.2.1, hk_.1.1.2.2.2.2.2⟩)); replace HO639 := Aside0.mk (Kd.S_mono (ok' := fun k_ => k_ < b644 ∧ k_ < b647 ∧ k_ < b651 ∧ k_ < b657 ∧ k_ < b660) (Kd.S_keptB ((S_not (fun k_ => (w.heap.size ≤ k_ ∧ ∃ q_, q_ ∈ 54 :: (Kd.slice 3 (Kd.int .i64)).E ∧ ∃ c_, w55.heap[k_]? = some (.cells c_ q_ (0, 0))) ∧ b651 ≤ k_ ∧ k_ < b657 ∧ k_ < b660 ∧ True) HO639.out (fun k_ h_ e_ => Nat.not_le.2 (h_.1.2.2.1) e_.2.1))) hkp (fun k_ hk_ hs_ => (hk_.2) hs_)) (fun k_ hk_ => ⟨hk_.1.1.1, hk_.1.1.2.1, hk_.1.1.2.2.1, hk_.1.1.2.2.2.1, hk_.1.1.2.2.2.2⟩)); replace BK648 := Aside0.mk (blk_kept (g := gb648) kS hkp (fun hs_ => (fun e_ => typed_one (by exact BK648.out) e_.1.2 (by decide)) hs_)); replace HO651 := Aside0.mk (Kd.S_mono (ok' := fun _ => True) hy0 (fun _ _ => trivial)); replace HO657 := Aside0.mk (Kd.S_mono (ok' := fun k_ => True) (Kd.S_keptB ((S_not (fun k_ => (w.heap.size ≤ k_ ∧ ∃ q_, q_ ∈ 54 :: (Kd.slice 3 (Kd.int .i64)).E ∧ ∃ c_, w55.heap[k_]? = some (.cells c_ q_ (0, 0))) ∧ b651 ≤ k_ ∧ k_ < b657 ∧ k_ < b660 ∧ True) HO657.out (fun k_ h_ e_ => Nat.not_lt.2 h_.2.1 (e_.2.2.1)))) hkp (fun k_ hk_ hs_ => (hk_.2) hs_)) (fun k_ hk_ => trivial)); replace HO660 := Aside0.mk (Kd.S_mono (ok' := fun k_ => True) (Kd.S_keptB ((S_not (fun k_ => (w.heap.size ≤ k_ ∧ ∃ q_, q_ ∈ 54 :: (Kd.slice 3 (Kd.int .i64)).E ∧ ∃ c_, w55.heap[k_]? = some (.cells c_ q_ (0, 0))) ∧ b651 ≤ k_ ∧ k_ < b657 ∧ k_ < b660 ∧ True) HO660.out (fun k_ h_ e_ => Nat.not_lt.2 h_.2.1 (e_.2.2.2.1)))) hkp (fun k_ hk_ hs_ => (hk_.2) hs_)) (fun k_ hk_ => trivial)); replace HB := Aside0.mk (hb); clear HO644 HO647; (try clear hb); (try clear hkp); (try clear hy0)) | ((with_reducible refine gC 16 ?_); refine goesL_ (some 48) rfl rfl Tryz.func16 (by kernel_rfl) rfl #[.slice Ao47 t667.length co47, .int .i64 1] rfl (by (try simp only [List.map_toArray, List.map_cons, List.map_nil]); first | done | (rw [show t667.length = t649.length from (Kd.S_reads' HO651.out).1.symm] <;> rfl) | rfl | (simp only [List.length_drop, List.length_take]; rfl)) ?_; (with_reducible refine (laws_heldIntSS.calls k _ _ t667 1 t668 _ ?side1 ?side2 A21.out).mono ?_); (case side1 => exact cS (Kd.S_reads' HO651.out).2.2); (case side2 => rw [show t667.length = t649.length from (Kd.S_reads' HO651.out).1.symm]; exact (Kd.S_reads' HO651.out).2.1); rintro e w' ⟨rfl, ⟨nd, rfl⟩⟩; refine ⟨_, rfl, ?_⟩; have hz57 := cz4 BK627) | ((with_reducible refine gC 10 ?_); refine cL (some 55) Tryz.func10 #[.agg #[.int .i64 a0_0, .int .i64 a0_1, .slice A0_2 l0_2.length c0_2, .slice A0_3 l0_3.length c0_3]] ?_; (with_reducible refine (laws_toBand.calls k a0_0 a0_1 _ _ l0_2 _ _ l0_3 t669 t670 t671 t674 _ ?side1 ?side2 ?side3 ?side4 A24.out).mono ?_); (case side1 => exact cS (Kd.C_below HR0_2.out bS)); (case side2 => exact HC0_2.out); (case side3 => exact cS (Kd.C_below HR0_3.out bS)); (case side4 => exact HC0_3.out); rintro e w58 ⟨v672, v675, rfl, ho0, ho1, hb⟩; refine ⟨_, rfl, ?_⟩; obtain ⟨b673, HZ673, hz673⟩ := S_born ho0; have HL673 := Aside0.mk (show w.heap.size ≤ b673 from by rw [HZ673.out]; exact (below_size bS)); obtain ⟨b676, HZ676, hz676⟩ := S_born ho1; have HL676 := Aside0.mk (show w.heap.size ≤ b676 from by rw [HZ676.out]; exact (below_size bS)); have HO673 := Aside0.mk (hz673); have HO676 := Aside0.mk (hz676); replace HO633 := Aside0.mk (S_ltB (S_oldB (by (with_reducible repeat (first | apply Kd.S_alloc | apply Kd.S_drewN | apply Kd.S_drew)); exact HO633.out) hb HZ673.out) HZ673.out HZ676.out); replace HO636 := Aside0.mk (S_ltB (S_oldB (by (with_reducible repeat (first | apply Kd.S_alloc | apply Kd.S_drewN | apply Kd.S_drew)); exact HO636.out) hb HZ673.out) HZ673.out HZ676.out); replace HO639 := Aside0.mk (S_ltB (S_oldB (by (with_reducible repeat (first | apply Kd.S_alloc | apply Kd.S_drewN | apply Kd.S_drew)); exact HO639.out) hb HZ673.out) HZ673.out HZ676.out); replace HO651 := Aside0.mk (S_ltB (S_oldB (by (with_reducible repeat (first | apply Kd.S_alloc | apply Kd.S_drewN | apply Kd.S_drew)); exact HO651.out) hb HZ673.out) HZ673.out HZ676.out); replace HO657 := Aside0.mk (S_ltB (S_oldB (by (with_reducible repeat (first | apply Kd.S_alloc | apply Kd.S_drewN | apply Kd.S_drew)); exact HO657.out) hb HZ673.out) HZ673.out HZ676.out); replace HO660 := Aside0.mk (S_ltB (S_oldB (by (with_reducible repeat (first | apply Kd.S_alloc | apply Kd.S_drewN | apply Kd.S_drew)); exact HO660.out) hb HZ673.out) HZ673.out HZ676.out); replace BK627 := kB (g := gb627) hb; replace BK648 := kB (g := gb648) hb; replace HB := hB hb; (try clear hb); (try clear hb2); (try clear hk); (try clear hi); (try clear ho0); (try clear ho1); obtain ⟨Ao59, co59, eo59⟩ := Kd.S_slice HO673.out; subst eo59; obtain ⟨Ao60, co60, eo60⟩ := Kd.S_slice HO676.out; subst eo60) | ((with_reducible refine gC 11 ?_); refine cL (some 56) Tryz.func11 #[.agg #[.int .i64 t669, .int .i64 t670, .slice Ao59 t671.length co59, .slice Ao60 t674.length co60]] ?_; (with_reducible refine (impl_RowsOfBand.calls k t669 t670 _ _ t671 _ _ t674 t677 _ ?side1 ?side2 ?side3 ?side4 A25.out).mono ?_); (case side1 => exact cS (Kd.S_reads' HO673.out).2.2); (case side2 => exact (Kd.S_reads' HO673.out).2.1); (case side3 => exact cS (Kd.S_reads' HO676.out).2.2); (case side4 => exact (Kd.S_reads' HO676.out).2.1); rintro e w61 ⟨v678, rfl, ho0, hb⟩; refine ⟨_, rfl, ?_⟩; obtain ⟨b679, HZ679, hz679⟩ := S_born ho0; have HL679 := Aside0.mk (show w.heap.size ≤ b679 from by rw [HZ679.out]; exact (below_size bS)); have HO679 := Aside0.mk (hz679); replace HO633 := Aside0.mk (S_oldB (by (with_reducible repeat (first | apply Kd.S_alloc | apply Kd.S_drewN | apply Kd.S_drew)); exact HO633.out) hb HZ679.out); replace HO636 := Aside0.mk (S_oldB (by (with_reducible repeat (first | apply Kd.S_alloc | apply Kd.S_drewN | apply Kd.S_drew)); exact HO636.out) hb HZ679.out); replace HO639 := Aside0.mk (S_oldB (by (with_reducible repeat (first | apply Kd.S_alloc | apply Kd.S_drewN | apply Kd.S_drew)); exact HO639.out) hb HZ679.out); replace HO651 := Aside0.mk (S_oldB (by (with_reducible repeat (first | apply Kd.S_alloc | apply Kd.S_drewN | apply Kd.S_drew)); exact HO651.out) hb HZ679.out); replace HO657 := Aside0.mk (S_oldB (by (with_reducible repeat (first | apply Kd.S_alloc | apply Kd.S_drewN | apply Kd.S_drew)); exact HO657.out) hb HZ679.out); replace HO660 := Aside0.mk (S_oldB (by (with_reducible repeat (first | apply Kd.S_alloc | apply Kd.S_drewN | apply Kd.S_drew)); exact HO660.out) hb HZ679.out); replace HO673 := Aside0.mk (S_oldB (by (with_reducible repeat (first | apply Kd.S_alloc | apply Kd.S_drewN | apply Kd.S_drew)); exact HO673.out) hb HZ679.out); replace HO676 := Aside0.mk (S_oldB (by (with_reducible repeat (first | apply Kd.S_alloc | apply Kd.S_drewN | apply Kd.S_drew)); exact HO676.out) hb HZ679.out); replace BK627 := kB (g := gb627) hb; replace BK648 := kB (g := gb648) hb; replace HB := hB hb; (try clear hb); (try clear hb2); (try clear hk); (try clear hi); (try clear ho0); obtain ⟨Ao62, co62, eo62⟩ := Kd.S_slice HO679.out; subst eo62) | ((with_reducible refine gC 12 ?_); refine cL (some 59) Tryz.func12 #[.slice Ao62 t677.length co62, .slice Ao48 t637.length co48] ?_; (with_reducible refine (laws_eqIntSS.calls k _ _ t677 _ _ t637 _ _ ?side1 ?side2 ?side3 ?side4 A26.out).mono ?_); (case side1 => exact cS (Kd.S_reads' HO679.out).2.2); (case side2 => exact (Kd.S_reads' HO679.out).2.1); (case side3 => exact cS (Kd.S_reads' HO639.out).2.2); (case side4 => exact (Kd.S_reads' HO639.out).2.1); rintro e w' ⟨rfl, ⟨nd, rfl⟩⟩; refine ⟨_, rfl, ?_⟩) | ((with_reducible refine gC 16 ?_); refine goesL_ (some 63) rfl rfl Tryz.func16 (by kernel_rfl) rfl #[.slice Ao47 t667.length co47, .int .i64 1] rfl (by (try simp only [List.map_toArray, List.map_cons, List.map_nil]); first | done | (rw [show t667.length = t649.length from (Kd.S_reads' HO651.out).1.symm] <;> rfl) | rfl | (simp only [List.length_drop, List.length_take]; rfl)) ?_; (with_reducible refine (laws_heldIntSS.calls k _ _ t667 1 t681 _ ?side1 ?side2 A28.out).mono ?_); (case side1 => exact cS (Kd.S_reads' HO651.out).2.2); (case side2 => rw [show t667.length = t649.length from (Kd.S_reads' HO651.out).1.symm]; exact (Kd.S_reads' HO651.out).2.1); rintro e w' ⟨rfl, ⟨nd, rfl⟩⟩; refine ⟨_, rfl, ?_⟩))
           go_ret
           exact ⟨eS, bS⟩
          ·rw [if_neg c30] at H; exact absurd ((Option.some.inj H).trans hT) (by decide)
        ·obtain rfl := Bool.eq_false_iff.mpr c27
         rw [if_neg nF] at H
         exact absurd ((Option.some.inj H).trans hT) (by decide)
       ·rw [if_neg c23] at H; exact absurd ((Option.some.inj H).trans hT) (by decide)
     ·obtain rfl := Bool.eq_false_iff.mpr c19
      rw [if_neg nF] at H
      exact absurd ((Option.some.inj H).trans hT) (by decide)
   ·obtain rfl := Bool.eq_false_iff.mpr c15
    rw [if_neg nF] at H
    exact absurd ((Option.some.inj H).trans hT) (by decide)
  ·obtain rfl := Bool.eq_false_iff.mpr c12
   rw [if_neg nF] at H
   exact absurd ((Option.some.inj H).trans hT) (by decide)

end Go.Proofs.YtncfipboidmfbaaGreat.QFnExactRowsOfBand
