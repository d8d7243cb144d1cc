-- Made out of the translation by a program of this session (a changed copy of the print). Not trusted: Lean checks it.
import Derived.Test.YtimpejidlnjhlaaQFnExactPageOkx0
namespace Go.Proofs.Ytimpejidlnjhlaa.QFnExactPageOk
open Go.RowKit Go.Proofs.YtimpejidlnjhlaaW.PrintWords Go.Proofs.YtimpejidlnjhlaaW.PrintLast Go.Proofs.YtimpejidlnjhlaaW.PrintMore
attribute [local go_sem] max2_int min2_int max_two min_two max_three min_three max_four min_four   -- for this text's walks alone
set_option linter.unusedVariables false
set_option linter.unusedSimpArgs false
set_option maxHeartbeats 8000000
set_option maxRecDepth 100000

/-! ### laws_szPointS: function 122 -/
def laws_szPointS.f (l0 : List (S180)) (a1 : Int) : Option (Int) := if (wrap64 (a1 - (l0.length : Int))) < 0 then (some (-1)) else (some (wrap64 (a1 - (l0.length : Int))))
theorem laws_szPointS.calls (A0 : Option Addr) (c0 : Nat) (l0 : List (S180)) (a1 : Int) (r : Int) (w : World) (hr0 : Kd.C k180 w A0 l0.length l0) (hc0 : l0.length ≤ c0) (h : laws_szPointS.f l0 a1 = some r) :
  Calls Try.prog 122 #[.slice A0 l0.length c0, .int .i64 a1] w fun e w' => e = .returned (.int .i64 r) ∧ Drawn0 w w' := by
 have HR0 := Aside0.mk hr0
 have HC0 := Aside0.mk hc0
 clear hr0 hc0
 have H : (if (wrap64 (a1 - (l0.length : Int))) < 0 then (some (-1)) else (some (wrap64 (a1 - (l0.length : Int))))) = some r := h
 clear h
 rcases iD H with ⟨c3b0, H⟩ | ⟨c3b0, H⟩
 ·obtain rfl := Option.some.inj H
  go_enter Try.func122, Try.ntmps122
  go_wp2
  go_ret
  exact ⟨fS, dS⟩
 ·obtain rfl := Option.some.inj H
  go_enter Try.func122, Try.ntmps122
  go_wp2
  go_ret
  exact ⟨fS, dS⟩

/-! ### laws_szObject: function 70 -/
def laws_szObject.f (l0_0 : List (S180)) (a0_1 : Int) (a0_2 : Int) (a0_3 : Int) (a0_4 : Int) (a0_5 : Int) (a1 : Int) : Option (Int) := (laws_szPointS.f l0_0 a1).bind fun t102 => (if t102 < 0 then (some (-1)) else (some t102))
theorem laws_szObject.lf0 {p : Prop} (h : p := by
 go_enter Try.func70, Try.ntmps70
 go_wp2_with (first | ((with_reducible refine gD 2 ?_); refine bxE #[.slice A0_0 l0_0.length c0_0, .int .i64 a0_1, .int .i64 a0_2, .int .i64 a0_3, .int .i64 a0_4, .int .i64 a0_5] 91 ?_; intro gb101 hg w5 BK101 hb; have GW101 := gE hg; have GE101 := gE hg; replace HB := hB hb; clear hb hg; have hz6 := cz6 BK101) | ((with_reducible refine gC 122 ?_); refine cL (some 8) Try.func122 #[.slice A0_0 l0_0.length c0_0, .int .i64 a1] ?_; (with_reducible refine (laws_szPointS.calls _ _ l0_0 a1 t102 _ (cS (Kd.C_below HR0_0.out HB.out)) HC0_0.out A3.out).mono ?_); rintro e w' ⟨rfl, ⟨nd, rfl⟩⟩; refine ⟨_, rfl, ?_⟩))
 go_ret
 exact ⟨eS, bS⟩) : p := h
theorem laws_szObject.calls (A0_0 : Option Addr) (c0_0 : Nat) (l0_0 : List (S180)) (a0_1 : Int) (a0_2 : Int) (a0_3 : Int) (a0_4 : Int) (a0_5 : Int) (a1 : Int) (r : Int) (w : World) (hr0_0 : Kd.C k180 w A0_0 l0_0.length l0_0) (hc0_0 : l0_0.length ≤ c0_0) (h : laws_szObject.f l0_0 a0_1 a0_2 a0_3 a0_4 a0_5 a1 = some r) :
  Calls Try.prog 70 #[.agg #[.slice A0_0 l0_0.length c0_0, .int .i64 a0_1, .int .i64 a0_2, .int .i64 a0_3, .int .i64 a0_4, .int .i64 a0_5], .int .i64 a1] w fun e w' => e = .returned (.int .i64 r) ∧ Below w.heap.size w w' := by
 have hu91 := Try.underlying91
 have HR0_0 := Aside0.mk hr0_0
 have HC0_0 := Aside0.mk hc0_0
 clear hr0_0 hc0_0
 have HB := Aside0.mk (Below.refl w.heap.size w)
 have H : ((laws_szPointS.f l0_0 a1).bind fun t102 => (if t102 < 0 then (some (-1)) else (some t102))) = some r := h
 clear h
 replace H := bN H
 obtain ⟨t102, A3, H⟩ := H
 rcases iD H with ⟨c4b0, H⟩ | ⟨c4b0, H⟩
 ·obtain rfl := Option.some.inj H
  exact laws_szObject.lf0
 ·obtain rfl := Option.some.inj H
  exact laws_szObject.lf0

/-! ### laws_szObjectS: function 36 -/
def laws_szObjectS.l0 : Nat → List (S91) → Int → Int → Option (Int)
 | 0, _, _, _ => none
 | k + 1, x0, x1, x5 => if x5 < (x0.length : Int) then (if 0 ≤ x5 then ((laws_szObject.f ((rd_T91 x0 x5).f0) ((rd_T91 x0 x5).f1) ((rd_T91 x0 x5).f2.f0) ((rd_T91 x0 x5).f2.f1) ((rd_T91 x0 x5).f2.f2) ((rd_T91 x0 x5).f2.f3) x1).bind fun t104 => (if t104 < 0 then (some (-1)) else (laws_szObjectS.l0 k x0 t104 (wrap64 (x5 + 1))))) else (none)) else (some x1)
def laws_szObjectS.f (k : Nat) (l0 : List (S91)) (a1 : Int) : Option (Int) := if (wrap64 (a1 - (l0.length : Int))) < 0 then (some (-1)) else (laws_szObjectS.l0 k l0 (wrap64 (a1 - (l0.length : Int))) 0)
theorem laws_szObjectS.calls (k : Nat) (A0 : Option Addr) (c0 : Nat) (l0 : List (S91)) (a1 : Int) (r : Int) (w : World) (hr0 : Kd.C k91 w A0 l0.length l0) (hc0 : l0.length ≤ c0) (h : laws_szObjectS.f k l0 a1 = some r) :
  Calls Try.prog 36 #[.slice A0 l0.length c0, .int .i64 a1] w fun e w' => e = .returned (.int .i64 r) ∧ Below w.heap.size w w' := by
 have hu91 := Try.underlying91
 have HR0 := Aside0.mk hr0
 have HC0 := Aside0.mk hc0
 clear hr0 hc0
 have HB := Aside0.mk (Below.refl w.heap.size w)
 have H : (if (wrap64 (a1 - (l0.length : Int))) < 0 then (some (-1)) else (laws_szObjectS.l0 k l0 (wrap64 (a1 - (l0.length : Int))) 0)) = some r := h
 clear h
 by_cases c3 : (wrap64 (a1 - (l0.length : Int))) < 0
 ·rw [if_pos c3] at H
  have c3b0 : decide ((wrap64 (a1 - (l0.length : Int))) < 0) = true := decide_eq_true c3
  clear c3
  obtain rfl := Option.some.inj H
  go_enter Try.func36, Try.ntmps36
  go_wp2
  go_ret
  exact ⟨eS, bS⟩
 ·rw [if_neg c3] at H
  have c3b0 : decide ((wrap64 (a1 - (l0.length : Int))) < 0) = false := decide_eq_false c3
  clear c3
  have H' := Aside0.mk H
  clear H
  go_enter Try.func36, Try.ntmps36
  go_wp2
  go_loopg [1, 5] k (fun kq v1 v5 w' => ∃ (x1_1 : Int) (x5_1 : Int), v1 = .int .i64 x1_1 ∧ v5 = .int .i64 x5_1 ∧ Aside0 (laws_szObjectS.l0 kq l0 x1_1 x5_1 = some r) ∧ Aside0 (kq ≤ k) ∧ Aside0 (Below w.heap.size w w'))
  case atStart => exact ⟨(wrap64 (a1 - (l0.length : Int))), (0), fS, fS, H', ⟨Nat.le_refl _⟩, ⟨bS⟩⟩
  case round =>
   clear H'
   try clear p2
   try clear c3
   try clear c3b0
   obtain ⟨x1_1, x5_1, rfl, rfl, HA, HK1, HB⟩ := hrel
   cases gk with
   | zero => exact absurd HA.out (by simp [laws_szObjectS.l0])
   | succ k1 =>
    have H := HA.out
    clear HA
    simp only [laws_szObjectS.l0] at H
    rcases iD H with ⟨c4b0, H⟩ | ⟨c4b0, H⟩
    ·obtain ⟨c5b0, H⟩ := iT H
     replace H := bN H
     obtain ⟨t104, A6, H⟩ := H
     rcases iD H with ⟨c7b0, H⟩ | ⟨c7b0, H⟩
     ·obtain rfl := Option.some.inj H
      have p103 : 0 ≤ (x5_1 : Int) := dA
      have q103 : x5_1 < (l0.length : Int) := dA
      obtain ⟨ad103, A103_0, c103_0, e103, hx103_0, hx103_1, hx103_2, hx103_3, hx103_4, hx103_5, hl103_0, hi103_0⟩ := at_T91 HR0.out x5_1 p103 q103
      cases e103
      replace hx103_0 := cB HB hx103_0
      replace hx103_1 := cB HB hx103_1
      replace hx103_2 := cB HB hx103_2
      replace hx103_3 := cB HB hx103_3
      replace hx103_4 := cB HB hx103_4
      replace hx103_5 := cB HB hx103_5
      have HR103_0 := Aside0.mk hi103_0
      have HC103_0 := Aside0.mk hl103_0
      clear hi103_0 hl103_0
      replace p103 := eq_true p103
      replace q103 := eq_true q103
      go_wp2_with (first | ((with_reducible refine gC 70 ?_); refine cL (some 23) Try.func70 #[.agg #[.slice A103_0 ((rd_T91 l0 x5_1).f0).length c103_0, .int .i64 ((rd_T91 l0 x5_1).f1), .int .i64 ((rd_T91 l0 x5_1).f2.f0), .int .i64 ((rd_T91 l0 x5_1).f2.f1), .int .i64 ((rd_T91 l0 x5_1).f2.f2), .int .i64 ((rd_T91 l0 x5_1).f2.f3)], .int .i64 x1_1] ?_; (with_reducible refine (laws_szObject.calls _ _ ((rd_T91 l0 x5_1).f0) ((rd_T91 l0 x5_1).f1) ((rd_T91 l0 x5_1).f2.f0) ((rd_T91 l0 x5_1).f2.f1) ((rd_T91 l0 x5_1).f2.f2) ((rd_T91 l0 x5_1).f2.f3) x1_1 t104 _ (cS (Kd.C_below HR103_0.out HB.out)) HC103_0.out A6.out).mono ?_); rintro e w8 ⟨rfl, hb⟩; refine ⟨_, rfl, ?_⟩; replace HB := hB hb; (try clear hb); (try clear hb2); (try clear hk); (try clear hi)))
      go_ret
      exact ⟨eS, bS⟩
     ·have H' := Aside0.mk H
      clear H
      have p103 : 0 ≤ (x5_1 : Int) := dA
      have q103 : x5_1 < (l0.length : Int) := dA
      obtain ⟨ad103, A103_0, c103_0, e103, hx103_0, hx103_1, hx103_2, hx103_3, hx103_4, hx103_5, hl103_0, hi103_0⟩ := at_T91 HR0.out x5_1 p103 q103
      cases e103
      replace hx103_0 := cB HB hx103_0
      replace hx103_1 := cB HB hx103_1
      replace hx103_2 := cB HB hx103_2
      replace hx103_3 := cB HB hx103_3
      replace hx103_4 := cB HB hx103_4
      replace hx103_5 := cB HB hx103_5
      have HR103_0 := Aside0.mk hi103_0
      have HC103_0 := Aside0.mk hl103_0
      clear hi103_0 hl103_0
      replace p103 := eq_true p103
      replace q103 := eq_true q103
      go_wp2_with (first | ((with_reducible refine gC 70 ?_); refine cL (some 23) Try.func70 #[.agg #[.slice A103_0 ((rd_T91 l0 x5_1).f0).length c103_0, .int .i64 ((rd_T91 l0 x5_1).f1), .int .i64 ((rd_T91 l0 x5_1).f2.f0), .int .i64 ((rd_T91 l0 x5_1).f2.f1), .int .i64 ((rd_T91 l0 x5_1).f2.f2), .int .i64 ((rd_T91 l0 x5_1).f2.f3)], .int .i64 x1_1] ?_; (with_reducible refine (laws_szObject.calls _ _ ((rd_T91 l0 x5_1).f0) ((rd_T91 l0 x5_1).f1) ((rd_T91 l0 x5_1).f2.f0) ((rd_T91 l0 x5_1).f2.f1) ((rd_T91 l0 x5_1).f2.f2) ((rd_T91 l0 x5_1).f2.f3) x1_1 t104 _ (cS (Kd.C_below HR103_0.out HB.out)) HC103_0.out A6.out).mono ?_); rintro e w9 ⟨rfl, hb⟩; refine ⟨_, rfl, ?_⟩; replace HB := hB hb; (try clear hb); (try clear hb2); (try clear hk); (try clear hi)))
      go_roundg k1
      case measure => have := HK1.out; omega
      case rel => exact ⟨(t104), (wrap64 (x5_1 + 1)), fS, fS, H', ⟨by have := HK1.out; omega⟩, ⟨bS⟩⟩
    ·obtain rfl := Option.some.inj H
     go_wp2
     go_ret
     exact ⟨eS, bS⟩

/-! ### laws_szIntS: function 80 -/
def laws_szIntS.f (l0 : List Int) (a1 : Int) : Option (Int) := if (wrap64 (a1 - (l0.length : Int))) < 0 then (some (-1)) else (some (wrap64 (a1 - (l0.length : Int))))
theorem laws_szIntS.calls (A0 : Option Addr) (c0 : Nat) (l0 : List Int) (a1 : Int) (r : Int) (w : World) (hr0 : Kd.C (Kd.int .i64) w A0 l0.length l0) (hc0 : l0.length ≤ c0) (h : laws_szIntS.f l0 a1 = some r) :
  Calls Try.prog 80 #[.slice A0 l0.length c0, .int .i64 a1] w fun e w' => e = .returned (.int .i64 r) ∧ Drawn0 w w' := by
 have HR0 := Aside0.mk hr0
 have HC0 := Aside0.mk hc0
 clear hr0 hc0
 have H : (if (wrap64 (a1 - (l0.length : Int))) < 0 then (some (-1)) else (some (wrap64 (a1 - (l0.length : Int))))) = some r := h
 clear h
 rcases iD H with ⟨c3b0, H⟩ | ⟨c3b0, H⟩
 ·obtain rfl := Option.some.inj H
  go_enter Try.func80, Try.ntmps80
  go_wp2
  go_ret
  exact ⟨fS, dS⟩
 ·obtain rfl := Option.some.inj H
  go_enter Try.func80, Try.ntmps80
  go_wp2
  go_ret
  exact ⟨fS, dS⟩

/-! ### laws_szGraphics: function 129 -/
def laws_szGraphics.f (l0_0 : List Int) (a0_1 : Int) (a0_2 : Int) (a0_3 : Int) (a0_4 : Int) (l0_5 : List (S180)) (a0_6 : Int) (a0_7 : Int) (a0_8 : Int) (a0_9 : Int) (a0_10 : Int) (a1 : Int) : Option (Int) := (laws_szIntS.f l0_0 a1).bind fun t106 => (if t106 < 0 then (some (-1)) else ((laws_szPointS.f l0_5 t106).bind fun t107 => (if t107 < 0 then (some (-1)) else (some t107))))
theorem laws_szGraphics.lf0 {p : Prop} (h : p := by
 go_enter Try.func129, Try.ntmps129
 go_wp2_with (first | ((with_reducible refine gD 2 ?_); refine bxE #[.slice A0_0 l0_0.length c0_0, .int .i64 a0_1, .int .i64 a0_2, .int .i64 a0_3, .int .i64 a0_4, .slice A0_5 l0_5.length c0_5, .int .i64 a0_6, .int .i64 a0_7, .int .i64 a0_8, .int .i64 a0_9, .int .i64 a0_10] 99 ?_; intro gb105 hg w11 BK105 hb; have GW105 := gE hg; have GE105 := gE hg; replace HB := hB hb; clear hb hg; have hcz12_0 : w11.cell? ⟨gb105, 0, none⟩ = some (.slice A0_0 l0_0.length c0_0) := (blk_cell BK105.out 0).trans rfl; have hcz12_1 : w11.cell? ⟨gb105, 1, none⟩ = some (.int .i64 a0_1) := (blk_cell BK105.out 1).trans rfl; have hcz12_2 : w11.cell? ⟨gb105, 2, none⟩ = some (.int .i64 a0_2) := (blk_cell BK105.out 2).trans rfl; have hcz12_3 : w11.cell? ⟨gb105, 3, none⟩ = some (.int .i64 a0_3) := (blk_cell BK105.out 3).trans rfl; have hcz12_4 : w11.cell? ⟨gb105, 4, none⟩ = some (.int .i64 a0_4) := (blk_cell BK105.out 4).trans rfl; have hcz12_5 : w11.cell? ⟨gb105, 5, none⟩ = some (.slice A0_5 l0_5.length c0_5) := (blk_cell BK105.out 5).trans rfl; have hcz12_6 : w11.cell? ⟨gb105, 6, none⟩ = some (.int .i64 a0_6) := (blk_cell BK105.out 6).trans rfl; have hcz12_7 : w11.cell? ⟨gb105, 7, none⟩ = some (.int .i64 a0_7) := (blk_cell BK105.out 7).trans rfl; have hcz12_8 : w11.cell? ⟨gb105, 8, none⟩ = some (.int .i64 a0_8) := (blk_cell BK105.out 8).trans rfl; have hcz12_9 : w11.cell? ⟨gb105, 9, none⟩ = some (.int .i64 a0_9) := (blk_cell BK105.out 9).trans rfl; have hcz12_10 : w11.cell? ⟨gb105, 10, none⟩ = some (.int .i64 a0_10) := (blk_cell BK105.out 10).trans rfl; have hfz12_0 := blk_frozen BK105.out 0; have hfz12_1 := blk_frozen BK105.out 1; have hfz12_2 := blk_frozen BK105.out 2; have hfz12_3 := blk_frozen BK105.out 3; have hfz12_4 := blk_frozen BK105.out 4; have hfz12_5 := blk_frozen BK105.out 5; have hfz12_6 := blk_frozen BK105.out 6; have hfz12_7 := blk_frozen BK105.out 7; have hfz12_8 := blk_frozen BK105.out 8; have hfz12_9 := blk_frozen BK105.out 9; have hfz12_10 := blk_frozen BK105.out 10) | ((with_reducible refine gC 80 ?_); refine cL (some 8) Try.func80 #[.slice A0_0 l0_0.length c0_0, .int .i64 a1] ?_; (with_reducible refine (laws_szIntS.calls _ _ l0_0 a1 t106 _ (cS (Kd.C_below HR0_0.out HB.out)) HC0_0.out A3.out).mono ?_); rintro e w' ⟨rfl, ⟨nd, rfl⟩⟩; refine ⟨_, rfl, ?_⟩) | ((with_reducible refine gC 122 ?_); refine cL (some 14) Try.func122 #[.slice A0_5 l0_5.length c0_5, .int .i64 t106] ?_; (with_reducible refine (laws_szPointS.calls _ _ l0_5 t106 t107 _ (cS (Kd.C_below HR0_5.out bS)) HC0_5.out A7.out).mono ?_); rintro e w' ⟨rfl, ⟨nd, rfl⟩⟩; refine ⟨_, rfl, ?_⟩))
 go_ret
 exact ⟨eS, bS⟩) : p := h
theorem laws_szGraphics.calls (A0_0 : Option Addr) (c0_0 : Nat) (l0_0 : List Int) (a0_1 : Int) (a0_2 : Int) (a0_3 : Int) (a0_4 : Int) (A0_5 : Option Addr) (c0_5 : Nat) (l0_5 : List (S180)) (a0_6 : Int) (a0_7 : Int) (a0_8 : Int) (a0_9 : Int) (a0_10 : Int) (a1 : Int) (r : Int) (w : World) (hr0_0 : Kd.C (Kd.int .i64) w A0_0 l0_0.length l0_0) (hc0_0 : l0_0.length ≤ c0_0) (hr0_5 : Kd.C k180 w A0_5 l0_5.length l0_5) (hc0_5 : l0_5.length ≤ c0_5) (h : laws_szGraphics.f l0_0 a0_1 a0_2 a0_3 a0_4 l0_5 a0_6 a0_7 a0_8 a0_9 a0_10 a1 = some r) :
  Calls Try.prog 129 #[.agg #[.slice A0_0 l0_0.length c0_0, .int .i64 a0_1, .int .i64 a0_2, .int .i64 a0_3, .int .i64 a0_4, .slice A0_5 l0_5.length c0_5, .int .i64 a0_6, .int .i64 a0_7, .int .i64 a0_8, .int .i64 a0_9, .int .i64 a0_10], .int .i64 a1] w fun e w' => e = .returned (.int .i64 r) ∧ Below w.heap.size w w' := by
 have hu99 := Try.underlying99
 have HR0_0 := Aside0.mk hr0_0
 have HC0_0 := Aside0.mk hc0_0
 clear hr0_0 hc0_0
 have HR0_5 := Aside0.mk hr0_5
 have HC0_5 := Aside0.mk hc0_5
 clear hr0_5 hc0_5
 have HB := Aside0.mk (Below.refl w.heap.size w)
 have H : ((laws_szIntS.f l0_0 a1).bind fun t106 => (if t106 < 0 then (some (-1)) else ((laws_szPointS.f l0_5 t106).bind fun t107 => (if t107 < 0 then (some (-1)) else (some t107))))) = some r := h
 clear h
 replace H := bN H
 obtain ⟨t106, A3, H⟩ := H
 rcases iD H with ⟨c4b0, H⟩ | ⟨c4b0, H⟩
 ·obtain rfl := Option.some.inj H
  exact laws_szGraphics.lf0
 ·replace H := bN H
  obtain ⟨t107, A7, H⟩ := H
  rcases iD H with ⟨c8b0, H⟩ | ⟨c8b0, H⟩
  ·obtain rfl := Option.some.inj H
   exact laws_szGraphics.lf0
  ·obtain rfl := Option.some.inj H
   exact laws_szGraphics.lf0

/-! ### laws_szGraphicsS: function 130 -/
def laws_szGraphicsS.l0 : Nat → List (S99) → Int → Int → Option (Int)
 | 0, _, _, _ => none
 | k + 1, x0, x1, x5 => if x5 < (x0.length : Int) then (if 0 ≤ x5 then ((laws_szGraphics.f ((rd_T99 x0 x5).f0) ((rd_T99 x0 x5).f1.f0) ((rd_T99 x0 x5).f1.f1) ((rd_T99 x0 x5).f1.f2) ((rd_T99 x0 x5).f1.f3) ((rd_T99 x0 x5).f2) ((rd_T99 x0 x5).f3) ((rd_T99 x0 x5).f4.f0) ((rd_T99 x0 x5).f4.f1) ((rd_T99 x0 x5).f4.f2) ((rd_T99 x0 x5).f4.f3) x1).bind fun t109 => (if t109 < 0 then (some (-1)) else (laws_szGraphicsS.l0 k x0 t109 (wrap64 (x5 + 1))))) else (none)) else (some x1)
def laws_szGraphicsS.f (k : Nat) (l0 : List (S99)) (a1 : Int) : Option (Int) := if (wrap64 (a1 - (l0.length : Int))) < 0 then (some (-1)) else (laws_szGraphicsS.l0 k l0 (wrap64 (a1 - (l0.length : Int))) 0)
theorem laws_szGraphicsS.calls (k : Nat) (A0 : Option Addr) (c0 : Nat) (l0 : List (S99)) (a1 : Int) (r : Int) (w : World) (hr0 : Kd.C k99 w A0 l0.length l0) (hc0 : l0.length ≤ c0) (h : laws_szGraphicsS.f k l0 a1 = some r) :
  Calls Try.prog 130 #[.slice A0 l0.length c0, .int .i64 a1] w fun e w' => e = .returned (.int .i64 r) ∧ Below w.heap.size w w' := by
 have hu99 := Try.underlying99
 have HR0 := Aside0.mk hr0
 have HC0 := Aside0.mk hc0
 clear hr0 hc0
 have HB := Aside0.mk (Below.refl w.heap.size w)
 have H : (if (wrap64 (a1 - (l0.length : Int))) < 0 then (some (-1)) else (laws_szGraphicsS.l0 k l0 (wrap64 (a1 - (l0.length : Int))) 0)) = some r := h
 clear h
 by_cases c3 : (wrap64 (a1 - (l0.length : Int))) < 0
 ·rw [if_pos c3] at H
  have c3b0 : decide ((wrap64 (a1 - (l0.length : Int))) < 0) = true := decide_eq_true c3
  clear c3
  obtain rfl := Option.some.inj H
  go_enter Try.func130, Try.ntmps130
  go_wp2
  go_ret
  exact ⟨eS, bS⟩
 ·rw [if_neg c3] at H
  have c3b0 : decide ((wrap64 (a1 - (l0.length : Int))) < 0) = false := decide_eq_false c3
  clear c3
  have H' := Aside0.mk H
  clear H
  go_enter Try.func130, Try.ntmps130
  go_wp2
  go_loopg [1, 5] k (fun kq v1 v5 w' => ∃ (x1_1 : Int) (x5_1 : Int), v1 = .int .i64 x1_1 ∧ v5 = .int .i64 x5_1 ∧ Aside0 (laws_szGraphicsS.l0 kq l0 x1_1 x5_1 = some r) ∧ Aside0 (kq ≤ k) ∧ Aside0 (Below w.heap.size w w'))
  case atStart => exact ⟨(wrap64 (a1 - (l0.length : Int))), (0), fS, fS, H', ⟨Nat.le_refl _⟩, ⟨bS⟩⟩
  case round =>
   clear H'
   try clear c1
   try clear p2
   try clear c3
   try clear c3b0
   obtain ⟨x1_1, x5_1, rfl, rfl, HA, HK1, HB⟩ := hrel
   cases gk with
   | zero => exact absurd HA.out (by simp [laws_szGraphicsS.l0])
   | succ k1 =>
    have H := HA.out
    clear HA
    simp only [laws_szGraphicsS.l0] at H
    rcases iD H with ⟨c4b0, H⟩ | ⟨c4b0, H⟩
    ·obtain ⟨c5b0, H⟩ := iT H
     replace H := bN H
     obtain ⟨t109, A6, H⟩ := H
     rcases iD H with ⟨c7b0, H⟩ | ⟨c7b0, H⟩
     ·obtain rfl := Option.some.inj H
      have p108 : 0 ≤ (x5_1 : Int) := dA
      have q108 : x5_1 < (l0.length : Int) := dA
      obtain ⟨ad108, A108_0, c108_0, A108_5, c108_5, e108, hx108_0, hx108_1, hx108_2, hx108_3, hx108_4, hx108_5, hx108_6, hx108_7, hx108_8, hx108_9, hx108_10, hl108_0, hi108_0, hl108_5, hi108_5⟩ := at_T99 HR0.out x5_1 p108 q108
      cases e108
      replace hx108_0 := cB HB hx108_0
      replace hx108_1 := cB HB hx108_1
      replace hx108_2 := cB HB hx108_2
      replace hx108_3 := cB HB hx108_3
      replace hx108_4 := cB HB hx108_4
      replace hx108_5 := cB HB hx108_5
      replace hx108_6 := cB HB hx108_6
      replace hx108_7 := cB HB hx108_7
      replace hx108_8 := cB HB hx108_8
      replace hx108_9 := cB HB hx108_9
      replace hx108_10 := cB HB hx108_10
      have HR108_0 := Aside0.mk hi108_0
      have HC108_0 := Aside0.mk hl108_0
      clear hi108_0 hl108_0
      have HR108_5 := Aside0.mk hi108_5
      have HC108_5 := Aside0.mk hl108_5
      clear hi108_5 hl108_5
      replace p108 := eq_true p108
      replace q108 := eq_true q108
      go_wp2_with (first | ((with_reducible refine gC 129 ?_); refine cL (some 23) Try.func129 #[.agg #[.slice A108_0 ((rd_T99 l0 x5_1).f0).length c108_0, .int .i64 ((rd_T99 l0 x5_1).f1.f0), .int .i64 ((rd_T99 l0 x5_1).f1.f1), .int .i64 ((rd_T99 l0 x5_1).f1.f2), .int .i64 ((rd_T99 l0 x5_1).f1.f3), .slice A108_5 ((rd_T99 l0 x5_1).f2).length c108_5, .int .i64 ((rd_T99 l0 x5_1).f3), .int .i64 ((rd_T99 l0 x5_1).f4.f0), .int .i64 ((rd_T99 l0 x5_1).f4.f1), .int .i64 ((rd_T99 l0 x5_1).f4.f2), .int .i64 ((rd_T99 l0 x5_1).f4.f3)], .int .i64 x1_1] ?_; (with_reducible refine (laws_szGraphics.calls _ _ ((rd_T99 l0 x5_1).f0) ((rd_T99 l0 x5_1).f1.f0) ((rd_T99 l0 x5_1).f1.f1) ((rd_T99 l0 x5_1).f1.f2) ((rd_T99 l0 x5_1).f1.f3) _ _ ((rd_T99 l0 x5_1).f2) ((rd_T99 l0 x5_1).f3) ((rd_T99 l0 x5_1).f4.f0) ((rd_T99 l0 x5_1).f4.f1) ((rd_T99 l0 x5_1).f4.f2) ((rd_T99 l0 x5_1).f4.f3) x1_1 t109 _ (cS (Kd.C_below HR108_0.out HB.out)) HC108_0.out (cS (Kd.C_below HR108_5.out HB.out)) HC108_5.out A6.out).mono ?_); rintro e w8 ⟨rfl, hb⟩; refine ⟨_, rfl, ?_⟩; replace HB := hB hb; (try clear hb); (try clear hb2); (try clear hk); (try clear hi)))
      go_ret
      exact ⟨eS, bS⟩
     ·have H' := Aside0.mk H
      clear H
      have p108 : 0 ≤ (x5_1 : Int) := dA
      have q108 : x5_1 < (l0.length : Int) := dA
      obtain ⟨ad108, A108_0, c108_0, A108_5, c108_5, e108, hx108_0, hx108_1, hx108_2, hx108_3, hx108_4, hx108_5, hx108_6, hx108_7, hx108_8, hx108_9, hx108_10, hl108_0, hi108_0, hl108_5, hi108_5⟩ := at_T99 HR0.out x5_1 p108 q108
      cases e108
      replace hx108_0 := cB HB hx108_0
      replace hx108_1 := cB HB hx108_1
      replace hx108_2 := cB HB hx108_2
      replace hx108_3 := cB HB hx108_3
      replace hx108_4 := cB HB hx108_4
      replace hx108_5 := cB HB hx108_5
      replace hx108_6 := cB HB hx108_6
      replace hx108_7 := cB HB hx108_7
      replace hx108_8 := cB HB hx108_8
      replace hx108_9 := cB HB hx108_9
      replace hx108_10 := cB HB hx108_10
      have HR108_0 := Aside0.mk hi108_0
      have HC108_0 := Aside0.mk hl108_0
      clear hi108_0 hl108_0
      have HR108_5 := Aside0.mk hi108_5
      have HC108_5 := Aside0.mk hl108_5
      clear hi108_5 hl108_5
      replace p108 := eq_true p108
      replace q108 := eq_true q108
      go_wp2_with (first | ((with_reducible refine gC 129 ?_); refine cL (some 23) Try.func129 #[.agg #[.slice A108_0 ((rd_T99 l0 x5_1).f0).length c108_0, .int .i64 ((rd_T99 l0 x5_1).f1.f0), .int .i64 ((rd_T99 l0 x5_1).f1.f1), .int .i64 ((rd_T99 l0 x5_1).f1.f2), .int .i64 ((rd_T99 l0 x5_1).f1.f3), .slice A108_5 ((rd_T99 l0 x5_1).f2).length c108_5, .int .i64 ((rd_T99 l0 x5_1).f3), .int .i64 ((rd_T99 l0 x5_1).f4.f0), .int .i64 ((rd_T99 l0 x5_1).f4.f1), .int .i64 ((rd_T99 l0 x5_1).f4.f2), .int .i64 ((rd_T99 l0 x5_1).f4.f3)], .int .i64 x1_1] ?_; (with_reducible refine (laws_szGraphics.calls _ _ ((rd_T99 l0 x5_1).f0) ((rd_T99 l0 x5_1).f1.f0) ((rd_T99 l0 x5_1).f1.f1) ((rd_T99 l0 x5_1).f1.f2) ((rd_T99 l0 x5_1).f1.f3) _ _ ((rd_T99 l0 x5_1).f2) ((rd_T99 l0 x5_1).f3) ((rd_T99 l0 x5_1).f4.f0) ((rd_T99 l0 x5_1).f4.f1) ((rd_T99 l0 x5_1).f4.f2) ((rd_T99 l0 x5_1).f4.f3) x1_1 t109 _ (cS (Kd.C_below HR108_0.out HB.out)) HC108_0.out (cS (Kd.C_below HR108_5.out HB.out)) HC108_5.out A6.out).mono ?_); rintro e w9 ⟨rfl, hb⟩; refine ⟨_, rfl, ?_⟩; replace HB := hB hb; (try clear hb); (try clear hb2); (try clear hk); (try clear hi)))
      go_roundg k1
      case measure => have := HK1.out; omega
      case rel => exact ⟨(t109), (wrap64 (x5_1 + 1)), fS, fS, H', ⟨by have := HK1.out; omega⟩, ⟨bS⟩⟩
    ·obtain rfl := Option.some.inj H
     go_wp2
     go_ret
     exact ⟨eS, bS⟩

/-! ### laws_szPage: function 75 -/
def laws_szPage.f (k : Nat) (l0_0 : List Int) (a0_1 : Int) (a0_2 : Int) (a0_3 : Int) (a0_4 : Int) (l0_5 : List (S180)) (a0_6 : Int) (a0_7 : Int) (a0_8 : Int) (a0_9 : Int) (a0_10 : Int) (l0_11 : List (S99)) (l0_12 : List (S91)) (a1 : Int) : Option (Int) := (laws_szGraphics.f l0_0 a0_1 a0_2 a0_3 a0_4 l0_5 a0_6 a0_7 a0_8 a0_9 a0_10 a1).bind fun t111 => (if t111 < 0 then (some (-1)) else ((laws_szGraphicsS.f k l0_11 t111).bind fun t112 => (if t112 < 0 then (some (-1)) else ((laws_szObjectS.f k l0_12 t112).bind fun t113 => (if t113 < 0 then (some (-1)) else (some t113))))))
theorem laws_szPage.lf0 {p : Prop} (h : p := by
 go_enter Try.func75, Try.ntmps75
 go_wp2_with (first | ((with_reducible refine gD 2 ?_); refine bxE #[.slice A0_0 l0_0.length c0_0, .int .i64 a0_1, .int .i64 a0_2, .int .i64 a0_3, .int .i64 a0_4, .slice A0_5 l0_5.length c0_5, .int .i64 a0_6, .int .i64 a0_7, .int .i64 a0_8, .int .i64 a0_9, .int .i64 a0_10, .slice A0_11 l0_11.length c0_11, .slice A0_12 l0_12.length c0_12] 102 ?_; intro gb110 hg w17 BK110 hb; have GW110 := gE hg; have GE110 := gE hg; replace HB := hB hb; clear hb hg; have hcz18_0 : w17.cell? ⟨gb110, 0, none⟩ = some (.slice A0_0 l0_0.length c0_0) := (blk_cell BK110.out 0).trans rfl; have hcz18_1 : w17.cell? ⟨gb110, 1, none⟩ = some (.int .i64 a0_1) := (blk_cell BK110.out 1).trans rfl; have hcz18_2 : w17.cell? ⟨gb110, 2, none⟩ = some (.int .i64 a0_2) := (blk_cell BK110.out 2).trans rfl; have hcz18_3 : w17.cell? ⟨gb110, 3, none⟩ = some (.int .i64 a0_3) := (blk_cell BK110.out 3).trans rfl; have hcz18_4 : w17.cell? ⟨gb110, 4, none⟩ = some (.int .i64 a0_4) := (blk_cell BK110.out 4).trans rfl; have hcz18_5 : w17.cell? ⟨gb110, 5, none⟩ = some (.slice A0_5 l0_5.length c0_5) := (blk_cell BK110.out 5).trans rfl; have hcz18_6 : w17.cell? ⟨gb110, 6, none⟩ = some (.int .i64 a0_6) := (blk_cell BK110.out 6).trans rfl; have hcz18_7 : w17.cell? ⟨gb110, 7, none⟩ = some (.int .i64 a0_7) := (blk_cell BK110.out 7).trans rfl; have hcz18_8 : w17.cell? ⟨gb110, 8, none⟩ = some (.int .i64 a0_8) := (blk_cell BK110.out 8).trans rfl; have hcz18_9 : w17.cell? ⟨gb110, 9, none⟩ = some (.int .i64 a0_9) := (blk_cell BK110.out 9).trans rfl; have hcz18_10 : w17.cell? ⟨gb110, 10, none⟩ = some (.int .i64 a0_10) := (blk_cell BK110.out 10).trans rfl; have hcz18_11 : w17.cell? ⟨gb110, 11, none⟩ = some (.slice A0_11 l0_11.length c0_11) := (blk_cell BK110.out 11).trans rfl; have hcz18_12 : w17.cell? ⟨gb110, 12, none⟩ = some (.slice A0_12 l0_12.length c0_12) := (blk_cell BK110.out 12).trans rfl; have hfz18_0 := blk_frozen BK110.out 0; have hfz18_1 := blk_frozen BK110.out 1; have hfz18_2 := blk_frozen BK110.out 2; have hfz18_3 := blk_frozen BK110.out 3; have hfz18_4 := blk_frozen BK110.out 4; have hfz18_5 := blk_frozen BK110.out 5; have hfz18_6 := blk_frozen BK110.out 6; have hfz18_7 := blk_frozen BK110.out 7; have hfz18_8 := blk_frozen BK110.out 8; have hfz18_9 := blk_frozen BK110.out 9; have hfz18_10 := blk_frozen BK110.out 10; have hfz18_11 := blk_frozen BK110.out 11; have hfz18_12 := blk_frozen BK110.out 12) | ((with_reducible refine gC 129 ?_); refine cL (some 8) Try.func129 #[.agg #[.slice A0_0 l0_0.length c0_0, .int .i64 a0_1, .int .i64 a0_2, .int .i64 a0_3, .int .i64 a0_4, .slice A0_5 l0_5.length c0_5, .int .i64 a0_6, .int .i64 a0_7, .int .i64 a0_8, .int .i64 a0_9, .int .i64 a0_10], .int .i64 a1] ?_; (with_reducible refine (laws_szGraphics.calls _ _ l0_0 a0_1 a0_2 a0_3 a0_4 _ _ l0_5 a0_6 a0_7 a0_8 a0_9 a0_10 a1 t111 _ (cS (Kd.C_below HR0_0.out HB.out)) HC0_0.out (cS (Kd.C_below HR0_5.out HB.out)) HC0_5.out A3.out).mono ?_); rintro e w19 ⟨rfl, hb⟩; refine ⟨_, rfl, ?_⟩; replace BK110 := kB (g := gb110) hb; replace HB := hB hb; (try clear hb); (try clear hb2); (try clear hk); (try clear hi); have hcz20_0 : w19.cell? ⟨gb110, 0, none⟩ = some (.slice A0_0 l0_0.length c0_0) := (blk_cell BK110.out 0).trans rfl; have hcz20_1 : w19.cell? ⟨gb110, 1, none⟩ = some (.int .i64 a0_1) := (blk_cell BK110.out 1).trans rfl; have hcz20_2 : w19.cell? ⟨gb110, 2, none⟩ = some (.int .i64 a0_2) := (blk_cell BK110.out 2).trans rfl; have hcz20_3 : w19.cell? ⟨gb110, 3, none⟩ = some (.int .i64 a0_3) := (blk_cell BK110.out 3).trans rfl; have hcz20_4 : w19.cell? ⟨gb110, 4, none⟩ = some (.int .i64 a0_4) := (blk_cell BK110.out 4).trans rfl; have hcz20_5 : w19.cell? ⟨gb110, 5, none⟩ = some (.slice A0_5 l0_5.length c0_5) := (blk_cell BK110.out 5).trans rfl; have hcz20_6 : w19.cell? ⟨gb110, 6, none⟩ = some (.int .i64 a0_6) := (blk_cell BK110.out 6).trans rfl; have hcz20_7 : w19.cell? ⟨gb110, 7, none⟩ = some (.int .i64 a0_7) := (blk_cell BK110.out 7).trans rfl; have hcz20_8 : w19.cell? ⟨gb110, 8, none⟩ = some (.int .i64 a0_8) := (blk_cell BK110.out 8).trans rfl; have hcz20_9 : w19.cell? ⟨gb110, 9, none⟩ = some (.int .i64 a0_9) := (blk_cell BK110.out 9).trans rfl; have hcz20_10 : w19.cell? ⟨gb110, 10, none⟩ = some (.int .i64 a0_10) := (blk_cell BK110.out 10).trans rfl; have hcz20_11 : w19.cell? ⟨gb110, 11, none⟩ = some (.slice A0_11 l0_11.length c0_11) := (blk_cell BK110.out 11).trans rfl; have hcz20_12 : w19.cell? ⟨gb110, 12, none⟩ = some (.slice A0_12 l0_12.length c0_12) := (blk_cell BK110.out 12).trans rfl; have hfz20_0 := blk_frozen BK110.out 0; have hfz20_1 := blk_frozen BK110.out 1; have hfz20_2 := blk_frozen BK110.out 2; have hfz20_3 := blk_frozen BK110.out 3; have hfz20_4 := blk_frozen BK110.out 4; have hfz20_5 := blk_frozen BK110.out 5; have hfz20_6 := blk_frozen BK110.out 6; have hfz20_7 := blk_frozen BK110.out 7; have hfz20_8 := blk_frozen BK110.out 8; have hfz20_9 := blk_frozen BK110.out 9; have hfz20_10 := blk_frozen BK110.out 10; have hfz20_11 := blk_frozen BK110.out 11; have hfz20_12 := blk_frozen BK110.out 12) | ((with_reducible refine gC 130 ?_); refine cL (some 14) Try.func130 #[.slice A0_11 l0_11.length c0_11, .int .i64 t111] ?_; (with_reducible refine (laws_szGraphicsS.calls k _ _ l0_11 t111 t112 _ (cS (Kd.C_below HR0_11.out HB.out)) HC0_11.out A8.out).mono ?_); rintro e w21 ⟨rfl, hb⟩; refine ⟨_, rfl, ?_⟩; replace BK110 := kB (g := gb110) hb; replace HB := hB hb; (try clear hb); (try clear hb2); (try clear hk); (try clear hi); have hcz22_0 : w21.cell? ⟨gb110, 0, none⟩ = some (.slice A0_0 l0_0.length c0_0) := (blk_cell BK110.out 0).trans rfl; have hcz22_1 : w21.cell? ⟨gb110, 1, none⟩ = some (.int .i64 a0_1) := (blk_cell BK110.out 1).trans rfl; have hcz22_2 : w21.cell? ⟨gb110, 2, none⟩ = some (.int .i64 a0_2) := (blk_cell BK110.out 2).trans rfl; have hcz22_3 : w21.cell? ⟨gb110, 3, none⟩ = some (.int .i64 a0_3) := (blk_cell BK110.out 3).trans rfl; have hcz22_4 : w21.cell? ⟨gb110, 4, none⟩ = some (.int .i64 a0_4) := (blk_cell BK110.out 4).trans rfl; have hcz22_5 : w21.cell? ⟨gb110, 5, none⟩ = some (.slice A0_5 l0_5.length c0_5) := (blk_cell BK110.out 5).trans rfl; have hcz22_6 : w21.cell? ⟨gb110, 6, none⟩ = some (.int .i64 a0_6) := (blk_cell BK110.out 6).trans rfl; have hcz22_7 : w21.cell? ⟨gb110, 7, none⟩ = some (.int .i64 a0_7) := (blk_cell BK110.out 7).trans rfl; have hcz22_8 : w21.cell? ⟨gb110, 8, none⟩ = some (.int .i64 a0_8) := (blk_cell BK110.out 8).trans rfl; have hcz22_9 : w21.cell? ⟨gb110, 9, none⟩ = some (.int .i64 a0_9) := (blk_cell BK110.out 9).trans rfl; have hcz22_10 : w21.cell? ⟨gb110, 10, none⟩ = some (.int .i64 a0_10) := (blk_cell BK110.out 10).trans rfl; have hcz22_11 : w21.cell? ⟨gb110, 11, none⟩ = some (.slice A0_11 l0_11.length c0_11) := (blk_cell BK110.out 11).trans rfl; have hcz22_12 : w21.cell? ⟨gb110, 12, none⟩ = some (.slice A0_12 l0_12.length c0_12) := (blk_cell BK110.out 12).trans rfl; have hfz22_0 := blk_frozen BK110.out 0; have hfz22_1 := blk_frozen BK110.out 1; have hfz22_2 := blk_frozen BK110.out 2; have hfz22_3 := blk_frozen BK110.out 3; have hfz22_4 := blk_frozen BK110.out 4; have hfz22_5 := blk_frozen BK110.out 5; have hfz22_6 := blk_frozen BK110.out 6; have hfz22_7 := blk_frozen BK110.out 7; have hfz22_8 := blk_frozen BK110.out 8; have hfz22_9 := blk_frozen BK110.out 9; have hfz22_10 := blk_frozen BK110.out 10; have hfz22_11 := blk_frozen BK110.out 11; have hfz22_12 := blk_frozen BK110.out 12) | ((with_reducible refine gC 36 ?_); refine cL (some 20) Try.func36 #[.slice A0_12 l0_12.length c0_12, .int .i64 t112] ?_; (with_reducible refine (laws_szObjectS.calls k _ _ l0_12 t112 t113 _ (cS (Kd.C_below HR0_12.out HB.out)) HC0_12.out A15.out).mono ?_); rintro e w23 ⟨rfl, hb⟩; refine ⟨_, rfl, ?_⟩; replace BK110 := kB (g := gb110) hb; replace HB := hB hb; (try clear hb); (try clear hb2); (try clear hk); (try clear hi)))
 go_ret
 exact ⟨eS, bS⟩) : p := h
theorem laws_szPage.calls (k : Nat) (A0_0 : Option Addr) (c0_0 : Nat) (l0_0 : List Int) (a0_1 : Int) (a0_2 : Int) (a0_3 : Int) (a0_4 : Int) (A0_5 : Option Addr) (c0_5 : Nat) (l0_5 : List (S180)) (a0_6 : Int) (a0_7 : Int) (a0_8 : Int) (a0_9 : Int) (a0_10 : Int) (A0_11 : Option Addr) (c0_11 : Nat) (l0_11 : List (S99)) (A0_12 : Option Addr) (c0_12 : Nat) (l0_12 : List (S91)) (a1 : Int) (r : Int) (w : World) (hr0_0 : Kd.C (Kd.int .i64) w A0_0 l0_0.length l0_0) (hc0_0 : l0_0.length ≤ c0_0) (hr0_5 : Kd.C k180 w A0_5 l0_5.length l0_5) (hc0_5 : l0_5.length ≤ c0_5) (hr0_11 : Kd.C k99 w A0_11 l0_11.length l0_11) (hc0_11 : l0_11.length ≤ c0_11) (hr0_12 : Kd.C k91 w A0_12 l0_12.length l0_12) (hc0_12 : l0_12.length ≤ c0_12) (h : laws_szPage.f k l0_0 a0_1 a0_2 a0_3 a0_4 l0_5 a0_6 a0_7 a0_8 a0_9 a0_10 l0_11 l0_12 a1 = some r) :
  Calls Try.prog 75 #[.agg #[.slice A0_0 l0_0.length c0_0, .int .i64 a0_1, .int .i64 a0_2, .int .i64 a0_3, .int .i64 a0_4, .slice A0_5 l0_5.length c0_5, .int .i64 a0_6, .int .i64 a0_7, .int .i64 a0_8, .int .i64 a0_9, .int .i64 a0_10, .slice A0_11 l0_11.length c0_11, .slice A0_12 l0_12.length c0_12], .int .i64 a1] w fun e w' => e = .returned (.int .i64 r) ∧ Below w.heap.size w w' := by
 have hu102 := Try.underlying102
 have hu99 := Try.underlying99
 have HR0_0 := Aside0.mk hr0_0
 have HC0_0 := Aside0.mk hc0_0
 clear hr0_0 hc0_0
 have HR0_5 := Aside0.mk hr0_5
 have HC0_5 := Aside0.mk hc0_5
 clear hr0_5 hc0_5
 have HR0_11 := Aside0.mk hr0_11
 have HC0_11 := Aside0.mk hc0_11
 clear hr0_11 hc0_11
 have HR0_12 := Aside0.mk hr0_12
 have HC0_12 := Aside0.mk hc0_12
 clear hr0_12 hc0_12
 have HB := Aside0.mk (Below.refl w.heap.size w)
 have H : ((laws_szGraphics.f l0_0 a0_1 a0_2 a0_3 a0_4 l0_5 a0_6 a0_7 a0_8 a0_9 a0_10 a1).bind fun t111 => (if t111 < 0 then (some (-1)) else ((laws_szGraphicsS.f k l0_11 t111).bind fun t112 => (if t112 < 0 then (some (-1)) else ((laws_szObjectS.f k l0_12 t112).bind fun t113 => (if t113 < 0 then (some (-1)) else (some t113))))))) = some r := h
 clear h
 replace H := bN H
 obtain ⟨t111, A3, H⟩ := H
 rcases iD H with ⟨c4b0, H⟩ | ⟨c4b0, H⟩
 ·obtain rfl := Option.some.inj H
  go_enter Try.func75, Try.ntmps75
  go_wp2_with (first | ((with_reducible refine gD 2 ?_); refine bxE #[.slice A0_0 l0_0.length c0_0, .int .i64 a0_1, .int .i64 a0_2, .int .i64 a0_3, .int .i64 a0_4, .slice A0_5 l0_5.length c0_5, .int .i64 a0_6, .int .i64 a0_7, .int .i64 a0_8, .int .i64 a0_9, .int .i64 a0_10, .slice A0_11 l0_11.length c0_11, .slice A0_12 l0_12.length c0_12] 102 ?_; intro gb110 hg w5 BK110 hb; have GW110 := gE hg; have GE110 := gE hg; replace HB := hB hb; clear hb hg; have hcz6_0 : w5.cell? ⟨gb110, 0, none⟩ = some (.slice A0_0 l0_0.length c0_0) := (blk_cell BK110.out 0).trans rfl; have hcz6_1 : w5.cell? ⟨gb110, 1, none⟩ = some (.int .i64 a0_1) := (blk_cell BK110.out 1).trans rfl; have hcz6_2 : w5.cell? ⟨gb110, 2, none⟩ = some (.int .i64 a0_2) := (blk_cell BK110.out 2).trans rfl; have hcz6_3 : w5.cell? ⟨gb110, 3, none⟩ = some (.int .i64 a0_3) := (blk_cell BK110.out 3).trans rfl; have hcz6_4 : w5.cell? ⟨gb110, 4, none⟩ = some (.int .i64 a0_4) := (blk_cell BK110.out 4).trans rfl; have hcz6_5 : w5.cell? ⟨gb110, 5, none⟩ = some (.slice A0_5 l0_5.length c0_5) := (blk_cell BK110.out 5).trans rfl; have hcz6_6 : w5.cell? ⟨gb110, 6, none⟩ = some (.int .i64 a0_6) := (blk_cell BK110.out 6).trans rfl; have hcz6_7 : w5.cell? ⟨gb110, 7, none⟩ = some (.int .i64 a0_7) := (blk_cell BK110.out 7).trans rfl; have hcz6_8 : w5.cell? ⟨gb110, 8, none⟩ = some (.int .i64 a0_8) := (blk_cell BK110.out 8).trans rfl; have hcz6_9 : w5.cell? ⟨gb110, 9, none⟩ = some (.int .i64 a0_9) := (blk_cell BK110.out 9).trans rfl; have hcz6_10 : w5.cell? ⟨gb110, 10, none⟩ = some (.int .i64 a0_10) := (blk_cell BK110.out 10).trans rfl; have hcz6_11 : w5.cell? ⟨gb110, 11, none⟩ = some (.slice A0_11 l0_11.length c0_11) := (blk_cell BK110.out 11).trans rfl; have hcz6_12 : w5.cell? ⟨gb110, 12, none⟩ = some (.slice A0_12 l0_12.length c0_12) := (blk_cell BK110.out 12).trans rfl; have hfz6_0 := blk_frozen BK110.out 0; have hfz6_1 := blk_frozen BK110.out 1; have hfz6_2 := blk_frozen BK110.out 2; have hfz6_3 := blk_frozen BK110.out 3; have hfz6_4 := blk_frozen BK110.out 4; have hfz6_5 := blk_frozen BK110.out 5; have hfz6_6 := blk_frozen BK110.out 6; have hfz6_7 := blk_frozen BK110.out 7; have hfz6_8 := blk_frozen BK110.out 8; have hfz6_9 := blk_frozen BK110.out 9; have hfz6_10 := blk_frozen BK110.out 10; have hfz6_11 := blk_frozen BK110.out 11; have hfz6_12 := blk_frozen BK110.out 12) | ((with_reducible refine gC 129 ?_); refine cL (some 8) Try.func129 #[.agg #[.slice A0_0 l0_0.length c0_0, .int .i64 a0_1, .int .i64 a0_2, .int .i64 a0_3, .int .i64 a0_4, .slice A0_5 l0_5.length c0_5, .int .i64 a0_6, .int .i64 a0_7, .int .i64 a0_8, .int .i64 a0_9, .int .i64 a0_10], .int .i64 a1] ?_; (with_reducible refine (laws_szGraphics.calls _ _ l0_0 a0_1 a0_2 a0_3 a0_4 _ _ l0_5 a0_6 a0_7 a0_8 a0_9 a0_10 a1 t111 _ (cS (Kd.C_below HR0_0.out HB.out)) HC0_0.out (cS (Kd.C_below HR0_5.out HB.out)) HC0_5.out A3.out).mono ?_); rintro e w7 ⟨rfl, hb⟩; refine ⟨_, rfl, ?_⟩; replace BK110 := kB (g := gb110) hb; replace HB := hB hb; (try clear hb); (try clear hb2); (try clear hk); (try clear hi)))
  go_ret
  exact ⟨eS, bS⟩
 ·replace H := bN H
  obtain ⟨t112, A8, H⟩ := H
  rcases iD H with ⟨c9b0, H⟩ | ⟨c9b0, H⟩
  ·obtain rfl := Option.some.inj H
   go_enter Try.func75, Try.ntmps75
   go_wp2_with (first | ((with_reducible refine gD 2 ?_); refine bxE #[.slice A0_0 l0_0.length c0_0, .int .i64 a0_1, .int .i64 a0_2, .int .i64 a0_3, .int .i64 a0_4, .slice A0_5 l0_5.length c0_5, .int .i64 a0_6, .int .i64 a0_7, .int .i64 a0_8, .int .i64 a0_9, .int .i64 a0_10, .slice A0_11 l0_11.length c0_11, .slice A0_12 l0_12.length c0_12] 102 ?_; intro gb110 hg w10 BK110 hb; have GW110 := gE hg; have GE110 := gE hg; replace HB := hB hb; clear hb hg; have hcz11_0 : w10.cell? ⟨gb110, 0, none⟩ = some (.slice A0_0 l0_0.length c0_0) := (blk_cell BK110.out 0).trans rfl; have hcz11_1 : w10.cell? ⟨gb110, 1, none⟩ = some (.int .i64 a0_1) := (blk_cell BK110.out 1).trans rfl; have hcz11_2 : w10.cell? ⟨gb110, 2, none⟩ = some (.int .i64 a0_2) := (blk_cell BK110.out 2).trans rfl; have hcz11_3 : w10.cell? ⟨gb110, 3, none⟩ = some (.int .i64 a0_3) := (blk_cell BK110.out 3).trans rfl; have hcz11_4 : w10.cell? ⟨gb110, 4, none⟩ = some (.int .i64 a0_4) := (blk_cell BK110.out 4).trans rfl; have hcz11_5 : w10.cell? ⟨gb110, 5, none⟩ = some (.slice A0_5 l0_5.length c0_5) := (blk_cell BK110.out 5).trans rfl; have hcz11_6 : w10.cell? ⟨gb110, 6, none⟩ = some (.int .i64 a0_6) := (blk_cell BK110.out 6).trans rfl; have hcz11_7 : w10.cell? ⟨gb110, 7, none⟩ = some (.int .i64 a0_7) := (blk_cell BK110.out 7).trans rfl; have hcz11_8 : w10.cell? ⟨gb110, 8, none⟩ = some (.int .i64 a0_8) := (blk_cell BK110.out 8).trans rfl; have hcz11_9 : w10.cell? ⟨gb110, 9, none⟩ = some (.int .i64 a0_9) := (blk_cell BK110.out 9).trans rfl; have hcz11_10 : w10.cell? ⟨gb110, 10, none⟩ = some (.int .i64 a0_10) := (blk_cell BK110.out 10).trans rfl; have hcz11_11 : w10.cell? ⟨gb110, 11, none⟩ = some (.slice A0_11 l0_11.length c0_11) := (blk_cell BK110.out 11).trans rfl; have hcz11_12 : w10.cell? ⟨gb110, 12, none⟩ = some (.slice A0_12 l0_12.length c0_12) := (blk_cell BK110.out 12).trans rfl; have hfz11_0 := blk_frozen BK110.out 0; have hfz11_1 := blk_frozen BK110.out 1; have hfz11_2 := blk_frozen BK110.out 2; have hfz11_3 := blk_frozen BK110.out 3; have hfz11_4 := blk_frozen BK110.out 4; have hfz11_5 := blk_frozen BK110.out 5; have hfz11_6 := blk_frozen BK110.out 6; have hfz11_7 := blk_frozen BK110.out 7; have hfz11_8 := blk_frozen BK110.out 8; have hfz11_9 := blk_frozen BK110.out 9; have hfz11_10 := blk_frozen BK110.out 10; have hfz11_11 := blk_frozen BK110.out 11; have hfz11_12 := blk_frozen BK110.out 12) | ((with_reducible refine gC 129 ?_); refine cL (some 8) Try.func129 #[.agg #[.slice A0_0 l0_0.length c0_0, .int .i64 a0_1, .int .i64 a0_2, .int .i64 a0_3, .int .i64 a0_4, .slice A0_5 l0_5.length c0_5, .int .i64 a0_6, .int .i64 a0_7, .int .i64 a0_8, .int .i64 a0_9, .int .i64 a0_10], .int .i64 a1] ?_; (with_reducible refine (laws_szGraphics.calls _ _ l0_0 a0_1 a0_2 a0_3 a0_4 _ _ l0_5 a0_6 a0_7 a0_8 a0_9 a0_10 a1 t111 _ (cS (Kd.C_below HR0_0.out HB.out)) HC0_0.out (cS (Kd.C_below HR0_5.out HB.out)) HC0_5.out A3.out).mono ?_); rintro e w12 ⟨rfl, hb⟩; refine ⟨_, rfl, ?_⟩; replace BK110 := kB (g := gb110) hb; replace HB := hB hb; (try clear hb); (try clear hb2); (try clear hk); (try clear hi); have hcz13_0 : w12.cell? ⟨gb110, 0, none⟩ = some (.slice A0_0 l0_0.length c0_0) := (blk_cell BK110.out 0).trans rfl; have hcz13_1 : w12.cell? ⟨gb110, 1, none⟩ = some (.int .i64 a0_1) := (blk_cell BK110.out 1).trans rfl; have hcz13_2 : w12.cell? ⟨gb110, 2, none⟩ = some (.int .i64 a0_2) := (blk_cell BK110.out 2).trans rfl; have hcz13_3 : w12.cell? ⟨gb110, 3, none⟩ = some (.int .i64 a0_3) := (blk_cell BK110.out 3).trans rfl; have hcz13_4 : w12.cell? ⟨gb110, 4, none⟩ = some (.int .i64 a0_4) := (blk_cell BK110.out 4).trans rfl; have hcz13_5 : w12.cell? ⟨gb110, 5, none⟩ = some (.slice A0_5 l0_5.length c0_5) := (blk_cell BK110.out 5).trans rfl; have hcz13_6 : w12.cell? ⟨gb110, 6, none⟩ = some (.int .i64 a0_6) := (blk_cell BK110.out 6).trans rfl; have hcz13_7 : w12.cell? ⟨gb110, 7, none⟩ = some (.int .i64 a0_7) := (blk_cell BK110.out 7).trans rfl; have hcz13_8 : w12.cell? ⟨gb110, 8, none⟩ = some (.int .i64 a0_8) := (blk_cell BK110.out 8).trans rfl; have hcz13_9 : w12.cell? ⟨gb110, 9, none⟩ = some (.int .i64 a0_9) := (blk_cell BK110.out 9).trans rfl; have hcz13_10 : w12.cell? ⟨gb110, 10, none⟩ = some (.int .i64 a0_10) := (blk_cell BK110.out 10).trans rfl; have hcz13_11 : w12.cell? ⟨gb110, 11, none⟩ = some (.slice A0_11 l0_11.length c0_11) := (blk_cell BK110.out 11).trans rfl; have hcz13_12 : w12.cell? ⟨gb110, 12, none⟩ = some (.slice A0_12 l0_12.length c0_12) := (blk_cell BK110.out 12).trans rfl; have hfz13_0 := blk_frozen BK110.out 0; have hfz13_1 := blk_frozen BK110.out 1; have hfz13_2 := blk_frozen BK110.out 2; have hfz13_3 := blk_frozen BK110.out 3; have hfz13_4 := blk_frozen BK110.out 4; have hfz13_5 := blk_frozen BK110.out 5; have hfz13_6 := blk_frozen BK110.out 6; have hfz13_7 := blk_frozen BK110.out 7; have hfz13_8 := blk_frozen BK110.out 8; have hfz13_9 := blk_frozen BK110.out 9; have hfz13_10 := blk_frozen BK110.out 10; have hfz13_11 := blk_frozen BK110.out 11; have hfz13_12 := blk_frozen BK110.out 12) | ((with_reducible refine gC 130 ?_); refine cL (some 14) Try.func130 #[.slice A0_11 l0_11.length c0_11, .int .i64 t111] ?_; (with_reducible refine (laws_szGraphicsS.calls k _ _ l0_11 t111 t112 _ (cS (Kd.C_below HR0_11.out HB.out)) HC0_11.out A8.out).mono ?_); rintro e w14 ⟨rfl, hb⟩; refine ⟨_, rfl, ?_⟩; replace BK110 := kB (g := gb110) hb; replace HB := hB hb; (try clear hb); (try clear hb2); (try clear hk); (try clear hi)))
   go_ret
   exact ⟨eS, bS⟩
  ·replace H := bN H
   obtain ⟨t113, A15, H⟩ := H
   rcases iD H with ⟨c16b0, H⟩ | ⟨c16b0, H⟩
   ·obtain rfl := Option.some.inj H
    exact laws_szPage.lf0
   ·obtain rfl := Option.some.inj H
    exact laws_szPage.lf0

/-! ### spec_l01In: function 139 -/
def spec_l01In.f (a0 : Int) (a1 : Int) (a2 : Int) : Option (Bool) := if a0 ≥ a1 then (some (decide (a0 ≤ a2))) else (some false)
theorem spec_l01In.calls (a0 : Int) (a1 : Int) (a2 : Int) (r : Bool) (w : World) (h : spec_l01In.f a0 a1 a2 = some r) :
  Calls Try.prog 139 #[.int .i64 a0, .int .i64 a1, .int .i64 a2] w fun e w' => e = .returned (.bool r) ∧ Drawn0 w w' := by
 have H : (if a0 ≥ a1 then (some (decide (a0 ≤ a2))) else (some false)) = some r := h
 clear h
 by_cases c4 : a0 ≥ a1
 ·rw [if_pos c4] at H
  have c4b0 : decide (a1 ≤ a0) = true := decide_eq_true c4
  clear c4
  obtain rfl := Option.some.inj H
  go_enter Try.func139, Try.ntmps139
  go_wp2
  go_ret
  exact ⟨fS, dS⟩
 ·rw [if_neg c4] at H
  have c4b0 : decide (a1 ≤ a0) = false := decide_eq_false c4
  clear c4
  obtain rfl := Option.some.inj H
  go_enter Try.func139, Try.ntmps139
  go_wp2
  go_ret
  exact ⟨fS, dS⟩

/-! ### spec_StackOk: function 168 -/
def spec_StackOk.l0 : Nat → List Int → Int → Option (Bool)
 | 0, _, _ => none
 | k + 1, x0, x3 => if x3 < (x0.length : Int) then (if 0 ≤ x3 then ((spec_l01In.f (rd x0 x3) (-9999) 9999).bind fun t115 => (if t115 = true then (spec_StackOk.l0 k x0 (wrap64 (x3 + 1))) else (some false))) else (none)) else (some (decide ((x0.length : Int) ≤ 12)))
def spec_StackOk.f (k : Nat) (l0 : List Int) : Option (Bool) := spec_StackOk.l0 k l0 0
theorem spec_StackOk.calls (k : Nat) (A0 : Option Addr) (c0 : Nat) (l0 : List Int) (r : Bool) (w : World) (hr0 : Kd.C (Kd.int .i64) w A0 l0.length l0) (hc0 : l0.length ≤ c0) (h : spec_StackOk.f k l0 = some r) :
  Calls Try.prog 168 #[.slice A0 l0.length c0] w fun e w' => e = .returned (.bool r) ∧ Drawn0 w w' := by
 have HR0 := Aside0.mk hr0
 have HC0 := Aside0.mk hc0
 clear hr0 hc0
 have H : (spec_StackOk.l0 k l0 0) = some r := h
 clear h
 have H' := Aside0.mk H
 clear H
 go_enter Try.func168, Try.ntmps168
 go_wp2
 go_loopg [3] k (fun kq v3 w' => ∃ (x3_1 : Int), v3 = .int .i64 x3_1 ∧ Aside0 (spec_StackOk.l0 kq l0 x3_1 = some r) ∧ Aside0 (kq ≤ k) ∧ Drawn0 w w')
 case atStart => exact ⟨(0), fS, H', ⟨Nat.le_refl _⟩, dS⟩
 case round =>
  clear H'
  try clear c1
  obtain ⟨x3_1, rfl, HA, HK1, ⟨m1, rfl⟩⟩ := hrel
  cases gk with
  | zero => exact absurd HA.out (by simp [spec_StackOk.l0])
  | succ k1 =>
   have H := HA.out
   clear HA
   simp only [spec_StackOk.l0] at H
   rcases iD H with ⟨c2b0, H⟩ | ⟨c2b0, H⟩
   ·obtain ⟨c3b0, H⟩ := iT H
    replace H := bN H
    obtain ⟨t115, A4, H⟩ := H
    by_cases c5 : t115 = true
    ·subst c5
     rw [if_pos rfl] at H
     have H' := Aside0.mk H
     clear H
     have p114 : 0 ≤ (x3_1 : Int) := dA
     have q114 : x3_1 < (l0.length : Int) := dA
     obtain ⟨ad114, e114, hx114_0⟩ := Kd.at_int HR0.out x3_1 p114 q114
     cases e114
     replace p114 := eq_true p114
     replace q114 := eq_true q114
     go_wp2_with (first | ((with_reducible refine gC 139 ?_); refine cL (some 14) Try.func139 #[.int .i64 (rd l0 x3_1), .int .i64 (-9999), .int .i64 9999] ?_; (with_reducible refine (spec_l01In.calls (rd l0 x3_1) (-9999) 9999 _ _ A4.out).mono ?_); rintro e w' ⟨rfl, ⟨nd, rfl⟩⟩; refine ⟨_, rfl, ?_⟩))
     go_roundg k1
     case measure => have := HK1.out; omega
     case rel => exact ⟨(wrap64 (x3_1 + 1)), fS, H', ⟨by have := HK1.out; omega⟩, dS⟩
    ·obtain rfl := Bool.eq_false_iff.mpr c5
     rw [if_neg nF] at H
     obtain rfl := Option.some.inj H
     have p114 : 0 ≤ (x3_1 : Int) := dA
     have q114 : x3_1 < (l0.length : Int) := dA
     obtain ⟨ad114, e114, hx114_0⟩ := Kd.at_int HR0.out x3_1 p114 q114
     cases e114
     replace p114 := eq_true p114
     replace q114 := eq_true q114
     go_wp2_with (first | ((with_reducible refine gC 139 ?_); refine cL (some 14) Try.func139 #[.int .i64 (rd l0 x3_1), .int .i64 (-9999), .int .i64 9999] ?_; (with_reducible refine (spec_l01In.calls (rd l0 x3_1) (-9999) 9999 _ _ A4.out).mono ?_); rintro e w' ⟨rfl, ⟨nd, rfl⟩⟩; refine ⟨_, rfl, ?_⟩))
     go_ret
     exact ⟨fS, dS⟩
   ·obtain rfl := Option.some.inj H
    go_wp2
    go_ret
    exact ⟨fS, dS⟩

/-! ### spec_l02In: function 184 -/
def spec_l02In.f (a0 : Int) : Option (Bool) := (spec_l01In.f a0 (-200) 200).bind fun t116 => (some t116)
theorem spec_l02In.calls (a0 : Int) (r : Bool) (w : World) (h : spec_l02In.f a0 = some r) :
  Calls Try.prog 184 #[.int .i64 a0] w fun e w' => e = .returned (.bool r) ∧ Drawn0 w w' := by
 have H : ((spec_l01In.f a0 (-200) 200).bind fun t116 => (some t116)) = some r := h
 clear h
 replace H := bN H
 obtain ⟨t116, A2, H⟩ := H
 obtain rfl := Option.some.inj H
 go_enter Try.func184, Try.ntmps184
 go_wp2_with (first | ((with_reducible refine gC 139 ?_); refine cL (some 4) Try.func139 #[.int .i64 a0, .int .i64 (-200), .int .i64 200] ?_; (with_reducible refine (spec_l01In.calls a0 (-200) 200 t116 _ A2.out).mono ?_); rintro e w' ⟨rfl, ⟨nd, rfl⟩⟩; refine ⟨_, rfl, ?_⟩))
 go_ret
 exact ⟨fS, dS⟩

/-! ### spec_TurnOk: function 169 -/
def spec_TurnOk.f (a0_0 : Int) (a0_1 : Int) (a0_2 : Int) (a0_3 : Int) : Option (Bool) := (spec_l01In.f a0_0 0 3).bind fun t118 => (if t118 = true then ((spec_l01In.f a0_1 1 4).bind fun t119 => (if t119 = true then ((spec_l02In.f a0_2).bind fun t120 => (if t120 = true then ((spec_l02In.f a0_3).bind fun t121 => (some t121)) else (some false))) else (some false))) else (some false))
theorem spec_TurnOk.lf0 {p : Prop} (h : p := by
 go_enter Try.func169, Try.ntmps169
 go_wp2_with (first | ((with_reducible refine gD 1 ?_); refine bxE #[.int .i64 a0_0, .int .i64 a0_1, .int .i64 a0_2, .int .i64 a0_3] 105 ?_; intro gb117 hg w9 BK117 hb; have GW117 := gE hg; have GE117 := gE hg; replace HB := hB hb; clear hb hg; have hz10 := cz4 BK117) | ((with_reducible refine gC 139 ?_); refine cL (some 5) Try.func139 #[.int .i64 a0_0, .int .i64 0, .int .i64 3] ?_; (with_reducible refine (spec_l01In.calls a0_0 0 3 _ _ A2.out).mono ?_); rintro e w' ⟨rfl, ⟨nd, rfl⟩⟩; refine ⟨_, rfl, ?_⟩) | (go_at_call 139; (with_reducible refine (spec_l01In.calls a0_1 1 4 _ _ A4.out).mono ?_); rintro e w' ⟨rfl, ⟨nd, rfl⟩⟩) | (go_at_call 184; (with_reducible refine (spec_l02In.calls a0_2 _ _ A6.out).mono ?_); rintro e w' ⟨rfl, ⟨nd, rfl⟩⟩) | (go_at_call 184; (with_reducible refine (spec_l02In.calls a0_3 t121 _ A8.out).mono ?_); rintro e w' ⟨rfl, ⟨nd, rfl⟩⟩))
 go_ret
 exact ⟨eS, bS⟩) : p := h
theorem spec_TurnOk.calls (a0_0 : Int) (a0_1 : Int) (a0_2 : Int) (a0_3 : Int) (r : Bool) (w : World) (h : spec_TurnOk.f a0_0 a0_1 a0_2 a0_3 = some r) :
  Calls Try.prog 169 #[.agg #[.int .i64 a0_0, .int .i64 a0_1, .int .i64 a0_2, .int .i64 a0_3]] w fun e w' => e = .returned (.bool r) ∧ Below w.heap.size w w' := by
 have hu105 := Try.underlying105
 have HB := Aside0.mk (Below.refl w.heap.size w)
 have H : ((spec_l01In.f a0_0 0 3).bind fun t118 => (if t118 = true then ((spec_l01In.f a0_1 1 4).bind fun t119 => (if t119 = true then ((spec_l02In.f a0_2).bind fun t120 => (if t120 = true then ((spec_l02In.f a0_3).bind fun t121 => (some t121)) else (some false))) else (some false))) else (some false))) = some r := h
 clear h
 replace H := bN H
 obtain ⟨t118, A2, H⟩ := H
 by_cases c3 : t118 = true
 ·subst c3
  rw [if_pos rfl] at H
  replace H := bN H
  obtain ⟨t119, A4, H⟩ := H
  by_cases c5 : t119 = true
  ·subst c5
   rw [if_pos rfl] at H
   replace H := bN H
   obtain ⟨t120, A6, H⟩ := H
   by_cases c7 : t120 = true
   ·subst c7
    rw [if_pos rfl] at H
    replace H := bN H
    obtain ⟨t121, A8, H⟩ := H
    obtain rfl := Option.some.inj H
    exact spec_TurnOk.lf0
   ·obtain rfl := Bool.eq_false_iff.mpr c7
    rw [if_neg nF] at H
    obtain rfl := Option.some.inj H
    exact spec_TurnOk.lf0
  ·obtain rfl := Bool.eq_false_iff.mpr c5
   rw [if_neg nF] at H
   obtain rfl := Option.some.inj H
   exact spec_TurnOk.lf0
 ·obtain rfl := Bool.eq_false_iff.mpr c3
  rw [if_neg nF] at H
  obtain rfl := Option.some.inj H
  exact spec_TurnOk.lf0

/-! ### spec_BoxOk: function 170 -/
def spec_BoxOk.f (a0_0 : Int) (a0_1 : Int) (a0_2 : Int) (a0_3 : Int) : Option (Bool) := (spec_l02In.f a0_0).bind fun t123 => (if t123 = true then ((spec_l02In.f a0_1).bind fun t124 => (if t124 = true then ((spec_l02In.f a0_2).bind fun t125 => (if t125 = true then ((spec_l02In.f a0_3).bind fun t126 => (if t126 = true then (if a0_0 ≤ a0_2 then (some (decide (a0_1 ≤ a0_3))) else (some false)) else (some false))) else (some false))) else (some false))) else (some false))
theorem spec_BoxOk.lf0 {p : Prop} (h : p := by
 go_enter Try.func170, Try.ntmps170
 go_wp2_with (first | ((with_reducible refine gD 1 ?_); refine bxE #[.int .i64 a0_0, .int .i64 a0_1, .int .i64 a0_2, .int .i64 a0_3] 39 ?_; intro gb122 hg w11 BK122 hb; have GW122 := gE hg; have GE122 := gE hg; replace HB := hB hb; clear hb hg; have hz12 := cz4 BK122) | ((with_reducible refine gC 184 ?_); refine cL (some 5) Try.func184 #[.int .i64 a0_0] ?_; (with_reducible refine (spec_l02In.calls a0_0 _ _ A2.out).mono ?_); rintro e w' ⟨rfl, ⟨nd, rfl⟩⟩; refine ⟨_, rfl, ?_⟩) | (go_at_call 184; (with_reducible refine (spec_l02In.calls a0_1 _ _ A4.out).mono ?_); rintro e w' ⟨rfl, ⟨nd, rfl⟩⟩) | (go_at_call 184; (with_reducible refine (spec_l02In.calls a0_2 _ _ A6.out).mono ?_); rintro e w' ⟨rfl, ⟨nd, rfl⟩⟩) | (go_at_call 184; (with_reducible refine (spec_l02In.calls a0_3 _ _ A8.out).mono ?_); rintro e w' ⟨rfl, ⟨nd, rfl⟩⟩))
 go_ret
 exact ⟨eS, bS⟩) : p := h
theorem spec_BoxOk.calls (a0_0 : Int) (a0_1 : Int) (a0_2 : Int) (a0_3 : Int) (r : Bool) (w : World) (h : spec_BoxOk.f a0_0 a0_1 a0_2 a0_3 = some r) :
  Calls Try.prog 170 #[.agg #[.int .i64 a0_0, .int .i64 a0_1, .int .i64 a0_2, .int .i64 a0_3]] w fun e w' => e = .returned (.bool r) ∧ Below w.heap.size w w' := by
 have hu39 := Try.underlying39
 have HB := Aside0.mk (Below.refl w.heap.size w)
 have H : ((spec_l02In.f a0_0).bind fun t123 => (if t123 = true then ((spec_l02In.f a0_1).bind fun t124 => (if t124 = true then ((spec_l02In.f a0_2).bind fun t125 => (if t125 = true then ((spec_l02In.f a0_3).bind fun t126 => (if t126 = true then (if a0_0 ≤ a0_2 then (some (decide (a0_1 ≤ a0_3))) else (some false)) else (some false))) else (some false))) else (some false))) else (some false))) = some r := h
 clear h
 replace H := bN H
 obtain ⟨t123, A2, H⟩ := H
 by_cases c3 : t123 = true
 ·subst c3
  rw [if_pos rfl] at H
  replace H := bN H
  obtain ⟨t124, A4, H⟩ := H
  by_cases c5 : t124 = true
  ·subst c5
   rw [if_pos rfl] at H
   replace H := bN H
   obtain ⟨t125, A6, H⟩ := H
   by_cases c7 : t125 = true
   ·subst c7
    rw [if_pos rfl] at H
    replace H := bN H
    obtain ⟨t126, A8, H⟩ := H
    by_cases c9 : t126 = true
    ·subst c9
     rw [if_pos rfl] at H
     rcases iD H with ⟨c10b0, H⟩ | ⟨c10b0, H⟩
     ·obtain rfl := Option.some.inj H
      exact spec_BoxOk.lf0
     ·obtain rfl := Option.some.inj H
      exact spec_BoxOk.lf0
    ·obtain rfl := Bool.eq_false_iff.mpr c9
     rw [if_neg nF] at H
     obtain rfl := Option.some.inj H
     exact spec_BoxOk.lf0
   ·obtain rfl := Bool.eq_false_iff.mpr c7
    rw [if_neg nF] at H
    obtain rfl := Option.some.inj H
    exact spec_BoxOk.lf0
  ·obtain rfl := Bool.eq_false_iff.mpr c5
   rw [if_neg nF] at H
   obtain rfl := Option.some.inj H
   exact spec_BoxOk.lf0
 ·obtain rfl := Bool.eq_false_iff.mpr c3
  rw [if_neg nF] at H
  obtain rfl := Option.some.inj H
  exact spec_BoxOk.lf0

/-! ### spec_PointOk: function 186 -/
def spec_PointOk.f (a0_0 : Int) (a0_1 : Int) : Option (Bool) := (spec_l02In.f a0_0).bind fun t128 => (if t128 = true then ((spec_l02In.f a0_1).bind fun t129 => (some t129)) else (some false))
theorem spec_PointOk.lf0 {p : Prop} (h : p := by
 go_enter Try.func186, Try.ntmps186
 go_wp2_with (first | ((with_reducible refine gD 1 ?_); refine bxE #[.int .i64 a0_0, .int .i64 a0_1] 166 ?_; intro gb127 hg w5 BK127 hb; have GW127 := gE hg; have GE127 := gE hg; replace HB := hB hb; clear hb hg; have hz6 := cz2 BK127) | ((with_reducible refine gC 184 ?_); refine cL (some 5) Try.func184 #[.int .i64 a0_0] ?_; (with_reducible refine (spec_l02In.calls a0_0 _ _ A2.out).mono ?_); rintro e w' ⟨rfl, ⟨nd, rfl⟩⟩; refine ⟨_, rfl, ?_⟩) | (go_at_call 184; (with_reducible refine (spec_l02In.calls a0_1 t129 _ A4.out).mono ?_); rintro e w' ⟨rfl, ⟨nd, rfl⟩⟩))
 go_ret
 exact ⟨eS, bS⟩) : p := h
theorem spec_PointOk.calls (a0_0 : Int) (a0_1 : Int) (r : Bool) (w : World) (h : spec_PointOk.f a0_0 a0_1 = some r) :
  Calls Try.prog 186 #[.agg #[.int .i64 a0_0, .int .i64 a0_1]] w fun e w' => e = .returned (.bool r) ∧ Below w.heap.size w w' := by
 have hu166 := Try.underlying166
 have HB := Aside0.mk (Below.refl w.heap.size w)
 have H : ((spec_l02In.f a0_0).bind fun t128 => (if t128 = true then ((spec_l02In.f a0_1).bind fun t129 => (some t129)) else (some false))) = some r := h
 clear h
 replace H := bN H
 obtain ⟨t128, A2, H⟩ := H
 by_cases c3 : t128 = true
 ·subst c3
  rw [if_pos rfl] at H
  replace H := bN H
  obtain ⟨t129, A4, H⟩ := H
  obtain rfl := Option.some.inj H
  exact spec_PointOk.lf0
 ·obtain rfl := Bool.eq_false_iff.mpr c3
  rw [if_neg nF] at H
  obtain rfl := Option.some.inj H
  exact spec_PointOk.lf0

end Go.Proofs.Ytimpejidlnjhlaa.QFnExactPageOk
