-- Made out of the translation by a program of this session (a changed copy of the print). Not trusted: Lean checks it.
import Derived.Test.YtigodjcnkgebaaaQFnExactPaintObjectx0
namespace Go.Proofs.Ytigodjcnkgebaaa.QFnExactPaintObject
open Go.RowKit Go.Proofs.YtigodjcnkgebaaaW.PrintWords Go.Proofs.YtigodjcnkgebaaaW.PrintLast Go.Proofs.YtigodjcnkgebaaaW.PrintMore
attribute [local go_sem] max2_int min2_int max_two min_two max_three min_three max_four min_four   -- for this text's walks alone
set_option linter.unusedVariables false
set_option linter.unusedSimpArgs false
set_option maxHeartbeats 8000000
set_option maxRecDepth 100000

/-! ### laws_szIntS: function 121 -/
def laws_szIntS.f (l0 : List Int) (a1 : Int) : Option (Int) := if (wrap64 (a1 - (l0.length : Int))) < 0 then (some (-1)) else (some (wrap64 (a1 - (l0.length : Int))))
theorem laws_szIntS.calls (A0 : Option Addr) (c0 : Nat) (l0 : List Int) (a1 : Int) (r : Int) (w : World) (hr0 : Kd.C (Kd.int .i64) w A0 l0.length l0) (hc0 : l0.length ≤ c0) (h : laws_szIntS.f l0 a1 = some r) :
    Calls Try.prog 121 #[.slice A0 l0.length c0, .int .i64 a1] w fun e w' => e = .returned (.int .i64 r) ∧ Drawn0 w w' := by
  have HR0 := Aside0.mk hr0
  have HC0 := Aside0.mk hc0
  clear hr0 hc0
  have H : (if (wrap64 (a1 - (l0.length : Int))) < 0 then (some (-1)) else (some (wrap64 (a1 - (l0.length : Int))))) = some r := h
  clear h
  by_cases c3 : (wrap64 (a1 - (l0.length : Int))) < 0
  · rw [if_pos c3] at H
    have c3b0 : decide ((wrap64 (a1 - (l0.length : Int))) < 0) = true := decide_eq_true c3
    clear c3
    obtain rfl := Option.some.inj H
    go_enter Try.func121, Try.ntmps121
    go_wp2
    go_ret
    exact ⟨by first | rfl | (simp; done) | (simp [*]; done), by repeat (first | exact Drawn0.refl _ | apply Drawn0.step)⟩
  · rw [if_neg c3] at H
    have c3b0 : decide ((wrap64 (a1 - (l0.length : Int))) < 0) = false := decide_eq_false c3
    clear c3
    obtain rfl := Option.some.inj H
    go_enter Try.func121, Try.ntmps121
    go_wp2
    go_ret
    exact ⟨by first | rfl | (simp; done) | (simp [*]; done), by repeat (first | exact Drawn0.refl _ | apply Drawn0.step)⟩

/-! ### laws_szIntSS: function 50 -/
def laws_szIntSS.l0 : Nat → List (List Int) → Int → Int → Option (Int)
  | 0, _, _, _ => none
  | k + 1, x0, x1, x5 => if x5 < (x0.length : Int) then (if 0 ≤ x5 then ((laws_szIntS.f (rd_L3 x0 x5) x1).bind fun t143 => (if t143 < 0 then (some (-1)) else (laws_szIntSS.l0 k x0 t143 (wrap64 (x5 + 1))))) else (none)) else (some x1)
def laws_szIntSS.f (k : Nat) (l0 : List (List Int)) (a1 : Int) : Option (Int) := if (wrap64 (a1 - (l0.length : Int))) < 0 then (some (-1)) else (laws_szIntSS.l0 k l0 (wrap64 (a1 - (l0.length : Int))) 0)
theorem laws_szIntSS.calls (k : Nat) (A0 : Option Addr) (c0 : Nat) (l0 : List (List Int)) (a1 : Int) (r : Int) (w : World) (hr0 : Kd.C (Kd.slice 3 (Kd.int .i64)) w A0 l0.length l0) (hc0 : l0.length ≤ c0) (h : laws_szIntSS.f k l0 a1 = some r) :
    Calls Try.prog 50 #[.slice A0 l0.length c0, .int .i64 a1] w fun e w' => e = .returned (.int .i64 r) ∧ Drawn0 w w' := by
  have HR0 := Aside0.mk hr0
  have HC0 := Aside0.mk hc0
  clear hr0 hc0
  have H : (if (wrap64 (a1 - (l0.length : Int))) < 0 then (some (-1)) else (laws_szIntSS.l0 k l0 (wrap64 (a1 - (l0.length : Int))) 0)) = some r := h
  clear h
  by_cases c3 : (wrap64 (a1 - (l0.length : Int))) < 0
  · rw [if_pos c3] at H
    have c3b0 : decide ((wrap64 (a1 - (l0.length : Int))) < 0) = true := decide_eq_true c3
    clear c3
    obtain rfl := Option.some.inj H
    go_enter Try.func50, Try.ntmps50
    go_wp2
    go_ret
    exact ⟨by first | rfl | (simp; done) | (simp [*]; done), by repeat (first | exact Drawn0.refl _ | apply Drawn0.step)⟩
  · rw [if_neg c3] at H
    have c3b0 : decide ((wrap64 (a1 - (l0.length : Int))) < 0) = false := decide_eq_false c3
    clear c3
    have H' := Aside0.mk H
    clear H
    go_enter Try.func50, Try.ntmps50
    go_wp2
    go_loopg [1, 5] k (fun kq v1 v5 w' => ∃ (x1_1 : Int) (x5_1 : Int), v1 = .int .i64 x1_1 ∧ v5 = .int .i64 x5_1 ∧ Aside0 (laws_szIntSS.l0 kq l0 x1_1 x5_1 = some r) ∧ Aside0 (kq ≤ k) ∧ Drawn0 w w')
    case atStart => exact ⟨(wrap64 (a1 - (l0.length : Int))), (0), (by first | rfl | (simp; done) | (simp [*]; done)), (by first | rfl | (simp; done) | (simp [*]; done)), H', ⟨Nat.le_refl _⟩, by repeat (first | exact Drawn0.refl _ | apply Drawn0.step)⟩
    case round =>
      clear H'
      try clear p2
      try clear c3
      try clear c3b0
      obtain ⟨x1_1, x5_1, rfl, rfl, HA, HK1, ⟨m1, rfl⟩⟩ := hrel
      cases gk with
      | zero => exact absurd HA.out (by simp [laws_szIntSS.l0])
      | succ k1 =>
        have H := HA.out
        clear HA
        simp only [laws_szIntSS.l0] at H
        by_cases c4 : x5_1 < (l0.length : Int)
        · rw [if_pos c4] at H
          have c4b0 : decide (x5_1 < (l0.length : Int)) = true := decide_eq_true c4
          clear c4
          by_cases c5 : 0 ≤ x5_1
          · rw [if_pos c5] at H
            have c5b0 : decide (0 ≤ x5_1) = true := decide_eq_true c5
            clear c5
            replace H := bN H
            obtain ⟨t143, A6, H⟩ := H
            by_cases c7 : t143 < 0
            · rw [if_pos c7] at H
              have c7b0 : decide (t143 < 0) = true := decide_eq_true c7
              clear c7
              obtain rfl := Option.some.inj H
              have p142 : 0 ≤ (x5_1 : Int) := of_decide_eq_true (by first | (with_reducible assumption) | assumption)
              have q142 : x5_1 < (l0.length : Int) := of_decide_eq_true (by first | (with_reducible assumption) | assumption)
              obtain ⟨ad142, A142_0, c142_0, e142, hx142_0, hl142_0, hi142_0⟩ := at_L3 HR0.out x5_1 p142 q142
              cases e142
              have HR142_0 := Aside0.mk hi142_0
              have HC142_0 := Aside0.mk hl142_0
              clear hi142_0 hl142_0
              replace p142 := eq_true p142
              replace q142 := eq_true q142
              go_wp2_with (first | ((with_reducible refine gC 121 ?_); refine cL (some 23) Try.func121 #[.slice A142_0 (rd_L3 l0 x5_1).length c142_0, .int .i64 x1_1] ?_; (with_reducible refine (laws_szIntS.calls _ _ (rd_L3 l0 x5_1) x1_1 t143 _ ?side1 ?side2 A6.out).mono ?_); (case side1 => repeat (first | exact HR142_0.out | (with_reducible refine Kd.C_alloc ?_ _) | (with_reducible refine Kd.C_drewN ?_ _) | (with_reducible refine Kd.C_drew ?_))); (case side2 => exact HC142_0.out); rintro e w' ⟨rfl, ⟨nd, rfl⟩⟩; refine ⟨_, rfl, ?_⟩))
              go_ret
              exact ⟨by first | rfl | (simp; done) | (simp [*]; done), by repeat (first | exact Drawn0.refl _ | apply Drawn0.step)⟩
            · rw [if_neg c7] at H
              have c7b0 : decide (t143 < 0) = false := decide_eq_false c7
              clear c7
              have H' := Aside0.mk H
              clear H
              have p142 : 0 ≤ (x5_1 : Int) := of_decide_eq_true (by first | (with_reducible assumption) | assumption)
              have q142 : x5_1 < (l0.length : Int) := of_decide_eq_true (by first | (with_reducible assumption) | assumption)
              obtain ⟨ad142, A142_0, c142_0, e142, hx142_0, hl142_0, hi142_0⟩ := at_L3 HR0.out x5_1 p142 q142
              cases e142
              have HR142_0 := Aside0.mk hi142_0
              have HC142_0 := Aside0.mk hl142_0
              clear hi142_0 hl142_0
              replace p142 := eq_true p142
              replace q142 := eq_true q142
              go_wp2_with (first | ((with_reducible refine gC 121 ?_); refine cL (some 23) Try.func121 #[.slice A142_0 (rd_L3 l0 x5_1).length c142_0, .int .i64 x1_1] ?_; (with_reducible refine (laws_szIntS.calls _ _ (rd_L3 l0 x5_1) x1_1 t143 _ ?side1 ?side2 A6.out).mono ?_); (case side1 => repeat (first | exact HR142_0.out | (with_reducible refine Kd.C_alloc ?_ _) | (with_reducible refine Kd.C_drewN ?_ _) | (with_reducible refine Kd.C_drew ?_))); (case side2 => exact HC142_0.out); rintro e w' ⟨rfl, ⟨nd, rfl⟩⟩; refine ⟨_, rfl, ?_⟩))
              go_roundg k1
              case measure => have := HK1.out; omega
              case rel => exact ⟨(t143), (wrap64 (x5_1 + 1)), (by first | rfl | (simp; done) | (simp [*]; done)), (by first | rfl | (simp; done) | (simp [*]; done)), H', ⟨by have := HK1.out; omega⟩, by repeat (first | exact Drawn0.refl _ | apply Drawn0.step)⟩
          · rw [if_neg c5] at H
            exact absurd H (by simp)
        · rw [if_neg c4] at H
          have c4b0 : decide (x5_1 < (l0.length : Int)) = false := decide_eq_false c4
          clear c4
          obtain rfl := Option.some.inj H
          go_wp2
          go_ret
          exact ⟨by first | rfl | (simp; done) | (simp [*]; done), by repeat (first | exact Drawn0.refl _ | apply Drawn0.step)⟩

/-! ### spec_l01In: function 123 -/
def spec_l01In.f (a0 : Int) (a1 : Int) (a2 : Int) : Option (Bool) := if a0 ≥ a1 then (some (decide (a0 ≤ a2))) else (some false)
theorem spec_l01In.calls (a0 : Int) (a1 : Int) (a2 : Int) (r : Bool) (w : World) (h : spec_l01In.f a0 a1 a2 = some r) :
    Calls Try.prog 123 #[.int .i64 a0, .int .i64 a1, .int .i64 a2] w fun e w' => e = .returned (.bool r) ∧ Drawn0 w w' := by
  have H : (if a0 ≥ a1 then (some (decide (a0 ≤ a2))) else (some false)) = some r := h
  clear h
  by_cases c4 : a0 ≥ a1
  · rw [if_pos c4] at H
    have c4b0 : decide (a1 ≤ a0) = true := decide_eq_true c4
    clear c4
    obtain rfl := Option.some.inj H
    go_enter Try.func123, Try.ntmps123
    go_wp2
    go_ret
    exact ⟨by first | rfl | (simp; done) | (simp [*]; done), by repeat (first | exact Drawn0.refl _ | apply Drawn0.step)⟩
  · rw [if_neg c4] at H
    have c4b0 : decide (a1 ≤ a0) = false := decide_eq_false c4
    clear c4
    obtain rfl := Option.some.inj H
    go_enter Try.func123, Try.ntmps123
    go_wp2
    go_ret
    exact ⟨by first | rfl | (simp; done) | (simp [*]; done), by repeat (first | exact Drawn0.refl _ | apply Drawn0.step)⟩

/-! ### spec_l02In: function 148 -/
def spec_l02In.f (a0 : Int) : Option (Bool) := (spec_l01In.f a0 (-200) 200).bind fun t144 => (some t144)
theorem spec_l02In.calls (a0 : Int) (r : Bool) (w : World) (h : spec_l02In.f a0 = some r) :
    Calls Try.prog 148 #[.int .i64 a0] w fun e w' => e = .returned (.bool r) ∧ Drawn0 w w' := by
  have H : ((spec_l01In.f a0 (-200) 200).bind fun t144 => (some t144)) = some r := h
  clear h
  replace H := bN H
  obtain ⟨t144, A2, H⟩ := H
  obtain rfl := Option.some.inj H
  go_enter Try.func148, Try.ntmps148
  go_wp2_with (first | ((with_reducible refine gC 123 ?_); refine cL (some 4) Try.func123 #[.int .i64 a0, .int .i64 (-200), .int .i64 200] ?_; (with_reducible refine (spec_l01In.calls a0 (-200) 200 t144 _ A2.out).mono ?_); rintro e w' ⟨rfl, ⟨nd, rfl⟩⟩; refine ⟨_, rfl, ?_⟩))
  go_ret
  exact ⟨by first | rfl | (simp; done) | (simp [*]; done), by repeat (first | exact Drawn0.refl _ | apply Drawn0.step)⟩

/-! ### spec_BoxOk: function 145 -/
def spec_BoxOk.f (a0_0 : Int) (a0_1 : Int) (a0_2 : Int) (a0_3 : Int) : Option (Bool) := (spec_l02In.f a0_0).bind fun t146 => (if t146 = true then ((spec_l02In.f a0_1).bind fun t147 => (if t147 = true then ((spec_l02In.f a0_2).bind fun t148 => (if t148 = true then ((spec_l02In.f a0_3).bind fun t149 => (if t149 = true then (if a0_0 ≤ a0_2 then (some (decide (a0_1 ≤ a0_3))) else (some false)) else (some false))) else (some false))) else (some false))) else (some false))
theorem spec_BoxOk.calls (a0_0 : Int) (a0_1 : Int) (a0_2 : Int) (a0_3 : Int) (r : Bool) (w : World) (h : spec_BoxOk.f a0_0 a0_1 a0_2 a0_3 = some r) :
    Calls Try.prog 145 #[.agg #[.int .i64 a0_0, .int .i64 a0_1, .int .i64 a0_2, .int .i64 a0_3]] w fun e w' => e = .returned (.bool r) ∧ Below w.heap.size w w' := by
  have hu43 := Try.underlying43
  have HB := Aside0.mk (Below.refl w.heap.size w)
  have H : ((spec_l02In.f a0_0).bind fun t146 => (if t146 = true then ((spec_l02In.f a0_1).bind fun t147 => (if t147 = true then ((spec_l02In.f a0_2).bind fun t148 => (if t148 = true then ((spec_l02In.f a0_3).bind fun t149 => (if t149 = true then (if a0_0 ≤ a0_2 then (some (decide (a0_1 ≤ a0_3))) else (some false)) else (some false))) else (some false))) else (some false))) else (some false))) = some r := h
  clear h
  replace H := bN H
  obtain ⟨t146, A2, H⟩ := H
  by_cases c3 : t146 = true
  · subst c3
    rw [if_pos rfl] at H
    replace H := bN H
    obtain ⟨t147, A4, H⟩ := H
    by_cases c5 : t147 = true
    · subst c5
      rw [if_pos rfl] at H
      replace H := bN H
      obtain ⟨t148, A6, H⟩ := H
      by_cases c7 : t148 = true
      · subst c7
        rw [if_pos rfl] at H
        replace H := bN H
        obtain ⟨t149, A8, H⟩ := H
        by_cases c9 : t149 = true
        · subst c9
          rw [if_pos rfl] at H
          by_cases c10 : a0_0 ≤ a0_2
          · rw [if_pos c10] at H
            have c10b0 : decide (a0_0 ≤ a0_2) = true := decide_eq_true c10
            clear c10
            obtain rfl := Option.some.inj H
            go_enter Try.func145, Try.ntmps145
            go_wp2_with (first | ((with_reducible refine gD 1 ?_); refine bxE #[.int .i64 a0_0, .int .i64 a0_1, .int .i64 a0_2, .int .i64 a0_3] 43 ?_; intro gb145 hg w11 BK145 hb; have GW145 := gE hg; have GE145 := gE hg; replace HB := hB hb; clear hb hg; have hz12 := cz4 BK145) | ((with_reducible refine gC 148 ?_); refine cL (some 5) Try.func148 #[.int .i64 a0_0] ?_; (with_reducible refine (spec_l02In.calls a0_0 _ _ A2.out).mono ?_); rintro e w' ⟨rfl, ⟨nd, rfl⟩⟩; refine ⟨_, rfl, ?_⟩) | (go_at_call 148; (with_reducible refine (spec_l02In.calls a0_1 _ _ A4.out).mono ?_); rintro e w' ⟨rfl, ⟨nd, rfl⟩⟩) | (go_at_call 148; (with_reducible refine (spec_l02In.calls a0_2 _ _ A6.out).mono ?_); rintro e w' ⟨rfl, ⟨nd, rfl⟩⟩) | (go_at_call 148; (with_reducible refine (spec_l02In.calls a0_3 _ _ A8.out).mono ?_); rintro e w' ⟨rfl, ⟨nd, rfl⟩⟩))
            go_ret
            exact ⟨eS, bS⟩
          · rw [if_neg c10] at H
            have c10b0 : decide (a0_0 ≤ a0_2) = false := decide_eq_false c10
            clear c10
            obtain rfl := Option.some.inj H
            go_enter Try.func145, Try.ntmps145
            go_wp2_with (first | ((with_reducible refine gD 1 ?_); refine bxE #[.int .i64 a0_0, .int .i64 a0_1, .int .i64 a0_2, .int .i64 a0_3] 43 ?_; intro gb145 hg w13 BK145 hb; have GW145 := gE hg; have GE145 := gE hg; replace HB := hB hb; clear hb hg; have hz14 := cz4 BK145) | ((with_reducible refine gC 148 ?_); refine cL (some 5) Try.func148 #[.int .i64 a0_0] ?_; (with_reducible refine (spec_l02In.calls a0_0 _ _ A2.out).mono ?_); rintro e w' ⟨rfl, ⟨nd, rfl⟩⟩; refine ⟨_, rfl, ?_⟩) | (go_at_call 148; (with_reducible refine (spec_l02In.calls a0_1 _ _ A4.out).mono ?_); rintro e w' ⟨rfl, ⟨nd, rfl⟩⟩) | (go_at_call 148; (with_reducible refine (spec_l02In.calls a0_2 _ _ A6.out).mono ?_); rintro e w' ⟨rfl, ⟨nd, rfl⟩⟩) | (go_at_call 148; (with_reducible refine (spec_l02In.calls a0_3 _ _ A8.out).mono ?_); rintro e w' ⟨rfl, ⟨nd, rfl⟩⟩))
            go_ret
            exact ⟨eS, bS⟩
        · obtain rfl := Bool.eq_false_iff.mpr c9
          rw [if_neg nF] at H
          obtain rfl := Option.some.inj H
          go_enter Try.func145, Try.ntmps145
          go_wp2_with (first | ((with_reducible refine gD 1 ?_); refine bxE #[.int .i64 a0_0, .int .i64 a0_1, .int .i64 a0_2, .int .i64 a0_3] 43 ?_; intro gb145 hg w15 BK145 hb; have GW145 := gE hg; have GE145 := gE hg; replace HB := hB hb; clear hb hg; have hz16 := cz4 BK145) | ((with_reducible refine gC 148 ?_); refine cL (some 5) Try.func148 #[.int .i64 a0_0] ?_; (with_reducible refine (spec_l02In.calls a0_0 _ _ A2.out).mono ?_); rintro e w' ⟨rfl, ⟨nd, rfl⟩⟩; refine ⟨_, rfl, ?_⟩) | (go_at_call 148; (with_reducible refine (spec_l02In.calls a0_1 _ _ A4.out).mono ?_); rintro e w' ⟨rfl, ⟨nd, rfl⟩⟩) | (go_at_call 148; (with_reducible refine (spec_l02In.calls a0_2 _ _ A6.out).mono ?_); rintro e w' ⟨rfl, ⟨nd, rfl⟩⟩) | (go_at_call 148; (with_reducible refine (spec_l02In.calls a0_3 _ _ A8.out).mono ?_); rintro e w' ⟨rfl, ⟨nd, rfl⟩⟩))
          go_ret
          exact ⟨eS, bS⟩
      · obtain rfl := Bool.eq_false_iff.mpr c7
        rw [if_neg nF] at H
        obtain rfl := Option.some.inj H
        go_enter Try.func145, Try.ntmps145
        go_wp2_with (first | ((with_reducible refine gD 1 ?_); refine bxE #[.int .i64 a0_0, .int .i64 a0_1, .int .i64 a0_2, .int .i64 a0_3] 43 ?_; intro gb145 hg w17 BK145 hb; have GW145 := gE hg; have GE145 := gE hg; replace HB := hB hb; clear hb hg; have hz18 := cz4 BK145) | ((with_reducible refine gC 148 ?_); refine cL (some 5) Try.func148 #[.int .i64 a0_0] ?_; (with_reducible refine (spec_l02In.calls a0_0 _ _ A2.out).mono ?_); rintro e w' ⟨rfl, ⟨nd, rfl⟩⟩; refine ⟨_, rfl, ?_⟩) | (go_at_call 148; (with_reducible refine (spec_l02In.calls a0_1 _ _ A4.out).mono ?_); rintro e w' ⟨rfl, ⟨nd, rfl⟩⟩) | (go_at_call 148; (with_reducible refine (spec_l02In.calls a0_2 _ _ A6.out).mono ?_); rintro e w' ⟨rfl, ⟨nd, rfl⟩⟩))
        go_ret
        exact ⟨eS, bS⟩
    · obtain rfl := Bool.eq_false_iff.mpr c5
      rw [if_neg nF] at H
      obtain rfl := Option.some.inj H
      go_enter Try.func145, Try.ntmps145
      go_wp2_with (first | ((with_reducible refine gD 1 ?_); refine bxE #[.int .i64 a0_0, .int .i64 a0_1, .int .i64 a0_2, .int .i64 a0_3] 43 ?_; intro gb145 hg w19 BK145 hb; have GW145 := gE hg; have GE145 := gE hg; replace HB := hB hb; clear hb hg; have hz20 := cz4 BK145) | ((with_reducible refine gC 148 ?_); refine cL (some 5) Try.func148 #[.int .i64 a0_0] ?_; (with_reducible refine (spec_l02In.calls a0_0 _ _ A2.out).mono ?_); rintro e w' ⟨rfl, ⟨nd, rfl⟩⟩; refine ⟨_, rfl, ?_⟩) | (go_at_call 148; (with_reducible refine (spec_l02In.calls a0_1 _ _ A4.out).mono ?_); rintro e w' ⟨rfl, ⟨nd, rfl⟩⟩))
      go_ret
      exact ⟨eS, bS⟩
  · obtain rfl := Bool.eq_false_iff.mpr c3
    rw [if_neg nF] at H
    obtain rfl := Option.some.inj H
    go_enter Try.func145, Try.ntmps145
    go_wp2_with (first | ((with_reducible refine gD 1 ?_); refine bxE #[.int .i64 a0_0, .int .i64 a0_1, .int .i64 a0_2, .int .i64 a0_3] 43 ?_; intro gb145 hg w21 BK145 hb; have GW145 := gE hg; have GE145 := gE hg; replace HB := hB hb; clear hb hg; have hz22 := cz4 BK145) | ((with_reducible refine gC 148 ?_); refine cL (some 5) Try.func148 #[.int .i64 a0_0] ?_; (with_reducible refine (spec_l02In.calls a0_0 _ _ A2.out).mono ?_); rintro e w' ⟨rfl, ⟨nd, rfl⟩⟩; refine ⟨_, rfl, ?_⟩))
    go_ret
    exact ⟨eS, bS⟩

/-! ### spec_PointOk: function 186 -/
def spec_PointOk.f (a0_0 : Int) (a0_1 : Int) : Option (Bool) := (spec_l02In.f a0_0).bind fun t151 => (if t151 = true then ((spec_l02In.f a0_1).bind fun t152 => (some t152)) else (some false))
theorem spec_PointOk.calls (a0_0 : Int) (a0_1 : Int) (r : Bool) (w : World) (h : spec_PointOk.f a0_0 a0_1 = some r) :
    Calls Try.prog 186 #[.agg #[.int .i64 a0_0, .int .i64 a0_1]] w fun e w' => e = .returned (.bool r) ∧ Below w.heap.size w w' := by
  have hu171 := Try.underlying171
  have HB := Aside0.mk (Below.refl w.heap.size w)
  have H : ((spec_l02In.f a0_0).bind fun t151 => (if t151 = true then ((spec_l02In.f a0_1).bind fun t152 => (some t152)) else (some false))) = some r := h
  clear h
  replace H := bN H
  obtain ⟨t151, A2, H⟩ := H
  by_cases c3 : t151 = true
  · subst c3
    rw [if_pos rfl] at H
    replace H := bN H
    obtain ⟨t152, A4, H⟩ := H
    obtain rfl := Option.some.inj H
    go_enter Try.func186, Try.ntmps186
    go_wp2_with (first | ((with_reducible refine gD 1 ?_); refine bxE #[.int .i64 a0_0, .int .i64 a0_1] 171 ?_; intro gb150 hg w5 BK150 hb; have GW150 := gE hg; have GE150 := gE hg; replace HB := hB hb; clear hb hg; have hz6 := cz2 BK150) | ((with_reducible refine gC 148 ?_); refine cL (some 5) Try.func148 #[.int .i64 a0_0] ?_; (with_reducible refine (spec_l02In.calls a0_0 _ _ A2.out).mono ?_); rintro e w' ⟨rfl, ⟨nd, rfl⟩⟩; refine ⟨_, rfl, ?_⟩) | (go_at_call 148; (with_reducible refine (spec_l02In.calls a0_1 t152 _ A4.out).mono ?_); rintro e w' ⟨rfl, ⟨nd, rfl⟩⟩))
    go_ret
    exact ⟨eS, bS⟩
  · obtain rfl := Bool.eq_false_iff.mpr c3
    rw [if_neg nF] at H
    obtain rfl := Option.some.inj H
    go_enter Try.func186, Try.ntmps186
    go_wp2_with (first | ((with_reducible refine gD 1 ?_); refine bxE #[.int .i64 a0_0, .int .i64 a0_1] 171 ?_; intro gb150 hg w7 BK150 hb; have GW150 := gE hg; have GE150 := gE hg; replace HB := hB hb; clear hb hg; have hz8 := cz2 BK150) | ((with_reducible refine gC 148 ?_); refine cL (some 5) Try.func148 #[.int .i64 a0_0] ?_; (with_reducible refine (spec_l02In.calls a0_0 _ _ A2.out).mono ?_); rintro e w' ⟨rfl, ⟨nd, rfl⟩⟩; refine ⟨_, rfl, ?_⟩))
    go_ret
    exact ⟨eS, bS⟩

/-! ### spec_l07Points: function 147 -/
def spec_l07Points.l0 : Nat → List (S171) → Int → Option (Bool)
  | 0, _, _ => none
  | k + 1, x0, x3 => if x3 < (x0.length : Int) then (if 0 ≤ x3 then ((spec_PointOk.f ((rd_T171 x0 x3).f0) ((rd_T171 x0 x3).f1)).bind fun t154 => (if t154 = true then (spec_l07Points.l0 k x0 (wrap64 (x3 + 1))) else (some false))) else (none)) else (some (decide ((x0.length : Int) ≤ 8)))
def spec_l07Points.f (k : Nat) (l0 : List (S171)) : Option (Bool) := spec_l07Points.l0 k l0 0
theorem spec_l07Points.calls (k : Nat) (A0 : Option Addr) (c0 : Nat) (l0 : List (S171)) (r : Bool) (w : World) (hr0 : Kd.C k171 w A0 l0.length l0) (hc0 : l0.length ≤ c0) (h : spec_l07Points.f k l0 = some r) :
    Calls Try.prog 147 #[.slice A0 l0.length c0] w fun e w' => e = .returned (.bool r) ∧ Below w.heap.size w w' := by
  have hu171 := Try.underlying171
  have HR0 := Aside0.mk hr0
  have HC0 := Aside0.mk hc0
  clear hr0 hc0
  have HB := Aside0.mk (Below.refl w.heap.size w)
  have H : (spec_l07Points.l0 k l0 0) = some r := h
  clear h
  have H' := Aside0.mk H
  clear H
  go_enter Try.func147, Try.ntmps147
  go_wp2
  go_loopg [3] k (fun kq v3 w' => ∃ (x3_1 : Int), v3 = .int .i64 x3_1 ∧ Aside0 (spec_l07Points.l0 kq l0 x3_1 = some r) ∧ Aside0 (kq ≤ k) ∧ Aside0 (Below w.heap.size w w'))
  case atStart => exact ⟨(0), (by first | rfl | (simp; done) | (simp [*]; done)), H', ⟨Nat.le_refl _⟩, ⟨bS⟩⟩
  case round =>
    clear H'
    try clear c1
    obtain ⟨x3_1, rfl, HA, HK1, HB⟩ := hrel
    cases gk with
    | zero => exact absurd HA.out (by simp [spec_l07Points.l0])
    | succ k1 =>
      have H := HA.out
      clear HA
      simp only [spec_l07Points.l0] at H
      by_cases c2 : x3_1 < (l0.length : Int)
      · rw [if_pos c2] at H
        have c2b0 : decide (x3_1 < (l0.length : Int)) = true := decide_eq_true c2
        clear c2
        by_cases c3 : 0 ≤ x3_1
        · rw [if_pos c3] at H
          have c3b0 : decide (0 ≤ x3_1) = true := decide_eq_true c3
          clear c3
          replace H := bN H
          obtain ⟨t154, A4, H⟩ := H
          by_cases c5 : t154 = true
          · subst c5
            rw [if_pos rfl] at H
            have H' := Aside0.mk H
            clear H
            have p153 : 0 ≤ (x3_1 : Int) := of_decide_eq_true (by first | (with_reducible assumption) | assumption)
            have q153 : x3_1 < (l0.length : Int) := of_decide_eq_true (by first | (with_reducible assumption) | assumption)
            obtain ⟨ad153, e153, hx153_0, hx153_1⟩ := at_T171 HR0.out x3_1 p153 q153
            cases e153
            replace hx153_0 := (HB.out.cell (World.block_lt_of_cell? w _ hx153_0)).trans hx153_0
            replace hx153_1 := (HB.out.cell (World.block_lt_of_cell? w _ hx153_1)).trans hx153_1
            replace p153 := eq_true p153
            replace q153 := eq_true q153
            go_wp2_with (first | ((with_reducible refine gC 186 ?_); refine cL (some 14) Try.func186 #[.agg #[.int .i64 ((rd_T171 l0 x3_1).f0), .int .i64 ((rd_T171 l0 x3_1).f1)]] ?_; (with_reducible refine (spec_PointOk.calls ((rd_T171 l0 x3_1).f0) ((rd_T171 l0 x3_1).f1) _ _ A4.out).mono ?_); rintro e w6 ⟨rfl, hb⟩; refine ⟨_, rfl, ?_⟩; replace HB := hB hb; (try clear hb); (try clear hb2); (try clear hk); (try clear hi)))
            go_roundg k1
            case measure => have := HK1.out; omega
            case rel => exact ⟨(wrap64 (x3_1 + 1)), (by first | rfl | (simp; done) | (simp [*]; done)), H', ⟨by have := HK1.out; omega⟩, ⟨bS⟩⟩
          · obtain rfl := Bool.eq_false_iff.mpr c5
            rw [if_neg nF] at H
            obtain rfl := Option.some.inj H
            have p153 : 0 ≤ (x3_1 : Int) := of_decide_eq_true (by first | (with_reducible assumption) | assumption)
            have q153 : x3_1 < (l0.length : Int) := of_decide_eq_true (by first | (with_reducible assumption) | assumption)
            obtain ⟨ad153, e153, hx153_0, hx153_1⟩ := at_T171 HR0.out x3_1 p153 q153
            cases e153
            replace hx153_0 := (HB.out.cell (World.block_lt_of_cell? w _ hx153_0)).trans hx153_0
            replace hx153_1 := (HB.out.cell (World.block_lt_of_cell? w _ hx153_1)).trans hx153_1
            replace p153 := eq_true p153
            replace q153 := eq_true q153
            go_wp2_with (first | ((with_reducible refine gC 186 ?_); refine cL (some 14) Try.func186 #[.agg #[.int .i64 ((rd_T171 l0 x3_1).f0), .int .i64 ((rd_T171 l0 x3_1).f1)]] ?_; (with_reducible refine (spec_PointOk.calls ((rd_T171 l0 x3_1).f0) ((rd_T171 l0 x3_1).f1) _ _ A4.out).mono ?_); rintro e w7 ⟨rfl, hb⟩; refine ⟨_, rfl, ?_⟩; replace HB := hB hb; (try clear hb); (try clear hb2); (try clear hk); (try clear hi)))
            go_ret
            exact ⟨eS, bS⟩
        · rw [if_neg c3] at H
          exact absurd H (by simp)
      · rw [if_neg c2] at H
        have c2b0 : decide (x3_1 < (l0.length : Int)) = false := decide_eq_false c2
        clear c2
        obtain rfl := Option.some.inj H
        go_wp2
        go_ret
        exact ⟨eS, bS⟩

/-! ### spec_l07Object: function 160 -/
def spec_l07Object.f (k : Nat) (l0_0 : List (S171)) (a0_1 : Int) (a0_2 : Int) (a0_3 : Int) (a0_4 : Int) (a0_5 : Int) : Option (Bool) := if (l0_0.length : Int) ≥ 3 then ((spec_l07Points.f k l0_0).bind fun t156 => (if t156 = true then ((spec_l01In.f a0_1 0 255).bind fun t157 => (if t157 = true then ((spec_BoxOk.f a0_2 a0_3 a0_4 a0_5).bind fun t158 => (some t158)) else (some false))) else (some false))) else (some false)
theorem spec_l07Object.calls (k : Nat) (A0_0 : Option Addr) (c0_0 : Nat) (l0_0 : List (S171)) (a0_1 : Int) (a0_2 : Int) (a0_3 : Int) (a0_4 : Int) (a0_5 : Int) (r : Bool) (w : World) (hr0_0 : Kd.C k171 w A0_0 l0_0.length l0_0) (hc0_0 : l0_0.length ≤ c0_0) (h : spec_l07Object.f k l0_0 a0_1 a0_2 a0_3 a0_4 a0_5 = some r) :
    Calls Try.prog 160 #[.agg #[.slice A0_0 l0_0.length c0_0, .int .i64 a0_1, .int .i64 a0_2, .int .i64 a0_3, .int .i64 a0_4, .int .i64 a0_5]] w fun e w' => e = .returned (.bool r) ∧ Below w.heap.size w w' := by
  have hu45 := Try.underlying45
  have hu43 := Try.underlying43
  have HR0_0 := Aside0.mk hr0_0
  have HC0_0 := Aside0.mk hc0_0
  clear hr0_0 hc0_0
  have HB := Aside0.mk (Below.refl w.heap.size w)
  have H : (if (l0_0.length : Int) ≥ 3 then ((spec_l07Points.f k l0_0).bind fun t156 => (if t156 = true then ((spec_l01In.f a0_1 0 255).bind fun t157 => (if t157 = true then ((spec_BoxOk.f a0_2 a0_3 a0_4 a0_5).bind fun t158 => (some t158)) else (some false))) else (some false))) else (some false)) = some r := h
  clear h
  by_cases c2 : (l0_0.length : Int) ≥ 3
  · rw [if_pos c2] at H
    have c2b0 : decide (3 ≤ (l0_0.length : Int)) = true := decide_eq_true c2
    have c2b1 : decide (3 ≤ l0_0.length) = true := decide_eq_true (by omega)
    clear c2
    replace H := bN H
    obtain ⟨t156, A3, H⟩ := H
    by_cases c4 : t156 = true
    · subst c4
      rw [if_pos rfl] at H
      replace H := bN H
      obtain ⟨t157, A5, H⟩ := H
      by_cases c6 : t157 = true
      · subst c6
        rw [if_pos rfl] at H
        replace H := bN H
        obtain ⟨t158, A7, H⟩ := H
        obtain rfl := Option.some.inj H
        go_enter Try.func160, Try.ntmps160
        go_wp2_with (first | ((with_reducible refine gD 1 ?_); refine bxE #[.slice A0_0 l0_0.length c0_0, .int .i64 a0_1, .int .i64 a0_2, .int .i64 a0_3, .int .i64 a0_4, .int .i64 a0_5] 45 ?_; intro gb155 hg w8 BK155 hb; have GW155 := gE hg; have GE155 := gE hg; replace HB := hB hb; clear hb hg; have hz9 := cz6 BK155) | (go_at_call 147; (with_reducible refine (spec_l07Points.calls k _ _ l0_0 _ _ ?side1 ?side2 A3.out).mono ?_); (case side1 => exact cS (Kd.C_below HR0_0.out HB.out)); (case side2 => exact HC0_0.out); rintro e w10 ⟨rfl, hb⟩; replace BK155 := kB (g := gb155) hb; replace HB := hB hb; (try clear hb); (try clear hb2); (try clear hk); (try clear hi); have hz11 := cz6 BK155) | (go_at_call 123; (with_reducible refine (spec_l01In.calls a0_1 0 255 _ _ A5.out).mono ?_); rintro e w' ⟨rfl, ⟨nd, rfl⟩⟩) | (go_at_call 145; (with_reducible refine (spec_BoxOk.calls a0_2 a0_3 a0_4 a0_5 t158 _ A7.out).mono ?_); rintro e w12 ⟨rfl, hb⟩; replace BK155 := kB (g := gb155) hb; replace HB := hB hb; (try clear hb); (try clear hb2); (try clear hk); (try clear hi)))
        go_ret
        exact ⟨eS, bS⟩
      · obtain rfl := Bool.eq_false_iff.mpr c6
        rw [if_neg nF] at H
        obtain rfl := Option.some.inj H
        go_enter Try.func160, Try.ntmps160
        go_wp2_with (first | ((with_reducible refine gD 1 ?_); refine bxE #[.slice A0_0 l0_0.length c0_0, .int .i64 a0_1, .int .i64 a0_2, .int .i64 a0_3, .int .i64 a0_4, .int .i64 a0_5] 45 ?_; intro gb155 hg w13 BK155 hb; have GW155 := gE hg; have GE155 := gE hg; replace HB := hB hb; clear hb hg; have hz14 := cz6 BK155) | (go_at_call 147; (with_reducible refine (spec_l07Points.calls k _ _ l0_0 _ _ ?side1 ?side2 A3.out).mono ?_); (case side1 => exact cS (Kd.C_below HR0_0.out HB.out)); (case side2 => exact HC0_0.out); rintro e w15 ⟨rfl, hb⟩; replace BK155 := kB (g := gb155) hb; replace HB := hB hb; (try clear hb); (try clear hb2); (try clear hk); (try clear hi); have hz16 := cz6 BK155) | (go_at_call 123; (with_reducible refine (spec_l01In.calls a0_1 0 255 _ _ A5.out).mono ?_); rintro e w' ⟨rfl, ⟨nd, rfl⟩⟩))
        go_ret
        exact ⟨eS, bS⟩
    · obtain rfl := Bool.eq_false_iff.mpr c4
      rw [if_neg nF] at H
      obtain rfl := Option.some.inj H
      go_enter Try.func160, Try.ntmps160
      go_wp2_with (first | ((with_reducible refine gD 1 ?_); refine bxE #[.slice A0_0 l0_0.length c0_0, .int .i64 a0_1, .int .i64 a0_2, .int .i64 a0_3, .int .i64 a0_4, .int .i64 a0_5] 45 ?_; intro gb155 hg w17 BK155 hb; have GW155 := gE hg; have GE155 := gE hg; replace HB := hB hb; clear hb hg; have hz18 := cz6 BK155) | (go_at_call 147; (with_reducible refine (spec_l07Points.calls k _ _ l0_0 _ _ ?side1 ?side2 A3.out).mono ?_); (case side1 => exact cS (Kd.C_below HR0_0.out HB.out)); (case side2 => exact HC0_0.out); rintro e w19 ⟨rfl, hb⟩; replace BK155 := kB (g := gb155) hb; replace HB := hB hb; (try clear hb); (try clear hb2); (try clear hk); (try clear hi)))
      go_ret
      exact ⟨eS, bS⟩
  · rw [if_neg c2] at H
    have c2b0 : decide (3 ≤ (l0_0.length : Int)) = false := decide_eq_false c2
    have c2b1 : decide (3 ≤ l0_0.length) = false := decide_eq_false (by omega)
    clear c2
    obtain rfl := Option.some.inj H
    go_enter Try.func160, Try.ntmps160
    go_wp2_with (first | ((with_reducible refine gD 1 ?_); refine bxE #[.slice A0_0 l0_0.length c0_0, .int .i64 a0_1, .int .i64 a0_2, .int .i64 a0_3, .int .i64 a0_4, .int .i64 a0_5] 45 ?_; intro gb155 hg w20 BK155 hb; have GW155 := gE hg; have GE155 := gE hg; replace HB := hB hb; clear hb hg; have hz21 := cz6 BK155))
    go_ret
    exact ⟨eS, bS⟩

/-! ### spec_ObjectOk: function 95 -/
def spec_ObjectOk.f (k : Nat) (l0_0 : List (S171)) (a0_1 : Int) (a0_2 : Int) (a0_3 : Int) (a0_4 : Int) (a0_5 : Int) : Option (Bool) := (spec_l07Object.f k l0_0 a0_1 a0_2 a0_3 a0_4 a0_5).bind fun t160 => (some t160)
theorem spec_ObjectOk.calls (k : Nat) (A0_0 : Option Addr) (c0_0 : Nat) (l0_0 : List (S171)) (a0_1 : Int) (a0_2 : Int) (a0_3 : Int) (a0_4 : Int) (a0_5 : Int) (r : Bool) (w : World) (hr0_0 : Kd.C k171 w A0_0 l0_0.length l0_0) (hc0_0 : l0_0.length ≤ c0_0) (h : spec_ObjectOk.f k l0_0 a0_1 a0_2 a0_3 a0_4 a0_5 = some r) :
    Calls Try.prog 95 #[.agg #[.slice A0_0 l0_0.length c0_0, .int .i64 a0_1, .int .i64 a0_2, .int .i64 a0_3, .int .i64 a0_4, .int .i64 a0_5]] w fun e w' => e = .returned (.bool r) ∧ Below w.heap.size w w' := by
  have hu45 := Try.underlying45
  have HR0_0 := Aside0.mk hr0_0
  have HC0_0 := Aside0.mk hc0_0
  clear hr0_0 hc0_0
  have HB := Aside0.mk (Below.refl w.heap.size w)
  have H : ((spec_l07Object.f k l0_0 a0_1 a0_2 a0_3 a0_4 a0_5).bind fun t160 => (some t160)) = some r := h
  clear h
  replace H := bN H
  obtain ⟨t160, A2, H⟩ := H
  obtain rfl := Option.some.inj H
  go_enter Try.func95, Try.ntmps95
  go_wp2_with (first | ((with_reducible refine gD 1 ?_); refine bxE #[.slice A0_0 l0_0.length c0_0, .int .i64 a0_1, .int .i64 a0_2, .int .i64 a0_3, .int .i64 a0_4, .int .i64 a0_5] 45 ?_; intro gb159 hg w3 BK159 hb; have GW159 := gE hg; have GE159 := gE hg; replace HB := hB hb; clear hb hg; have hz4 := cz6 BK159) | ((with_reducible refine gC 160 ?_); refine cL (some 4) Try.func160 #[.agg #[.slice A0_0 l0_0.length c0_0, .int .i64 a0_1, .int .i64 a0_2, .int .i64 a0_3, .int .i64 a0_4, .int .i64 a0_5]] ?_; (with_reducible refine (spec_l07Object.calls k _ _ l0_0 a0_1 a0_2 a0_3 a0_4 a0_5 t160 _ ?side1 ?side2 A2.out).mono ?_); (case side1 => exact cS (Kd.C_below HR0_0.out HB.out)); (case side2 => exact HC0_0.out); rintro e w5 ⟨rfl, hb⟩; refine ⟨_, rfl, ?_⟩; replace BK159 := kB (g := gb159) hb; replace HB := hB hb; (try clear hb); (try clear hb2); (try clear hk); (try clear hi)))
  go_ret
  exact ⟨eS, bS⟩

/-! ### spec_MeetBox: function 142 -/
def spec_MeetBox.f (a0_0 : Int) (a0_1 : Int) (a0_2 : Int) (a0_3 : Int) (a1_0 : Int) (a1_1 : Int) (a1_2 : Int) (a1_3 : Int) : Option (Int × Int × Int × Int) := (spec_BoxOk.f a0_0 a0_1 a0_2 a0_3).bind fun t165 => (if t165 = true then ((spec_BoxOk.f a1_0 a1_1 a1_2 a1_3).bind fun t166 => (if t166 = true then (if (mx a0_0 a1_0) ≥ (mn a0_2 a1_2) then (some (0, 0, 0, 0)) else (if (mx a0_1 a1_1) ≥ (mn a0_3 a1_3) then (some (0, 0, 0, 0)) else (some (mx a0_0 a1_0, mx a0_1 a1_1, mn a0_2 a1_2, mn a0_3 a1_3)))) else (some (0, 0, 0, 0)))) else (some (0, 0, 0, 0)))
theorem spec_MeetBox.calls (a0_0 : Int) (a0_1 : Int) (a0_2 : Int) (a0_3 : Int) (a1_0 : Int) (a1_1 : Int) (a1_2 : Int) (a1_3 : Int) (r1 : Int) (r2 : Int) (r3 : Int) (r4 : Int) (w : World) (h : spec_MeetBox.f a0_0 a0_1 a0_2 a0_3 a1_0 a1_1 a1_2 a1_3 = some (r1, r2, r3, r4)) :
    Calls Try.prog 142 #[.agg #[.int .i64 a0_0, .int .i64 a0_1, .int .i64 a0_2, .int .i64 a0_3], .agg #[.int .i64 a1_0, .int .i64 a1_1, .int .i64 a1_2, .int .i64 a1_3]] w fun e w' => e = .returned (.agg #[.int .i64 r1, .int .i64 r2, .int .i64 r3, .int .i64 r4]) ∧ Below w.heap.size w w' := by
  have hu43 := Try.underlying43
  have HB := Aside0.mk (Below.refl w.heap.size w)
  have H : ((spec_BoxOk.f a0_0 a0_1 a0_2 a0_3).bind fun t165 => (if t165 = true then ((spec_BoxOk.f a1_0 a1_1 a1_2 a1_3).bind fun t166 => (if t166 = true then (if (mx a0_0 a1_0) ≥ (mn a0_2 a1_2) then (some (0, 0, 0, 0)) else (if (mx a0_1 a1_1) ≥ (mn a0_3 a1_3) then (some (0, 0, 0, 0)) else (some (mx a0_0 a1_0, mx a0_1 a1_1, mn a0_2 a1_2, mn a0_3 a1_3)))) else (some (0, 0, 0, 0)))) else (some (0, 0, 0, 0)))) = some (r1, r2, r3, r4) := h
  clear h
  obtain ⟨ji3, hji3⟩ : ∃ j_ : Int, (mx a0_0 a1_0) = j_ := ⟨_, rfl⟩
  replace H : ((spec_BoxOk.f a0_0 a0_1 a0_2 a0_3).bind fun t165 => (if t165 = true then ((spec_BoxOk.f a1_0 a1_1 a1_2 a1_3).bind fun t166 => (if t166 = true then (if (ji3) ≥ (mn a0_2 a1_2) then (some (0, 0, 0, 0)) else (if (mx a0_1 a1_1) ≥ (mn a0_3 a1_3) then (some (0, 0, 0, 0)) else (some (ji3, mx a0_1 a1_1, mn a0_2 a1_2, mn a0_3 a1_3)))) else (some (0, 0, 0, 0)))) else (some (0, 0, 0, 0)))) = some (r1, r2, r3, r4) := by first | (rw [hji3] at H; exact H) | (simp only [hji3] at H ⊢; exact H)
  have hji3_ : (if a0_0 < a1_0 then a1_0 else a0_0) = ji3 := hji3
  obtain ⟨ji4, hji4⟩ : ∃ j_ : Int, (mx a0_1 a1_1) = j_ := ⟨_, rfl⟩
  replace H : ((spec_BoxOk.f a0_0 a0_1 a0_2 a0_3).bind fun t165 => (if t165 = true then ((spec_BoxOk.f a1_0 a1_1 a1_2 a1_3).bind fun t166 => (if t166 = true then (if (ji3) ≥ (mn a0_2 a1_2) then (some (0, 0, 0, 0)) else (if (ji4) ≥ (mn a0_3 a1_3) then (some (0, 0, 0, 0)) else (some (ji3, ji4, mn a0_2 a1_2, mn a0_3 a1_3)))) else (some (0, 0, 0, 0)))) else (some (0, 0, 0, 0)))) = some (r1, r2, r3, r4) := by first | (rw [hji4] at H; exact H) | (simp only [hji4] at H ⊢; exact H)
  have hji4_ : (if a0_1 < a1_1 then a1_1 else a0_1) = ji4 := hji4
  obtain ⟨ji5, hji5⟩ : ∃ j_ : Int, (mn a0_2 a1_2) = j_ := ⟨_, rfl⟩
  replace H : ((spec_BoxOk.f a0_0 a0_1 a0_2 a0_3).bind fun t165 => (if t165 = true then ((spec_BoxOk.f a1_0 a1_1 a1_2 a1_3).bind fun t166 => (if t166 = true then (if (ji3) ≥ (ji5) then (some (0, 0, 0, 0)) else (if (ji4) ≥ (mn a0_3 a1_3) then (some (0, 0, 0, 0)) else (some (ji3, ji4, ji5, mn a0_3 a1_3)))) else (some (0, 0, 0, 0)))) else (some (0, 0, 0, 0)))) = some (r1, r2, r3, r4) := by first | (rw [hji5] at H; exact H) | (simp only [hji5] at H ⊢; exact H)
  have hji5_ : (if a1_2 < a0_2 then a1_2 else a0_2) = ji5 := hji5
  obtain ⟨ji6, hji6⟩ : ∃ j_ : Int, (mn a0_3 a1_3) = j_ := ⟨_, rfl⟩
  replace H : ((spec_BoxOk.f a0_0 a0_1 a0_2 a0_3).bind fun t165 => (if t165 = true then ((spec_BoxOk.f a1_0 a1_1 a1_2 a1_3).bind fun t166 => (if t166 = true then (if (ji3) ≥ (ji5) then (some (0, 0, 0, 0)) else (if (ji4) ≥ (ji6) then (some (0, 0, 0, 0)) else (some (ji3, ji4, ji5, ji6)))) else (some (0, 0, 0, 0)))) else (some (0, 0, 0, 0)))) = some (r1, r2, r3, r4) := by first | (rw [hji6] at H; exact H) | (simp only [hji6] at H ⊢; exact H)
  have hji6_ : (if a1_3 < a0_3 then a1_3 else a0_3) = ji6 := hji6
  replace H := bN H
  obtain ⟨t165, A7, H⟩ := H
  by_cases c8 : t165 = true
  · subst c8
    rw [if_pos rfl] at H
    replace H := bN H
    obtain ⟨t166, A9, H⟩ := H
    by_cases c10 : t166 = true
    · subst c10
      rw [if_pos rfl] at H
      by_cases c11 : (ji3) ≥ (ji5)
      · rw [if_pos c11] at H
        have c11b0 : decide ((ji5) ≤ (ji3)) = true := decide_eq_true c11
        clear c11
        simp only [Option.some.injEq, Prod.mk.injEq] at H
        obtain ⟨rfl, rfl, rfl, rfl⟩ := H
        go_enter Try.func142, Try.ntmps142
        go_wp2_with (first | ((with_reducible refine gD 2 ?_); refine bxE #[.int .i64 a0_0, .int .i64 a0_1, .int .i64 a0_2, .int .i64 a0_3] 43 ?_; intro gb161 hg w12 BK161 hb; have GW161 := gE hg; have GE161 := gE hg; replace HB := hB hb; clear hb hg) | ((with_reducible refine gD 3 ?_); refine bxE #[.int .i64 a1_0, .int .i64 a1_1, .int .i64 a1_2, .int .i64 a1_3] 43 ?_; intro gb162 hg w13 BK162 hb; have GW162 := gE hg; have GE162 := gE hg; have NB161_162 := nL (g := gb161) hg; have NB162_161 := nG (g := gb161) hg; replace BK161 := kB (g := gb161) hb; replace HB := hB hb; clear hb hg) | ((with_reducible refine gD 4 ?_); refine bxE #[.int .i64 0, .int .i64 0, .int .i64 0, .int .i64 0] 43 ?_; intro gb163 hg w14 BK163 hb; have GW163 := gE hg; have GE163 := gE hg; have NB161_163 := nL (g := gb161) hg; have NB163_161 := nG (g := gb161) hg; have NB162_163 := nL (g := gb162) hg; have NB163_162 := nG (g := gb162) hg; replace BK161 := kB (g := gb161) hb; replace BK162 := kB (g := gb162) hb; replace HB := hB hb; clear hb hg; have hnb15 := NB161_162.out; have hnc15 := NB162_161.out; have hnb16 := NB161_163.out; have hnc16 := NB163_161.out; have hz17 := cz4 BK161; have hnb18 := NB162_163.out; have hnc18 := NB163_162.out; have hz19 := cz4 BK162) | ((with_reducible refine gD 5 ?_); refine bxE #[.int .i64 0, .int .i64 0, .int .i64 0, .int .i64 0] 43 ?_; intro gb164 hg w20 BK164 hb; have GW164 := gE hg; have GE164 := gE hg; have NB161_164 := nL (g := gb161) hg; have NB164_161 := nG (g := gb161) hg; have NB162_164 := nL (g := gb162) hg; have NB164_162 := nG (g := gb162) hg; have NB163_164 := nL (g := gb163) hg; have NB164_163 := nG (g := gb163) hg; replace BK161 := kB (g := gb161) hb; replace BK162 := kB (g := gb162) hb; replace BK163 := kB (g := gb163) hb; replace HB := hB hb; clear hb hg; have hnb21 := NB164_161.out; have hnc21 := NB161_164.out; have hnb22 := NB164_162.out; have hnc22 := NB162_164.out; have hnb23 := NB164_163.out; have hnc23 := NB163_164.out; have hz24 := cz4 BK164; have hz25 := cz4 BK161) | ((with_reducible refine gC 145 ?_); refine cL (some 28) Try.func145 #[.agg #[.int .i64 a0_0, .int .i64 a0_1, .int .i64 a0_2, .int .i64 a0_3]] ?_; (with_reducible refine (spec_BoxOk.calls a0_0 a0_1 a0_2 a0_3 _ _ A7.out).mono ?_); rintro e w26 ⟨rfl, hb⟩; refine ⟨_, rfl, ?_⟩; replace BK161 := kB (g := gb161) hb; replace BK162 := kB (g := gb162) hb; replace BK163 := kB (g := gb163) hb; replace BK164 := Aside0.mk (blk_below (g := gb164) (o := .cells #[.int .i64 ji3, .int .i64 ji4, .int .i64 ji5, .int .i64 ji6] 43 (0, 0)) kS hb); replace HB := hB hb; (try clear hb); (try clear hb2); (try clear hk); (try clear hi); have hz27 := cz4 BK162) | (go_at_call 145; (with_reducible refine (spec_BoxOk.calls a1_0 a1_1 a1_2 a1_3 _ _ A9.out).mono ?_); rintro e w28 ⟨rfl, hb⟩; replace BK161 := kB (g := gb161) hb; replace BK162 := kB (g := gb162) hb; replace BK163 := kB (g := gb163) hb; replace BK164 := kB (g := gb164) hb; replace HB := hB hb; (try clear hb); (try clear hb2); (try clear hk); (try clear hi); have hz29 := cz4 BK164; have hz30 := cz4 BK163))
        refine bodyPost_ret (results_cell_row rfl _ _ gb163 43 #[.int .i64 0, .int .i64 0, .int .i64 0, .int .i64 0] (0, 0) _ rfl kS Try.underlying43 rfl (by kernel_rfl)) rfl ?_
        exact ⟨by first | rfl | (simp [errW_none, errW_some] <;> rfl) | (simp only [← hji3, ← hji4, ← hji5, ← hji6]; first | rfl | (simp [errW_none, errW_some] <;> rfl)) | (simp [*, errW_none, errW_some] <;> rfl), bS⟩
      · rw [if_neg c11] at H
        have c11b0 : decide ((ji5) ≤ (ji3)) = false := decide_eq_false c11
        clear c11
        by_cases c31 : (ji4) ≥ (ji6)
        · rw [if_pos c31] at H
          have c31b0 : decide ((ji6) ≤ (ji4)) = true := decide_eq_true c31
          clear c31
          simp only [Option.some.injEq, Prod.mk.injEq] at H
          obtain ⟨rfl, rfl, rfl, rfl⟩ := H
          go_enter Try.func142, Try.ntmps142
          go_wp2_with (first | ((with_reducible refine gD 2 ?_); refine bxE #[.int .i64 a0_0, .int .i64 a0_1, .int .i64 a0_2, .int .i64 a0_3] 43 ?_; intro gb161 hg w32 BK161 hb; have GW161 := gE hg; have GE161 := gE hg; replace HB := hB hb; clear hb hg) | ((with_reducible refine gD 3 ?_); refine bxE #[.int .i64 a1_0, .int .i64 a1_1, .int .i64 a1_2, .int .i64 a1_3] 43 ?_; intro gb162 hg w33 BK162 hb; have GW162 := gE hg; have GE162 := gE hg; have NB161_162 := nL (g := gb161) hg; have NB162_161 := nG (g := gb161) hg; replace BK161 := kB (g := gb161) hb; replace HB := hB hb; clear hb hg) | ((with_reducible refine gD 4 ?_); refine bxE #[.int .i64 0, .int .i64 0, .int .i64 0, .int .i64 0] 43 ?_; intro gb163 hg w34 BK163 hb; have GW163 := gE hg; have GE163 := gE hg; have NB161_163 := nL (g := gb161) hg; have NB163_161 := nG (g := gb161) hg; have NB162_163 := nL (g := gb162) hg; have NB163_162 := nG (g := gb162) hg; replace BK161 := kB (g := gb161) hb; replace BK162 := kB (g := gb162) hb; replace HB := hB hb; clear hb hg; have hnb35 := NB161_162.out; have hnc35 := NB162_161.out; have hnb36 := NB161_163.out; have hnc36 := NB163_161.out; have hz37 := cz4 BK161; have hnb38 := NB162_163.out; have hnc38 := NB163_162.out; have hz39 := cz4 BK162) | ((with_reducible refine gD 5 ?_); refine bxE #[.int .i64 0, .int .i64 0, .int .i64 0, .int .i64 0] 43 ?_; intro gb164 hg w40 BK164 hb; have GW164 := gE hg; have GE164 := gE hg; have NB161_164 := nL (g := gb161) hg; have NB164_161 := nG (g := gb161) hg; have NB162_164 := nL (g := gb162) hg; have NB164_162 := nG (g := gb162) hg; have NB163_164 := nL (g := gb163) hg; have NB164_163 := nG (g := gb163) hg; replace BK161 := kB (g := gb161) hb; replace BK162 := kB (g := gb162) hb; replace BK163 := kB (g := gb163) hb; replace HB := hB hb; clear hb hg; have hnb41 := NB164_161.out; have hnc41 := NB161_164.out; have hnb42 := NB164_162.out; have hnc42 := NB162_164.out; have hnb43 := NB164_163.out; have hnc43 := NB163_164.out; have hz44 := cz4 BK164; have hz45 := cz4 BK161) | ((with_reducible refine gC 145 ?_); refine cL (some 28) Try.func145 #[.agg #[.int .i64 a0_0, .int .i64 a0_1, .int .i64 a0_2, .int .i64 a0_3]] ?_; (with_reducible refine (spec_BoxOk.calls a0_0 a0_1 a0_2 a0_3 _ _ A7.out).mono ?_); rintro e w46 ⟨rfl, hb⟩; refine ⟨_, rfl, ?_⟩; replace BK161 := kB (g := gb161) hb; replace BK162 := kB (g := gb162) hb; replace BK163 := kB (g := gb163) hb; replace BK164 := Aside0.mk (blk_below (g := gb164) (o := .cells #[.int .i64 ji3, .int .i64 ji4, .int .i64 ji5, .int .i64 ji6] 43 (0, 0)) kS hb); replace HB := hB hb; (try clear hb); (try clear hb2); (try clear hk); (try clear hi); have hz47 := cz4 BK162) | (go_at_call 145; (with_reducible refine (spec_BoxOk.calls a1_0 a1_1 a1_2 a1_3 _ _ A9.out).mono ?_); rintro e w48 ⟨rfl, hb⟩; replace BK161 := kB (g := gb161) hb; replace BK162 := kB (g := gb162) hb; replace BK163 := kB (g := gb163) hb; replace BK164 := kB (g := gb164) hb; replace HB := hB hb; (try clear hb); (try clear hb2); (try clear hk); (try clear hi); have hz49 := cz4 BK164; have hz50 := cz4 BK163))
          refine bodyPost_ret (results_cell_row rfl _ _ gb163 43 #[.int .i64 0, .int .i64 0, .int .i64 0, .int .i64 0] (0, 0) _ rfl kS Try.underlying43 rfl (by kernel_rfl)) rfl ?_
          exact ⟨by first | rfl | (simp [errW_none, errW_some] <;> rfl) | (simp only [← hji3, ← hji4, ← hji5, ← hji6]; first | rfl | (simp [errW_none, errW_some] <;> rfl)) | (simp [*, errW_none, errW_some] <;> rfl), bS⟩
        · rw [if_neg c31] at H
          have c31b0 : decide ((ji6) ≤ (ji4)) = false := decide_eq_false c31
          clear c31
          simp only [Option.some.injEq, Prod.mk.injEq] at H
          obtain ⟨rfl, rfl, rfl, rfl⟩ := H
          go_enter Try.func142, Try.ntmps142
          go_wp2_with (first | ((with_reducible refine gD 2 ?_); refine bxE #[.int .i64 a0_0, .int .i64 a0_1, .int .i64 a0_2, .int .i64 a0_3] 43 ?_; intro gb161 hg w51 BK161 hb; have GW161 := gE hg; have GE161 := gE hg; replace HB := hB hb; clear hb hg) | ((with_reducible refine gD 3 ?_); refine bxE #[.int .i64 a1_0, .int .i64 a1_1, .int .i64 a1_2, .int .i64 a1_3] 43 ?_; intro gb162 hg w52 BK162 hb; have GW162 := gE hg; have GE162 := gE hg; have NB161_162 := nL (g := gb161) hg; have NB162_161 := nG (g := gb161) hg; replace BK161 := kB (g := gb161) hb; replace HB := hB hb; clear hb hg) | ((with_reducible refine gD 4 ?_); refine bxE #[.int .i64 0, .int .i64 0, .int .i64 0, .int .i64 0] 43 ?_; intro gb163 hg w53 BK163 hb; have GW163 := gE hg; have GE163 := gE hg; have NB161_163 := nL (g := gb161) hg; have NB163_161 := nG (g := gb161) hg; have NB162_163 := nL (g := gb162) hg; have NB163_162 := nG (g := gb162) hg; replace BK161 := kB (g := gb161) hb; replace BK162 := kB (g := gb162) hb; replace HB := hB hb; clear hb hg; have hnb54 := NB161_162.out; have hnc54 := NB162_161.out; have hnb55 := NB161_163.out; have hnc55 := NB163_161.out; have hz56 := cz4 BK161; have hnb57 := NB162_163.out; have hnc57 := NB163_162.out; have hz58 := cz4 BK162) | ((with_reducible refine gD 5 ?_); refine bxE #[.int .i64 0, .int .i64 0, .int .i64 0, .int .i64 0] 43 ?_; intro gb164 hg w59 BK164 hb; have GW164 := gE hg; have GE164 := gE hg; have NB161_164 := nL (g := gb161) hg; have NB164_161 := nG (g := gb161) hg; have NB162_164 := nL (g := gb162) hg; have NB164_162 := nG (g := gb162) hg; have NB163_164 := nL (g := gb163) hg; have NB164_163 := nG (g := gb163) hg; replace BK161 := kB (g := gb161) hb; replace BK162 := kB (g := gb162) hb; replace BK163 := kB (g := gb163) hb; replace HB := hB hb; clear hb hg; have hnb60 := NB164_161.out; have hnc60 := NB161_164.out; have hnb61 := NB164_162.out; have hnc61 := NB162_164.out; have hnb62 := NB164_163.out; have hnc62 := NB163_164.out; have hz63 := cz4 BK164; have hz64 := cz4 BK161) | ((with_reducible refine gC 145 ?_); refine cL (some 28) Try.func145 #[.agg #[.int .i64 a0_0, .int .i64 a0_1, .int .i64 a0_2, .int .i64 a0_3]] ?_; (with_reducible refine (spec_BoxOk.calls a0_0 a0_1 a0_2 a0_3 _ _ A7.out).mono ?_); rintro e w65 ⟨rfl, hb⟩; refine ⟨_, rfl, ?_⟩; replace BK161 := kB (g := gb161) hb; replace BK162 := kB (g := gb162) hb; replace BK163 := kB (g := gb163) hb; replace BK164 := Aside0.mk (blk_below (g := gb164) (o := .cells #[.int .i64 ji3, .int .i64 ji4, .int .i64 ji5, .int .i64 ji6] 43 (0, 0)) kS hb); replace HB := hB hb; (try clear hb); (try clear hb2); (try clear hk); (try clear hi); have hz66 := cz4 BK162) | (go_at_call 145; (with_reducible refine (spec_BoxOk.calls a1_0 a1_1 a1_2 a1_3 _ _ A9.out).mono ?_); rintro e w67 ⟨rfl, hb⟩; replace BK161 := kB (g := gb161) hb; replace BK162 := kB (g := gb162) hb; replace BK163 := kB (g := gb163) hb; replace BK164 := kB (g := gb164) hb; replace HB := hB hb; (try clear hb); (try clear hb2); (try clear hk); (try clear hi); have hz68 := cz4 BK164; have hz69 := cz4 BK163))
          refine bodyPost_ret (results_cell_row rfl _ _ gb163 43 #[.int .i64 ji3, .int .i64 ji4, .int .i64 ji5, .int .i64 ji6] (0, 0) _ rfl kS Try.underlying43 rfl (by kernel_rfl)) rfl ?_
          exact ⟨by first | rfl | (simp [errW_none, errW_some] <;> rfl) | (simp only [← hji3, ← hji4, ← hji5, ← hji6]; first | rfl | (simp [errW_none, errW_some] <;> rfl)) | (simp [*, errW_none, errW_some] <;> rfl), bS⟩
    · obtain rfl := Bool.eq_false_iff.mpr c10
      rw [if_neg nF] at H
      simp only [Option.some.injEq, Prod.mk.injEq] at H
      obtain ⟨rfl, rfl, rfl, rfl⟩ := H
      go_enter Try.func142, Try.ntmps142
      go_wp2_with (first | ((with_reducible refine gD 2 ?_); refine bxE #[.int .i64 a0_0, .int .i64 a0_1, .int .i64 a0_2, .int .i64 a0_3] 43 ?_; intro gb161 hg w70 BK161 hb; have GW161 := gE hg; have GE161 := gE hg; replace HB := hB hb; clear hb hg) | ((with_reducible refine gD 3 ?_); refine bxE #[.int .i64 a1_0, .int .i64 a1_1, .int .i64 a1_2, .int .i64 a1_3] 43 ?_; intro gb162 hg w71 BK162 hb; have GW162 := gE hg; have GE162 := gE hg; have NB161_162 := nL (g := gb161) hg; have NB162_161 := nG (g := gb161) hg; replace BK161 := kB (g := gb161) hb; replace HB := hB hb; clear hb hg) | ((with_reducible refine gD 4 ?_); refine bxE #[.int .i64 0, .int .i64 0, .int .i64 0, .int .i64 0] 43 ?_; intro gb163 hg w72 BK163 hb; have GW163 := gE hg; have GE163 := gE hg; have NB161_163 := nL (g := gb161) hg; have NB163_161 := nG (g := gb161) hg; have NB162_163 := nL (g := gb162) hg; have NB163_162 := nG (g := gb162) hg; replace BK161 := kB (g := gb161) hb; replace BK162 := kB (g := gb162) hb; replace HB := hB hb; clear hb hg; have hnb73 := NB161_162.out; have hnc73 := NB162_161.out; have hnb74 := NB161_163.out; have hnc74 := NB163_161.out; have hz75 := cz4 BK161; have hnb76 := NB162_163.out; have hnc76 := NB163_162.out; have hz77 := cz4 BK162) | ((with_reducible refine gD 5 ?_); refine bxE #[.int .i64 0, .int .i64 0, .int .i64 0, .int .i64 0] 43 ?_; intro gb164 hg w78 BK164 hb; have GW164 := gE hg; have GE164 := gE hg; have NB161_164 := nL (g := gb161) hg; have NB164_161 := nG (g := gb161) hg; have NB162_164 := nL (g := gb162) hg; have NB164_162 := nG (g := gb162) hg; have NB163_164 := nL (g := gb163) hg; have NB164_163 := nG (g := gb163) hg; replace BK161 := kB (g := gb161) hb; replace BK162 := kB (g := gb162) hb; replace BK163 := kB (g := gb163) hb; replace HB := hB hb; clear hb hg; have hnb79 := NB164_161.out; have hnc79 := NB161_164.out; have hnb80 := NB164_162.out; have hnc80 := NB162_164.out; have hnb81 := NB164_163.out; have hnc81 := NB163_164.out; have hz82 := cz4 BK164; have hz83 := cz4 BK161) | ((with_reducible refine gC 145 ?_); refine cL (some 28) Try.func145 #[.agg #[.int .i64 a0_0, .int .i64 a0_1, .int .i64 a0_2, .int .i64 a0_3]] ?_; (with_reducible refine (spec_BoxOk.calls a0_0 a0_1 a0_2 a0_3 _ _ A7.out).mono ?_); rintro e w84 ⟨rfl, hb⟩; refine ⟨_, rfl, ?_⟩; replace BK161 := kB (g := gb161) hb; replace BK162 := kB (g := gb162) hb; replace BK163 := kB (g := gb163) hb; replace BK164 := Aside0.mk (blk_below (g := gb164) (o := .cells #[.int .i64 ji3, .int .i64 ji4, .int .i64 ji5, .int .i64 ji6] 43 (0, 0)) kS hb); replace HB := hB hb; (try clear hb); (try clear hb2); (try clear hk); (try clear hi); have hz85 := cz4 BK162) | (go_at_call 145; (with_reducible refine (spec_BoxOk.calls a1_0 a1_1 a1_2 a1_3 _ _ A9.out).mono ?_); rintro e w86 ⟨rfl, hb⟩; replace BK161 := kB (g := gb161) hb; replace BK162 := kB (g := gb162) hb; replace BK163 := kB (g := gb163) hb; replace BK164 := kB (g := gb164) hb; replace HB := hB hb; (try clear hb); (try clear hb2); (try clear hk); (try clear hi); have hz87 := cz4 BK163))
      refine bodyPost_ret (results_cell_row rfl _ _ gb163 43 #[.int .i64 0, .int .i64 0, .int .i64 0, .int .i64 0] (0, 0) _ rfl kS Try.underlying43 rfl (by kernel_rfl)) rfl ?_
      exact ⟨by first | rfl | (simp [errW_none, errW_some] <;> rfl) | (simp only [← hji3, ← hji4, ← hji5, ← hji6]; first | rfl | (simp [errW_none, errW_some] <;> rfl)) | (simp [*, errW_none, errW_some] <;> rfl), bS⟩
  · obtain rfl := Bool.eq_false_iff.mpr c8
    rw [if_neg nF] at H
    simp only [Option.some.injEq, Prod.mk.injEq] at H
    obtain ⟨rfl, rfl, rfl, rfl⟩ := H
    go_enter Try.func142, Try.ntmps142
    go_wp2_with (first | ((with_reducible refine gD 2 ?_); refine bxE #[.int .i64 a0_0, .int .i64 a0_1, .int .i64 a0_2, .int .i64 a0_3] 43 ?_; intro gb161 hg w88 BK161 hb; have GW161 := gE hg; have GE161 := gE hg; replace HB := hB hb; clear hb hg) | ((with_reducible refine gD 3 ?_); refine bxE #[.int .i64 a1_0, .int .i64 a1_1, .int .i64 a1_2, .int .i64 a1_3] 43 ?_; intro gb162 hg w89 BK162 hb; have GW162 := gE hg; have GE162 := gE hg; have NB161_162 := nL (g := gb161) hg; have NB162_161 := nG (g := gb161) hg; replace BK161 := kB (g := gb161) hb; replace HB := hB hb; clear hb hg) | ((with_reducible refine gD 4 ?_); refine bxE #[.int .i64 0, .int .i64 0, .int .i64 0, .int .i64 0] 43 ?_; intro gb163 hg w90 BK163 hb; have GW163 := gE hg; have GE163 := gE hg; have NB161_163 := nL (g := gb161) hg; have NB163_161 := nG (g := gb161) hg; have NB162_163 := nL (g := gb162) hg; have NB163_162 := nG (g := gb162) hg; replace BK161 := kB (g := gb161) hb; replace BK162 := kB (g := gb162) hb; replace HB := hB hb; clear hb hg; have hnb91 := NB161_162.out; have hnc91 := NB162_161.out; have hnb92 := NB161_163.out; have hnc92 := NB163_161.out; have hz93 := cz4 BK161; have hnb94 := NB162_163.out; have hnc94 := NB163_162.out; have hz95 := cz4 BK162) | ((with_reducible refine gD 5 ?_); refine bxE #[.int .i64 0, .int .i64 0, .int .i64 0, .int .i64 0] 43 ?_; intro gb164 hg w96 BK164 hb; have GW164 := gE hg; have GE164 := gE hg; have NB161_164 := nL (g := gb161) hg; have NB164_161 := nG (g := gb161) hg; have NB162_164 := nL (g := gb162) hg; have NB164_162 := nG (g := gb162) hg; have NB163_164 := nL (g := gb163) hg; have NB164_163 := nG (g := gb163) hg; replace BK161 := kB (g := gb161) hb; replace BK162 := kB (g := gb162) hb; replace BK163 := kB (g := gb163) hb; replace HB := hB hb; clear hb hg; have hnb97 := NB164_161.out; have hnc97 := NB161_164.out; have hnb98 := NB164_162.out; have hnc98 := NB162_164.out; have hnb99 := NB164_163.out; have hnc99 := NB163_164.out; have hz100 := cz4 BK164; have hz101 := cz4 BK161) | ((with_reducible refine gC 145 ?_); refine cL (some 28) Try.func145 #[.agg #[.int .i64 a0_0, .int .i64 a0_1, .int .i64 a0_2, .int .i64 a0_3]] ?_; (with_reducible refine (spec_BoxOk.calls a0_0 a0_1 a0_2 a0_3 _ _ A7.out).mono ?_); rintro e w102 ⟨rfl, hb⟩; refine ⟨_, rfl, ?_⟩; replace BK161 := kB (g := gb161) hb; replace BK162 := kB (g := gb162) hb; replace BK163 := kB (g := gb163) hb; replace BK164 := Aside0.mk (blk_below (g := gb164) (o := .cells #[.int .i64 ji3, .int .i64 ji4, .int .i64 ji5, .int .i64 ji6] 43 (0, 0)) kS hb); replace HB := hB hb; (try clear hb); (try clear hb2); (try clear hk); (try clear hi); have hz103 := cz4 BK163))
    refine bodyPost_ret (results_cell_row rfl _ _ gb163 43 #[.int .i64 0, .int .i64 0, .int .i64 0, .int .i64 0] (0, 0) _ rfl kS Try.underlying43 rfl (by kernel_rfl)) rfl ?_
    exact ⟨by first | rfl | (simp [errW_none, errW_some] <;> rfl) | (simp only [← hji3, ← hji4, ← hji5, ← hji6]; first | rfl | (simp [errW_none, errW_some] <;> rfl)) | (simp [*, errW_none, errW_some] <;> rfl), bS⟩

/-! ### spec_BoxOf: function 143 -/
def spec_BoxOf.l0 : Nat → List (S171) → Int → Int → Int → Int → Int → Option (Int × Int × Int × Int)
  | 0, _, _, _, _, _, _ => none
  | k + 1, x0, x4, x169000, x169001, x169002, x169003 => if x4 < (x0.length : Int) then (if 0 ≤ x4 then ((spec_PointOk.f ((rd_T171 x0 x4).f0) ((rd_T171 x0 x4).f1)).bind fun t171 => (if t171 = true then (if x4 = 0 then (spec_BoxOf.l0 k x0 (wrap64 (x4 + 1)) ((rd_T171 x0 x4).f0) ((rd_T171 x0 x4).f1) ((rd_T171 x0 x4).f0) ((rd_T171 x0 x4).f1)) else (spec_BoxOf.l0 k x0 (wrap64 (x4 + 1)) (mn x169000 ((rd_T171 x0 x4).f0)) (mn x169001 ((rd_T171 x0 x4).f1)) (mx x169002 ((rd_T171 x0 x4).f0)) (mx x169003 ((rd_T171 x0 x4).f1)))) else (some (0, 0, 0, 0)))) else (none)) else (some (x169000, x169001, x169002, x169003))
def spec_BoxOf.f (k : Nat) (l0 : List (S171)) : Option (Int × Int × Int × Int) := spec_BoxOf.l0 k l0 0 0 0 0 0
theorem spec_BoxOf.calls (k : Nat) (A0 : Option Addr) (c0 : Nat) (l0 : List (S171)) (r1 : Int) (r2 : Int) (r3 : Int) (r4 : Int) (w : World) (hr0 : Kd.C k171 w A0 l0.length l0) (hc0 : l0.length ≤ c0) (h : spec_BoxOf.f k l0 = some (r1, r2, r3, r4)) :
    Calls Try.prog 143 #[.slice A0 l0.length c0] w fun e w' => e = .returned (.agg #[.int .i64 r1, .int .i64 r2, .int .i64 r3, .int .i64 r4]) ∧ Below w.heap.size w w' := by
  have hu43 := Try.underlying43
  have hu171 := Try.underlying171
  have HR0 := Aside0.mk hr0
  have HC0 := Aside0.mk hc0
  clear hr0 hc0
  have HB := Aside0.mk (Below.refl w.heap.size w)
  have H : (spec_BoxOf.l0 k l0 0 0 0 0 0) = some (r1, r2, r3, r4) := h
  clear h
  have H' := Aside0.mk H
  clear H
  go_enter Try.func143, Try.ntmps143
  go_wp2_with (first | ((with_reducible refine gD 2 ?_); refine bxE #[.int .i64 0, .int .i64 0, .int .i64 0, .int .i64 0] 43 ?_; intro gb167 hg w2 BK167 hb; have GW167 := gE hg; have GE167 := gE hg; replace HB := hB hb; clear hb hg) | ((with_reducible refine gD 3 ?_); refine bxE #[.int .i64 0, .int .i64 0, .int .i64 0, .int .i64 0] 43 ?_; intro gb168 hg w3 BK168 hb; have GW168 := gE hg; have GE168 := gE hg; have NB167_168 := nL (g := gb167) hg; have NB168_167 := nG (g := gb167) hg; replace BK167 := kB (g := gb167) hb; replace HB := hB hb; clear hb hg; have hnb4 := NB168_167.out; have hnc4 := NB167_168.out; have hcz5_0 : w3.cell? ⟨gb168, 0, none⟩ = some (.int .i64 0) := (blk_cell BK168.out 0).trans rfl; have hcz5_1 : w3.cell? ⟨gb168, 1, none⟩ = some (.int .i64 0) := (blk_cell BK168.out 1).trans rfl; have hcz5_2 : w3.cell? ⟨gb168, 2, none⟩ = some (.int .i64 0) := (blk_cell BK168.out 2).trans rfl; have hcz5_3 : w3.cell? ⟨gb168, 3, none⟩ = some (.int .i64 0) := (blk_cell BK168.out 3).trans rfl; have hfz5_0 := blk_frozen BK168.out 0; have hfz5_1 := blk_frozen BK168.out 1; have hfz5_2 := blk_frozen BK168.out 2; have hfz5_3 := blk_frozen BK168.out 3))
  go_loopg [4] k (fun kq v4 w' => ∃ (x4_1 : Int) (x168000_1 : Int) (x168001_1 : Int) (x168002_1 : Int) (x168003_1 : Int) (x169000_1 : Int) (x169001_1 : Int) (x169002_1 : Int) (x169003_1 : Int), v4 = .int .i64 x4_1 ∧ Aside0 (spec_BoxOf.l0 kq l0 x4_1 x169000_1 x169001_1 x169002_1 x169003_1 = some (r1, r2, r3, r4)) ∧ Aside0 (kq ≤ k) ∧ Aside0 (w'.heap[gb167]? = some (.cells #[.int .i64 x168000_1, .int .i64 x168001_1, .int .i64 x168002_1, .int .i64 x168003_1] 43 (0, 0))) ∧ Aside0 (w'.heap[gb168]? = some (.cells #[.int .i64 x169000_1, .int .i64 x169001_1, .int .i64 x169002_1, .int .i64 x169003_1] 43 (0, 0))) ∧ Aside0 (Below w.heap.size w w'))
  case atStart => exact ⟨(0), (0), (0), (0), (0), (0), (0), (0), (0), (by first | rfl | (simp; done) | (simp [*]; done)), H', ⟨Nat.le_refl _⟩, ⟨kS⟩, ⟨kS⟩, ⟨bS⟩⟩
  case round =>
    clear H'
    try clear c1
    try clear p2
    try clear c4
    try clear hcz5_0
    try clear hcz5_1
    try clear hcz5_2
    try clear hcz5_3
    try clear hfz5_0
    try clear hfz5_1
    try clear hfz5_2
    try clear hfz5_3
    obtain ⟨x4_1, x168000_1, x168001_1, x168002_1, x168003_1, x169000_1, x169001_1, x169002_1, x169003_1, rfl, HA, HK1, BK167, BK168, HB⟩ := hrel
    cases gk with
    | zero => exact absurd HA.out (by simp [spec_BoxOf.l0])
    | succ k1 =>
      have H := HA.out
      clear HA
      simp only [spec_BoxOf.l0] at H
      by_cases c6 : x4_1 < (l0.length : Int)
      · rw [if_pos c6] at H
        have c6b0 : decide (x4_1 < (l0.length : Int)) = true := decide_eq_true c6
        clear c6
        by_cases c7 : 0 ≤ x4_1
        · rw [if_pos c7] at H
          have c7b0 : decide (0 ≤ x4_1) = true := decide_eq_true c7
          clear c7
          replace H := bN H
          obtain ⟨t171, A8, H⟩ := H
          by_cases c9 : t171 = true
          · subst c9
            rw [if_pos rfl] at H
            by_cases c10 : x4_1 = 0
            · rw [if_pos c10] at H
              have c10b0 : (x4_1 == 0) = true := beq_iff_eq.mpr c10
              have c10b1 : (x4_1 != 0) = false := bne_eq_false_iff_eq.mpr c10
              clear c10
              have H' := Aside0.mk H
              clear H
              have p169 : 0 ≤ (x4_1 : Int) := of_decide_eq_true (by first | (with_reducible assumption) | assumption)
              have q169 : x4_1 < (l0.length : Int) := of_decide_eq_true (by first | (with_reducible assumption) | assumption)
              obtain ⟨ad169, e169, hx169_0, hx169_1⟩ := at_T171 HR0.out x4_1 p169 q169
              cases e169
              replace hx169_0 := (HB.out.cell (World.block_lt_of_cell? w _ hx169_0)).trans hx169_0
              replace hx169_1 := (HB.out.cell (World.block_lt_of_cell? w _ hx169_1)).trans hx169_1
              replace p169 := eq_true p169
              replace q169 := eq_true q169
              go_wp2_with (first | ((with_reducible refine gD 5 ?_); refine bxE #[.int .i64 0, .int .i64 0] 171 ?_; intro gb170 hg w11 BK170 hb; have GW170 := gE hg; have GE170 := gE hg; have NB167_170 := nL (g := gb167) hg; have NB170_167 := nG (g := gb167) hg; have NB168_170 := nL (g := gb168) hg; have NB170_168 := nG (g := gb168) hg; replace BK167 := kB (g := gb167) hb; replace BK168 := kB (g := gb168) hb; replace HB := hB hb; clear hb hg; have hnb12 := NB170_167.out; have hnc12 := NB167_170.out; have hnb13 := NB170_168.out; have hnc13 := NB168_170.out; have hz14 := cz2 BK170) | ((with_reducible refine gC 186 ?_); refine cL (some 18) Try.func186 #[.agg #[.int .i64 ((rd_T171 l0 x4_1).f0), .int .i64 ((rd_T171 l0 x4_1).f1)]] ?_; (with_reducible refine (spec_PointOk.calls ((rd_T171 l0 x4_1).f0) ((rd_T171 l0 x4_1).f1) _ _ A8.out).mono ?_); rintro e w15 ⟨rfl, hb⟩; refine ⟨_, rfl, ?_⟩; replace BK167 := kB (g := gb167) hb; replace BK168 := kB (g := gb168) hb; replace BK170 := Aside0.mk (blk_below (g := gb170) (o := .cells #[.int .i64 ((rd_T171 l0 x4_1).f0), .int .i64 ((rd_T171 l0 x4_1).f1)] 171 (0, 0)) kS hb); replace HB := hB hb; (try clear hb); (try clear hb2); (try clear hk); (try clear hi); have hz16 := cz2 BK170; have hnb17 := NB168_167.out; have hnc17 := NB167_168.out; have hz18 := cz4 BK168))
              go_roundg k1
              case measure => have := HK1.out; omega
              case rel => exact ⟨(wrap64 (x4_1 + 1)), (x168000_1), (x168001_1), (x168002_1), (x168003_1), ((rd_T171 l0 x4_1).f0), ((rd_T171 l0 x4_1).f1), ((rd_T171 l0 x4_1).f0), ((rd_T171 l0 x4_1).f1), (by first | rfl | (simp; done) | (simp [*]; done)), H', ⟨by have := HK1.out; omega⟩, ⟨kS⟩, ⟨kS⟩, ⟨bS⟩⟩
            · rw [if_neg c10] at H
              have c10b0 : (x4_1 == 0) = false := beq_eq_false_iff_ne.mpr c10
              have c10b1 : (x4_1 != 0) = true := bne_iff_ne.mpr c10
              obtain ⟨ji19, hji19⟩ : ∃ j_ : Int, (mn x169000_1 ((rd_T171 l0 x4_1).f0)) = j_ := ⟨_, rfl⟩
              replace H : (spec_BoxOf.l0 k1 l0 (wrap64 (x4_1 + 1)) ji19 (mn x169001_1 ((rd_T171 l0 x4_1).f1)) (mx x169002_1 ((rd_T171 l0 x4_1).f0)) (mx x169003_1 ((rd_T171 l0 x4_1).f1))) = some (r1, r2, r3, r4) := by first | (rw [hji19] at H; exact H) | (simp only [hji19] at H ⊢; exact H)
              (try rw [hji19] at A8)
              have hji19_ : (if ((rd_T171 l0 x4_1).f0) < x169000_1 then ((rd_T171 l0 x4_1).f0) else x169000_1) = ji19 := hji19
              obtain ⟨ji20, hji20⟩ : ∃ j_ : Int, (mn x169001_1 ((rd_T171 l0 x4_1).f1)) = j_ := ⟨_, rfl⟩
              replace H : (spec_BoxOf.l0 k1 l0 (wrap64 (x4_1 + 1)) ji19 ji20 (mx x169002_1 ((rd_T171 l0 x4_1).f0)) (mx x169003_1 ((rd_T171 l0 x4_1).f1))) = some (r1, r2, r3, r4) := by first | (rw [hji20] at H; exact H) | (simp only [hji20] at H ⊢; exact H)
              (try rw [hji20] at A8)
              have hji20_ : (if ((rd_T171 l0 x4_1).f1) < x169001_1 then ((rd_T171 l0 x4_1).f1) else x169001_1) = ji20 := hji20
              obtain ⟨ji21, hji21⟩ : ∃ j_ : Int, (mx x169002_1 ((rd_T171 l0 x4_1).f0)) = j_ := ⟨_, rfl⟩
              replace H : (spec_BoxOf.l0 k1 l0 (wrap64 (x4_1 + 1)) ji19 ji20 ji21 (mx x169003_1 ((rd_T171 l0 x4_1).f1))) = some (r1, r2, r3, r4) := by first | (rw [hji21] at H; exact H) | (simp only [hji21] at H ⊢; exact H)
              (try rw [hji21] at A8)
              have hji21_ : (if x169002_1 < ((rd_T171 l0 x4_1).f0) then ((rd_T171 l0 x4_1).f0) else x169002_1) = ji21 := hji21
              obtain ⟨ji22, hji22⟩ : ∃ j_ : Int, (mx x169003_1 ((rd_T171 l0 x4_1).f1)) = j_ := ⟨_, rfl⟩
              replace H : (spec_BoxOf.l0 k1 l0 (wrap64 (x4_1 + 1)) ji19 ji20 ji21 ji22) = some (r1, r2, r3, r4) := by first | (rw [hji22] at H; exact H) | (simp only [hji22] at H ⊢; exact H)
              (try rw [hji22] at A8)
              have hji22_ : (if x169003_1 < ((rd_T171 l0 x4_1).f1) then ((rd_T171 l0 x4_1).f1) else x169003_1) = ji22 := hji22
              have H' := Aside0.mk H
              clear H
              have p169 : 0 ≤ (x4_1 : Int) := of_decide_eq_true (by first | (with_reducible assumption) | assumption)
              have q169 : x4_1 < (l0.length : Int) := of_decide_eq_true (by first | (with_reducible assumption) | assumption)
              obtain ⟨ad169, e169, hx169_0, hx169_1⟩ := at_T171 HR0.out x4_1 p169 q169
              cases e169
              replace hx169_0 := (HB.out.cell (World.block_lt_of_cell? w _ hx169_0)).trans hx169_0
              replace hx169_1 := (HB.out.cell (World.block_lt_of_cell? w _ hx169_1)).trans hx169_1
              replace p169 := eq_true p169
              replace q169 := eq_true q169
              go_wp2_with (first | ((with_reducible refine gD 5 ?_); refine bxE #[.int .i64 0, .int .i64 0] 171 ?_; intro gb170 hg w23 BK170 hb; have GW170 := gE hg; have GE170 := gE hg; have NB167_170 := nL (g := gb167) hg; have NB170_167 := nG (g := gb167) hg; have NB168_170 := nL (g := gb168) hg; have NB170_168 := nG (g := gb168) hg; replace BK167 := kB (g := gb167) hb; replace BK168 := kB (g := gb168) hb; replace HB := hB hb; clear hb hg; have hnb24 := NB170_167.out; have hnc24 := NB167_170.out; have hnb25 := NB170_168.out; have hnc25 := NB168_170.out; have hz26 := cz2 BK170) | ((with_reducible refine gC 186 ?_); refine cL (some 18) Try.func186 #[.agg #[.int .i64 ((rd_T171 l0 x4_1).f0), .int .i64 ((rd_T171 l0 x4_1).f1)]] ?_; (with_reducible refine (spec_PointOk.calls ((rd_T171 l0 x4_1).f0) ((rd_T171 l0 x4_1).f1) _ _ A8.out).mono ?_); rintro e w27 ⟨rfl, hb⟩; refine ⟨_, rfl, ?_⟩; replace BK167 := kB (g := gb167) hb; replace BK168 := kB (g := gb168) hb; replace BK170 := Aside0.mk (blk_below (g := gb170) (o := .cells #[.int .i64 ((rd_T171 l0 x4_1).f0), .int .i64 ((rd_T171 l0 x4_1).f1)] 171 (0, 0)) kS hb); replace HB := hB hb; (try clear hb); (try clear hb2); (try clear hk); (try clear hi); have hnb28 := NB168_167.out; have hnc28 := NB167_168.out; have hz29 := cz4 BK168; have hz30 := cz2 BK170))
              go_roundg k1
              case measure => have := HK1.out; omega
              case rel => exact ⟨(wrap64 (x4_1 + 1)), (x168000_1), (x168001_1), (x168002_1), (x168003_1), (ji19), (ji20), (ji21), (ji22), (by first | rfl | (simp; done) | (simp [*]; done)), H', ⟨by have := HK1.out; omega⟩, ⟨kS⟩, ⟨kS⟩, ⟨bS⟩⟩
          · obtain rfl := Bool.eq_false_iff.mpr c9
            rw [if_neg nF] at H
            simp only [Option.some.injEq, Prod.mk.injEq] at H
            obtain ⟨rfl, rfl, rfl, rfl⟩ := H
            have p169 : 0 ≤ (x4_1 : Int) := of_decide_eq_true (by first | (with_reducible assumption) | assumption)
            have q169 : x4_1 < (l0.length : Int) := of_decide_eq_true (by first | (with_reducible assumption) | assumption)
            obtain ⟨ad169, e169, hx169_0, hx169_1⟩ := at_T171 HR0.out x4_1 p169 q169
            cases e169
            replace hx169_0 := (HB.out.cell (World.block_lt_of_cell? w _ hx169_0)).trans hx169_0
            replace hx169_1 := (HB.out.cell (World.block_lt_of_cell? w _ hx169_1)).trans hx169_1
            replace p169 := eq_true p169
            replace q169 := eq_true q169
            go_wp2_with (first | ((with_reducible refine gD 5 ?_); refine bxE #[.int .i64 0, .int .i64 0] 171 ?_; intro gb170 hg w31 BK170 hb; have GW170 := gE hg; have GE170 := gE hg; have NB167_170 := nL (g := gb167) hg; have NB170_167 := nG (g := gb167) hg; have NB168_170 := nL (g := gb168) hg; have NB170_168 := nG (g := gb168) hg; replace BK167 := kB (g := gb167) hb; replace BK168 := kB (g := gb168) hb; replace HB := hB hb; clear hb hg; have hnb32 := NB170_167.out; have hnc32 := NB167_170.out; have hnb33 := NB170_168.out; have hnc33 := NB168_170.out; have hz34 := cz2 BK170) | ((with_reducible refine gC 186 ?_); refine cL (some 18) Try.func186 #[.agg #[.int .i64 ((rd_T171 l0 x4_1).f0), .int .i64 ((rd_T171 l0 x4_1).f1)]] ?_; (with_reducible refine (spec_PointOk.calls ((rd_T171 l0 x4_1).f0) ((rd_T171 l0 x4_1).f1) _ _ A8.out).mono ?_); rintro e w35 ⟨rfl, hb⟩; refine ⟨_, rfl, ?_⟩; replace BK167 := kB (g := gb167) hb; replace BK168 := kB (g := gb168) hb; replace BK170 := Aside0.mk (blk_below (g := gb170) (o := .cells #[.int .i64 ((rd_T171 l0 x4_1).f0), .int .i64 ((rd_T171 l0 x4_1).f1)] 171 (0, 0)) kS hb); replace HB := hB hb; (try clear hb); (try clear hb2); (try clear hk); (try clear hi); have hnb36 := NB167_168.out; have hnc36 := NB168_167.out; have hz37 := cz4 BK167))
            refine bodyPost_ret (results_cell_row rfl _ _ gb167 43 #[.int .i64 0, .int .i64 0, .int .i64 0, .int .i64 0] (0, 0) _ rfl kS Try.underlying43 rfl (by kernel_rfl)) rfl ?_
            exact ⟨eS, bS⟩
        · rw [if_neg c7] at H
          exact absurd H (by simp)
      · rw [if_neg c6] at H
        have c6b0 : decide (x4_1 < (l0.length : Int)) = false := decide_eq_false c6
        clear c6
        simp only [Option.some.injEq, Prod.mk.injEq] at H
        obtain ⟨rfl, rfl, rfl, rfl⟩ := H
        have hnb38 := NB168_167.out
        have hnc38 := NB167_168.out
        have hz39 := cz4 BK168
        have hz40 := cz4 BK167
        go_wp2
        refine bodyPost_ret (results_cell_row rfl _ _ gb167 43 #[.int .i64 x169000_1, .int .i64 x169001_1, .int .i64 x169002_1, .int .i64 x169003_1] (0, 0) _ rfl kS Try.underlying43 rfl (by kernel_rfl)) rfl ?_
        exact ⟨eS, bS⟩

/-! ### spec_l07Full: function 144 -/
def spec_l07Full.f  : Option (Int × Int × Int × Int) := some (0, 0, 32, 32)
theorem spec_l07Full.calls  (r1 : Int) (r2 : Int) (r3 : Int) (r4 : Int) (w : World) (h : spec_l07Full.f  = some (r1, r2, r3, r4)) :
    Calls Try.prog 144 #[] w fun e w' => e = .returned (.agg #[.int .i64 r1, .int .i64 r2, .int .i64 r3, .int .i64 r4]) ∧ Below w.heap.size w w' := by
  have hu43 := Try.underlying43
  have HB := Aside0.mk (Below.refl w.heap.size w)
  have H : (some (0, 0, 32, 32)) = some (r1, r2, r3, r4) := h
  clear h
  simp only [Option.some.injEq, Prod.mk.injEq] at H
  obtain ⟨rfl, rfl, rfl, rfl⟩ := H
  go_enter Try.func144, Try.ntmps144
  go_wp2_with (first | ((with_reducible refine gD 0 ?_); refine bxE #[.int .i64 0, .int .i64 0, .int .i64 0, .int .i64 0] 43 ?_; intro gb172 hg w1 BK172 hb; have GW172 := gE hg; have GE172 := gE hg; replace HB := hB hb; clear hb hg; have hz2 := cz4 BK172))
  refine bodyPost_ret (results_cell_row rfl _ _ gb172 43 #[.int .i64 0, .int .i64 0, .int .i64 32, .int .i64 32] (0, 0) _ rfl kS Try.underlying43 rfl (by kernel_rfl)) rfl ?_
  exact ⟨eS, bS⟩

end Go.Proofs.Ytigodjcnkgebaaa.QFnExactPaintObject
