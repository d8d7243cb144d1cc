-- Made out of the translation by a program of this session (a changed copy of the print). Not trusted: Lean checks it.
import Derived.Test.YtigodjcnkgebaaaQFnExactPaintTimex0
import Derived.Test.YtigodjcnkgebaaaQFnExactPaintTimex1
namespace Go.Proofs.Ytigodjcnkgebaaa.QFnExactPaintTime
open Go.RowKit Go.Proofs.YtigodjcnkgebaaaW.PrintWords Go.Proofs.YtigodjcnkgebaaaW.PrintLast Go.Proofs.YtigodjcnkgebaaaW.PrintMore
attribute [local go_sem] max2_int min2_int max_two min_two max_three min_three max_four min_four   -- for this text's walks alone
set_option linter.unusedVariables false
set_option linter.unusedSimpArgs false
set_option maxHeartbeats 8000000
set_option maxRecDepth 100000

/-! ### spec_BoxOk: function 145 -/
def spec_BoxOk.f (a0_0 : Int) (a0_1 : Int) (a0_2 : Int) (a0_3 : Int) : Option (Bool) := (spec_l02In.f a0_0).bind fun t139 => (if t139 = true then ((spec_l02In.f a0_1).bind fun t140 => (if t140 = true then ((spec_l02In.f a0_2).bind fun t141 => (if t141 = true then ((spec_l02In.f a0_3).bind fun t142 => (if t142 = true then (if a0_0 ≤ a0_2 then (some (decide (a0_1 ≤ a0_3))) else (some false)) else (some false))) else (some false))) else (some false))) else (some false))
theorem spec_BoxOk.calls (a0_0 : Int) (a0_1 : Int) (a0_2 : Int) (a0_3 : Int) (r : Bool) (w : World) (h : spec_BoxOk.f a0_0 a0_1 a0_2 a0_3 = some r) :
    Calls Try.prog 145 #[.agg #[.int .i64 a0_0, .int .i64 a0_1, .int .i64 a0_2, .int .i64 a0_3]] w fun e w' => e = .returned (.bool r) ∧ Below w.heap.size w w' := by
  have hu43 := Try.underlying43
  have HB := Aside0.mk (Below.refl w.heap.size w)
  have H : ((spec_l02In.f a0_0).bind fun t139 => (if t139 = true then ((spec_l02In.f a0_1).bind fun t140 => (if t140 = true then ((spec_l02In.f a0_2).bind fun t141 => (if t141 = true then ((spec_l02In.f a0_3).bind fun t142 => (if t142 = true then (if a0_0 ≤ a0_2 then (some (decide (a0_1 ≤ a0_3))) else (some false)) else (some false))) else (some false))) else (some false))) else (some false))) = some r := h
  clear h
  replace H := bN H
  obtain ⟨t139, A2, H⟩ := H
  by_cases c3 : t139 = true
  · subst c3
    rw [if_pos rfl] at H
    replace H := bN H
    obtain ⟨t140, A4, H⟩ := H
    by_cases c5 : t140 = true
    · subst c5
      rw [if_pos rfl] at H
      replace H := bN H
      obtain ⟨t141, A6, H⟩ := H
      by_cases c7 : t141 = true
      · subst c7
        rw [if_pos rfl] at H
        replace H := bN H
        obtain ⟨t142, A8, H⟩ := H
        by_cases c9 : t142 = true
        · subst c9
          rw [if_pos rfl] at H
          by_cases c10 : a0_0 ≤ a0_2
          · rw [if_pos c10] at H
            have c10b0 : decide (a0_0 ≤ a0_2) = true := decide_eq_true c10
            clear c10
            obtain rfl := Option.some.inj H
            go_enter Try.func145, Try.ntmps145
            go_wp2_with (first | ((with_reducible refine gD 1 ?_); refine bxE #[.int .i64 a0_0, .int .i64 a0_1, .int .i64 a0_2, .int .i64 a0_3] 43 ?_; intro gb138 hg w11 BK138 hb; have GW138 := gE hg; have GE138 := gE hg; replace HB := hB hb; clear hb hg; have hz12 := cz4 BK138) | ((with_reducible refine gC 148 ?_); refine cL (some 5) Try.func148 #[.int .i64 a0_0] ?_; (with_reducible refine (spec_l02In.calls a0_0 true _ A2.out).mono ?_); rintro e w' ⟨rfl, ⟨nd, rfl⟩⟩; refine ⟨_, rfl, ?_⟩) | (go_at_call 148; (with_reducible refine (spec_l02In.calls a0_1 true _ A4.out).mono ?_); rintro e w' ⟨rfl, ⟨nd, rfl⟩⟩) | (go_at_call 148; (with_reducible refine (spec_l02In.calls a0_2 true _ A6.out).mono ?_); rintro e w' ⟨rfl, ⟨nd, rfl⟩⟩) | (go_at_call 148; (with_reducible refine (spec_l02In.calls a0_3 true _ A8.out).mono ?_); rintro e w' ⟨rfl, ⟨nd, rfl⟩⟩))
            go_ret
            exact ⟨eS, bS⟩
          · rw [if_neg c10] at H
            have c10b0 : decide (a0_0 ≤ a0_2) = false := decide_eq_false c10
            clear c10
            obtain rfl := Option.some.inj H
            go_enter Try.func145, Try.ntmps145
            go_wp2_with (first | ((with_reducible refine gD 1 ?_); refine bxE #[.int .i64 a0_0, .int .i64 a0_1, .int .i64 a0_2, .int .i64 a0_3] 43 ?_; intro gb138 hg w13 BK138 hb; have GW138 := gE hg; have GE138 := gE hg; replace HB := hB hb; clear hb hg; have hz14 := cz4 BK138) | ((with_reducible refine gC 148 ?_); refine cL (some 5) Try.func148 #[.int .i64 a0_0] ?_; (with_reducible refine (spec_l02In.calls a0_0 true _ A2.out).mono ?_); rintro e w' ⟨rfl, ⟨nd, rfl⟩⟩; refine ⟨_, rfl, ?_⟩) | (go_at_call 148; (with_reducible refine (spec_l02In.calls a0_1 true _ A4.out).mono ?_); rintro e w' ⟨rfl, ⟨nd, rfl⟩⟩) | (go_at_call 148; (with_reducible refine (spec_l02In.calls a0_2 true _ A6.out).mono ?_); rintro e w' ⟨rfl, ⟨nd, rfl⟩⟩) | (go_at_call 148; (with_reducible refine (spec_l02In.calls a0_3 true _ A8.out).mono ?_); rintro e w' ⟨rfl, ⟨nd, rfl⟩⟩))
            go_ret
            exact ⟨eS, bS⟩
        · obtain rfl := Bool.eq_false_iff.mpr c9
          rw [if_neg nF] at H
          obtain rfl := Option.some.inj H
          go_enter Try.func145, Try.ntmps145
          go_wp2_with (first | ((with_reducible refine gD 1 ?_); refine bxE #[.int .i64 a0_0, .int .i64 a0_1, .int .i64 a0_2, .int .i64 a0_3] 43 ?_; intro gb138 hg w15 BK138 hb; have GW138 := gE hg; have GE138 := gE hg; replace HB := hB hb; clear hb hg; have hz16 := cz4 BK138) | ((with_reducible refine gC 148 ?_); refine cL (some 5) Try.func148 #[.int .i64 a0_0] ?_; (with_reducible refine (spec_l02In.calls a0_0 true _ A2.out).mono ?_); rintro e w' ⟨rfl, ⟨nd, rfl⟩⟩; refine ⟨_, rfl, ?_⟩) | (go_at_call 148; (with_reducible refine (spec_l02In.calls a0_1 true _ A4.out).mono ?_); rintro e w' ⟨rfl, ⟨nd, rfl⟩⟩) | (go_at_call 148; (with_reducible refine (spec_l02In.calls a0_2 true _ A6.out).mono ?_); rintro e w' ⟨rfl, ⟨nd, rfl⟩⟩) | (go_at_call 148; (with_reducible refine (spec_l02In.calls a0_3 false _ A8.out).mono ?_); rintro e w' ⟨rfl, ⟨nd, rfl⟩⟩))
          go_ret
          exact ⟨eS, bS⟩
      · obtain rfl := Bool.eq_false_iff.mpr c7
        rw [if_neg nF] at H
        obtain rfl := Option.some.inj H
        go_enter Try.func145, Try.ntmps145
        go_wp2_with (first | ((with_reducible refine gD 1 ?_); refine bxE #[.int .i64 a0_0, .int .i64 a0_1, .int .i64 a0_2, .int .i64 a0_3] 43 ?_; intro gb138 hg w17 BK138 hb; have GW138 := gE hg; have GE138 := gE hg; replace HB := hB hb; clear hb hg; have hz18 := cz4 BK138) | ((with_reducible refine gC 148 ?_); refine cL (some 5) Try.func148 #[.int .i64 a0_0] ?_; (with_reducible refine (spec_l02In.calls a0_0 true _ A2.out).mono ?_); rintro e w' ⟨rfl, ⟨nd, rfl⟩⟩; refine ⟨_, rfl, ?_⟩) | (go_at_call 148; (with_reducible refine (spec_l02In.calls a0_1 true _ A4.out).mono ?_); rintro e w' ⟨rfl, ⟨nd, rfl⟩⟩) | (go_at_call 148; (with_reducible refine (spec_l02In.calls a0_2 false _ A6.out).mono ?_); rintro e w' ⟨rfl, ⟨nd, rfl⟩⟩))
        go_ret
        exact ⟨eS, bS⟩
    · obtain rfl := Bool.eq_false_iff.mpr c5
      rw [if_neg nF] at H
      obtain rfl := Option.some.inj H
      go_enter Try.func145, Try.ntmps145
      go_wp2_with (first | ((with_reducible refine gD 1 ?_); refine bxE #[.int .i64 a0_0, .int .i64 a0_1, .int .i64 a0_2, .int .i64 a0_3] 43 ?_; intro gb138 hg w19 BK138 hb; have GW138 := gE hg; have GE138 := gE hg; replace HB := hB hb; clear hb hg; have hz20 := cz4 BK138) | ((with_reducible refine gC 148 ?_); refine cL (some 5) Try.func148 #[.int .i64 a0_0] ?_; (with_reducible refine (spec_l02In.calls a0_0 true _ A2.out).mono ?_); rintro e w' ⟨rfl, ⟨nd, rfl⟩⟩; refine ⟨_, rfl, ?_⟩) | (go_at_call 148; (with_reducible refine (spec_l02In.calls a0_1 false _ A4.out).mono ?_); rintro e w' ⟨rfl, ⟨nd, rfl⟩⟩))
      go_ret
      exact ⟨eS, bS⟩
  · obtain rfl := Bool.eq_false_iff.mpr c3
    rw [if_neg nF] at H
    obtain rfl := Option.some.inj H
    go_enter Try.func145, Try.ntmps145
    go_wp2_with (first | ((with_reducible refine gD 1 ?_); refine bxE #[.int .i64 a0_0, .int .i64 a0_1, .int .i64 a0_2, .int .i64 a0_3] 43 ?_; intro gb138 hg w21 BK138 hb; have GW138 := gE hg; have GE138 := gE hg; replace HB := hB hb; clear hb hg; have hz22 := cz4 BK138) | ((with_reducible refine gC 148 ?_); refine cL (some 5) Try.func148 #[.int .i64 a0_0] ?_; (with_reducible refine (spec_l02In.calls a0_0 false _ A2.out).mono ?_); rintro e w' ⟨rfl, ⟨nd, rfl⟩⟩; refine ⟨_, rfl, ?_⟩))
    go_ret
    exact ⟨eS, bS⟩

/-! ### spec_PointOk: function 186 -/
def spec_PointOk.f (a0_0 : Int) (a0_1 : Int) : Option (Bool) := (spec_l02In.f a0_0).bind fun t144 => (if t144 = true then ((spec_l02In.f a0_1).bind fun t145 => (some t145)) else (some false))
theorem spec_PointOk.calls (a0_0 : Int) (a0_1 : Int) (r : Bool) (w : World) (h : spec_PointOk.f a0_0 a0_1 = some r) :
    Calls Try.prog 186 #[.agg #[.int .i64 a0_0, .int .i64 a0_1]] w fun e w' => e = .returned (.bool r) ∧ Below w.heap.size w w' := by
  have hu171 := Try.underlying171
  have HB := Aside0.mk (Below.refl w.heap.size w)
  have H : ((spec_l02In.f a0_0).bind fun t144 => (if t144 = true then ((spec_l02In.f a0_1).bind fun t145 => (some t145)) else (some false))) = some r := h
  clear h
  replace H := bN H
  obtain ⟨t144, A2, H⟩ := H
  by_cases c3 : t144 = true
  · subst c3
    rw [if_pos rfl] at H
    replace H := bN H
    obtain ⟨t145, A4, H⟩ := H
    obtain rfl := Option.some.inj H
    go_enter Try.func186, Try.ntmps186
    go_wp2_with (first | ((with_reducible refine gD 1 ?_); refine bxE #[.int .i64 a0_0, .int .i64 a0_1] 171 ?_; intro gb143 hg w5 BK143 hb; have GW143 := gE hg; have GE143 := gE hg; replace HB := hB hb; clear hb hg; have hz6 := cz2 BK143) | ((with_reducible refine gC 148 ?_); refine cL (some 5) Try.func148 #[.int .i64 a0_0] ?_; (with_reducible refine (spec_l02In.calls a0_0 true _ A2.out).mono ?_); rintro e w' ⟨rfl, ⟨nd, rfl⟩⟩; refine ⟨_, rfl, ?_⟩) | (go_at_call 148; (with_reducible refine (spec_l02In.calls a0_1 t145 _ A4.out).mono ?_); rintro e w' ⟨rfl, ⟨nd, rfl⟩⟩))
    go_ret
    exact ⟨eS, bS⟩
  · obtain rfl := Bool.eq_false_iff.mpr c3
    rw [if_neg nF] at H
    obtain rfl := Option.some.inj H
    go_enter Try.func186, Try.ntmps186
    go_wp2_with (first | ((with_reducible refine gD 1 ?_); refine bxE #[.int .i64 a0_0, .int .i64 a0_1] 171 ?_; intro gb143 hg w7 BK143 hb; have GW143 := gE hg; have GE143 := gE hg; replace HB := hB hb; clear hb hg; have hz8 := cz2 BK143) | ((with_reducible refine gC 148 ?_); refine cL (some 5) Try.func148 #[.int .i64 a0_0] ?_; (with_reducible refine (spec_l02In.calls a0_0 false _ A2.out).mono ?_); rintro e w' ⟨rfl, ⟨nd, rfl⟩⟩; refine ⟨_, rfl, ?_⟩))
    go_ret
    exact ⟨eS, bS⟩

/-! ### spec_l07Points: function 147 -/
def spec_l07Points.l0 : Nat → List (S171) → Int → Option (Bool)
  | 0, _, _ => none
  | k + 1, x0, x3 => if x3 < (x0.length : Int) then (if 0 ≤ x3 then ((spec_PointOk.f ((rd_T171 x0 x3).f0) ((rd_T171 x0 x3).f1)).bind fun t147 => (if t147 = true then (spec_l07Points.l0 k x0 (wrap64 (x3 + 1))) else (some false))) else (none)) else (some (decide ((x0.length : Int) ≤ 8)))
def spec_l07Points.f (k : Nat) (l0 : List (S171)) : Option (Bool) := spec_l07Points.l0 k l0 0
theorem spec_l07Points.calls (k : Nat) (A0 : Option Addr) (c0 : Nat) (l0 : List (S171)) (r : Bool) (w : World) (hr0 : Kd.C k171 w A0 l0.length l0) (hc0 : l0.length ≤ c0) (h : spec_l07Points.f k l0 = some r) :
    Calls Try.prog 147 #[.slice A0 l0.length c0] w fun e w' => e = .returned (.bool r) ∧ Below w.heap.size w w' := by
  have hu171 := Try.underlying171
  have HR0 := Aside0.mk hr0
  have HC0 := Aside0.mk hc0
  clear hr0 hc0
  have HB := Aside0.mk (Below.refl w.heap.size w)
  have H : (spec_l07Points.l0 k l0 0) = some r := h
  clear h
  have H' := Aside0.mk H
  clear H
  go_enter Try.func147, Try.ntmps147
  go_wp2
  go_loopg [3] k (fun kq v3 w' => ∃ (x3_1 : Int), v3 = .int .i64 x3_1 ∧ Aside0 (spec_l07Points.l0 kq l0 x3_1 = some r) ∧ Aside0 (kq ≤ k) ∧ Aside0 (Below w.heap.size w w'))
  case atStart => exact ⟨(0), (by first | rfl | (simp; done) | (simp [*]; done)), H', ⟨Nat.le_refl _⟩, ⟨bS⟩⟩
  case round =>
    clear H'
    try clear c1
    obtain ⟨x3_1, rfl, HA, HK1, HB⟩ := hrel
    cases gk with
    | zero => exact absurd HA.out (by simp [spec_l07Points.l0])
    | succ k1 =>
      have H := HA.out
      clear HA
      simp only [spec_l07Points.l0] at H
      by_cases c2 : x3_1 < (l0.length : Int)
      · rw [if_pos c2] at H
        have c2b0 : decide (x3_1 < (l0.length : Int)) = true := decide_eq_true c2
        clear c2
        by_cases c3 : 0 ≤ x3_1
        · rw [if_pos c3] at H
          have c3b0 : decide (0 ≤ x3_1) = true := decide_eq_true c3
          clear c3
          replace H := bN H
          obtain ⟨t147, A4, H⟩ := H
          by_cases c5 : t147 = true
          · subst c5
            rw [if_pos rfl] at H
            have H' := Aside0.mk H
            clear H
            have p146 : 0 ≤ (x3_1 : Int) := of_decide_eq_true (by first | (with_reducible assumption) | assumption)
            have q146 : x3_1 < (l0.length : Int) := of_decide_eq_true (by first | (with_reducible assumption) | assumption)
            obtain ⟨ad146, e146, hx146_0, hx146_1⟩ := at_T171 HR0.out x3_1 p146 q146
            cases e146
            replace hx146_0 := (HB.out.cell (World.block_lt_of_cell? w _ hx146_0)).trans hx146_0
            replace hx146_1 := (HB.out.cell (World.block_lt_of_cell? w _ hx146_1)).trans hx146_1
            replace p146 := eq_true p146
            replace q146 := eq_true q146
            go_wp2_with (first | ((with_reducible refine gC 186 ?_); refine cL (some 14) Try.func186 #[.agg #[.int .i64 ((rd_T171 l0 x3_1).f0), .int .i64 ((rd_T171 l0 x3_1).f1)]] ?_; (with_reducible refine (spec_PointOk.calls ((rd_T171 l0 x3_1).f0) ((rd_T171 l0 x3_1).f1) true _ A4.out).mono ?_); rintro e w6 ⟨rfl, hb⟩; refine ⟨_, rfl, ?_⟩; replace HB := hB hb; (try clear hb); (try clear hb2); (try clear hk); (try clear hi)))
            go_roundg k1
            case measure => have := HK1.out; omega
            case rel => exact ⟨(wrap64 (x3_1 + 1)), (by first | rfl | (simp; done) | (simp [*]; done)), H', ⟨by have := HK1.out; omega⟩, ⟨bS⟩⟩
          · obtain rfl := Bool.eq_false_iff.mpr c5
            rw [if_neg nF] at H
            obtain rfl := Option.some.inj H
            have p146 : 0 ≤ (x3_1 : Int) := of_decide_eq_true (by first | (with_reducible assumption) | assumption)
            have q146 : x3_1 < (l0.length : Int) := of_decide_eq_true (by first | (with_reducible assumption) | assumption)
            obtain ⟨ad146, e146, hx146_0, hx146_1⟩ := at_T171 HR0.out x3_1 p146 q146
            cases e146
            replace hx146_0 := (HB.out.cell (World.block_lt_of_cell? w _ hx146_0)).trans hx146_0
            replace hx146_1 := (HB.out.cell (World.block_lt_of_cell? w _ hx146_1)).trans hx146_1
            replace p146 := eq_true p146
            replace q146 := eq_true q146
            go_wp2_with (first | ((with_reducible refine gC 186 ?_); refine cL (some 14) Try.func186 #[.agg #[.int .i64 ((rd_T171 l0 x3_1).f0), .int .i64 ((rd_T171 l0 x3_1).f1)]] ?_; (with_reducible refine (spec_PointOk.calls ((rd_T171 l0 x3_1).f0) ((rd_T171 l0 x3_1).f1) false _ A4.out).mono ?_); rintro e w7 ⟨rfl, hb⟩; refine ⟨_, rfl, ?_⟩; replace HB := hB hb; (try clear hb); (try clear hb2); (try clear hk); (try clear hi)))
            go_ret
            exact ⟨eS, bS⟩
        · rw [if_neg c3] at H
          exact absurd H (by simp)
      · rw [if_neg c2] at H
        have c2b0 : decide (x3_1 < (l0.length : Int)) = false := decide_eq_false c2
        clear c2
        obtain rfl := Option.some.inj H
        go_wp2
        go_ret
        exact ⟨eS, bS⟩

/-! ### spec_l07Object: function 160 -/
def spec_l07Object.f (k : Nat) (l0_0 : List (S171)) (a0_1 : Int) (a0_2 : Int) (a0_3 : Int) (a0_4 : Int) (a0_5 : Int) : Option (Bool) := if (l0_0.length : Int) ≥ 3 then ((spec_l07Points.f k l0_0).bind fun t149 => (if t149 = true then ((spec_l01In.f a0_1 0 255).bind fun t150 => (if t150 = true then ((spec_BoxOk.f a0_2 a0_3 a0_4 a0_5).bind fun t151 => (some t151)) else (some false))) else (some false))) else (some false)
theorem spec_l07Object.calls (k : Nat) (A0_0 : Option Addr) (c0_0 : Nat) (l0_0 : List (S171)) (a0_1 : Int) (a0_2 : Int) (a0_3 : Int) (a0_4 : Int) (a0_5 : Int) (r : Bool) (w : World) (hr0_0 : Kd.C k171 w A0_0 l0_0.length l0_0) (hc0_0 : l0_0.length ≤ c0_0) (h : spec_l07Object.f k l0_0 a0_1 a0_2 a0_3 a0_4 a0_5 = some r) :
    Calls Try.prog 160 #[.agg #[.slice A0_0 l0_0.length c0_0, .int .i64 a0_1, .int .i64 a0_2, .int .i64 a0_3, .int .i64 a0_4, .int .i64 a0_5]] w fun e w' => e = .returned (.bool r) ∧ Below w.heap.size w w' := by
  have hu45 := Try.underlying45
  have hu43 := Try.underlying43
  have HR0_0 := Aside0.mk hr0_0
  have HC0_0 := Aside0.mk hc0_0
  clear hr0_0 hc0_0
  have HB := Aside0.mk (Below.refl w.heap.size w)
  have H : (if (l0_0.length : Int) ≥ 3 then ((spec_l07Points.f k l0_0).bind fun t149 => (if t149 = true then ((spec_l01In.f a0_1 0 255).bind fun t150 => (if t150 = true then ((spec_BoxOk.f a0_2 a0_3 a0_4 a0_5).bind fun t151 => (some t151)) else (some false))) else (some false))) else (some false)) = some r := h
  clear h
  by_cases c2 : (l0_0.length : Int) ≥ 3
  · rw [if_pos c2] at H
    have c2b0 : decide (3 ≤ (l0_0.length : Int)) = true := decide_eq_true c2
    have c2b1 : decide (3 ≤ l0_0.length) = true := decide_eq_true (by omega)
    clear c2
    replace H := bN H
    obtain ⟨t149, A3, H⟩ := H
    by_cases c4 : t149 = true
    · subst c4
      rw [if_pos rfl] at H
      replace H := bN H
      obtain ⟨t150, A5, H⟩ := H
      by_cases c6 : t150 = true
      · subst c6
        rw [if_pos rfl] at H
        replace H := bN H
        obtain ⟨t151, A7, H⟩ := H
        obtain rfl := Option.some.inj H
        go_enter Try.func160, Try.ntmps160
        go_wp2_with (first | ((with_reducible refine gD 1 ?_); refine bxE #[.slice A0_0 l0_0.length c0_0, .int .i64 a0_1, .int .i64 a0_2, .int .i64 a0_3, .int .i64 a0_4, .int .i64 a0_5] 45 ?_; intro gb148 hg w8 BK148 hb; have GW148 := gE hg; have GE148 := gE hg; replace HB := hB hb; clear hb hg; have hz9 := cz6 BK148) | (go_at_call 147; (with_reducible refine (spec_l07Points.calls k _ _ l0_0 true _ ?side1 ?side2 A3.out).mono ?_); (case side1 => exact cS (Kd.C_below HR0_0.out HB.out)); (case side2 => exact HC0_0.out); rintro e w10 ⟨rfl, hb⟩; replace BK148 := kB (g := gb148) hb; replace HB := hB hb; (try clear hb); (try clear hb2); (try clear hk); (try clear hi); have hz11 := cz6 BK148) | (go_at_call 123; (with_reducible refine (spec_l01In.calls a0_1 0 255 true _ A5.out).mono ?_); rintro e w' ⟨rfl, ⟨nd, rfl⟩⟩) | (go_at_call 145; (with_reducible refine (spec_BoxOk.calls a0_2 a0_3 a0_4 a0_5 t151 _ A7.out).mono ?_); rintro e w12 ⟨rfl, hb⟩; replace BK148 := kB (g := gb148) hb; replace HB := hB hb; (try clear hb); (try clear hb2); (try clear hk); (try clear hi)))
        go_ret
        exact ⟨eS, bS⟩
      · obtain rfl := Bool.eq_false_iff.mpr c6
        rw [if_neg nF] at H
        obtain rfl := Option.some.inj H
        go_enter Try.func160, Try.ntmps160
        go_wp2_with (first | ((with_reducible refine gD 1 ?_); refine bxE #[.slice A0_0 l0_0.length c0_0, .int .i64 a0_1, .int .i64 a0_2, .int .i64 a0_3, .int .i64 a0_4, .int .i64 a0_5] 45 ?_; intro gb148 hg w13 BK148 hb; have GW148 := gE hg; have GE148 := gE hg; replace HB := hB hb; clear hb hg; have hz14 := cz6 BK148) | (go_at_call 147; (with_reducible refine (spec_l07Points.calls k _ _ l0_0 true _ ?side1 ?side2 A3.out).mono ?_); (case side1 => exact cS (Kd.C_below HR0_0.out HB.out)); (case side2 => exact HC0_0.out); rintro e w15 ⟨rfl, hb⟩; replace BK148 := kB (g := gb148) hb; replace HB := hB hb; (try clear hb); (try clear hb2); (try clear hk); (try clear hi); have hz16 := cz6 BK148) | (go_at_call 123; (with_reducible refine (spec_l01In.calls a0_1 0 255 false _ A5.out).mono ?_); rintro e w' ⟨rfl, ⟨nd, rfl⟩⟩))
        go_ret
        exact ⟨eS, bS⟩
    · obtain rfl := Bool.eq_false_iff.mpr c4
      rw [if_neg nF] at H
      obtain rfl := Option.some.inj H
      go_enter Try.func160, Try.ntmps160
      go_wp2_with (first | ((with_reducible refine gD 1 ?_); refine bxE #[.slice A0_0 l0_0.length c0_0, .int .i64 a0_1, .int .i64 a0_2, .int .i64 a0_3, .int .i64 a0_4, .int .i64 a0_5] 45 ?_; intro gb148 hg w17 BK148 hb; have GW148 := gE hg; have GE148 := gE hg; replace HB := hB hb; clear hb hg; have hz18 := cz6 BK148) | (go_at_call 147; (with_reducible refine (spec_l07Points.calls k _ _ l0_0 false _ ?side1 ?side2 A3.out).mono ?_); (case side1 => exact cS (Kd.C_below HR0_0.out HB.out)); (case side2 => exact HC0_0.out); rintro e w19 ⟨rfl, hb⟩; replace BK148 := kB (g := gb148) hb; replace HB := hB hb; (try clear hb); (try clear hb2); (try clear hk); (try clear hi)))
      go_ret
      exact ⟨eS, bS⟩
  · rw [if_neg c2] at H
    have c2b0 : decide (3 ≤ (l0_0.length : Int)) = false := decide_eq_false c2
    have c2b1 : decide (3 ≤ l0_0.length) = false := decide_eq_false (by omega)
    clear c2
    obtain rfl := Option.some.inj H
    go_enter Try.func160, Try.ntmps160
    go_wp2_with (first | ((with_reducible refine gD 1 ?_); refine bxE #[.slice A0_0 l0_0.length c0_0, .int .i64 a0_1, .int .i64 a0_2, .int .i64 a0_3, .int .i64 a0_4, .int .i64 a0_5] 45 ?_; intro gb148 hg w20 BK148 hb; have GW148 := gE hg; have GE148 := gE hg; replace HB := hB hb; clear hb hg; have hz21 := cz6 BK148))
    go_ret
    exact ⟨eS, bS⟩

/-! ### spec_ObjectOk: function 95 -/
def spec_ObjectOk.f (k : Nat) (l0_0 : List (S171)) (a0_1 : Int) (a0_2 : Int) (a0_3 : Int) (a0_4 : Int) (a0_5 : Int) : Option (Bool) := (spec_l07Object.f k l0_0 a0_1 a0_2 a0_3 a0_4 a0_5).bind fun t153 => (some t153)
theorem spec_ObjectOk.calls (k : Nat) (A0_0 : Option Addr) (c0_0 : Nat) (l0_0 : List (S171)) (a0_1 : Int) (a0_2 : Int) (a0_3 : Int) (a0_4 : Int) (a0_5 : Int) (r : Bool) (w : World) (hr0_0 : Kd.C k171 w A0_0 l0_0.length l0_0) (hc0_0 : l0_0.length ≤ c0_0) (h : spec_ObjectOk.f k l0_0 a0_1 a0_2 a0_3 a0_4 a0_5 = some r) :
    Calls Try.prog 95 #[.agg #[.slice A0_0 l0_0.length c0_0, .int .i64 a0_1, .int .i64 a0_2, .int .i64 a0_3, .int .i64 a0_4, .int .i64 a0_5]] w fun e w' => e = .returned (.bool r) ∧ Below w.heap.size w w' := by
  have hu45 := Try.underlying45
  have HR0_0 := Aside0.mk hr0_0
  have HC0_0 := Aside0.mk hc0_0
  clear hr0_0 hc0_0
  have HB := Aside0.mk (Below.refl w.heap.size w)
  have H : ((spec_l07Object.f k l0_0 a0_1 a0_2 a0_3 a0_4 a0_5).bind fun t153 => (some t153)) = some r := h
  clear h
  replace H := bN H
  obtain ⟨t153, A2, H⟩ := H
  obtain rfl := Option.some.inj H
  go_enter Try.func95, Try.ntmps95
  go_wp2_with (first | ((with_reducible refine gD 1 ?_); refine bxE #[.slice A0_0 l0_0.length c0_0, .int .i64 a0_1, .int .i64 a0_2, .int .i64 a0_3, .int .i64 a0_4, .int .i64 a0_5] 45 ?_; intro gb152 hg w3 BK152 hb; have GW152 := gE hg; have GE152 := gE hg; replace HB := hB hb; clear hb hg; have hz4 := cz6 BK152) | ((with_reducible refine gC 160 ?_); refine cL (some 4) Try.func160 #[.agg #[.slice A0_0 l0_0.length c0_0, .int .i64 a0_1, .int .i64 a0_2, .int .i64 a0_3, .int .i64 a0_4, .int .i64 a0_5]] ?_; (with_reducible refine (spec_l07Object.calls k _ _ l0_0 a0_1 a0_2 a0_3 a0_4 a0_5 t153 _ ?side1 ?side2 A2.out).mono ?_); (case side1 => exact cS (Kd.C_below HR0_0.out HB.out)); (case side2 => exact HC0_0.out); rintro e w5 ⟨rfl, hb⟩; refine ⟨_, rfl, ?_⟩; replace BK152 := kB (g := gb152) hb; replace HB := hB hb; (try clear hb); (try clear hb2); (try clear hk); (try clear hi)))
  go_ret
  exact ⟨eS, bS⟩

/-! ### spec_MeetBox: function 142 -/
def spec_MeetBox.f (a0_0 : Int) (a0_1 : Int) (a0_2 : Int) (a0_3 : Int) (a1_0 : Int) (a1_1 : Int) (a1_2 : Int) (a1_3 : Int) : Option (Int × Int × Int × Int) := (spec_BoxOk.f a0_0 a0_1 a0_2 a0_3).bind fun t158 => (if t158 = true then ((spec_BoxOk.f a1_0 a1_1 a1_2 a1_3).bind fun t159 => (if t159 = true then (if (mx a0_0 a1_0) ≥ (mn a0_2 a1_2) then (some (0, 0, 0, 0)) else (if (mx a0_1 a1_1) ≥ (mn a0_3 a1_3) then (some (0, 0, 0, 0)) else (some (mx a0_0 a1_0, mx a0_1 a1_1, mn a0_2 a1_2, mn a0_3 a1_3)))) else (some (0, 0, 0, 0)))) else (some (0, 0, 0, 0)))
theorem spec_MeetBox.calls (a0_0 : Int) (a0_1 : Int) (a0_2 : Int) (a0_3 : Int) (a1_0 : Int) (a1_1 : Int) (a1_2 : Int) (a1_3 : Int) (r1 : Int) (r2 : Int) (r3 : Int) (r4 : Int) (w : World) (h : spec_MeetBox.f a0_0 a0_1 a0_2 a0_3 a1_0 a1_1 a1_2 a1_3 = some (r1, r2, r3, r4)) :
    Calls Try.prog 142 #[.agg #[.int .i64 a0_0, .int .i64 a0_1, .int .i64 a0_2, .int .i64 a0_3], .agg #[.int .i64 a1_0, .int .i64 a1_1, .int .i64 a1_2, .int .i64 a1_3]] w fun e w' => e = .returned (.agg #[.int .i64 r1, .int .i64 r2, .int .i64 r3, .int .i64 r4]) ∧ Below w.heap.size w w' := by
  have hu43 := Try.underlying43
  have HB := Aside0.mk (Below.refl w.heap.size w)
  have H : ((spec_BoxOk.f a0_0 a0_1 a0_2 a0_3).bind fun t158 => (if t158 = true then ((spec_BoxOk.f a1_0 a1_1 a1_2 a1_3).bind fun t159 => (if t159 = true then (if (mx a0_0 a1_0) ≥ (mn a0_2 a1_2) then (some (0, 0, 0, 0)) else (if (mx a0_1 a1_1) ≥ (mn a0_3 a1_3) then (some (0, 0, 0, 0)) else (some (mx a0_0 a1_0, mx a0_1 a1_1, mn a0_2 a1_2, mn a0_3 a1_3)))) else (some (0, 0, 0, 0)))) else (some (0, 0, 0, 0)))) = some (r1, r2, r3, r4) := h
  clear h
  obtain ⟨ji3, hji3⟩ : ∃ j_ : Int, (mx a0_0 a1_0) = j_ := ⟨_, rfl⟩
  replace H : ((spec_BoxOk.f a0_0 a0_1 a0_2 a0_3).bind fun t158 => (if t158 = true then ((spec_BoxOk.f a1_0 a1_1 a1_2 a1_3).bind fun t159 => (if t159 = true then (if (ji3) ≥ (mn a0_2 a1_2) then (some (0, 0, 0, 0)) else (if (mx a0_1 a1_1) ≥ (mn a0_3 a1_3) then (some (0, 0, 0, 0)) else (some (ji3, mx a0_1 a1_1, mn a0_2 a1_2, mn a0_3 a1_3)))) else (some (0, 0, 0, 0)))) else (some (0, 0, 0, 0)))) = some (r1, r2, r3, r4) := by first | (rw [hji3] at H; exact H) | (simp only [hji3] at H ⊢; exact H)
  have hji3_ : (if a0_0 < a1_0 then a1_0 else a0_0) = ji3 := hji3
  obtain ⟨ji4, hji4⟩ : ∃ j_ : Int, (mx a0_1 a1_1) = j_ := ⟨_, rfl⟩
  replace H : ((spec_BoxOk.f a0_0 a0_1 a0_2 a0_3).bind fun t158 => (if t158 = true then ((spec_BoxOk.f a1_0 a1_1 a1_2 a1_3).bind fun t159 => (if t159 = true then (if (ji3) ≥ (mn a0_2 a1_2) then (some (0, 0, 0, 0)) else (if (ji4) ≥ (mn a0_3 a1_3) then (some (0, 0, 0, 0)) else (some (ji3, ji4, mn a0_2 a1_2, mn a0_3 a1_3)))) else (some (0, 0, 0, 0)))) else (some (0, 0, 0, 0)))) = some (r1, r2, r3, r4) := by first | (rw [hji4] at H; exact H) | (simp only [hji4] at H ⊢; exact H)
  have hji4_ : (if a0_1 < a1_1 then a1_1 else a0_1) = ji4 := hji4
  obtain ⟨ji5, hji5⟩ : ∃ j_ : Int, (mn a0_2 a1_2) = j_ := ⟨_, rfl⟩
  replace H : ((spec_BoxOk.f a0_0 a0_1 a0_2 a0_3).bind fun t158 => (if t158 = true then ((spec_BoxOk.f a1_0 a1_1 a1_2 a1_3).bind fun t159 => (if t159 = true then (if (ji3) ≥ (ji5) then (some (0, 0, 0, 0)) else (if (ji4) ≥ (mn a0_3 a1_3) then (some (0, 0, 0, 0)) else (some (ji3, ji4, ji5, mn a0_3 a1_3)))) else (some (0, 0, 0, 0)))) else (some (0, 0, 0, 0)))) = some (r1, r2, r3, r4) := by first | (rw [hji5] at H; exact H) | (simp only [hji5] at H ⊢; exact H)
  have hji5_ : (if a1_2 < a0_2 then a1_2 else a0_2) = ji5 := hji5
  obtain ⟨ji6, hji6⟩ : ∃ j_ : Int, (mn a0_3 a1_3) = j_ := ⟨_, rfl⟩
  replace H : ((spec_BoxOk.f a0_0 a0_1 a0_2 a0_3).bind fun t158 => (if t158 = true then ((spec_BoxOk.f a1_0 a1_1 a1_2 a1_3).bind fun t159 => (if t159 = true then (if (ji3) ≥ (ji5) then (some (0, 0, 0, 0)) else (if (ji4) ≥ (ji6) then (some (0, 0, 0, 0)) else (some (ji3, ji4, ji5, ji6)))) else (some (0, 0, 0, 0)))) else (some (0, 0, 0, 0)))) = some (r1, r2, r3, r4) := by first | (rw [hji6] at H; exact H) | (simp only [hji6] at H ⊢; exact H)
  have hji6_ : (if a1_3 < a0_3 then a1_3 else a0_3) = ji6 := hji6
  replace H := bN H
  obtain ⟨t158, A7, H⟩ := H
  by_cases c8 : t158 = true
  · subst c8
    rw [if_pos rfl] at H
    replace H := bN H
    obtain ⟨t159, A9, H⟩ := H
    by_cases c10 : t159 = true
    · subst c10
      rw [if_pos rfl] at H
      by_cases c11 : (ji3) ≥ (ji5)
      · rw [if_pos c11] at H
        have c11b0 : decide ((ji5) ≤ (ji3)) = true := decide_eq_true c11
        clear c11
        simp only [Option.some.injEq, Prod.mk.injEq] at H
        obtain ⟨rfl, rfl, rfl, rfl⟩ := H
        go_enter Try.func142, Try.ntmps142
        go_wp2_with (first | ((with_reducible refine gD 2 ?_); refine bxE #[.int .i64 a0_0, .int .i64 a0_1, .int .i64 a0_2, .int .i64 a0_3] 43 ?_; intro gb154 hg w12 BK154 hb; have GW154 := gE hg; have GE154 := gE hg; replace HB := hB hb; clear hb hg) | ((with_reducible refine gD 3 ?_); refine bxE #[.int .i64 a1_0, .int .i64 a1_1, .int .i64 a1_2, .int .i64 a1_3] 43 ?_; intro gb155 hg w13 BK155 hb; have GW155 := gE hg; have GE155 := gE hg; have NB154_155 := nL (g := gb154) hg; have NB155_154 := nG (g := gb154) hg; replace BK154 := kB (g := gb154) hb; replace HB := hB hb; clear hb hg) | ((with_reducible refine gD 4 ?_); refine bxE #[.int .i64 0, .int .i64 0, .int .i64 0, .int .i64 0] 43 ?_; intro gb156 hg w14 BK156 hb; have GW156 := gE hg; have GE156 := gE hg; have NB154_156 := nL (g := gb154) hg; have NB156_154 := nG (g := gb154) hg; have NB155_156 := nL (g := gb155) hg; have NB156_155 := nG (g := gb155) hg; replace BK154 := kB (g := gb154) hb; replace BK155 := kB (g := gb155) hb; replace HB := hB hb; clear hb hg; have hnb15 := NB154_155.out; have hnc15 := NB155_154.out; have hnb16 := NB154_156.out; have hnc16 := NB156_154.out; have hz17 := cz4 BK154; have hnb18 := NB155_156.out; have hnc18 := NB156_155.out; have hz19 := cz4 BK155) | ((with_reducible refine gD 5 ?_); refine bxE #[.int .i64 0, .int .i64 0, .int .i64 0, .int .i64 0] 43 ?_; intro gb157 hg w20 BK157 hb; have GW157 := gE hg; have GE157 := gE hg; have NB154_157 := nL (g := gb154) hg; have NB157_154 := nG (g := gb154) hg; have NB155_157 := nL (g := gb155) hg; have NB157_155 := nG (g := gb155) hg; have NB156_157 := nL (g := gb156) hg; have NB157_156 := nG (g := gb156) hg; replace BK154 := kB (g := gb154) hb; replace BK155 := kB (g := gb155) hb; replace BK156 := kB (g := gb156) hb; replace HB := hB hb; clear hb hg; have hnb21 := NB157_154.out; have hnc21 := NB154_157.out; have hnb22 := NB157_155.out; have hnc22 := NB155_157.out; have hnb23 := NB157_156.out; have hnc23 := NB156_157.out; have hz24 := cz4 BK157; have hz25 := cz4 BK154) | ((with_reducible refine gC 145 ?_); refine cL (some 28) Try.func145 #[.agg #[.int .i64 a0_0, .int .i64 a0_1, .int .i64 a0_2, .int .i64 a0_3]] ?_; (with_reducible refine (spec_BoxOk.calls a0_0 a0_1 a0_2 a0_3 true _ A7.out).mono ?_); rintro e w26 ⟨rfl, hb⟩; refine ⟨_, rfl, ?_⟩; replace BK154 := kB (g := gb154) hb; replace BK155 := kB (g := gb155) hb; replace BK156 := kB (g := gb156) hb; replace BK157 := Aside0.mk (blk_below (g := gb157) (o := .cells #[.int .i64 ji3, .int .i64 ji4, .int .i64 ji5, .int .i64 ji6] 43 (0, 0)) kS hb); replace HB := hB hb; (try clear hb); (try clear hb2); (try clear hk); (try clear hi); have hz27 := cz4 BK155) | (go_at_call 145; (with_reducible refine (spec_BoxOk.calls a1_0 a1_1 a1_2 a1_3 true _ A9.out).mono ?_); rintro e w28 ⟨rfl, hb⟩; replace BK154 := kB (g := gb154) hb; replace BK155 := kB (g := gb155) hb; replace BK156 := kB (g := gb156) hb; replace BK157 := kB (g := gb157) hb; replace HB := hB hb; (try clear hb); (try clear hb2); (try clear hk); (try clear hi); have hz29 := cz4 BK157; have hz30 := cz4 BK156))
        refine bodyPost_ret (results_cell_row rfl _ _ gb156 43 #[.int .i64 0, .int .i64 0, .int .i64 0, .int .i64 0] (0, 0) _ rfl kS Try.underlying43 rfl (by kernel_rfl)) rfl ?_
        exact ⟨by first | rfl | (simp [errW_none, errW_some] <;> rfl) | (simp only [← hji3, ← hji4, ← hji5, ← hji6]; first | rfl | (simp [errW_none, errW_some] <;> rfl)) | (simp [*, errW_none, errW_some] <;> rfl), bS⟩
      · rw [if_neg c11] at H
        have c11b0 : decide ((ji5) ≤ (ji3)) = false := decide_eq_false c11
        clear c11
        by_cases c31 : (ji4) ≥ (ji6)
        · rw [if_pos c31] at H
          have c31b0 : decide ((ji6) ≤ (ji4)) = true := decide_eq_true c31
          clear c31
          simp only [Option.some.injEq, Prod.mk.injEq] at H
          obtain ⟨rfl, rfl, rfl, rfl⟩ := H
          go_enter Try.func142, Try.ntmps142
          go_wp2_with (first | ((with_reducible refine gD 2 ?_); refine bxE #[.int .i64 a0_0, .int .i64 a0_1, .int .i64 a0_2, .int .i64 a0_3] 43 ?_; intro gb154 hg w32 BK154 hb; have GW154 := gE hg; have GE154 := gE hg; replace HB := hB hb; clear hb hg) | ((with_reducible refine gD 3 ?_); refine bxE #[.int .i64 a1_0, .int .i64 a1_1, .int .i64 a1_2, .int .i64 a1_3] 43 ?_; intro gb155 hg w33 BK155 hb; have GW155 := gE hg; have GE155 := gE hg; have NB154_155 := nL (g := gb154) hg; have NB155_154 := nG (g := gb154) hg; replace BK154 := kB (g := gb154) hb; replace HB := hB hb; clear hb hg) | ((with_reducible refine gD 4 ?_); refine bxE #[.int .i64 0, .int .i64 0, .int .i64 0, .int .i64 0] 43 ?_; intro gb156 hg w34 BK156 hb; have GW156 := gE hg; have GE156 := gE hg; have NB154_156 := nL (g := gb154) hg; have NB156_154 := nG (g := gb154) hg; have NB155_156 := nL (g := gb155) hg; have NB156_155 := nG (g := gb155) hg; replace BK154 := kB (g := gb154) hb; replace BK155 := kB (g := gb155) hb; replace HB := hB hb; clear hb hg; have hnb35 := NB154_155.out; have hnc35 := NB155_154.out; have hnb36 := NB154_156.out; have hnc36 := NB156_154.out; have hz37 := cz4 BK154; have hnb38 := NB155_156.out; have hnc38 := NB156_155.out; have hz39 := cz4 BK155) | ((with_reducible refine gD 5 ?_); refine bxE #[.int .i64 0, .int .i64 0, .int .i64 0, .int .i64 0] 43 ?_; intro gb157 hg w40 BK157 hb; have GW157 := gE hg; have GE157 := gE hg; have NB154_157 := nL (g := gb154) hg; have NB157_154 := nG (g := gb154) hg; have NB155_157 := nL (g := gb155) hg; have NB157_155 := nG (g := gb155) hg; have NB156_157 := nL (g := gb156) hg; have NB157_156 := nG (g := gb156) hg; replace BK154 := kB (g := gb154) hb; replace BK155 := kB (g := gb155) hb; replace BK156 := kB (g := gb156) hb; replace HB := hB hb; clear hb hg; have hnb41 := NB157_154.out; have hnc41 := NB154_157.out; have hnb42 := NB157_155.out; have hnc42 := NB155_157.out; have hnb43 := NB157_156.out; have hnc43 := NB156_157.out; have hz44 := cz4 BK157; have hz45 := cz4 BK154) | ((with_reducible refine gC 145 ?_); refine cL (some 28) Try.func145 #[.agg #[.int .i64 a0_0, .int .i64 a0_1, .int .i64 a0_2, .int .i64 a0_3]] ?_; (with_reducible refine (spec_BoxOk.calls a0_0 a0_1 a0_2 a0_3 true _ A7.out).mono ?_); rintro e w46 ⟨rfl, hb⟩; refine ⟨_, rfl, ?_⟩; replace BK154 := kB (g := gb154) hb; replace BK155 := kB (g := gb155) hb; replace BK156 := kB (g := gb156) hb; replace BK157 := Aside0.mk (blk_below (g := gb157) (o := .cells #[.int .i64 ji3, .int .i64 ji4, .int .i64 ji5, .int .i64 ji6] 43 (0, 0)) kS hb); replace HB := hB hb; (try clear hb); (try clear hb2); (try clear hk); (try clear hi); have hz47 := cz4 BK155) | (go_at_call 145; (with_reducible refine (spec_BoxOk.calls a1_0 a1_1 a1_2 a1_3 true _ A9.out).mono ?_); rintro e w48 ⟨rfl, hb⟩; replace BK154 := kB (g := gb154) hb; replace BK155 := kB (g := gb155) hb; replace BK156 := kB (g := gb156) hb; replace BK157 := kB (g := gb157) hb; replace HB := hB hb; (try clear hb); (try clear hb2); (try clear hk); (try clear hi); have hz49 := cz4 BK157; have hz50 := cz4 BK156))
          refine bodyPost_ret (results_cell_row rfl _ _ gb156 43 #[.int .i64 0, .int .i64 0, .int .i64 0, .int .i64 0] (0, 0) _ rfl kS Try.underlying43 rfl (by kernel_rfl)) rfl ?_
          exact ⟨by first | rfl | (simp [errW_none, errW_some] <;> rfl) | (simp only [← hji3, ← hji4, ← hji5, ← hji6]; first | rfl | (simp [errW_none, errW_some] <;> rfl)) | (simp [*, errW_none, errW_some] <;> rfl), bS⟩
        · rw [if_neg c31] at H
          have c31b0 : decide ((ji6) ≤ (ji4)) = false := decide_eq_false c31
          clear c31
          simp only [Option.some.injEq, Prod.mk.injEq] at H
          obtain ⟨rfl, rfl, rfl, rfl⟩ := H
          go_enter Try.func142, Try.ntmps142
          go_wp2_with (first | ((with_reducible refine gD 2 ?_); refine bxE #[.int .i64 a0_0, .int .i64 a0_1, .int .i64 a0_2, .int .i64 a0_3] 43 ?_; intro gb154 hg w51 BK154 hb; have GW154 := gE hg; have GE154 := gE hg; replace HB := hB hb; clear hb hg) | ((with_reducible refine gD 3 ?_); refine bxE #[.int .i64 a1_0, .int .i64 a1_1, .int .i64 a1_2, .int .i64 a1_3] 43 ?_; intro gb155 hg w52 BK155 hb; have GW155 := gE hg; have GE155 := gE hg; have NB154_155 := nL (g := gb154) hg; have NB155_154 := nG (g := gb154) hg; replace BK154 := kB (g := gb154) hb; replace HB := hB hb; clear hb hg) | ((with_reducible refine gD 4 ?_); refine bxE #[.int .i64 0, .int .i64 0, .int .i64 0, .int .i64 0] 43 ?_; intro gb156 hg w53 BK156 hb; have GW156 := gE hg; have GE156 := gE hg; have NB154_156 := nL (g := gb154) hg; have NB156_154 := nG (g := gb154) hg; have NB155_156 := nL (g := gb155) hg; have NB156_155 := nG (g := gb155) hg; replace BK154 := kB (g := gb154) hb; replace BK155 := kB (g := gb155) hb; replace HB := hB hb; clear hb hg; have hnb54 := NB154_155.out; have hnc54 := NB155_154.out; have hnb55 := NB154_156.out; have hnc55 := NB156_154.out; have hz56 := cz4 BK154; have hnb57 := NB155_156.out; have hnc57 := NB156_155.out; have hz58 := cz4 BK155) | ((with_reducible refine gD 5 ?_); refine bxE #[.int .i64 0, .int .i64 0, .int .i64 0, .int .i64 0] 43 ?_; intro gb157 hg w59 BK157 hb; have GW157 := gE hg; have GE157 := gE hg; have NB154_157 := nL (g := gb154) hg; have NB157_154 := nG (g := gb154) hg; have NB155_157 := nL (g := gb155) hg; have NB157_155 := nG (g := gb155) hg; have NB156_157 := nL (g := gb156) hg; have NB157_156 := nG (g := gb156) hg; replace BK154 := kB (g := gb154) hb; replace BK155 := kB (g := gb155) hb; replace BK156 := kB (g := gb156) hb; replace HB := hB hb; clear hb hg; have hnb60 := NB157_154.out; have hnc60 := NB154_157.out; have hnb61 := NB157_155.out; have hnc61 := NB155_157.out; have hnb62 := NB157_156.out; have hnc62 := NB156_157.out; have hz63 := cz4 BK157; have hz64 := cz4 BK154) | ((with_reducible refine gC 145 ?_); refine cL (some 28) Try.func145 #[.agg #[.int .i64 a0_0, .int .i64 a0_1, .int .i64 a0_2, .int .i64 a0_3]] ?_; (with_reducible refine (spec_BoxOk.calls a0_0 a0_1 a0_2 a0_3 true _ A7.out).mono ?_); rintro e w65 ⟨rfl, hb⟩; refine ⟨_, rfl, ?_⟩; replace BK154 := kB (g := gb154) hb; replace BK155 := kB (g := gb155) hb; replace BK156 := kB (g := gb156) hb; replace BK157 := Aside0.mk (blk_below (g := gb157) (o := .cells #[.int .i64 ji3, .int .i64 ji4, .int .i64 ji5, .int .i64 ji6] 43 (0, 0)) kS hb); replace HB := hB hb; (try clear hb); (try clear hb2); (try clear hk); (try clear hi); have hz66 := cz4 BK155) | (go_at_call 145; (with_reducible refine (spec_BoxOk.calls a1_0 a1_1 a1_2 a1_3 true _ A9.out).mono ?_); rintro e w67 ⟨rfl, hb⟩; replace BK154 := kB (g := gb154) hb; replace BK155 := kB (g := gb155) hb; replace BK156 := kB (g := gb156) hb; replace BK157 := kB (g := gb157) hb; replace HB := hB hb; (try clear hb); (try clear hb2); (try clear hk); (try clear hi); have hz68 := cz4 BK157; have hz69 := cz4 BK156))
          refine bodyPost_ret (results_cell_row rfl _ _ gb156 43 #[.int .i64 ji3, .int .i64 ji4, .int .i64 ji5, .int .i64 ji6] (0, 0) _ rfl kS Try.underlying43 rfl (by kernel_rfl)) rfl ?_
          exact ⟨by first | rfl | (simp [errW_none, errW_some] <;> rfl) | (simp only [← hji3, ← hji4, ← hji5, ← hji6]; first | rfl | (simp [errW_none, errW_some] <;> rfl)) | (simp [*, errW_none, errW_some] <;> rfl), bS⟩
    · obtain rfl := Bool.eq_false_iff.mpr c10
      rw [if_neg nF] at H
      simp only [Option.some.injEq, Prod.mk.injEq] at H
      obtain ⟨rfl, rfl, rfl, rfl⟩ := H
      go_enter Try.func142, Try.ntmps142
      go_wp2_with (first | ((with_reducible refine gD 2 ?_); refine bxE #[.int .i64 a0_0, .int .i64 a0_1, .int .i64 a0_2, .int .i64 a0_3] 43 ?_; intro gb154 hg w70 BK154 hb; have GW154 := gE hg; have GE154 := gE hg; replace HB := hB hb; clear hb hg) | ((with_reducible refine gD 3 ?_); refine bxE #[.int .i64 a1_0, .int .i64 a1_1, .int .i64 a1_2, .int .i64 a1_3] 43 ?_; intro gb155 hg w71 BK155 hb; have GW155 := gE hg; have GE155 := gE hg; have NB154_155 := nL (g := gb154) hg; have NB155_154 := nG (g := gb154) hg; replace BK154 := kB (g := gb154) hb; replace HB := hB hb; clear hb hg) | ((with_reducible refine gD 4 ?_); refine bxE #[.int .i64 0, .int .i64 0, .int .i64 0, .int .i64 0] 43 ?_; intro gb156 hg w72 BK156 hb; have GW156 := gE hg; have GE156 := gE hg; have NB154_156 := nL (g := gb154) hg; have NB156_154 := nG (g := gb154) hg; have NB155_156 := nL (g := gb155) hg; have NB156_155 := nG (g := gb155) hg; replace BK154 := kB (g := gb154) hb; replace BK155 := kB (g := gb155) hb; replace HB := hB hb; clear hb hg; have hnb73 := NB154_155.out; have hnc73 := NB155_154.out; have hnb74 := NB154_156.out; have hnc74 := NB156_154.out; have hz75 := cz4 BK154; have hnb76 := NB155_156.out; have hnc76 := NB156_155.out; have hz77 := cz4 BK155) | ((with_reducible refine gD 5 ?_); refine bxE #[.int .i64 0, .int .i64 0, .int .i64 0, .int .i64 0] 43 ?_; intro gb157 hg w78 BK157 hb; have GW157 := gE hg; have GE157 := gE hg; have NB154_157 := nL (g := gb154) hg; have NB157_154 := nG (g := gb154) hg; have NB155_157 := nL (g := gb155) hg; have NB157_155 := nG (g := gb155) hg; have NB156_157 := nL (g := gb156) hg; have NB157_156 := nG (g := gb156) hg; replace BK154 := kB (g := gb154) hb; replace BK155 := kB (g := gb155) hb; replace BK156 := kB (g := gb156) hb; replace HB := hB hb; clear hb hg; have hnb79 := NB157_154.out; have hnc79 := NB154_157.out; have hnb80 := NB157_155.out; have hnc80 := NB155_157.out; have hnb81 := NB157_156.out; have hnc81 := NB156_157.out; have hz82 := cz4 BK157; have hz83 := cz4 BK154) | ((with_reducible refine gC 145 ?_); refine cL (some 28) Try.func145 #[.agg #[.int .i64 a0_0, .int .i64 a0_1, .int .i64 a0_2, .int .i64 a0_3]] ?_; (with_reducible refine (spec_BoxOk.calls a0_0 a0_1 a0_2 a0_3 true _ A7.out).mono ?_); rintro e w84 ⟨rfl, hb⟩; refine ⟨_, rfl, ?_⟩; replace BK154 := kB (g := gb154) hb; replace BK155 := kB (g := gb155) hb; replace BK156 := kB (g := gb156) hb; replace BK157 := Aside0.mk (blk_below (g := gb157) (o := .cells #[.int .i64 ji3, .int .i64 ji4, .int .i64 ji5, .int .i64 ji6] 43 (0, 0)) kS hb); replace HB := hB hb; (try clear hb); (try clear hb2); (try clear hk); (try clear hi); have hz85 := cz4 BK155) | (go_at_call 145; (with_reducible refine (spec_BoxOk.calls a1_0 a1_1 a1_2 a1_3 false _ A9.out).mono ?_); rintro e w86 ⟨rfl, hb⟩; replace BK154 := kB (g := gb154) hb; replace BK155 := kB (g := gb155) hb; replace BK156 := kB (g := gb156) hb; replace BK157 := kB (g := gb157) hb; replace HB := hB hb; (try clear hb); (try clear hb2); (try clear hk); (try clear hi); have hz87 := cz4 BK156))
      refine bodyPost_ret (results_cell_row rfl _ _ gb156 43 #[.int .i64 0, .int .i64 0, .int .i64 0, .int .i64 0] (0, 0) _ rfl kS Try.underlying43 rfl (by kernel_rfl)) rfl ?_
      exact ⟨by first | rfl | (simp [errW_none, errW_some] <;> rfl) | (simp only [← hji3, ← hji4, ← hji5, ← hji6]; first | rfl | (simp [errW_none, errW_some] <;> rfl)) | (simp [*, errW_none, errW_some] <;> rfl), bS⟩
  · obtain rfl := Bool.eq_false_iff.mpr c8
    rw [if_neg nF] at H
    simp only [Option.some.injEq, Prod.mk.injEq] at H
    obtain ⟨rfl, rfl, rfl, rfl⟩ := H
    go_enter Try.func142, Try.ntmps142
    go_wp2_with (first | ((with_reducible refine gD 2 ?_); refine bxE #[.int .i64 a0_0, .int .i64 a0_1, .int .i64 a0_2, .int .i64 a0_3] 43 ?_; intro gb154 hg w88 BK154 hb; have GW154 := gE hg; have GE154 := gE hg; replace HB := hB hb; clear hb hg) | ((with_reducible refine gD 3 ?_); refine bxE #[.int .i64 a1_0, .int .i64 a1_1, .int .i64 a1_2, .int .i64 a1_3] 43 ?_; intro gb155 hg w89 BK155 hb; have GW155 := gE hg; have GE155 := gE hg; have NB154_155 := nL (g := gb154) hg; have NB155_154 := nG (g := gb154) hg; replace BK154 := kB (g := gb154) hb; replace HB := hB hb; clear hb hg) | ((with_reducible refine gD 4 ?_); refine bxE #[.int .i64 0, .int .i64 0, .int .i64 0, .int .i64 0] 43 ?_; intro gb156 hg w90 BK156 hb; have GW156 := gE hg; have GE156 := gE hg; have NB154_156 := nL (g := gb154) hg; have NB156_154 := nG (g := gb154) hg; have NB155_156 := nL (g := gb155) hg; have NB156_155 := nG (g := gb155) hg; replace BK154 := kB (g := gb154) hb; replace BK155 := kB (g := gb155) hb; replace HB := hB hb; clear hb hg; have hnb91 := NB154_155.out; have hnc91 := NB155_154.out; have hnb92 := NB154_156.out; have hnc92 := NB156_154.out; have hz93 := cz4 BK154; have hnb94 := NB155_156.out; have hnc94 := NB156_155.out; have hz95 := cz4 BK155) | ((with_reducible refine gD 5 ?_); refine bxE #[.int .i64 0, .int .i64 0, .int .i64 0, .int .i64 0] 43 ?_; intro gb157 hg w96 BK157 hb; have GW157 := gE hg; have GE157 := gE hg; have NB154_157 := nL (g := gb154) hg; have NB157_154 := nG (g := gb154) hg; have NB155_157 := nL (g := gb155) hg; have NB157_155 := nG (g := gb155) hg; have NB156_157 := nL (g := gb156) hg; have NB157_156 := nG (g := gb156) hg; replace BK154 := kB (g := gb154) hb; replace BK155 := kB (g := gb155) hb; replace BK156 := kB (g := gb156) hb; replace HB := hB hb; clear hb hg; have hnb97 := NB157_154.out; have hnc97 := NB154_157.out; have hnb98 := NB157_155.out; have hnc98 := NB155_157.out; have hnb99 := NB157_156.out; have hnc99 := NB156_157.out; have hz100 := cz4 BK157; have hz101 := cz4 BK154) | ((with_reducible refine gC 145 ?_); refine cL (some 28) Try.func145 #[.agg #[.int .i64 a0_0, .int .i64 a0_1, .int .i64 a0_2, .int .i64 a0_3]] ?_; (with_reducible refine (spec_BoxOk.calls a0_0 a0_1 a0_2 a0_3 false _ A7.out).mono ?_); rintro e w102 ⟨rfl, hb⟩; refine ⟨_, rfl, ?_⟩; replace BK154 := kB (g := gb154) hb; replace BK155 := kB (g := gb155) hb; replace BK156 := kB (g := gb156) hb; replace BK157 := Aside0.mk (blk_below (g := gb157) (o := .cells #[.int .i64 ji3, .int .i64 ji4, .int .i64 ji5, .int .i64 ji6] 43 (0, 0)) kS hb); replace HB := hB hb; (try clear hb); (try clear hb2); (try clear hk); (try clear hi); have hz103 := cz4 BK156))
    refine bodyPost_ret (results_cell_row rfl _ _ gb156 43 #[.int .i64 0, .int .i64 0, .int .i64 0, .int .i64 0] (0, 0) _ rfl kS Try.underlying43 rfl (by kernel_rfl)) rfl ?_
    exact ⟨by first | rfl | (simp [errW_none, errW_some] <;> rfl) | (simp only [← hji3, ← hji4, ← hji5, ← hji6]; first | rfl | (simp [errW_none, errW_some] <;> rfl)) | (simp [*, errW_none, errW_some] <;> rfl), bS⟩

/-! ### spec_BoxOf: function 143 -/
def spec_BoxOf.l0 : Nat → List (S171) → Int → Int → Int → Int → Int → Option (Int × Int × Int × Int)
  | 0, _, _, _, _, _, _ => none
  | k + 1, x0, x4, x162000, x162001, x162002, x162003 => if x4 < (x0.length : Int) then (if 0 ≤ x4 then ((spec_PointOk.f ((rd_T171 x0 x4).f0) ((rd_T171 x0 x4).f1)).bind fun t164 => (if t164 = true then (if x4 = 0 then (spec_BoxOf.l0 k x0 (wrap64 (x4 + 1)) ((rd_T171 x0 x4).f0) ((rd_T171 x0 x4).f1) ((rd_T171 x0 x4).f0) ((rd_T171 x0 x4).f1)) else (spec_BoxOf.l0 k x0 (wrap64 (x4 + 1)) (mn x162000 ((rd_T171 x0 x4).f0)) (mn x162001 ((rd_T171 x0 x4).f1)) (mx x162002 ((rd_T171 x0 x4).f0)) (mx x162003 ((rd_T171 x0 x4).f1)))) else (some (0, 0, 0, 0)))) else (none)) else (some (x162000, x162001, x162002, x162003))
def spec_BoxOf.f (k : Nat) (l0 : List (S171)) : Option (Int × Int × Int × Int) := spec_BoxOf.l0 k l0 0 0 0 0 0
theorem spec_BoxOf.calls (k : Nat) (A0 : Option Addr) (c0 : Nat) (l0 : List (S171)) (r1 : Int) (r2 : Int) (r3 : Int) (r4 : Int) (w : World) (hr0 : Kd.C k171 w A0 l0.length l0) (hc0 : l0.length ≤ c0) (h : spec_BoxOf.f k l0 = some (r1, r2, r3, r4)) :
    Calls Try.prog 143 #[.slice A0 l0.length c0] w fun e w' => e = .returned (.agg #[.int .i64 r1, .int .i64 r2, .int .i64 r3, .int .i64 r4]) ∧ Below w.heap.size w w' := by
  have hu43 := Try.underlying43
  have hu171 := Try.underlying171
  have HR0 := Aside0.mk hr0
  have HC0 := Aside0.mk hc0
  clear hr0 hc0
  have HB := Aside0.mk (Below.refl w.heap.size w)
  have H : (spec_BoxOf.l0 k l0 0 0 0 0 0) = some (r1, r2, r3, r4) := h
  clear h
  have H' := Aside0.mk H
  clear H
  go_enter Try.func143, Try.ntmps143
  go_wp2_with (first | ((with_reducible refine gD 2 ?_); refine bxE #[.int .i64 0, .int .i64 0, .int .i64 0, .int .i64 0] 43 ?_; intro gb160 hg w2 BK160 hb; have GW160 := gE hg; have GE160 := gE hg; replace HB := hB hb; clear hb hg) | ((with_reducible refine gD 3 ?_); refine bxE #[.int .i64 0, .int .i64 0, .int .i64 0, .int .i64 0] 43 ?_; intro gb161 hg w3 BK161 hb; have GW161 := gE hg; have GE161 := gE hg; have NB160_161 := nL (g := gb160) hg; have NB161_160 := nG (g := gb160) hg; replace BK160 := kB (g := gb160) hb; replace HB := hB hb; clear hb hg; have hnb4 := NB161_160.out; have hnc4 := NB160_161.out; have hcz5_0 : w3.cell? ⟨gb161, 0, none⟩ = some (.int .i64 0) := (blk_cell BK161.out 0).trans rfl; have hcz5_1 : w3.cell? ⟨gb161, 1, none⟩ = some (.int .i64 0) := (blk_cell BK161.out 1).trans rfl; have hcz5_2 : w3.cell? ⟨gb161, 2, none⟩ = some (.int .i64 0) := (blk_cell BK161.out 2).trans rfl; have hcz5_3 : w3.cell? ⟨gb161, 3, none⟩ = some (.int .i64 0) := (blk_cell BK161.out 3).trans rfl; have hfz5_0 := blk_frozen BK161.out 0; have hfz5_1 := blk_frozen BK161.out 1; have hfz5_2 := blk_frozen BK161.out 2; have hfz5_3 := blk_frozen BK161.out 3))
  go_loopg [4] k (fun kq v4 w' => ∃ (x4_1 : Int) (x161000_1 : Int) (x161001_1 : Int) (x161002_1 : Int) (x161003_1 : Int) (x162000_1 : Int) (x162001_1 : Int) (x162002_1 : Int) (x162003_1 : Int), v4 = .int .i64 x4_1 ∧ Aside0 (spec_BoxOf.l0 kq l0 x4_1 x162000_1 x162001_1 x162002_1 x162003_1 = some (r1, r2, r3, r4)) ∧ Aside0 (kq ≤ k) ∧ Aside0 (w'.heap[gb160]? = some (.cells #[.int .i64 x161000_1, .int .i64 x161001_1, .int .i64 x161002_1, .int .i64 x161003_1] 43 (0, 0))) ∧ Aside0 (w'.heap[gb161]? = some (.cells #[.int .i64 x162000_1, .int .i64 x162001_1, .int .i64 x162002_1, .int .i64 x162003_1] 43 (0, 0))) ∧ Aside0 (Below w.heap.size w w'))
  case atStart => exact ⟨(0), (0), (0), (0), (0), (0), (0), (0), (0), (by first | rfl | (simp; done) | (simp [*]; done)), H', ⟨Nat.le_refl _⟩, ⟨kS⟩, ⟨kS⟩, ⟨bS⟩⟩
  case round =>
    clear H'
    try clear c1
    try clear p2
    try clear c4
    try clear hcz5_0
    try clear hcz5_1
    try clear hcz5_2
    try clear hcz5_3
    try clear hfz5_0
    try clear hfz5_1
    try clear hfz5_2
    try clear hfz5_3
    obtain ⟨x4_1, x161000_1, x161001_1, x161002_1, x161003_1, x162000_1, x162001_1, x162002_1, x162003_1, rfl, HA, HK1, BK160, BK161, HB⟩ := hrel
    cases gk with
    | zero => exact absurd HA.out (by simp [spec_BoxOf.l0])
    | succ k1 =>
      have H := HA.out
      clear HA
      simp only [spec_BoxOf.l0] at H
      by_cases c6 : x4_1 < (l0.length : Int)
      · rw [if_pos c6] at H
        have c6b0 : decide (x4_1 < (l0.length : Int)) = true := decide_eq_true c6
        clear c6
        by_cases c7 : 0 ≤ x4_1
        · rw [if_pos c7] at H
          have c7b0 : decide (0 ≤ x4_1) = true := decide_eq_true c7
          clear c7
          replace H := bN H
          obtain ⟨t164, A8, H⟩ := H
          by_cases c9 : t164 = true
          · subst c9
            rw [if_pos rfl] at H
            by_cases c10 : x4_1 = 0
            · rw [if_pos c10] at H
              have c10b0 : (x4_1 == 0) = true := beq_iff_eq.mpr c10
              have c10b1 : (x4_1 != 0) = false := bne_eq_false_iff_eq.mpr c10
              clear c10
              have H' := Aside0.mk H
              clear H
              have p162 : 0 ≤ (x4_1 : Int) := of_decide_eq_true (by first | (with_reducible assumption) | assumption)
              have q162 : x4_1 < (l0.length : Int) := of_decide_eq_true (by first | (with_reducible assumption) | assumption)
              obtain ⟨ad162, e162, hx162_0, hx162_1⟩ := at_T171 HR0.out x4_1 p162 q162
              cases e162
              replace hx162_0 := (HB.out.cell (World.block_lt_of_cell? w _ hx162_0)).trans hx162_0
              replace hx162_1 := (HB.out.cell (World.block_lt_of_cell? w _ hx162_1)).trans hx162_1
              replace p162 := eq_true p162
              replace q162 := eq_true q162
              go_wp2_with (first | ((with_reducible refine gD 5 ?_); refine bxE #[.int .i64 0, .int .i64 0] 171 ?_; intro gb163 hg w11 BK163 hb; have GW163 := gE hg; have GE163 := gE hg; have NB160_163 := nL (g := gb160) hg; have NB163_160 := nG (g := gb160) hg; have NB161_163 := nL (g := gb161) hg; have NB163_161 := nG (g := gb161) hg; replace BK160 := kB (g := gb160) hb; replace BK161 := kB (g := gb161) hb; replace HB := hB hb; clear hb hg; have hnb12 := NB163_160.out; have hnc12 := NB160_163.out; have hnb13 := NB163_161.out; have hnc13 := NB161_163.out; have hz14 := cz2 BK163) | ((with_reducible refine gC 186 ?_); refine cL (some 18) Try.func186 #[.agg #[.int .i64 ((rd_T171 l0 x4_1).f0), .int .i64 ((rd_T171 l0 x4_1).f1)]] ?_; (with_reducible refine (spec_PointOk.calls ((rd_T171 l0 x4_1).f0) ((rd_T171 l0 x4_1).f1) true _ A8.out).mono ?_); rintro e w15 ⟨rfl, hb⟩; refine ⟨_, rfl, ?_⟩; replace BK160 := kB (g := gb160) hb; replace BK161 := kB (g := gb161) hb; replace BK163 := Aside0.mk (blk_below (g := gb163) (o := .cells #[.int .i64 ((rd_T171 l0 x4_1).f0), .int .i64 ((rd_T171 l0 x4_1).f1)] 171 (0, 0)) kS hb); replace HB := hB hb; (try clear hb); (try clear hb2); (try clear hk); (try clear hi); have hz16 := cz2 BK163; have hnb17 := NB161_160.out; have hnc17 := NB160_161.out; have hz18 := cz4 BK161))
              go_roundg k1
              case measure => have := HK1.out; omega
              case rel => exact ⟨(wrap64 (x4_1 + 1)), (x161000_1), (x161001_1), (x161002_1), (x161003_1), ((rd_T171 l0 x4_1).f0), ((rd_T171 l0 x4_1).f1), ((rd_T171 l0 x4_1).f0), ((rd_T171 l0 x4_1).f1), (by first | rfl | (simp; done) | (simp [*]; done)), H', ⟨by have := HK1.out; omega⟩, ⟨kS⟩, ⟨kS⟩, ⟨bS⟩⟩
            · rw [if_neg c10] at H
              have c10b0 : (x4_1 == 0) = false := beq_eq_false_iff_ne.mpr c10
              have c10b1 : (x4_1 != 0) = true := bne_iff_ne.mpr c10
              obtain ⟨ji19, hji19⟩ : ∃ j_ : Int, (mn x162000_1 ((rd_T171 l0 x4_1).f0)) = j_ := ⟨_, rfl⟩
              replace H : (spec_BoxOf.l0 k1 l0 (wrap64 (x4_1 + 1)) ji19 (mn x162001_1 ((rd_T171 l0 x4_1).f1)) (mx x162002_1 ((rd_T171 l0 x4_1).f0)) (mx x162003_1 ((rd_T171 l0 x4_1).f1))) = some (r1, r2, r3, r4) := by first | (rw [hji19] at H; exact H) | (simp only [hji19] at H ⊢; exact H)
              (try rw [hji19] at A8)
              have hji19_ : (if ((rd_T171 l0 x4_1).f0) < x162000_1 then ((rd_T171 l0 x4_1).f0) else x162000_1) = ji19 := hji19
              obtain ⟨ji20, hji20⟩ : ∃ j_ : Int, (mn x162001_1 ((rd_T171 l0 x4_1).f1)) = j_ := ⟨_, rfl⟩
              replace H : (spec_BoxOf.l0 k1 l0 (wrap64 (x4_1 + 1)) ji19 ji20 (mx x162002_1 ((rd_T171 l0 x4_1).f0)) (mx x162003_1 ((rd_T171 l0 x4_1).f1))) = some (r1, r2, r3, r4) := by first | (rw [hji20] at H; exact H) | (simp only [hji20] at H ⊢; exact H)
              (try rw [hji20] at A8)
              have hji20_ : (if ((rd_T171 l0 x4_1).f1) < x162001_1 then ((rd_T171 l0 x4_1).f1) else x162001_1) = ji20 := hji20
              obtain ⟨ji21, hji21⟩ : ∃ j_ : Int, (mx x162002_1 ((rd_T171 l0 x4_1).f0)) = j_ := ⟨_, rfl⟩
              replace H : (spec_BoxOf.l0 k1 l0 (wrap64 (x4_1 + 1)) ji19 ji20 ji21 (mx x162003_1 ((rd_T171 l0 x4_1).f1))) = some (r1, r2, r3, r4) := by first | (rw [hji21] at H; exact H) | (simp only [hji21] at H ⊢; exact H)
              (try rw [hji21] at A8)
              have hji21_ : (if x162002_1 < ((rd_T171 l0 x4_1).f0) then ((rd_T171 l0 x4_1).f0) else x162002_1) = ji21 := hji21
              obtain ⟨ji22, hji22⟩ : ∃ j_ : Int, (mx x162003_1 ((rd_T171 l0 x4_1).f1)) = j_ := ⟨_, rfl⟩
              replace H : (spec_BoxOf.l0 k1 l0 (wrap64 (x4_1 + 1)) ji19 ji20 ji21 ji22) = some (r1, r2, r3, r4) := by first | (rw [hji22] at H; exact H) | (simp only [hji22] at H ⊢; exact H)
              (try rw [hji22] at A8)
              have hji22_ : (if x162003_1 < ((rd_T171 l0 x4_1).f1) then ((rd_T171 l0 x4_1).f1) else x162003_1) = ji22 := hji22
              have H' := Aside0.mk H
              clear H
              have p162 : 0 ≤ (x4_1 : Int) := of_decide_eq_true (by first | (with_reducible assumption) | assumption)
              have q162 : x4_1 < (l0.length : Int) := of_decide_eq_true (by first | (with_reducible assumption) | assumption)
              obtain ⟨ad162, e162, hx162_0, hx162_1⟩ := at_T171 HR0.out x4_1 p162 q162
              cases e162
              replace hx162_0 := (HB.out.cell (World.block_lt_of_cell? w _ hx162_0)).trans hx162_0
              replace hx162_1 := (HB.out.cell (World.block_lt_of_cell? w _ hx162_1)).trans hx162_1
              replace p162 := eq_true p162
              replace q162 := eq_true q162
              go_wp2_with (first | ((with_reducible refine gD 5 ?_); refine bxE #[.int .i64 0, .int .i64 0] 171 ?_; intro gb163 hg w23 BK163 hb; have GW163 := gE hg; have GE163 := gE hg; have NB160_163 := nL (g := gb160) hg; have NB163_160 := nG (g := gb160) hg; have NB161_163 := nL (g := gb161) hg; have NB163_161 := nG (g := gb161) hg; replace BK160 := kB (g := gb160) hb; replace BK161 := kB (g := gb161) hb; replace HB := hB hb; clear hb hg; have hnb24 := NB163_160.out; have hnc24 := NB160_163.out; have hnb25 := NB163_161.out; have hnc25 := NB161_163.out; have hz26 := cz2 BK163) | ((with_reducible refine gC 186 ?_); refine cL (some 18) Try.func186 #[.agg #[.int .i64 ((rd_T171 l0 x4_1).f0), .int .i64 ((rd_T171 l0 x4_1).f1)]] ?_; (with_reducible refine (spec_PointOk.calls ((rd_T171 l0 x4_1).f0) ((rd_T171 l0 x4_1).f1) true _ A8.out).mono ?_); rintro e w27 ⟨rfl, hb⟩; refine ⟨_, rfl, ?_⟩; replace BK160 := kB (g := gb160) hb; replace BK161 := kB (g := gb161) hb; replace BK163 := Aside0.mk (blk_below (g := gb163) (o := .cells #[.int .i64 ((rd_T171 l0 x4_1).f0), .int .i64 ((rd_T171 l0 x4_1).f1)] 171 (0, 0)) kS hb); replace HB := hB hb; (try clear hb); (try clear hb2); (try clear hk); (try clear hi); have hnb28 := NB161_160.out; have hnc28 := NB160_161.out; have hz29 := cz4 BK161; have hz30 := cz2 BK163))
              go_roundg k1
              case measure => have := HK1.out; omega
              case rel => exact ⟨(wrap64 (x4_1 + 1)), (x161000_1), (x161001_1), (x161002_1), (x161003_1), (ji19), (ji20), (ji21), (ji22), (by first | rfl | (simp; done) | (simp [*]; done)), H', ⟨by have := HK1.out; omega⟩, ⟨kS⟩, ⟨kS⟩, ⟨bS⟩⟩
          · obtain rfl := Bool.eq_false_iff.mpr c9
            rw [if_neg nF] at H
            simp only [Option.some.injEq, Prod.mk.injEq] at H
            obtain ⟨rfl, rfl, rfl, rfl⟩ := H
            have p162 : 0 ≤ (x4_1 : Int) := of_decide_eq_true (by first | (with_reducible assumption) | assumption)
            have q162 : x4_1 < (l0.length : Int) := of_decide_eq_true (by first | (with_reducible assumption) | assumption)
            obtain ⟨ad162, e162, hx162_0, hx162_1⟩ := at_T171 HR0.out x4_1 p162 q162
            cases e162
            replace hx162_0 := (HB.out.cell (World.block_lt_of_cell? w _ hx162_0)).trans hx162_0
            replace hx162_1 := (HB.out.cell (World.block_lt_of_cell? w _ hx162_1)).trans hx162_1
            replace p162 := eq_true p162
            replace q162 := eq_true q162
            go_wp2_with (first | ((with_reducible refine gD 5 ?_); refine bxE #[.int .i64 0, .int .i64 0] 171 ?_; intro gb163 hg w31 BK163 hb; have GW163 := gE hg; have GE163 := gE hg; have NB160_163 := nL (g := gb160) hg; have NB163_160 := nG (g := gb160) hg; have NB161_163 := nL (g := gb161) hg; have NB163_161 := nG (g := gb161) hg; replace BK160 := kB (g := gb160) hb; replace BK161 := kB (g := gb161) hb; replace HB := hB hb; clear hb hg; have hnb32 := NB163_160.out; have hnc32 := NB160_163.out; have hnb33 := NB163_161.out; have hnc33 := NB161_163.out; have hz34 := cz2 BK163) | ((with_reducible refine gC 186 ?_); refine cL (some 18) Try.func186 #[.agg #[.int .i64 ((rd_T171 l0 x4_1).f0), .int .i64 ((rd_T171 l0 x4_1).f1)]] ?_; (with_reducible refine (spec_PointOk.calls ((rd_T171 l0 x4_1).f0) ((rd_T171 l0 x4_1).f1) false _ A8.out).mono ?_); rintro e w35 ⟨rfl, hb⟩; refine ⟨_, rfl, ?_⟩; replace BK160 := kB (g := gb160) hb; replace BK161 := kB (g := gb161) hb; replace BK163 := Aside0.mk (blk_below (g := gb163) (o := .cells #[.int .i64 ((rd_T171 l0 x4_1).f0), .int .i64 ((rd_T171 l0 x4_1).f1)] 171 (0, 0)) kS hb); replace HB := hB hb; (try clear hb); (try clear hb2); (try clear hk); (try clear hi); have hnb36 := NB160_161.out; have hnc36 := NB161_160.out; have hz37 := cz4 BK160))
            refine bodyPost_ret (results_cell_row rfl _ _ gb160 43 #[.int .i64 0, .int .i64 0, .int .i64 0, .int .i64 0] (0, 0) _ rfl kS Try.underlying43 rfl (by kernel_rfl)) rfl ?_
            exact ⟨eS, bS⟩
        · rw [if_neg c7] at H
          exact absurd H (by simp)
      · rw [if_neg c6] at H
        have c6b0 : decide (x4_1 < (l0.length : Int)) = false := decide_eq_false c6
        clear c6
        simp only [Option.some.injEq, Prod.mk.injEq] at H
        obtain ⟨rfl, rfl, rfl, rfl⟩ := H
        have hnb38 := NB161_160.out
        have hnc38 := NB160_161.out
        have hz39 := cz4 BK161
        have hz40 := cz4 BK160
        go_wp2
        refine bodyPost_ret (results_cell_row rfl _ _ gb160 43 #[.int .i64 x162000_1, .int .i64 x162001_1, .int .i64 x162002_1, .int .i64 x162003_1] (0, 0) _ rfl kS Try.underlying43 rfl (by kernel_rfl)) rfl ?_
        exact ⟨eS, bS⟩

/-! ### spec_l07Full: function 144 -/
def spec_l07Full.f  : Option (Int × Int × Int × Int) := some (0, 0, 32, 32)
theorem spec_l07Full.calls  (r1 : Int) (r2 : Int) (r3 : Int) (r4 : Int) (w : World) (h : spec_l07Full.f  = some (r1, r2, r3, r4)) :
    Calls Try.prog 144 #[] w fun e w' => e = .returned (.agg #[.int .i64 r1, .int .i64 r2, .int .i64 r3, .int .i64 r4]) ∧ Below w.heap.size w w' := by
  have hu43 := Try.underlying43
  have HB := Aside0.mk (Below.refl w.heap.size w)
  have H : (some (0, 0, 32, 32)) = some (r1, r2, r3, r4) := h
  clear h
  simp only [Option.some.injEq, Prod.mk.injEq] at H
  obtain ⟨rfl, rfl, rfl, rfl⟩ := H
  go_enter Try.func144, Try.ntmps144
  go_wp2_with (first | ((with_reducible refine gD 0 ?_); refine bxE #[.int .i64 0, .int .i64 0, .int .i64 0, .int .i64 0] 43 ?_; intro gb165 hg w1 BK165 hb; have GW165 := gE hg; have GE165 := gE hg; replace HB := hB hb; clear hb hg; have hz2 := cz4 BK165))
  refine bodyPost_ret (results_cell_row rfl _ _ gb165 43 #[.int .i64 0, .int .i64 0, .int .i64 32, .int .i64 32] (0, 0) _ rfl kS Try.underlying43 rfl (by kernel_rfl)) rfl ?_
  exact ⟨eS, bS⟩

/-! ### spec_ObjectBox: function 81 -/
def spec_ObjectBox.f (k : Nat) (l0_0 : List (S171)) (a0_1 : Int) (a0_2 : Int) (a0_3 : Int) (a0_4 : Int) (a0_5 : Int) : Option (Int × Int × Int × Int) := (spec_ObjectOk.f k l0_0 a0_1 a0_2 a0_3 a0_4 a0_5).bind fun t168 => (if t168 = true then ((spec_BoxOf.f k l0_0).bind fun bt169 => ((spec_MeetBox.f bt169.1 bt169.2.1 bt169.2.2.1 bt169.2.2.2 a0_2 a0_3 a0_4 a0_5).bind fun bt173 => ((spec_l07Full.f).bind fun bt177 => ((spec_MeetBox.f bt173.1 bt173.2.1 bt173.2.2.1 bt173.2.2.2 bt177.1 bt177.2.1 bt177.2.2.1 bt177.2.2.2).bind fun bt181 => (some (bt181.1, bt181.2.1, bt181.2.2.1, bt181.2.2.2)))))) else (some (0, 0, 0, 0)))
def spec_ObjectBox.T3 : Bool × List (List Nat × List Nat) := (true, [([], []), ([0], [0]), ([1], [1]), ([], []), ([3], [3]), ([2, 4, 2], [2, 4]), ([5], []), ([5, 6, 6], [5, 6]), ([7, 7, 0, 1, 2, 3, 4, 5, 6, 7], [7])])
def spec_ObjectBox.B3 : List Nat := [0, 1, 3, 0, 8, 31, 63, 127, 255]
theorem spec_ObjectBox.tab3 : rtab .any (opsOf Try.f81 3) = spec_ObjectBox.T3 := by kernel_rfl
theorem spec_ObjectBox.bits3 : waitsOk spec_ObjectBox.T3.2 spec_ObjectBox.B3 = true := by kernel_rfl
theorem spec_ObjectBox.calls (k : Nat) (A0_0 : Option Addr) (c0_0 : Nat) (l0_0 : List (S171)) (a0_1 : Int) (a0_2 : Int) (a0_3 : Int) (a0_4 : Int) (a0_5 : Int) (r1 : Int) (r2 : Int) (r3 : Int) (r4 : Int) (w : World) (hr0_0 : Kd.C k171 w A0_0 l0_0.length l0_0) (hc0_0 : l0_0.length ≤ c0_0) (h : spec_ObjectBox.f k l0_0 a0_1 a0_2 a0_3 a0_4 a0_5 = some (r1, r2, r3, r4)) :
    Calls Try.prog 81 #[.agg #[.slice A0_0 l0_0.length c0_0, .int .i64 a0_1, .int .i64 a0_2, .int .i64 a0_3, .int .i64 a0_4, .int .i64 a0_5]] w fun e w' => e = .returned (.agg #[.int .i64 r1, .int .i64 r2, .int .i64 r3, .int .i64 r4]) ∧ Below w.heap.size w w' := by
  have hu45 := Try.underlying45
  have hu43 := Try.underlying43
  have HR0_0 := Aside0.mk hr0_0
  have HC0_0 := Aside0.mk hc0_0
  clear hr0_0 hc0_0
  have HB := Aside0.mk (Below.refl w.heap.size w)
  have H : ((spec_ObjectOk.f k l0_0 a0_1 a0_2 a0_3 a0_4 a0_5).bind fun t168 => (if t168 = true then ((spec_BoxOf.f k l0_0).bind fun bt169 => ((spec_MeetBox.f bt169.1 bt169.2.1 bt169.2.2.1 bt169.2.2.2 a0_2 a0_3 a0_4 a0_5).bind fun bt173 => ((spec_l07Full.f).bind fun bt177 => ((spec_MeetBox.f bt173.1 bt173.2.1 bt173.2.2.1 bt173.2.2.2 bt177.1 bt177.2.1 bt177.2.2.1 bt177.2.2.2).bind fun bt181 => (some (bt181.1, bt181.2.1, bt181.2.2.1, bt181.2.2.2)))))) else (some (0, 0, 0, 0)))) = some (r1, r2, r3, r4) := h
  clear h
  replace H := bN H
  obtain ⟨t168, A2, H⟩ := H
  by_cases c3 : t168 = true
  · subst c3
    rw [if_pos rfl] at H
    replace H := bN H
    obtain ⟨⟨t169, t170, t171, t172⟩, A4, H⟩ := H
    replace H := bN H
    obtain ⟨⟨t173, t174, t175, t176⟩, A5, H⟩ := H
    replace H := bN H
    obtain ⟨⟨t177, t178, t179, t180⟩, A6, H⟩ := H
    replace H := bN H
    obtain ⟨⟨t181, t182, t183, t184⟩, A7, H⟩ := H
    simp only [Option.some.injEq, Prod.mk.injEq] at H
    obtain ⟨rfl, rfl, rfl, rfl⟩ := H
    go_enter Try.func81, Try.ntmps81
    try go_wp2_with (first | ((with_reducible refine gD 1 ?_); refine bxE #[.slice A0_0 l0_0.length c0_0, .int .i64 a0_1, .int .i64 a0_2, .int .i64 a0_3, .int .i64 a0_4, .int .i64 a0_5] 45 ?_; intro gb166 hg w8 BK166 hb; have GW166 := gE hg; have GE166 := gE hg; replace HB := hB hb; clear hb hg) | ((with_reducible refine gD 2 ?_); refine bxE #[.int .i64 0, .int .i64 0, .int .i64 0, .int .i64 0] 43 ?_; intro gb167 hg w9 BK167 hb; have GW167 := gE hg; have GE167 := gE hg; have NB166_167 := nL (g := gb166) hg; have NB167_166 := nG (g := gb166) hg; replace BK166 := kB (g := gb166) hb; replace HB := hB hb; clear hb hg; have hnb10 := NB166_167.out; have hnc10 := NB167_166.out; have hz11 := cz6 BK166) | ((with_reducible refine gC 95 ?_); refine cL (some 4) Try.func95 #[.agg #[.slice A0_0 l0_0.length c0_0, .int .i64 a0_1, .int .i64 a0_2, .int .i64 a0_3, .int .i64 a0_4, .int .i64 a0_5]] ?_; (with_reducible refine (spec_ObjectOk.calls k _ _ l0_0 a0_1 a0_2 a0_3 a0_4 a0_5 true _ ?side1 ?side2 A2.out).mono ?_); (case side1 => exact cS (Kd.C_below HR0_0.out HB.out)); (case side2 => exact HC0_0.out); rintro e w12 ⟨rfl, hb⟩; refine ⟨_, rfl, ?_⟩; replace BK166 := kB (g := gb166) hb; replace BK167 := kB (g := gb167) hb; replace HB := hB hb; (try clear hb); (try clear hb2); (try clear hk); (try clear hi)))
    replace BK166 := Aside0.mk (blk_drew BK166.out)
    replace BK167 := Aside0.mk (blk_drew BK167.out)
    replace HB := Aside0.mk (below_drew1 HB.out)
    refine start_ (n := 9) (S := fun w' => w'.cell? ⟨gb166, 0, none⟩ = some (.slice A0_0 l0_0.length c0_0) ∧ w'.cell? ⟨gb166, 1, none⟩ = some (.int .i64 a0_1) ∧ w'.cell? ⟨gb166, 2, none⟩ = some (.int .i64 a0_2) ∧ w'.cell? ⟨gb166, 3, none⟩ = some (.int .i64 a0_3) ∧ w'.cell? ⟨gb166, 4, none⟩ = some (.int .i64 a0_4) ∧ w'.cell? ⟨gb166, 5, none⟩ = some (.int .i64 a0_5)) (ds := []) #[false, false, false, false, false, false, false, false, false] (by kernel_rfl) rfl rfl ⟨(blk_cell BK166.out 0).trans rfl, (blk_cell BK166.out 1).trans rfl, (blk_cell BK166.out 2).trans rfl, (blk_cell BK166.out 3).trans rfl, (blk_cell BK166.out 4).trans rfl, (blk_cell BK166.out 5).trans rfl⟩ (fun hHeld => ?_); refine with_tabW spec_ObjectBox.tab3 spec_ObjectBox.bits3 (fun HT_ HW_ => ?_)
    generalize w12.drew = w13 at BK166 BK167 HB hHeld ⊢
    refine pure_ (i := 0) (N := some 7) (v := ?_) (a' := ?_) #[true, false, false, false, false, false, false, false, false] rfl rfl (any_of HT_.out (by kernel_rfl)) (fun _ _ _ h => h) (Or.inl ⟨by rfl, ?_⟩) ?_ ?_
    rotate_left
    · intro w'
      go_simp
      with_reducible rfl
    rotate_left
    · simp only [Act.put, List.setIfInBounds_toArray, List.set_cons_zero, List.set_cons_succ, i64_w, i32_w]
      rfl
    refine pure_ (i := 3) (N := some 10) (v := ?_) (a' := ?_) #[true, false, false, true, false, false, false, false, false] rfl rfl (any_of HT_.out (by kernel_rfl)) (fun _ _ _ h => h) (Or.inl ⟨by rfl, ?_⟩) ?_ ?_
    rotate_left
    · intro w'
      go_simp
      with_reducible rfl
    rotate_left
    · simp only [Act.put, List.setIfInBounds_toArray, List.set_cons_zero, List.set_cons_succ, i64_w, i32_w]
      rfl
    refine take_ (i := 1) (N := some 8) (v := ?_) (a' := ?_) #[true, true, false, true, false, false, false, false, false] rfl rfl (take_ofW HT_.out HW_.out (by kernel_rfl)) (fun _ _ _ h => h) (Or.inl ⟨by rfl, ?_⟩) hHeld ?_ ?_
    rotate_left
    · rintro w' ⟨s0, s1, s2, s3, s4, s5⟩
      go_simp
      with_reducible rfl
    rotate_left
    · simp only [Act.put, List.setIfInBounds_toArray, List.set_cons_zero, List.set_cons_succ, i64_w, i32_w]
      rfl
    refine take_ (i := 4) (N := some 11) (v := ?_) (a' := ?_) #[true, true, false, true, true, false, false, false, false] rfl rfl (take_ofW HT_.out HW_.out (by kernel_rfl)) (fun _ _ _ h => h) (Or.inl ⟨by rfl, ?_⟩) hHeld ?_ ?_
    rotate_left
    · rintro w' ⟨s0, s1, s2, s3, s4, s5⟩
      go_simp
      with_reducible rfl
    rotate_left
    · simp only [Act.put, List.setIfInBounds_toArray, List.set_cons_zero, List.set_cons_succ, i64_w, i32_w]
      rfl
    refine one_ (i := 2) (N := some 9) #[true, true, true, true, true, false, false, false, false] rfl rfl (one_of HT_.out (by kernel_rfl)) (by decide) (fun K hK => ?_)
    refine goes_ Try.func143 (by kernel_rfl) rfl #[.slice A0_0 l0_0.length c0_0] (by rfl) rfl rfl (by (try simp only [List.map_toArray, List.map_cons, List.map_nil]); first | done | rfl | (simp only [List.length_drop, List.length_take]; rfl)) ?_
    with_reducible refine (spec_BoxOf.calls k _ _ l0_0 t169 t170 t171 t172 _ ?side1 ?side2 A4.out).mono ?_
    (case side1 => exact cS (Kd.C_below HR0_0.out HB.out))
    (case side2 => exact HC0_0.out)
    rintro e w14 ⟨rfl, hb⟩
    refine ⟨_, rfl, ?_⟩
    replace BK166 := kB (g := gb166) hb
    replace BK167 := kB (g := gb167) hb
    replace HB := hB hb
    (try clear hb)
    (try clear hb2)
    (try clear hk)
    (try clear hi)
    refine hK.out _ _ ⟨(blk_cell BK166.out 0).trans rfl, (blk_cell BK166.out 1).trans rfl, (blk_cell BK166.out 2).trans rfl, (blk_cell BK166.out 3).trans rfl, (blk_cell BK166.out 4).trans rfl, (blk_cell BK166.out 5).trans rfl⟩ (fun hHeld => ?_)
    clear hK K
    refine norm_ (a' := ?_) ?_ ?_
    rotate_left
    · show Act.put _ (some 9) _ = _
      simp only [Act.put, List.setIfInBounds_toArray, List.set_cons_zero, List.set_cons_succ, i64_w, i32_w]
      rfl
    refine one_ (i := 5) (N := some 12) #[true, true, true, true, true, true, false, false, false] rfl rfl (one_of HT_.out (by kernel_rfl)) (by decide) (fun K hK => ?_)
    refine goes_ Try.func142 (by kernel_rfl) rfl #[.agg #[.int .i64 t169, .int .i64 t170, .int .i64 t171, .int .i64 t172], .agg #[.int .i64 a0_2, .int .i64 a0_3, .int .i64 a0_4, .int .i64 a0_5]] (by rfl) rfl rfl (by (try simp only [List.map_toArray, List.map_cons, List.map_nil]); first | done | rfl | (simp only [List.length_drop, List.length_take]; rfl)) ?_
    with_reducible refine (spec_MeetBox.calls t169 t170 t171 t172 a0_2 a0_3 a0_4 a0_5 t173 t174 t175 t176 _ A5.out).mono ?_
    rintro e w15 ⟨rfl, hb⟩
    refine ⟨_, rfl, ?_⟩
    replace BK166 := kB (g := gb166) hb
    replace BK167 := kB (g := gb167) hb
    replace HB := hB hb
    (try clear hb)
    (try clear hb2)
    (try clear hk)
    (try clear hi)
    refine hK.out _ _ ⟨(blk_cell BK166.out 0).trans rfl, (blk_cell BK166.out 1).trans rfl, (blk_cell BK166.out 2).trans rfl, (blk_cell BK166.out 3).trans rfl, (blk_cell BK166.out 4).trans rfl, (blk_cell BK166.out 5).trans rfl⟩ (fun hHeld => ?_)
    clear hK K
    refine norm_ (a' := ?_) ?_ ?_
    rotate_left
    · show Act.put _ (some 12) _ = _
      simp only [Act.put, List.setIfInBounds_toArray, List.set_cons_zero, List.set_cons_succ, i64_w, i32_w]
      rfl
    refine one_ (i := 6) (N := some 13) #[true, true, true, true, true, true, true, false, false] rfl rfl (one_of HT_.out (by kernel_rfl)) (by decide) (fun K hK => ?_)
    refine goes_ Try.func144 (by kernel_rfl) rfl #[] (by rfl) rfl rfl (by (try simp only [List.map_toArray, List.map_cons, List.map_nil]); first | done | rfl | (simp only [List.length_drop, List.length_take]; rfl)) ?_
    with_reducible refine (spec_l07Full.calls  t177 t178 t179 t180 _ A6.out).mono ?_
    rintro e w16 ⟨rfl, hb⟩
    refine ⟨_, rfl, ?_⟩
    replace BK166 := kB (g := gb166) hb
    replace BK167 := kB (g := gb167) hb
    replace HB := hB hb
    (try clear hb)
    (try clear hb2)
    (try clear hk)
    (try clear hi)
    refine hK.out _ _ ⟨(blk_cell BK166.out 0).trans rfl, (blk_cell BK166.out 1).trans rfl, (blk_cell BK166.out 2).trans rfl, (blk_cell BK166.out 3).trans rfl, (blk_cell BK166.out 4).trans rfl, (blk_cell BK166.out 5).trans rfl⟩ (fun hHeld => ?_)
    clear hK K
    refine norm_ (a' := ?_) ?_ ?_
    rotate_left
    · show Act.put _ (some 13) _ = _
      simp only [Act.put, List.setIfInBounds_toArray, List.set_cons_zero, List.set_cons_succ, i64_w, i32_w]
      rfl
    refine one_ (i := 7) (N := some 14) #[true, true, true, true, true, true, true, true, false] rfl rfl (one_of HT_.out (by kernel_rfl)) (by decide) (fun K hK => ?_)
    refine goes_ Try.func142 (by kernel_rfl) rfl #[.agg #[.int .i64 t173, .int .i64 t174, .int .i64 t175, .int .i64 t176], .agg #[.int .i64 t177, .int .i64 t178, .int .i64 t179, .int .i64 t180]] (by rfl) rfl rfl (by (try simp only [List.map_toArray, List.map_cons, List.map_nil]); first | done | rfl | (simp only [List.length_drop, List.length_take]; rfl)) ?_
    with_reducible refine (spec_MeetBox.calls t173 t174 t175 t176 t177 t178 t179 t180 t181 t182 t183 t184 _ A7.out).mono ?_
    rintro e w17 ⟨rfl, hb⟩
    refine ⟨_, rfl, ?_⟩
    replace BK166 := kB (g := gb166) hb
    replace BK167 := kB (g := gb167) hb
    replace HB := hB hb
    (try clear hb)
    (try clear hb2)
    (try clear hk)
    (try clear hi)
    refine hK.out _ _ ⟨(blk_cell BK166.out 0).trans rfl, (blk_cell BK166.out 1).trans rfl, (blk_cell BK166.out 2).trans rfl, (blk_cell BK166.out 3).trans rfl, (blk_cell BK166.out 4).trans rfl, (blk_cell BK166.out 5).trans rfl⟩ (fun hHeld => ?_)
    clear hK K
    refine norm_ (a' := ?_) ?_ ?_
    rotate_left
    · show Act.put _ (some 14) _ = _
      simp only [Act.put, List.setIfInBounds_toArray, List.set_cons_zero, List.set_cons_succ, i64_w, i32_w]
      rfl
    refine one_ (i := 8) (N := none) #[true, true, true, true, true, true, true, true, true] rfl rfl (one_of HT_.out (by kernel_rfl)) (by decide) (fun K hK => ?_)
    have hs18 : w17.cell? ⟨gb167, 0, none⟩ = some (.int .i64 0) := (blk_cell BK167.out 0).trans rfl
    have hfs18 := blk_frozen BK167.out 0
    have hns18_0 := NB166_167.out
    have hms18_0 := NB167_166.out
    have hs19 : w17.cell? ⟨gb167, 1, none⟩ = some (.int .i64 0) := (blk_cell BK167.out 1).trans rfl
    have hfs19 := blk_frozen BK167.out 1
    have hns19_0 := NB166_167.out
    have hms19_0 := NB167_166.out
    have hs20 : w17.cell? ⟨gb167, 2, none⟩ = some (.int .i64 0) := (blk_cell BK167.out 2).trans rfl
    have hfs20 := blk_frozen BK167.out 2
    have hns20_0 := NB166_167.out
    have hms20_0 := NB167_166.out
    have hs21 : w17.cell? ⟨gb167, 3, none⟩ = some (.int .i64 0) := (blk_cell BK167.out 3).trans rfl
    have hfs21 := blk_frozen BK167.out 3
    have hns21_0 := NB166_167.out
    have hms21_0 := NB167_166.out
    refine skip_ (w1 := ?_) (by rfl) rfl ?_ ?_
    rotate_left
    · go_simp
      rfl
    refine hK.out _ _ ⟨((cell_far (p := ⟨gb167, _, none⟩) NB166_167.out _).trans (((cell_far (p := ⟨gb167, _, none⟩) NB166_167.out _).trans (((cell_far (p := ⟨gb167, _, none⟩) NB166_167.out _).trans (((cell_far (p := ⟨gb167, _, none⟩) NB166_167.out _).trans (hHeld.1)))))))), ((cell_far (p := ⟨gb167, _, none⟩) NB166_167.out _).trans (((cell_far (p := ⟨gb167, _, none⟩) NB166_167.out _).trans (((cell_far (p := ⟨gb167, _, none⟩) NB166_167.out _).trans (((cell_far (p := ⟨gb167, _, none⟩) NB166_167.out _).trans (hHeld.2.1)))))))), ((cell_far (p := ⟨gb167, _, none⟩) NB166_167.out _).trans (((cell_far (p := ⟨gb167, _, none⟩) NB166_167.out _).trans (((cell_far (p := ⟨gb167, _, none⟩) NB166_167.out _).trans (((cell_far (p := ⟨gb167, _, none⟩) NB166_167.out _).trans (hHeld.2.2.1)))))))), ((cell_far (p := ⟨gb167, _, none⟩) NB166_167.out _).trans (((cell_far (p := ⟨gb167, _, none⟩) NB166_167.out _).trans (((cell_far (p := ⟨gb167, _, none⟩) NB166_167.out _).trans (((cell_far (p := ⟨gb167, _, none⟩) NB166_167.out _).trans (hHeld.2.2.2.1)))))))), ((cell_far (p := ⟨gb167, _, none⟩) NB166_167.out _).trans (((cell_far (p := ⟨gb167, _, none⟩) NB166_167.out _).trans (((cell_far (p := ⟨gb167, _, none⟩) NB166_167.out _).trans (((cell_far (p := ⟨gb167, _, none⟩) NB166_167.out _).trans (hHeld.2.2.2.2.1)))))))), ((cell_far (p := ⟨gb167, _, none⟩) NB166_167.out _).trans (((cell_far (p := ⟨gb167, _, none⟩) NB166_167.out _).trans (((cell_far (p := ⟨gb167, _, none⟩) NB166_167.out _).trans (((cell_far (p := ⟨gb167, _, none⟩) NB166_167.out _).trans (hHeld.2.2.2.2.2))))))))⟩ (fun hHeld => ?_)
    clear hK K
    refine done_ (done_of HT_.out (by kernel_rfl)) ?_
    try go_wp2
    refine bodyPost_ret (results_cell_row rfl _ _ gb167 43 #[.int .i64 t181, .int .i64 t182, .int .i64 t183, .int .i64 t184] (0, 0) _ rfl kS Try.underlying43 rfl (by kernel_rfl)) rfl ?_
    exact ⟨eS, bS⟩
  · obtain rfl := Bool.eq_false_iff.mpr c3
    rw [if_neg nF] at H
    simp only [Option.some.injEq, Prod.mk.injEq] at H
    obtain ⟨rfl, rfl, rfl, rfl⟩ := H
    go_enter Try.func81, Try.ntmps81
    go_wp2_with (first | ((with_reducible refine gD 1 ?_); refine bxE #[.slice A0_0 l0_0.length c0_0, .int .i64 a0_1, .int .i64 a0_2, .int .i64 a0_3, .int .i64 a0_4, .int .i64 a0_5] 45 ?_; intro gb166 hg w22 BK166 hb; have GW166 := gE hg; have GE166 := gE hg; replace HB := hB hb; clear hb hg) | ((with_reducible refine gD 2 ?_); refine bxE #[.int .i64 0, .int .i64 0, .int .i64 0, .int .i64 0] 43 ?_; intro gb167 hg w23 BK167 hb; have GW167 := gE hg; have GE167 := gE hg; have NB166_167 := nL (g := gb166) hg; have NB167_166 := nG (g := gb166) hg; replace BK166 := kB (g := gb166) hb; replace HB := hB hb; clear hb hg; have hnb24 := NB166_167.out; have hnc24 := NB167_166.out; have hz25 := cz6 BK166) | ((with_reducible refine gC 95 ?_); refine cL (some 4) Try.func95 #[.agg #[.slice A0_0 l0_0.length c0_0, .int .i64 a0_1, .int .i64 a0_2, .int .i64 a0_3, .int .i64 a0_4, .int .i64 a0_5]] ?_; (with_reducible refine (spec_ObjectOk.calls k _ _ l0_0 a0_1 a0_2 a0_3 a0_4 a0_5 false _ ?side1 ?side2 A2.out).mono ?_); (case side1 => exact cS (Kd.C_below HR0_0.out HB.out)); (case side2 => exact HC0_0.out); rintro e w26 ⟨rfl, hb⟩; refine ⟨_, rfl, ?_⟩; replace BK166 := kB (g := gb166) hb; replace BK167 := kB (g := gb167) hb; replace HB := hB hb; (try clear hb); (try clear hb2); (try clear hk); (try clear hi); have hz27 := cz4 BK167))
    refine bodyPost_ret (results_cell_row rfl _ _ gb167 43 #[.int .i64 0, .int .i64 0, .int .i64 0, .int .i64 0] (0, 0) _ rfl kS Try.underlying43 rfl (by kernel_rfl)) rfl ?_
    exact ⟨eS, bS⟩

end Go.Proofs.Ytigodjcnkgebaaa.QFnExactPaintTime
