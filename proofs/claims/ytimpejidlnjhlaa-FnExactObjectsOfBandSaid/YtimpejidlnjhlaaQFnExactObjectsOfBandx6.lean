-- Made out of the translation by a program of this session (a changed copy of the print). Not trusted: Lean checks it.
import Derived.Test.YtimpejidlnjhlaaQFnExactObjectsOfBandx0
import Derived.Test.YtimpejidlnjhlaaQFnExactObjectsOfBandx5
namespace Go.Proofs.Ytimpejidlnjhlaa.QFnExactObjectsOfBand
open Go.RowKit Go.Proofs.YtimpejidlnjhlaaW.PrintWords Go.Proofs.YtimpejidlnjhlaaW.PrintLast Go.Proofs.YtimpejidlnjhlaaW.PrintMore
attribute [local go_sem] max2_int min2_int max_two min_two max_three min_three max_four min_four   -- for this text's walks alone
set_option linter.unusedVariables false
set_option linter.unusedSimpArgs false
set_option maxHeartbeats 8000000
set_option maxRecDepth 100000

/-! ### spec_BoxOk: function 170 -/
def spec_BoxOk.f (a0_0 : Int) (a0_1 : Int) (a0_2 : Int) (a0_3 : Int) : Option (Bool) := (spec_l02In.f a0_0).bind fun t252 => (if t252 = true then ((spec_l02In.f a0_1).bind fun t253 => (if t253 = true then ((spec_l02In.f a0_2).bind fun t254 => (if t254 = true then ((spec_l02In.f a0_3).bind fun t255 => (if t255 = true then (if a0_0 ≤ a0_2 then (some (decide (a0_1 ≤ a0_3))) else (some false)) else (some false))) else (some false))) else (some false))) else (some false))
theorem spec_BoxOk.calls (a0_0 : Int) (a0_1 : Int) (a0_2 : Int) (a0_3 : Int) (r : Bool) (w : World) (h : spec_BoxOk.f a0_0 a0_1 a0_2 a0_3 = some r) :
    Calls Try.prog 170 #[.agg #[.int .i64 a0_0, .int .i64 a0_1, .int .i64 a0_2, .int .i64 a0_3]] w fun e w' => e = .returned (.bool r) ∧ Below w.heap.size w w' := by
  have hu39 := Try.underlying39
  have HB := Aside0.mk (Below.refl w.heap.size w)
  have H : ((spec_l02In.f a0_0).bind fun t252 => (if t252 = true then ((spec_l02In.f a0_1).bind fun t253 => (if t253 = true then ((spec_l02In.f a0_2).bind fun t254 => (if t254 = true then ((spec_l02In.f a0_3).bind fun t255 => (if t255 = true then (if a0_0 ≤ a0_2 then (some (decide (a0_1 ≤ a0_3))) else (some false)) else (some false))) else (some false))) else (some false))) else (some false))) = some r := h
  clear h
  replace H := bN H
  obtain ⟨t252, A2, H⟩ := H
  by_cases c3 : t252 = true
  · subst c3
    rw [if_pos rfl] at H
    replace H := bN H
    obtain ⟨t253, A4, H⟩ := H
    by_cases c5 : t253 = true
    · subst c5
      rw [if_pos rfl] at H
      replace H := bN H
      obtain ⟨t254, A6, H⟩ := H
      by_cases c7 : t254 = true
      · subst c7
        rw [if_pos rfl] at H
        replace H := bN H
        obtain ⟨t255, A8, H⟩ := H
        by_cases c9 : t255 = true
        · subst c9
          rw [if_pos rfl] at H
          by_cases c10 : a0_0 ≤ a0_2
          · rw [if_pos c10] at H
            have c10b0 : decide (a0_0 ≤ a0_2) = true := decide_eq_true c10
            clear c10
            obtain rfl := Option.some.inj H
            go_enter Try.func170, Try.ntmps170
            go_wp2_with (first | ((with_reducible refine gD 1 ?_); refine bxE #[.int .i64 a0_0, .int .i64 a0_1, .int .i64 a0_2, .int .i64 a0_3] 39 ?_; intro gb251 hg w11 BK251 hb; have GW251 := gE hg; have GE251 := gE hg; replace HB := hB hb; clear hb hg; have hz12 := cz4 BK251) | ((with_reducible refine gC 184 ?_); refine cL (some 5) Try.func184 #[.int .i64 a0_0] ?_; (with_reducible refine (spec_l02In.calls a0_0 _ _ A2.out).mono ?_); rintro e w' ⟨rfl, ⟨nd, rfl⟩⟩; refine ⟨_, rfl, ?_⟩) | (go_at_call 184; (with_reducible refine (spec_l02In.calls a0_1 _ _ A4.out).mono ?_); rintro e w' ⟨rfl, ⟨nd, rfl⟩⟩) | (go_at_call 184; (with_reducible refine (spec_l02In.calls a0_2 _ _ A6.out).mono ?_); rintro e w' ⟨rfl, ⟨nd, rfl⟩⟩) | (go_at_call 184; (with_reducible refine (spec_l02In.calls a0_3 _ _ A8.out).mono ?_); rintro e w' ⟨rfl, ⟨nd, rfl⟩⟩))
            go_ret
            exact ⟨eS, bS⟩
          · rw [if_neg c10] at H
            have c10b0 : decide (a0_0 ≤ a0_2) = false := decide_eq_false c10
            clear c10
            obtain rfl := Option.some.inj H
            go_enter Try.func170, Try.ntmps170
            go_wp2_with (first | ((with_reducible refine gD 1 ?_); refine bxE #[.int .i64 a0_0, .int .i64 a0_1, .int .i64 a0_2, .int .i64 a0_3] 39 ?_; intro gb251 hg w13 BK251 hb; have GW251 := gE hg; have GE251 := gE hg; replace HB := hB hb; clear hb hg; have hz14 := cz4 BK251) | ((with_reducible refine gC 184 ?_); refine cL (some 5) Try.func184 #[.int .i64 a0_0] ?_; (with_reducible refine (spec_l02In.calls a0_0 _ _ A2.out).mono ?_); rintro e w' ⟨rfl, ⟨nd, rfl⟩⟩; refine ⟨_, rfl, ?_⟩) | (go_at_call 184; (with_reducible refine (spec_l02In.calls a0_1 _ _ A4.out).mono ?_); rintro e w' ⟨rfl, ⟨nd, rfl⟩⟩) | (go_at_call 184; (with_reducible refine (spec_l02In.calls a0_2 _ _ A6.out).mono ?_); rintro e w' ⟨rfl, ⟨nd, rfl⟩⟩) | (go_at_call 184; (with_reducible refine (spec_l02In.calls a0_3 _ _ A8.out).mono ?_); rintro e w' ⟨rfl, ⟨nd, rfl⟩⟩))
            go_ret
            exact ⟨eS, bS⟩
        · obtain rfl := Bool.eq_false_iff.mpr c9
          rw [if_neg nF] at H
          obtain rfl := Option.some.inj H
          go_enter Try.func170, Try.ntmps170
          go_wp2_with (first | ((with_reducible refine gD 1 ?_); refine bxE #[.int .i64 a0_0, .int .i64 a0_1, .int .i64 a0_2, .int .i64 a0_3] 39 ?_; intro gb251 hg w15 BK251 hb; have GW251 := gE hg; have GE251 := gE hg; replace HB := hB hb; clear hb hg; have hz16 := cz4 BK251) | ((with_reducible refine gC 184 ?_); refine cL (some 5) Try.func184 #[.int .i64 a0_0] ?_; (with_reducible refine (spec_l02In.calls a0_0 _ _ A2.out).mono ?_); rintro e w' ⟨rfl, ⟨nd, rfl⟩⟩; refine ⟨_, rfl, ?_⟩) | (go_at_call 184; (with_reducible refine (spec_l02In.calls a0_1 _ _ A4.out).mono ?_); rintro e w' ⟨rfl, ⟨nd, rfl⟩⟩) | (go_at_call 184; (with_reducible refine (spec_l02In.calls a0_2 _ _ A6.out).mono ?_); rintro e w' ⟨rfl, ⟨nd, rfl⟩⟩) | (go_at_call 184; (with_reducible refine (spec_l02In.calls a0_3 _ _ A8.out).mono ?_); rintro e w' ⟨rfl, ⟨nd, rfl⟩⟩))
          go_ret
          exact ⟨eS, bS⟩
      · obtain rfl := Bool.eq_false_iff.mpr c7
        rw [if_neg nF] at H
        obtain rfl := Option.some.inj H
        go_enter Try.func170, Try.ntmps170
        go_wp2_with (first | ((with_reducible refine gD 1 ?_); refine bxE #[.int .i64 a0_0, .int .i64 a0_1, .int .i64 a0_2, .int .i64 a0_3] 39 ?_; intro gb251 hg w17 BK251 hb; have GW251 := gE hg; have GE251 := gE hg; replace HB := hB hb; clear hb hg; have hz18 := cz4 BK251) | ((with_reducible refine gC 184 ?_); refine cL (some 5) Try.func184 #[.int .i64 a0_0] ?_; (with_reducible refine (spec_l02In.calls a0_0 _ _ A2.out).mono ?_); rintro e w' ⟨rfl, ⟨nd, rfl⟩⟩; refine ⟨_, rfl, ?_⟩) | (go_at_call 184; (with_reducible refine (spec_l02In.calls a0_1 _ _ A4.out).mono ?_); rintro e w' ⟨rfl, ⟨nd, rfl⟩⟩) | (go_at_call 184; (with_reducible refine (spec_l02In.calls a0_2 _ _ A6.out).mono ?_); rintro e w' ⟨rfl, ⟨nd, rfl⟩⟩))
        go_ret
        exact ⟨eS, bS⟩
    · obtain rfl := Bool.eq_false_iff.mpr c5
      rw [if_neg nF] at H
      obtain rfl := Option.some.inj H
      go_enter Try.func170, Try.ntmps170
      go_wp2_with (first | ((with_reducible refine gD 1 ?_); refine bxE #[.int .i64 a0_0, .int .i64 a0_1, .int .i64 a0_2, .int .i64 a0_3] 39 ?_; intro gb251 hg w19 BK251 hb; have GW251 := gE hg; have GE251 := gE hg; replace HB := hB hb; clear hb hg; have hz20 := cz4 BK251) | ((with_reducible refine gC 184 ?_); refine cL (some 5) Try.func184 #[.int .i64 a0_0] ?_; (with_reducible refine (spec_l02In.calls a0_0 _ _ A2.out).mono ?_); rintro e w' ⟨rfl, ⟨nd, rfl⟩⟩; refine ⟨_, rfl, ?_⟩) | (go_at_call 184; (with_reducible refine (spec_l02In.calls a0_1 _ _ A4.out).mono ?_); rintro e w' ⟨rfl, ⟨nd, rfl⟩⟩))
      go_ret
      exact ⟨eS, bS⟩
  · obtain rfl := Bool.eq_false_iff.mpr c3
    rw [if_neg nF] at H
    obtain rfl := Option.some.inj H
    go_enter Try.func170, Try.ntmps170
    go_wp2_with (first | ((with_reducible refine gD 1 ?_); refine bxE #[.int .i64 a0_0, .int .i64 a0_1, .int .i64 a0_2, .int .i64 a0_3] 39 ?_; intro gb251 hg w21 BK251 hb; have GW251 := gE hg; have GE251 := gE hg; replace HB := hB hb; clear hb hg; have hz22 := cz4 BK251) | ((with_reducible refine gC 184 ?_); refine cL (some 5) Try.func184 #[.int .i64 a0_0] ?_; (with_reducible refine (spec_l02In.calls a0_0 _ _ A2.out).mono ?_); rintro e w' ⟨rfl, ⟨nd, rfl⟩⟩; refine ⟨_, rfl, ?_⟩))
    go_ret
    exact ⟨eS, bS⟩

/-! ### spec_PointOk: function 186 -/
def spec_PointOk.f (a0_0 : Int) (a0_1 : Int) : Option (Bool) := (spec_l02In.f a0_0).bind fun t257 => (if t257 = true then ((spec_l02In.f a0_1).bind fun t258 => (some t258)) else (some false))
theorem spec_PointOk.calls (a0_0 : Int) (a0_1 : Int) (r : Bool) (w : World) (h : spec_PointOk.f a0_0 a0_1 = some r) :
    Calls Try.prog 186 #[.agg #[.int .i64 a0_0, .int .i64 a0_1]] w fun e w' => e = .returned (.bool r) ∧ Below w.heap.size w w' := by
  have hu166 := Try.underlying166
  have HB := Aside0.mk (Below.refl w.heap.size w)
  have H : ((spec_l02In.f a0_0).bind fun t257 => (if t257 = true then ((spec_l02In.f a0_1).bind fun t258 => (some t258)) else (some false))) = some r := h
  clear h
  replace H := bN H
  obtain ⟨t257, A2, H⟩ := H
  by_cases c3 : t257 = true
  · subst c3
    rw [if_pos rfl] at H
    replace H := bN H
    obtain ⟨t258, A4, H⟩ := H
    obtain rfl := Option.some.inj H
    go_enter Try.func186, Try.ntmps186
    go_wp2_with (first | ((with_reducible refine gD 1 ?_); refine bxE #[.int .i64 a0_0, .int .i64 a0_1] 166 ?_; intro gb256 hg w5 BK256 hb; have GW256 := gE hg; have GE256 := gE hg; replace HB := hB hb; clear hb hg; have hz6 := cz2 BK256) | ((with_reducible refine gC 184 ?_); refine cL (some 5) Try.func184 #[.int .i64 a0_0] ?_; (with_reducible refine (spec_l02In.calls a0_0 _ _ A2.out).mono ?_); rintro e w' ⟨rfl, ⟨nd, rfl⟩⟩; refine ⟨_, rfl, ?_⟩) | (go_at_call 184; (with_reducible refine (spec_l02In.calls a0_1 t258 _ A4.out).mono ?_); rintro e w' ⟨rfl, ⟨nd, rfl⟩⟩))
    go_ret
    exact ⟨eS, bS⟩
  · obtain rfl := Bool.eq_false_iff.mpr c3
    rw [if_neg nF] at H
    obtain rfl := Option.some.inj H
    go_enter Try.func186, Try.ntmps186
    go_wp2_with (first | ((with_reducible refine gD 1 ?_); refine bxE #[.int .i64 a0_0, .int .i64 a0_1] 166 ?_; intro gb256 hg w7 BK256 hb; have GW256 := gE hg; have GE256 := gE hg; replace HB := hB hb; clear hb hg; have hz8 := cz2 BK256) | ((with_reducible refine gC 184 ?_); refine cL (some 5) Try.func184 #[.int .i64 a0_0] ?_; (with_reducible refine (spec_l02In.calls a0_0 _ _ A2.out).mono ?_); rintro e w' ⟨rfl, ⟨nd, rfl⟩⟩; refine ⟨_, rfl, ?_⟩))
    go_ret
    exact ⟨eS, bS⟩

/-! ### spec_l07Points: function 171 -/
def spec_l07Points.l0 : Nat → List (S166) → Int → Option (Bool)
  | 0, _, _ => none
  | k + 1, x0, x3 => if x3 < (x0.length : Int) then (if 0 ≤ x3 then ((spec_PointOk.f ((rd_T166 x0 x3).f0) ((rd_T166 x0 x3).f1)).bind fun t260 => (if t260 = true then (spec_l07Points.l0 k x0 (wrap64 (x3 + 1))) else (some false))) else (none)) else (some (decide ((x0.length : Int) ≤ 8)))
def spec_l07Points.f (k : Nat) (l0 : List (S166)) : Option (Bool) := spec_l07Points.l0 k l0 0
theorem spec_l07Points.calls (k : Nat) (A0 : Option Addr) (c0 : Nat) (l0 : List (S166)) (r : Bool) (w : World) (hr0 : Kd.C k166 w A0 l0.length l0) (hc0 : l0.length ≤ c0) (h : spec_l07Points.f k l0 = some r) :
    Calls Try.prog 171 #[.slice A0 l0.length c0] w fun e w' => e = .returned (.bool r) ∧ Below w.heap.size w w' := by
  have hu166 := Try.underlying166
  have HR0 := Aside0.mk hr0
  have HC0 := Aside0.mk hc0
  clear hr0 hc0
  have HB := Aside0.mk (Below.refl w.heap.size w)
  have H : (spec_l07Points.l0 k l0 0) = some r := h
  clear h
  have H' := Aside0.mk H
  clear H
  go_enter Try.func171, Try.ntmps171
  go_wp2
  go_loopg [3] k (fun kq v3 w' => ∃ (x3_1 : Int), v3 = .int .i64 x3_1 ∧ Aside0 (spec_l07Points.l0 kq l0 x3_1 = some r) ∧ Aside0 (kq ≤ k) ∧ Aside0 (Below w.heap.size w w'))
  case atStart => exact ⟨(0), (by first | rfl | (simp; done) | (simp [*]; done)), H', ⟨Nat.le_refl _⟩, ⟨bS⟩⟩
  case round =>
    clear H'
    try clear c1
    obtain ⟨x3_1, rfl, HA, HK1, HB⟩ := hrel
    cases gk with
    | zero => exact absurd HA.out (by simp [spec_l07Points.l0])
    | succ k1 =>
      have H := HA.out
      clear HA
      simp only [spec_l07Points.l0] at H
      by_cases c2 : x3_1 < (l0.length : Int)
      · rw [if_pos c2] at H
        have c2b0 : decide (x3_1 < (l0.length : Int)) = true := decide_eq_true c2
        clear c2
        by_cases c3 : 0 ≤ x3_1
        · rw [if_pos c3] at H
          have c3b0 : decide (0 ≤ x3_1) = true := decide_eq_true c3
          clear c3
          replace H := bN H
          obtain ⟨t260, A4, H⟩ := H
          by_cases c5 : t260 = true
          · subst c5
            rw [if_pos rfl] at H
            have H' := Aside0.mk H
            clear H
            have p259 : 0 ≤ (x3_1 : Int) := of_decide_eq_true (by first | (with_reducible assumption) | assumption)
            have q259 : x3_1 < (l0.length : Int) := of_decide_eq_true (by first | (with_reducible assumption) | assumption)
            obtain ⟨ad259, e259, hx259_0, hx259_1⟩ := at_T166 HR0.out x3_1 p259 q259
            cases e259
            replace hx259_0 := (HB.out.cell (World.block_lt_of_cell? w _ hx259_0)).trans hx259_0
            replace hx259_1 := (HB.out.cell (World.block_lt_of_cell? w _ hx259_1)).trans hx259_1
            replace p259 := eq_true p259
            replace q259 := eq_true q259
            go_wp2_with (first | ((with_reducible refine gC 186 ?_); refine cL (some 14) Try.func186 #[.agg #[.int .i64 ((rd_T166 l0 x3_1).f0), .int .i64 ((rd_T166 l0 x3_1).f1)]] ?_; (with_reducible refine (spec_PointOk.calls ((rd_T166 l0 x3_1).f0) ((rd_T166 l0 x3_1).f1) _ _ A4.out).mono ?_); rintro e w6 ⟨rfl, hb⟩; refine ⟨_, rfl, ?_⟩; replace HB := hB hb; (try clear hb); (try clear hb2); (try clear hk); (try clear hi)))
            go_roundg k1
            case measure => have := HK1.out; omega
            case rel => exact ⟨(wrap64 (x3_1 + 1)), (by first | rfl | (simp; done) | (simp [*]; done)), H', ⟨by have := HK1.out; omega⟩, ⟨bS⟩⟩
          · obtain rfl := Bool.eq_false_iff.mpr c5
            rw [if_neg nF] at H
            obtain rfl := Option.some.inj H
            have p259 : 0 ≤ (x3_1 : Int) := of_decide_eq_true (by first | (with_reducible assumption) | assumption)
            have q259 : x3_1 < (l0.length : Int) := of_decide_eq_true (by first | (with_reducible assumption) | assumption)
            obtain ⟨ad259, e259, hx259_0, hx259_1⟩ := at_T166 HR0.out x3_1 p259 q259
            cases e259
            replace hx259_0 := (HB.out.cell (World.block_lt_of_cell? w _ hx259_0)).trans hx259_0
            replace hx259_1 := (HB.out.cell (World.block_lt_of_cell? w _ hx259_1)).trans hx259_1
            replace p259 := eq_true p259
            replace q259 := eq_true q259
            go_wp2_with (first | ((with_reducible refine gC 186 ?_); refine cL (some 14) Try.func186 #[.agg #[.int .i64 ((rd_T166 l0 x3_1).f0), .int .i64 ((rd_T166 l0 x3_1).f1)]] ?_; (with_reducible refine (spec_PointOk.calls ((rd_T166 l0 x3_1).f0) ((rd_T166 l0 x3_1).f1) _ _ A4.out).mono ?_); rintro e w7 ⟨rfl, hb⟩; refine ⟨_, rfl, ?_⟩; replace HB := hB hb; (try clear hb); (try clear hb2); (try clear hk); (try clear hi)))
            go_ret
            exact ⟨eS, bS⟩
        · rw [if_neg c3] at H
          exact absurd H (by simp)
      · rw [if_neg c2] at H
        have c2b0 : decide (x3_1 < (l0.length : Int)) = false := decide_eq_false c2
        clear c2
        obtain rfl := Option.some.inj H
        go_wp2
        go_ret
        exact ⟨eS, bS⟩

/-! ### spec_l07Object: function 132 -/
def spec_l07Object.f (k : Nat) (l0_0 : List (S166)) (a0_1 : Int) (a0_2 : Int) (a0_3 : Int) (a0_4 : Int) (a0_5 : Int) : Option (Bool) := if (l0_0.length : Int) ≥ 3 then ((spec_l07Points.f k l0_0).bind fun t262 => (if t262 = true then ((spec_l01In.f a0_1 0 255).bind fun t263 => (if t263 = true then ((spec_BoxOk.f a0_2 a0_3 a0_4 a0_5).bind fun t264 => (some t264)) else (some false))) else (some false))) else (some false)
theorem spec_l07Object.calls (k : Nat) (A0_0 : Option Addr) (c0_0 : Nat) (l0_0 : List (S166)) (a0_1 : Int) (a0_2 : Int) (a0_3 : Int) (a0_4 : Int) (a0_5 : Int) (r : Bool) (w : World) (hr0_0 : Kd.C k166 w A0_0 l0_0.length l0_0) (hc0_0 : l0_0.length ≤ c0_0) (h : spec_l07Object.f k l0_0 a0_1 a0_2 a0_3 a0_4 a0_5 = some r) :
    Calls Try.prog 132 #[.agg #[.slice A0_0 l0_0.length c0_0, .int .i64 a0_1, .int .i64 a0_2, .int .i64 a0_3, .int .i64 a0_4, .int .i64 a0_5]] w fun e w' => e = .returned (.bool r) ∧ Below w.heap.size w w' := by
  have hu41 := Try.underlying41
  have hu39 := Try.underlying39
  have HR0_0 := Aside0.mk hr0_0
  have HC0_0 := Aside0.mk hc0_0
  clear hr0_0 hc0_0
  have HB := Aside0.mk (Below.refl w.heap.size w)
  have H : (if (l0_0.length : Int) ≥ 3 then ((spec_l07Points.f k l0_0).bind fun t262 => (if t262 = true then ((spec_l01In.f a0_1 0 255).bind fun t263 => (if t263 = true then ((spec_BoxOk.f a0_2 a0_3 a0_4 a0_5).bind fun t264 => (some t264)) else (some false))) else (some false))) else (some false)) = some r := h
  clear h
  by_cases c2 : (l0_0.length : Int) ≥ 3
  · rw [if_pos c2] at H
    have c2b0 : decide (3 ≤ (l0_0.length : Int)) = true := decide_eq_true c2
    have c2b1 : decide (3 ≤ l0_0.length) = true := decide_eq_true (by omega)
    clear c2
    replace H := bN H
    obtain ⟨t262, A3, H⟩ := H
    by_cases c4 : t262 = true
    · subst c4
      rw [if_pos rfl] at H
      replace H := bN H
      obtain ⟨t263, A5, H⟩ := H
      by_cases c6 : t263 = true
      · subst c6
        rw [if_pos rfl] at H
        replace H := bN H
        obtain ⟨t264, A7, H⟩ := H
        obtain rfl := Option.some.inj H
        go_enter Try.func132, Try.ntmps132
        go_wp2_with (first | ((with_reducible refine gD 1 ?_); refine bxE #[.slice A0_0 l0_0.length c0_0, .int .i64 a0_1, .int .i64 a0_2, .int .i64 a0_3, .int .i64 a0_4, .int .i64 a0_5] 41 ?_; intro gb261 hg w8 BK261 hb; have GW261 := gE hg; have GE261 := gE hg; replace HB := hB hb; clear hb hg; have hz9 := cz6 BK261) | (go_at_call 171; (with_reducible refine (spec_l07Points.calls k _ _ l0_0 _ _ ?side1 ?side2 A3.out).mono ?_); (case side1 => exact cS (Kd.C_below HR0_0.out HB.out)); (case side2 => exact HC0_0.out); rintro e w10 ⟨rfl, hb⟩; replace BK261 := kB (g := gb261) hb; replace HB := hB hb; (try clear hb); (try clear hb2); (try clear hk); (try clear hi); have hz11 := cz6 BK261) | (go_at_call 139; (with_reducible refine (spec_l01In.calls a0_1 0 255 _ _ A5.out).mono ?_); rintro e w' ⟨rfl, ⟨nd, rfl⟩⟩) | (go_at_call 170; (with_reducible refine (spec_BoxOk.calls a0_2 a0_3 a0_4 a0_5 t264 _ A7.out).mono ?_); rintro e w12 ⟨rfl, hb⟩; replace BK261 := kB (g := gb261) hb; replace HB := hB hb; (try clear hb); (try clear hb2); (try clear hk); (try clear hi)))
        go_ret
        exact ⟨eS, bS⟩
      · obtain rfl := Bool.eq_false_iff.mpr c6
        rw [if_neg nF] at H
        obtain rfl := Option.some.inj H
        go_enter Try.func132, Try.ntmps132
        go_wp2_with (first | ((with_reducible refine gD 1 ?_); refine bxE #[.slice A0_0 l0_0.length c0_0, .int .i64 a0_1, .int .i64 a0_2, .int .i64 a0_3, .int .i64 a0_4, .int .i64 a0_5] 41 ?_; intro gb261 hg w13 BK261 hb; have GW261 := gE hg; have GE261 := gE hg; replace HB := hB hb; clear hb hg; have hz14 := cz6 BK261) | (go_at_call 171; (with_reducible refine (spec_l07Points.calls k _ _ l0_0 _ _ ?side1 ?side2 A3.out).mono ?_); (case side1 => exact cS (Kd.C_below HR0_0.out HB.out)); (case side2 => exact HC0_0.out); rintro e w15 ⟨rfl, hb⟩; replace BK261 := kB (g := gb261) hb; replace HB := hB hb; (try clear hb); (try clear hb2); (try clear hk); (try clear hi); have hz16 := cz6 BK261) | (go_at_call 139; (with_reducible refine (spec_l01In.calls a0_1 0 255 _ _ A5.out).mono ?_); rintro e w' ⟨rfl, ⟨nd, rfl⟩⟩))
        go_ret
        exact ⟨eS, bS⟩
    · obtain rfl := Bool.eq_false_iff.mpr c4
      rw [if_neg nF] at H
      obtain rfl := Option.some.inj H
      go_enter Try.func132, Try.ntmps132
      go_wp2_with (first | ((with_reducible refine gD 1 ?_); refine bxE #[.slice A0_0 l0_0.length c0_0, .int .i64 a0_1, .int .i64 a0_2, .int .i64 a0_3, .int .i64 a0_4, .int .i64 a0_5] 41 ?_; intro gb261 hg w17 BK261 hb; have GW261 := gE hg; have GE261 := gE hg; replace HB := hB hb; clear hb hg; have hz18 := cz6 BK261) | (go_at_call 171; (with_reducible refine (spec_l07Points.calls k _ _ l0_0 _ _ ?side1 ?side2 A3.out).mono ?_); (case side1 => exact cS (Kd.C_below HR0_0.out HB.out)); (case side2 => exact HC0_0.out); rintro e w19 ⟨rfl, hb⟩; replace BK261 := kB (g := gb261) hb; replace HB := hB hb; (try clear hb); (try clear hb2); (try clear hk); (try clear hi)))
      go_ret
      exact ⟨eS, bS⟩
  · rw [if_neg c2] at H
    have c2b0 : decide (3 ≤ (l0_0.length : Int)) = false := decide_eq_false c2
    have c2b1 : decide (3 ≤ l0_0.length) = false := decide_eq_false (by omega)
    clear c2
    obtain rfl := Option.some.inj H
    go_enter Try.func132, Try.ntmps132
    go_wp2_with (first | ((with_reducible refine gD 1 ?_); refine bxE #[.slice A0_0 l0_0.length c0_0, .int .i64 a0_1, .int .i64 a0_2, .int .i64 a0_3, .int .i64 a0_4, .int .i64 a0_5] 41 ?_; intro gb261 hg w20 BK261 hb; have GW261 := gE hg; have GE261 := gE hg; replace HB := hB hb; clear hb hg; have hz21 := cz6 BK261))
    go_ret
    exact ⟨eS, bS⟩

/-! ### spec_ObjectOk: function 177 -/
def spec_ObjectOk.f (k : Nat) (l0_0 : List (S166)) (a0_1 : Int) (a0_2 : Int) (a0_3 : Int) (a0_4 : Int) (a0_5 : Int) : Option (Bool) := (spec_l07Object.f k l0_0 a0_1 a0_2 a0_3 a0_4 a0_5).bind fun t266 => (some t266)
theorem spec_ObjectOk.calls (k : Nat) (A0_0 : Option Addr) (c0_0 : Nat) (l0_0 : List (S166)) (a0_1 : Int) (a0_2 : Int) (a0_3 : Int) (a0_4 : Int) (a0_5 : Int) (r : Bool) (w : World) (hr0_0 : Kd.C k166 w A0_0 l0_0.length l0_0) (hc0_0 : l0_0.length ≤ c0_0) (h : spec_ObjectOk.f k l0_0 a0_1 a0_2 a0_3 a0_4 a0_5 = some r) :
    Calls Try.prog 177 #[.agg #[.slice A0_0 l0_0.length c0_0, .int .i64 a0_1, .int .i64 a0_2, .int .i64 a0_3, .int .i64 a0_4, .int .i64 a0_5]] w fun e w' => e = .returned (.bool r) ∧ Below w.heap.size w w' := by
  have hu41 := Try.underlying41
  have HR0_0 := Aside0.mk hr0_0
  have HC0_0 := Aside0.mk hc0_0
  clear hr0_0 hc0_0
  have HB := Aside0.mk (Below.refl w.heap.size w)
  have H : ((spec_l07Object.f k l0_0 a0_1 a0_2 a0_3 a0_4 a0_5).bind fun t266 => (some t266)) = some r := h
  clear h
  replace H := bN H
  obtain ⟨t266, A2, H⟩ := H
  obtain rfl := Option.some.inj H
  go_enter Try.func177, Try.ntmps177
  go_wp2_with (first | ((with_reducible refine gD 1 ?_); refine bxE #[.slice A0_0 l0_0.length c0_0, .int .i64 a0_1, .int .i64 a0_2, .int .i64 a0_3, .int .i64 a0_4, .int .i64 a0_5] 41 ?_; intro gb265 hg w3 BK265 hb; have GW265 := gE hg; have GE265 := gE hg; replace HB := hB hb; clear hb hg; have hz4 := cz6 BK265) | ((with_reducible refine gC 132 ?_); refine cL (some 4) Try.func132 #[.agg #[.slice A0_0 l0_0.length c0_0, .int .i64 a0_1, .int .i64 a0_2, .int .i64 a0_3, .int .i64 a0_4, .int .i64 a0_5]] ?_; (with_reducible refine (spec_l07Object.calls k _ _ l0_0 a0_1 a0_2 a0_3 a0_4 a0_5 t266 _ ?side1 ?side2 A2.out).mono ?_); (case side1 => exact cS (Kd.C_below HR0_0.out HB.out)); (case side2 => exact HC0_0.out); rintro e w5 ⟨rfl, hb⟩; refine ⟨_, rfl, ?_⟩; replace BK265 := kB (g := gb265) hb; replace HB := hB hb; (try clear hb); (try clear hb2); (try clear hk); (try clear hi)))
  go_ret
  exact ⟨eS, bS⟩

/-! ### spec_MeetBox: function 178 -/
def spec_MeetBox.f (a0_0 : Int) (a0_1 : Int) (a0_2 : Int) (a0_3 : Int) (a1_0 : Int) (a1_1 : Int) (a1_2 : Int) (a1_3 : Int) : Option (Int × Int × Int × Int) := (spec_BoxOk.f a0_0 a0_1 a0_2 a0_3).bind fun t271 => (if t271 = true then ((spec_BoxOk.f a1_0 a1_1 a1_2 a1_3).bind fun t272 => (if t272 = true then (if (mx a0_0 a1_0) ≥ (mn a0_2 a1_2) then (some (0, 0, 0, 0)) else (if (mx a0_1 a1_1) ≥ (mn a0_3 a1_3) then (some (0, 0, 0, 0)) else (some (mx a0_0 a1_0, mx a0_1 a1_1, mn a0_2 a1_2, mn a0_3 a1_3)))) else (some (0, 0, 0, 0)))) else (some (0, 0, 0, 0)))
theorem spec_MeetBox.calls (a0_0 : Int) (a0_1 : Int) (a0_2 : Int) (a0_3 : Int) (a1_0 : Int) (a1_1 : Int) (a1_2 : Int) (a1_3 : Int) (r1 : Int) (r2 : Int) (r3 : Int) (r4 : Int) (w : World) (h : spec_MeetBox.f a0_0 a0_1 a0_2 a0_3 a1_0 a1_1 a1_2 a1_3 = some (r1, r2, r3, r4)) :
    Calls Try.prog 178 #[.agg #[.int .i64 a0_0, .int .i64 a0_1, .int .i64 a0_2, .int .i64 a0_3], .agg #[.int .i64 a1_0, .int .i64 a1_1, .int .i64 a1_2, .int .i64 a1_3]] w fun e w' => e = .returned (.agg #[.int .i64 r1, .int .i64 r2, .int .i64 r3, .int .i64 r4]) ∧ Below w.heap.size w w' := by
  have hu39 := Try.underlying39
  have HB := Aside0.mk (Below.refl w.heap.size w)
  have H : ((spec_BoxOk.f a0_0 a0_1 a0_2 a0_3).bind fun t271 => (if t271 = true then ((spec_BoxOk.f a1_0 a1_1 a1_2 a1_3).bind fun t272 => (if t272 = true then (if (mx a0_0 a1_0) ≥ (mn a0_2 a1_2) then (some (0, 0, 0, 0)) else (if (mx a0_1 a1_1) ≥ (mn a0_3 a1_3) then (some (0, 0, 0, 0)) else (some (mx a0_0 a1_0, mx a0_1 a1_1, mn a0_2 a1_2, mn a0_3 a1_3)))) else (some (0, 0, 0, 0)))) else (some (0, 0, 0, 0)))) = some (r1, r2, r3, r4) := h
  clear h
  obtain ⟨ji3, hji3⟩ : ∃ j_ : Int, (mx a0_0 a1_0) = j_ := ⟨_, rfl⟩
  replace H : ((spec_BoxOk.f a0_0 a0_1 a0_2 a0_3).bind fun t271 => (if t271 = true then ((spec_BoxOk.f a1_0 a1_1 a1_2 a1_3).bind fun t272 => (if t272 = true then (if (ji3) ≥ (mn a0_2 a1_2) then (some (0, 0, 0, 0)) else (if (mx a0_1 a1_1) ≥ (mn a0_3 a1_3) then (some (0, 0, 0, 0)) else (some (ji3, mx a0_1 a1_1, mn a0_2 a1_2, mn a0_3 a1_3)))) else (some (0, 0, 0, 0)))) else (some (0, 0, 0, 0)))) = some (r1, r2, r3, r4) := by first | (rw [hji3] at H; exact H) | (simp only [hji3] at H ⊢; exact H)
  have hji3_ : (if a0_0 < a1_0 then a1_0 else a0_0) = ji3 := hji3
  obtain ⟨ji4, hji4⟩ : ∃ j_ : Int, (mx a0_1 a1_1) = j_ := ⟨_, rfl⟩
  replace H : ((spec_BoxOk.f a0_0 a0_1 a0_2 a0_3).bind fun t271 => (if t271 = true then ((spec_BoxOk.f a1_0 a1_1 a1_2 a1_3).bind fun t272 => (if t272 = true then (if (ji3) ≥ (mn a0_2 a1_2) then (some (0, 0, 0, 0)) else (if (ji4) ≥ (mn a0_3 a1_3) then (some (0, 0, 0, 0)) else (some (ji3, ji4, mn a0_2 a1_2, mn a0_3 a1_3)))) else (some (0, 0, 0, 0)))) else (some (0, 0, 0, 0)))) = some (r1, r2, r3, r4) := by first | (rw [hji4] at H; exact H) | (simp only [hji4] at H ⊢; exact H)
  have hji4_ : (if a0_1 < a1_1 then a1_1 else a0_1) = ji4 := hji4
  obtain ⟨ji5, hji5⟩ : ∃ j_ : Int, (mn a0_2 a1_2) = j_ := ⟨_, rfl⟩
  replace H : ((spec_BoxOk.f a0_0 a0_1 a0_2 a0_3).bind fun t271 => (if t271 = true then ((spec_BoxOk.f a1_0 a1_1 a1_2 a1_3).bind fun t272 => (if t272 = true then (if (ji3) ≥ (ji5) then (some (0, 0, 0, 0)) else (if (ji4) ≥ (mn a0_3 a1_3) then (some (0, 0, 0, 0)) else (some (ji3, ji4, ji5, mn a0_3 a1_3)))) else (some (0, 0, 0, 0)))) else (some (0, 0, 0, 0)))) = some (r1, r2, r3, r4) := by first | (rw [hji5] at H; exact H) | (simp only [hji5] at H ⊢; exact H)
  have hji5_ : (if a1_2 < a0_2 then a1_2 else a0_2) = ji5 := hji5
  obtain ⟨ji6, hji6⟩ : ∃ j_ : Int, (mn a0_3 a1_3) = j_ := ⟨_, rfl⟩
  replace H : ((spec_BoxOk.f a0_0 a0_1 a0_2 a0_3).bind fun t271 => (if t271 = true then ((spec_BoxOk.f a1_0 a1_1 a1_2 a1_3).bind fun t272 => (if t272 = true then (if (ji3) ≥ (ji5) then (some (0, 0, 0, 0)) else (if (ji4) ≥ (ji6) then (some (0, 0, 0, 0)) else (some (ji3, ji4, ji5, ji6)))) else (some (0, 0, 0, 0)))) else (some (0, 0, 0, 0)))) = some (r1, r2, r3, r4) := by first | (rw [hji6] at H; exact H) | (simp only [hji6] at H ⊢; exact H)
  have hji6_ : (if a1_3 < a0_3 then a1_3 else a0_3) = ji6 := hji6
  replace H := bN H
  obtain ⟨t271, A7, H⟩ := H
  by_cases c8 : t271 = true
  · subst c8
    rw [if_pos rfl] at H
    replace H := bN H
    obtain ⟨t272, A9, H⟩ := H
    by_cases c10 : t272 = true
    · subst c10
      rw [if_pos rfl] at H
      by_cases c11 : (ji3) ≥ (ji5)
      · rw [if_pos c11] at H
        have c11b0 : decide ((ji5) ≤ (ji3)) = true := decide_eq_true c11
        clear c11
        simp only [Option.some.injEq, Prod.mk.injEq] at H
        obtain ⟨rfl, rfl, rfl, rfl⟩ := H
        go_enter Try.func178, Try.ntmps178
        go_wp2_with (first | ((with_reducible refine gD 2 ?_); refine bxE #[.int .i64 a0_0, .int .i64 a0_1, .int .i64 a0_2, .int .i64 a0_3] 39 ?_; intro gb267 hg w12 BK267 hb; have GW267 := gE hg; have GE267 := gE hg; replace HB := hB hb; clear hb hg) | ((with_reducible refine gD 3 ?_); refine bxE #[.int .i64 a1_0, .int .i64 a1_1, .int .i64 a1_2, .int .i64 a1_3] 39 ?_; intro gb268 hg w13 BK268 hb; have GW268 := gE hg; have GE268 := gE hg; have NB267_268 := nL (g := gb267) hg; have NB268_267 := nG (g := gb267) hg; replace BK267 := kB (g := gb267) hb; replace HB := hB hb; clear hb hg) | ((with_reducible refine gD 4 ?_); refine bxE #[.int .i64 0, .int .i64 0, .int .i64 0, .int .i64 0] 39 ?_; intro gb269 hg w14 BK269 hb; have GW269 := gE hg; have GE269 := gE hg; have NB267_269 := nL (g := gb267) hg; have NB269_267 := nG (g := gb267) hg; have NB268_269 := nL (g := gb268) hg; have NB269_268 := nG (g := gb268) hg; replace BK267 := kB (g := gb267) hb; replace BK268 := kB (g := gb268) hb; replace HB := hB hb; clear hb hg; have hnb15 := NB267_268.out; have hnc15 := NB268_267.out; have hnb16 := NB267_269.out; have hnc16 := NB269_267.out; have hz17 := cz4 BK267; have hnb18 := NB268_269.out; have hnc18 := NB269_268.out; have hz19 := cz4 BK268) | ((with_reducible refine gD 5 ?_); refine bxE #[.int .i64 0, .int .i64 0, .int .i64 0, .int .i64 0] 39 ?_; intro gb270 hg w20 BK270 hb; have GW270 := gE hg; have GE270 := gE hg; have NB267_270 := nL (g := gb267) hg; have NB270_267 := nG (g := gb267) hg; have NB268_270 := nL (g := gb268) hg; have NB270_268 := nG (g := gb268) hg; have NB269_270 := nL (g := gb269) hg; have NB270_269 := nG (g := gb269) hg; replace BK267 := kB (g := gb267) hb; replace BK268 := kB (g := gb268) hb; replace BK269 := kB (g := gb269) hb; replace HB := hB hb; clear hb hg; have hnb21 := NB270_267.out; have hnc21 := NB267_270.out; have hnb22 := NB270_268.out; have hnc22 := NB268_270.out; have hnb23 := NB270_269.out; have hnc23 := NB269_270.out; have hz24 := cz4 BK270; have hz25 := cz4 BK267) | ((with_reducible refine gC 170 ?_); refine cL (some 28) Try.func170 #[.agg #[.int .i64 a0_0, .int .i64 a0_1, .int .i64 a0_2, .int .i64 a0_3]] ?_; (with_reducible refine (spec_BoxOk.calls a0_0 a0_1 a0_2 a0_3 _ _ A7.out).mono ?_); rintro e w26 ⟨rfl, hb⟩; refine ⟨_, rfl, ?_⟩; replace BK267 := kB (g := gb267) hb; replace BK268 := kB (g := gb268) hb; replace BK269 := kB (g := gb269) hb; replace BK270 := Aside0.mk (blk_below (g := gb270) (o := .cells #[.int .i64 ji3, .int .i64 ji4, .int .i64 ji5, .int .i64 ji6] 39 (0, 0)) kS hb); replace HB := hB hb; (try clear hb); (try clear hb2); (try clear hk); (try clear hi); have hz27 := cz4 BK268) | (go_at_call 170; (with_reducible refine (spec_BoxOk.calls a1_0 a1_1 a1_2 a1_3 _ _ A9.out).mono ?_); rintro e w28 ⟨rfl, hb⟩; replace BK267 := kB (g := gb267) hb; replace BK268 := kB (g := gb268) hb; replace BK269 := kB (g := gb269) hb; replace BK270 := kB (g := gb270) hb; replace HB := hB hb; (try clear hb); (try clear hb2); (try clear hk); (try clear hi); have hz29 := cz4 BK270; have hz30 := cz4 BK269))
        refine bodyPost_ret (results_cell_row rfl _ _ gb269 39 #[.int .i64 0, .int .i64 0, .int .i64 0, .int .i64 0] (0, 0) _ rfl kS Try.underlying39 rfl (by kernel_rfl)) rfl ?_
        exact ⟨by first | rfl | (simp [errW_none, errW_some] <;> rfl) | (simp only [← hji3, ← hji4, ← hji5, ← hji6]; first | rfl | (simp [errW_none, errW_some] <;> rfl)) | (simp [*, errW_none, errW_some] <;> rfl), bS⟩
      · rw [if_neg c11] at H
        have c11b0 : decide ((ji5) ≤ (ji3)) = false := decide_eq_false c11
        clear c11
        by_cases c31 : (ji4) ≥ (ji6)
        · rw [if_pos c31] at H
          have c31b0 : decide ((ji6) ≤ (ji4)) = true := decide_eq_true c31
          clear c31
          simp only [Option.some.injEq, Prod.mk.injEq] at H
          obtain ⟨rfl, rfl, rfl, rfl⟩ := H
          go_enter Try.func178, Try.ntmps178
          go_wp2_with (first | ((with_reducible refine gD 2 ?_); refine bxE #[.int .i64 a0_0, .int .i64 a0_1, .int .i64 a0_2, .int .i64 a0_3] 39 ?_; intro gb267 hg w32 BK267 hb; have GW267 := gE hg; have GE267 := gE hg; replace HB := hB hb; clear hb hg) | ((with_reducible refine gD 3 ?_); refine bxE #[.int .i64 a1_0, .int .i64 a1_1, .int .i64 a1_2, .int .i64 a1_3] 39 ?_; intro gb268 hg w33 BK268 hb; have GW268 := gE hg; have GE268 := gE hg; have NB267_268 := nL (g := gb267) hg; have NB268_267 := nG (g := gb267) hg; replace BK267 := kB (g := gb267) hb; replace HB := hB hb; clear hb hg) | ((with_reducible refine gD 4 ?_); refine bxE #[.int .i64 0, .int .i64 0, .int .i64 0, .int .i64 0] 39 ?_; intro gb269 hg w34 BK269 hb; have GW269 := gE hg; have GE269 := gE hg; have NB267_269 := nL (g := gb267) hg; have NB269_267 := nG (g := gb267) hg; have NB268_269 := nL (g := gb268) hg; have NB269_268 := nG (g := gb268) hg; replace BK267 := kB (g := gb267) hb; replace BK268 := kB (g := gb268) hb; replace HB := hB hb; clear hb hg; have hnb35 := NB267_268.out; have hnc35 := NB268_267.out; have hnb36 := NB267_269.out; have hnc36 := NB269_267.out; have hz37 := cz4 BK267; have hnb38 := NB268_269.out; have hnc38 := NB269_268.out; have hz39 := cz4 BK268) | ((with_reducible refine gD 5 ?_); refine bxE #[.int .i64 0, .int .i64 0, .int .i64 0, .int .i64 0] 39 ?_; intro gb270 hg w40 BK270 hb; have GW270 := gE hg; have GE270 := gE hg; have NB267_270 := nL (g := gb267) hg; have NB270_267 := nG (g := gb267) hg; have NB268_270 := nL (g := gb268) hg; have NB270_268 := nG (g := gb268) hg; have NB269_270 := nL (g := gb269) hg; have NB270_269 := nG (g := gb269) hg; replace BK267 := kB (g := gb267) hb; replace BK268 := kB (g := gb268) hb; replace BK269 := kB (g := gb269) hb; replace HB := hB hb; clear hb hg; have hnb41 := NB270_267.out; have hnc41 := NB267_270.out; have hnb42 := NB270_268.out; have hnc42 := NB268_270.out; have hnb43 := NB270_269.out; have hnc43 := NB269_270.out; have hz44 := cz4 BK270; have hz45 := cz4 BK267) | ((with_reducible refine gC 170 ?_); refine cL (some 28) Try.func170 #[.agg #[.int .i64 a0_0, .int .i64 a0_1, .int .i64 a0_2, .int .i64 a0_3]] ?_; (with_reducible refine (spec_BoxOk.calls a0_0 a0_1 a0_2 a0_3 _ _ A7.out).mono ?_); rintro e w46 ⟨rfl, hb⟩; refine ⟨_, rfl, ?_⟩; replace BK267 := kB (g := gb267) hb; replace BK268 := kB (g := gb268) hb; replace BK269 := kB (g := gb269) hb; replace BK270 := Aside0.mk (blk_below (g := gb270) (o := .cells #[.int .i64 ji3, .int .i64 ji4, .int .i64 ji5, .int .i64 ji6] 39 (0, 0)) kS hb); replace HB := hB hb; (try clear hb); (try clear hb2); (try clear hk); (try clear hi); have hz47 := cz4 BK268) | (go_at_call 170; (with_reducible refine (spec_BoxOk.calls a1_0 a1_1 a1_2 a1_3 _ _ A9.out).mono ?_); rintro e w48 ⟨rfl, hb⟩; replace BK267 := kB (g := gb267) hb; replace BK268 := kB (g := gb268) hb; replace BK269 := kB (g := gb269) hb; replace BK270 := kB (g := gb270) hb; replace HB := hB hb; (try clear hb); (try clear hb2); (try clear hk); (try clear hi); have hz49 := cz4 BK270; have hz50 := cz4 BK269))
          refine bodyPost_ret (results_cell_row rfl _ _ gb269 39 #[.int .i64 0, .int .i64 0, .int .i64 0, .int .i64 0] (0, 0) _ rfl kS Try.underlying39 rfl (by kernel_rfl)) rfl ?_
          exact ⟨by first | rfl | (simp [errW_none, errW_some] <;> rfl) | (simp only [← hji3, ← hji4, ← hji5, ← hji6]; first | rfl | (simp [errW_none, errW_some] <;> rfl)) | (simp [*, errW_none, errW_some] <;> rfl), bS⟩
        · rw [if_neg c31] at H
          have c31b0 : decide ((ji6) ≤ (ji4)) = false := decide_eq_false c31
          clear c31
          simp only [Option.some.injEq, Prod.mk.injEq] at H
          obtain ⟨rfl, rfl, rfl, rfl⟩ := H
          go_enter Try.func178, Try.ntmps178
          go_wp2_with (first | ((with_reducible refine gD 2 ?_); refine bxE #[.int .i64 a0_0, .int .i64 a0_1, .int .i64 a0_2, .int .i64 a0_3] 39 ?_; intro gb267 hg w51 BK267 hb; have GW267 := gE hg; have GE267 := gE hg; replace HB := hB hb; clear hb hg) | ((with_reducible refine gD 3 ?_); refine bxE #[.int .i64 a1_0, .int .i64 a1_1, .int .i64 a1_2, .int .i64 a1_3] 39 ?_; intro gb268 hg w52 BK268 hb; have GW268 := gE hg; have GE268 := gE hg; have NB267_268 := nL (g := gb267) hg; have NB268_267 := nG (g := gb267) hg; replace BK267 := kB (g := gb267) hb; replace HB := hB hb; clear hb hg) | ((with_reducible refine gD 4 ?_); refine bxE #[.int .i64 0, .int .i64 0, .int .i64 0, .int .i64 0] 39 ?_; intro gb269 hg w53 BK269 hb; have GW269 := gE hg; have GE269 := gE hg; have NB267_269 := nL (g := gb267) hg; have NB269_267 := nG (g := gb267) hg; have NB268_269 := nL (g := gb268) hg; have NB269_268 := nG (g := gb268) hg; replace BK267 := kB (g := gb267) hb; replace BK268 := kB (g := gb268) hb; replace HB := hB hb; clear hb hg; have hnb54 := NB267_268.out; have hnc54 := NB268_267.out; have hnb55 := NB267_269.out; have hnc55 := NB269_267.out; have hz56 := cz4 BK267; have hnb57 := NB268_269.out; have hnc57 := NB269_268.out; have hz58 := cz4 BK268) | ((with_reducible refine gD 5 ?_); refine bxE #[.int .i64 0, .int .i64 0, .int .i64 0, .int .i64 0] 39 ?_; intro gb270 hg w59 BK270 hb; have GW270 := gE hg; have GE270 := gE hg; have NB267_270 := nL (g := gb267) hg; have NB270_267 := nG (g := gb267) hg; have NB268_270 := nL (g := gb268) hg; have NB270_268 := nG (g := gb268) hg; have NB269_270 := nL (g := gb269) hg; have NB270_269 := nG (g := gb269) hg; replace BK267 := kB (g := gb267) hb; replace BK268 := kB (g := gb268) hb; replace BK269 := kB (g := gb269) hb; replace HB := hB hb; clear hb hg; have hnb60 := NB270_267.out; have hnc60 := NB267_270.out; have hnb61 := NB270_268.out; have hnc61 := NB268_270.out; have hnb62 := NB270_269.out; have hnc62 := NB269_270.out; have hz63 := cz4 BK270; have hz64 := cz4 BK267) | ((with_reducible refine gC 170 ?_); refine cL (some 28) Try.func170 #[.agg #[.int .i64 a0_0, .int .i64 a0_1, .int .i64 a0_2, .int .i64 a0_3]] ?_; (with_reducible refine (spec_BoxOk.calls a0_0 a0_1 a0_2 a0_3 _ _ A7.out).mono ?_); rintro e w65 ⟨rfl, hb⟩; refine ⟨_, rfl, ?_⟩; replace BK267 := kB (g := gb267) hb; replace BK268 := kB (g := gb268) hb; replace BK269 := kB (g := gb269) hb; replace BK270 := Aside0.mk (blk_below (g := gb270) (o := .cells #[.int .i64 ji3, .int .i64 ji4, .int .i64 ji5, .int .i64 ji6] 39 (0, 0)) kS hb); replace HB := hB hb; (try clear hb); (try clear hb2); (try clear hk); (try clear hi); have hz66 := cz4 BK268) | (go_at_call 170; (with_reducible refine (spec_BoxOk.calls a1_0 a1_1 a1_2 a1_3 _ _ A9.out).mono ?_); rintro e w67 ⟨rfl, hb⟩; replace BK267 := kB (g := gb267) hb; replace BK268 := kB (g := gb268) hb; replace BK269 := kB (g := gb269) hb; replace BK270 := kB (g := gb270) hb; replace HB := hB hb; (try clear hb); (try clear hb2); (try clear hk); (try clear hi); have hz68 := cz4 BK270; have hz69 := cz4 BK269))
          refine bodyPost_ret (results_cell_row rfl _ _ gb269 39 #[.int .i64 ji3, .int .i64 ji4, .int .i64 ji5, .int .i64 ji6] (0, 0) _ rfl kS Try.underlying39 rfl (by kernel_rfl)) rfl ?_
          exact ⟨by first | rfl | (simp [errW_none, errW_some] <;> rfl) | (simp only [← hji3, ← hji4, ← hji5, ← hji6]; first | rfl | (simp [errW_none, errW_some] <;> rfl)) | (simp [*, errW_none, errW_some] <;> rfl), bS⟩
    · obtain rfl := Bool.eq_false_iff.mpr c10
      rw [if_neg nF] at H
      simp only [Option.some.injEq, Prod.mk.injEq] at H
      obtain ⟨rfl, rfl, rfl, rfl⟩ := H
      go_enter Try.func178, Try.ntmps178
      go_wp2_with (first | ((with_reducible refine gD 2 ?_); refine bxE #[.int .i64 a0_0, .int .i64 a0_1, .int .i64 a0_2, .int .i64 a0_3] 39 ?_; intro gb267 hg w70 BK267 hb; have GW267 := gE hg; have GE267 := gE hg; replace HB := hB hb; clear hb hg) | ((with_reducible refine gD 3 ?_); refine bxE #[.int .i64 a1_0, .int .i64 a1_1, .int .i64 a1_2, .int .i64 a1_3] 39 ?_; intro gb268 hg w71 BK268 hb; have GW268 := gE hg; have GE268 := gE hg; have NB267_268 := nL (g := gb267) hg; have NB268_267 := nG (g := gb267) hg; replace BK267 := kB (g := gb267) hb; replace HB := hB hb; clear hb hg) | ((with_reducible refine gD 4 ?_); refine bxE #[.int .i64 0, .int .i64 0, .int .i64 0, .int .i64 0] 39 ?_; intro gb269 hg w72 BK269 hb; have GW269 := gE hg; have GE269 := gE hg; have NB267_269 := nL (g := gb267) hg; have NB269_267 := nG (g := gb267) hg; have NB268_269 := nL (g := gb268) hg; have NB269_268 := nG (g := gb268) hg; replace BK267 := kB (g := gb267) hb; replace BK268 := kB (g := gb268) hb; replace HB := hB hb; clear hb hg; have hnb73 := NB267_268.out; have hnc73 := NB268_267.out; have hnb74 := NB267_269.out; have hnc74 := NB269_267.out; have hz75 := cz4 BK267; have hnb76 := NB268_269.out; have hnc76 := NB269_268.out; have hz77 := cz4 BK268) | ((with_reducible refine gD 5 ?_); refine bxE #[.int .i64 0, .int .i64 0, .int .i64 0, .int .i64 0] 39 ?_; intro gb270 hg w78 BK270 hb; have GW270 := gE hg; have GE270 := gE hg; have NB267_270 := nL (g := gb267) hg; have NB270_267 := nG (g := gb267) hg; have NB268_270 := nL (g := gb268) hg; have NB270_268 := nG (g := gb268) hg; have NB269_270 := nL (g := gb269) hg; have NB270_269 := nG (g := gb269) hg; replace BK267 := kB (g := gb267) hb; replace BK268 := kB (g := gb268) hb; replace BK269 := kB (g := gb269) hb; replace HB := hB hb; clear hb hg; have hnb79 := NB270_267.out; have hnc79 := NB267_270.out; have hnb80 := NB270_268.out; have hnc80 := NB268_270.out; have hnb81 := NB270_269.out; have hnc81 := NB269_270.out; have hz82 := cz4 BK270; have hz83 := cz4 BK267) | ((with_reducible refine gC 170 ?_); refine cL (some 28) Try.func170 #[.agg #[.int .i64 a0_0, .int .i64 a0_1, .int .i64 a0_2, .int .i64 a0_3]] ?_; (with_reducible refine (spec_BoxOk.calls a0_0 a0_1 a0_2 a0_3 _ _ A7.out).mono ?_); rintro e w84 ⟨rfl, hb⟩; refine ⟨_, rfl, ?_⟩; replace BK267 := kB (g := gb267) hb; replace BK268 := kB (g := gb268) hb; replace BK269 := kB (g := gb269) hb; replace BK270 := Aside0.mk (blk_below (g := gb270) (o := .cells #[.int .i64 ji3, .int .i64 ji4, .int .i64 ji5, .int .i64 ji6] 39 (0, 0)) kS hb); replace HB := hB hb; (try clear hb); (try clear hb2); (try clear hk); (try clear hi); have hz85 := cz4 BK268) | (go_at_call 170; (with_reducible refine (spec_BoxOk.calls a1_0 a1_1 a1_2 a1_3 _ _ A9.out).mono ?_); rintro e w86 ⟨rfl, hb⟩; replace BK267 := kB (g := gb267) hb; replace BK268 := kB (g := gb268) hb; replace BK269 := kB (g := gb269) hb; replace BK270 := kB (g := gb270) hb; replace HB := hB hb; (try clear hb); (try clear hb2); (try clear hk); (try clear hi); have hz87 := cz4 BK269))
      refine bodyPost_ret (results_cell_row rfl _ _ gb269 39 #[.int .i64 0, .int .i64 0, .int .i64 0, .int .i64 0] (0, 0) _ rfl kS Try.underlying39 rfl (by kernel_rfl)) rfl ?_
      exact ⟨by first | rfl | (simp [errW_none, errW_some] <;> rfl) | (simp only [← hji3, ← hji4, ← hji5, ← hji6]; first | rfl | (simp [errW_none, errW_some] <;> rfl)) | (simp [*, errW_none, errW_some] <;> rfl), bS⟩
  · obtain rfl := Bool.eq_false_iff.mpr c8
    rw [if_neg nF] at H
    simp only [Option.some.injEq, Prod.mk.injEq] at H
    obtain ⟨rfl, rfl, rfl, rfl⟩ := H
    go_enter Try.func178, Try.ntmps178
    go_wp2_with (first | ((with_reducible refine gD 2 ?_); refine bxE #[.int .i64 a0_0, .int .i64 a0_1, .int .i64 a0_2, .int .i64 a0_3] 39 ?_; intro gb267 hg w88 BK267 hb; have GW267 := gE hg; have GE267 := gE hg; replace HB := hB hb; clear hb hg) | ((with_reducible refine gD 3 ?_); refine bxE #[.int .i64 a1_0, .int .i64 a1_1, .int .i64 a1_2, .int .i64 a1_3] 39 ?_; intro gb268 hg w89 BK268 hb; have GW268 := gE hg; have GE268 := gE hg; have NB267_268 := nL (g := gb267) hg; have NB268_267 := nG (g := gb267) hg; replace BK267 := kB (g := gb267) hb; replace HB := hB hb; clear hb hg) | ((with_reducible refine gD 4 ?_); refine bxE #[.int .i64 0, .int .i64 0, .int .i64 0, .int .i64 0] 39 ?_; intro gb269 hg w90 BK269 hb; have GW269 := gE hg; have GE269 := gE hg; have NB267_269 := nL (g := gb267) hg; have NB269_267 := nG (g := gb267) hg; have NB268_269 := nL (g := gb268) hg; have NB269_268 := nG (g := gb268) hg; replace BK267 := kB (g := gb267) hb; replace BK268 := kB (g := gb268) hb; replace HB := hB hb; clear hb hg; have hnb91 := NB267_268.out; have hnc91 := NB268_267.out; have hnb92 := NB267_269.out; have hnc92 := NB269_267.out; have hz93 := cz4 BK267; have hnb94 := NB268_269.out; have hnc94 := NB269_268.out; have hz95 := cz4 BK268) | ((with_reducible refine gD 5 ?_); refine bxE #[.int .i64 0, .int .i64 0, .int .i64 0, .int .i64 0] 39 ?_; intro gb270 hg w96 BK270 hb; have GW270 := gE hg; have GE270 := gE hg; have NB267_270 := nL (g := gb267) hg; have NB270_267 := nG (g := gb267) hg; have NB268_270 := nL (g := gb268) hg; have NB270_268 := nG (g := gb268) hg; have NB269_270 := nL (g := gb269) hg; have NB270_269 := nG (g := gb269) hg; replace BK267 := kB (g := gb267) hb; replace BK268 := kB (g := gb268) hb; replace BK269 := kB (g := gb269) hb; replace HB := hB hb; clear hb hg; have hnb97 := NB270_267.out; have hnc97 := NB267_270.out; have hnb98 := NB270_268.out; have hnc98 := NB268_270.out; have hnb99 := NB270_269.out; have hnc99 := NB269_270.out; have hz100 := cz4 BK270; have hz101 := cz4 BK267) | ((with_reducible refine gC 170 ?_); refine cL (some 28) Try.func170 #[.agg #[.int .i64 a0_0, .int .i64 a0_1, .int .i64 a0_2, .int .i64 a0_3]] ?_; (with_reducible refine (spec_BoxOk.calls a0_0 a0_1 a0_2 a0_3 _ _ A7.out).mono ?_); rintro e w102 ⟨rfl, hb⟩; refine ⟨_, rfl, ?_⟩; replace BK267 := kB (g := gb267) hb; replace BK268 := kB (g := gb268) hb; replace BK269 := kB (g := gb269) hb; replace BK270 := Aside0.mk (blk_below (g := gb270) (o := .cells #[.int .i64 ji3, .int .i64 ji4, .int .i64 ji5, .int .i64 ji6] 39 (0, 0)) kS hb); replace HB := hB hb; (try clear hb); (try clear hb2); (try clear hk); (try clear hi); have hz103 := cz4 BK269))
    refine bodyPost_ret (results_cell_row rfl _ _ gb269 39 #[.int .i64 0, .int .i64 0, .int .i64 0, .int .i64 0] (0, 0) _ rfl kS Try.underlying39 rfl (by kernel_rfl)) rfl ?_
    exact ⟨by first | rfl | (simp [errW_none, errW_some] <;> rfl) | (simp only [← hji3, ← hji4, ← hji5, ← hji6]; first | rfl | (simp [errW_none, errW_some] <;> rfl)) | (simp [*, errW_none, errW_some] <;> rfl), bS⟩

/-! ### spec_BoxOf: function 179 -/
def spec_BoxOf.l0 : Nat → List (S166) → Int → Int → Int → Int → Int → Option (Int × Int × Int × Int)
  | 0, _, _, _, _, _, _ => none
  | k + 1, x0, x4, x275000, x275001, x275002, x275003 => if x4 < (x0.length : Int) then (if 0 ≤ x4 then ((spec_PointOk.f ((rd_T166 x0 x4).f0) ((rd_T166 x0 x4).f1)).bind fun t277 => (if t277 = true then (if x4 = 0 then (spec_BoxOf.l0 k x0 (wrap64 (x4 + 1)) ((rd_T166 x0 x4).f0) ((rd_T166 x0 x4).f1) ((rd_T166 x0 x4).f0) ((rd_T166 x0 x4).f1)) else (spec_BoxOf.l0 k x0 (wrap64 (x4 + 1)) (mn x275000 ((rd_T166 x0 x4).f0)) (mn x275001 ((rd_T166 x0 x4).f1)) (mx x275002 ((rd_T166 x0 x4).f0)) (mx x275003 ((rd_T166 x0 x4).f1)))) else (some (0, 0, 0, 0)))) else (none)) else (some (x275000, x275001, x275002, x275003))
def spec_BoxOf.f (k : Nat) (l0 : List (S166)) : Option (Int × Int × Int × Int) := spec_BoxOf.l0 k l0 0 0 0 0 0
theorem spec_BoxOf.calls (k : Nat) (A0 : Option Addr) (c0 : Nat) (l0 : List (S166)) (r1 : Int) (r2 : Int) (r3 : Int) (r4 : Int) (w : World) (hr0 : Kd.C k166 w A0 l0.length l0) (hc0 : l0.length ≤ c0) (h : spec_BoxOf.f k l0 = some (r1, r2, r3, r4)) :
    Calls Try.prog 179 #[.slice A0 l0.length c0] w fun e w' => e = .returned (.agg #[.int .i64 r1, .int .i64 r2, .int .i64 r3, .int .i64 r4]) ∧ Below w.heap.size w w' := by
  have hu39 := Try.underlying39
  have hu166 := Try.underlying166
  have HR0 := Aside0.mk hr0
  have HC0 := Aside0.mk hc0
  clear hr0 hc0
  have HB := Aside0.mk (Below.refl w.heap.size w)
  have H : (spec_BoxOf.l0 k l0 0 0 0 0 0) = some (r1, r2, r3, r4) := h
  clear h
  have H' := Aside0.mk H
  clear H
  go_enter Try.func179, Try.ntmps179
  go_wp2_with (first | ((with_reducible refine gD 2 ?_); refine bxE #[.int .i64 0, .int .i64 0, .int .i64 0, .int .i64 0] 39 ?_; intro gb273 hg w2 BK273 hb; have GW273 := gE hg; have GE273 := gE hg; replace HB := hB hb; clear hb hg) | ((with_reducible refine gD 3 ?_); refine bxE #[.int .i64 0, .int .i64 0, .int .i64 0, .int .i64 0] 39 ?_; intro gb274 hg w3 BK274 hb; have GW274 := gE hg; have GE274 := gE hg; have NB273_274 := nL (g := gb273) hg; have NB274_273 := nG (g := gb273) hg; replace BK273 := kB (g := gb273) hb; replace HB := hB hb; clear hb hg; have hnb4 := NB274_273.out; have hnc4 := NB273_274.out; have hcz5_0 : w3.cell? ⟨gb274, 0, none⟩ = some (.int .i64 0) := (blk_cell BK274.out 0).trans rfl; have hcz5_1 : w3.cell? ⟨gb274, 1, none⟩ = some (.int .i64 0) := (blk_cell BK274.out 1).trans rfl; have hcz5_2 : w3.cell? ⟨gb274, 2, none⟩ = some (.int .i64 0) := (blk_cell BK274.out 2).trans rfl; have hcz5_3 : w3.cell? ⟨gb274, 3, none⟩ = some (.int .i64 0) := (blk_cell BK274.out 3).trans rfl; have hfz5_0 := blk_frozen BK274.out 0; have hfz5_1 := blk_frozen BK274.out 1; have hfz5_2 := blk_frozen BK274.out 2; have hfz5_3 := blk_frozen BK274.out 3))
  go_loopg [4] k (fun kq v4 w' => ∃ (x4_1 : Int) (x274000_1 : Int) (x274001_1 : Int) (x274002_1 : Int) (x274003_1 : Int) (x275000_1 : Int) (x275001_1 : Int) (x275002_1 : Int) (x275003_1 : Int), v4 = .int .i64 x4_1 ∧ Aside0 (spec_BoxOf.l0 kq l0 x4_1 x275000_1 x275001_1 x275002_1 x275003_1 = some (r1, r2, r3, r4)) ∧ Aside0 (kq ≤ k) ∧ Aside0 (w'.heap[gb273]? = some (.cells #[.int .i64 x274000_1, .int .i64 x274001_1, .int .i64 x274002_1, .int .i64 x274003_1] 39 (0, 0))) ∧ Aside0 (w'.heap[gb274]? = some (.cells #[.int .i64 x275000_1, .int .i64 x275001_1, .int .i64 x275002_1, .int .i64 x275003_1] 39 (0, 0))) ∧ Aside0 (Below w.heap.size w w'))
  case atStart => exact ⟨(0), (0), (0), (0), (0), (0), (0), (0), (0), (by first | rfl | (simp; done) | (simp [*]; done)), H', ⟨Nat.le_refl _⟩, ⟨kS⟩, ⟨kS⟩, ⟨bS⟩⟩
  case round =>
    clear H'
    try clear c1
    try clear p2
    try clear c4
    try clear hcz5_0
    try clear hcz5_1
    try clear hcz5_2
    try clear hcz5_3
    try clear hfz5_0
    try clear hfz5_1
    try clear hfz5_2
    try clear hfz5_3
    obtain ⟨x4_1, x274000_1, x274001_1, x274002_1, x274003_1, x275000_1, x275001_1, x275002_1, x275003_1, rfl, HA, HK1, BK273, BK274, HB⟩ := hrel
    cases gk with
    | zero => exact absurd HA.out (by simp [spec_BoxOf.l0])
    | succ k1 =>
      have H := HA.out
      clear HA
      simp only [spec_BoxOf.l0] at H
      by_cases c6 : x4_1 < (l0.length : Int)
      · rw [if_pos c6] at H
        have c6b0 : decide (x4_1 < (l0.length : Int)) = true := decide_eq_true c6
        clear c6
        by_cases c7 : 0 ≤ x4_1
        · rw [if_pos c7] at H
          have c7b0 : decide (0 ≤ x4_1) = true := decide_eq_true c7
          clear c7
          replace H := bN H
          obtain ⟨t277, A8, H⟩ := H
          by_cases c9 : t277 = true
          · subst c9
            rw [if_pos rfl] at H
            by_cases c10 : x4_1 = 0
            · rw [if_pos c10] at H
              have c10b0 : (x4_1 == 0) = true := beq_iff_eq.mpr c10
              have c10b1 : (x4_1 != 0) = false := bne_eq_false_iff_eq.mpr c10
              clear c10
              have H' := Aside0.mk H
              clear H
              have p275 : 0 ≤ (x4_1 : Int) := of_decide_eq_true (by first | (with_reducible assumption) | assumption)
              have q275 : x4_1 < (l0.length : Int) := of_decide_eq_true (by first | (with_reducible assumption) | assumption)
              obtain ⟨ad275, e275, hx275_0, hx275_1⟩ := at_T166 HR0.out x4_1 p275 q275
              cases e275
              replace hx275_0 := (HB.out.cell (World.block_lt_of_cell? w _ hx275_0)).trans hx275_0
              replace hx275_1 := (HB.out.cell (World.block_lt_of_cell? w _ hx275_1)).trans hx275_1
              replace p275 := eq_true p275
              replace q275 := eq_true q275
              go_wp2_with (first | ((with_reducible refine gD 5 ?_); refine bxE #[.int .i64 0, .int .i64 0] 166 ?_; intro gb276 hg w11 BK276 hb; have GW276 := gE hg; have GE276 := gE hg; have NB273_276 := nL (g := gb273) hg; have NB276_273 := nG (g := gb273) hg; have NB274_276 := nL (g := gb274) hg; have NB276_274 := nG (g := gb274) hg; replace BK273 := kB (g := gb273) hb; replace BK274 := kB (g := gb274) hb; replace HB := hB hb; clear hb hg; have hnb12 := NB276_273.out; have hnc12 := NB273_276.out; have hnb13 := NB276_274.out; have hnc13 := NB274_276.out; have hz14 := cz2 BK276) | ((with_reducible refine gC 186 ?_); refine cL (some 18) Try.func186 #[.agg #[.int .i64 ((rd_T166 l0 x4_1).f0), .int .i64 ((rd_T166 l0 x4_1).f1)]] ?_; (with_reducible refine (spec_PointOk.calls ((rd_T166 l0 x4_1).f0) ((rd_T166 l0 x4_1).f1) _ _ A8.out).mono ?_); rintro e w15 ⟨rfl, hb⟩; refine ⟨_, rfl, ?_⟩; replace BK273 := kB (g := gb273) hb; replace BK274 := kB (g := gb274) hb; replace BK276 := Aside0.mk (blk_below (g := gb276) (o := .cells #[.int .i64 ((rd_T166 l0 x4_1).f0), .int .i64 ((rd_T166 l0 x4_1).f1)] 166 (0, 0)) kS hb); replace HB := hB hb; (try clear hb); (try clear hb2); (try clear hk); (try clear hi); have hz16 := cz2 BK276; have hnb17 := NB274_273.out; have hnc17 := NB273_274.out; have hz18 := cz4 BK274))
              go_roundg k1
              case measure => have := HK1.out; omega
              case rel => exact ⟨(wrap64 (x4_1 + 1)), (x274000_1), (x274001_1), (x274002_1), (x274003_1), ((rd_T166 l0 x4_1).f0), ((rd_T166 l0 x4_1).f1), ((rd_T166 l0 x4_1).f0), ((rd_T166 l0 x4_1).f1), (by first | rfl | (simp; done) | (simp [*]; done)), H', ⟨by have := HK1.out; omega⟩, ⟨kS⟩, ⟨kS⟩, ⟨bS⟩⟩
            · rw [if_neg c10] at H
              have c10b0 : (x4_1 == 0) = false := beq_eq_false_iff_ne.mpr c10
              have c10b1 : (x4_1 != 0) = true := bne_iff_ne.mpr c10
              obtain ⟨ji19, hji19⟩ : ∃ j_ : Int, (mn x275000_1 ((rd_T166 l0 x4_1).f0)) = j_ := ⟨_, rfl⟩
              replace H : (spec_BoxOf.l0 k1 l0 (wrap64 (x4_1 + 1)) ji19 (mn x275001_1 ((rd_T166 l0 x4_1).f1)) (mx x275002_1 ((rd_T166 l0 x4_1).f0)) (mx x275003_1 ((rd_T166 l0 x4_1).f1))) = some (r1, r2, r3, r4) := by first | (rw [hji19] at H; exact H) | (simp only [hji19] at H ⊢; exact H)
              (try rw [hji19] at A8)
              have hji19_ : (if ((rd_T166 l0 x4_1).f0) < x275000_1 then ((rd_T166 l0 x4_1).f0) else x275000_1) = ji19 := hji19
              obtain ⟨ji20, hji20⟩ : ∃ j_ : Int, (mn x275001_1 ((rd_T166 l0 x4_1).f1)) = j_ := ⟨_, rfl⟩
              replace H : (spec_BoxOf.l0 k1 l0 (wrap64 (x4_1 + 1)) ji19 ji20 (mx x275002_1 ((rd_T166 l0 x4_1).f0)) (mx x275003_1 ((rd_T166 l0 x4_1).f1))) = some (r1, r2, r3, r4) := by first | (rw [hji20] at H; exact H) | (simp only [hji20] at H ⊢; exact H)
              (try rw [hji20] at A8)
              have hji20_ : (if ((rd_T166 l0 x4_1).f1) < x275001_1 then ((rd_T166 l0 x4_1).f1) else x275001_1) = ji20 := hji20
              obtain ⟨ji21, hji21⟩ : ∃ j_ : Int, (mx x275002_1 ((rd_T166 l0 x4_1).f0)) = j_ := ⟨_, rfl⟩
              replace H : (spec_BoxOf.l0 k1 l0 (wrap64 (x4_1 + 1)) ji19 ji20 ji21 (mx x275003_1 ((rd_T166 l0 x4_1).f1))) = some (r1, r2, r3, r4) := by first | (rw [hji21] at H; exact H) | (simp only [hji21] at H ⊢; exact H)
              (try rw [hji21] at A8)
              have hji21_ : (if x275002_1 < ((rd_T166 l0 x4_1).f0) then ((rd_T166 l0 x4_1).f0) else x275002_1) = ji21 := hji21
              obtain ⟨ji22, hji22⟩ : ∃ j_ : Int, (mx x275003_1 ((rd_T166 l0 x4_1).f1)) = j_ := ⟨_, rfl⟩
              replace H : (spec_BoxOf.l0 k1 l0 (wrap64 (x4_1 + 1)) ji19 ji20 ji21 ji22) = some (r1, r2, r3, r4) := by first | (rw [hji22] at H; exact H) | (simp only [hji22] at H ⊢; exact H)
              (try rw [hji22] at A8)
              have hji22_ : (if x275003_1 < ((rd_T166 l0 x4_1).f1) then ((rd_T166 l0 x4_1).f1) else x275003_1) = ji22 := hji22
              have H' := Aside0.mk H
              clear H
              have p275 : 0 ≤ (x4_1 : Int) := of_decide_eq_true (by first | (with_reducible assumption) | assumption)
              have q275 : x4_1 < (l0.length : Int) := of_decide_eq_true (by first | (with_reducible assumption) | assumption)
              obtain ⟨ad275, e275, hx275_0, hx275_1⟩ := at_T166 HR0.out x4_1 p275 q275
              cases e275
              replace hx275_0 := (HB.out.cell (World.block_lt_of_cell? w _ hx275_0)).trans hx275_0
              replace hx275_1 := (HB.out.cell (World.block_lt_of_cell? w _ hx275_1)).trans hx275_1
              replace p275 := eq_true p275
              replace q275 := eq_true q275
              go_wp2_with (first | ((with_reducible refine gD 5 ?_); refine bxE #[.int .i64 0, .int .i64 0] 166 ?_; intro gb276 hg w23 BK276 hb; have GW276 := gE hg; have GE276 := gE hg; have NB273_276 := nL (g := gb273) hg; have NB276_273 := nG (g := gb273) hg; have NB274_276 := nL (g := gb274) hg; have NB276_274 := nG (g := gb274) hg; replace BK273 := kB (g := gb273) hb; replace BK274 := kB (g := gb274) hb; replace HB := hB hb; clear hb hg; have hnb24 := NB276_273.out; have hnc24 := NB273_276.out; have hnb25 := NB276_274.out; have hnc25 := NB274_276.out; have hz26 := cz2 BK276) | ((with_reducible refine gC 186 ?_); refine cL (some 18) Try.func186 #[.agg #[.int .i64 ((rd_T166 l0 x4_1).f0), .int .i64 ((rd_T166 l0 x4_1).f1)]] ?_; (with_reducible refine (spec_PointOk.calls ((rd_T166 l0 x4_1).f0) ((rd_T166 l0 x4_1).f1) _ _ A8.out).mono ?_); rintro e w27 ⟨rfl, hb⟩; refine ⟨_, rfl, ?_⟩; replace BK273 := kB (g := gb273) hb; replace BK274 := kB (g := gb274) hb; replace BK276 := Aside0.mk (blk_below (g := gb276) (o := .cells #[.int .i64 ((rd_T166 l0 x4_1).f0), .int .i64 ((rd_T166 l0 x4_1).f1)] 166 (0, 0)) kS hb); replace HB := hB hb; (try clear hb); (try clear hb2); (try clear hk); (try clear hi); have hnb28 := NB274_273.out; have hnc28 := NB273_274.out; have hz29 := cz4 BK274; have hz30 := cz2 BK276))
              go_roundg k1
              case measure => have := HK1.out; omega
              case rel => exact ⟨(wrap64 (x4_1 + 1)), (x274000_1), (x274001_1), (x274002_1), (x274003_1), (ji19), (ji20), (ji21), (ji22), (by first | rfl | (simp; done) | (simp [*]; done)), H', ⟨by have := HK1.out; omega⟩, ⟨kS⟩, ⟨kS⟩, ⟨bS⟩⟩
          · obtain rfl := Bool.eq_false_iff.mpr c9
            rw [if_neg nF] at H
            simp only [Option.some.injEq, Prod.mk.injEq] at H
            obtain ⟨rfl, rfl, rfl, rfl⟩ := H
            have p275 : 0 ≤ (x4_1 : Int) := of_decide_eq_true (by first | (with_reducible assumption) | assumption)
            have q275 : x4_1 < (l0.length : Int) := of_decide_eq_true (by first | (with_reducible assumption) | assumption)
            obtain ⟨ad275, e275, hx275_0, hx275_1⟩ := at_T166 HR0.out x4_1 p275 q275
            cases e275
            replace hx275_0 := (HB.out.cell (World.block_lt_of_cell? w _ hx275_0)).trans hx275_0
            replace hx275_1 := (HB.out.cell (World.block_lt_of_cell? w _ hx275_1)).trans hx275_1
            replace p275 := eq_true p275
            replace q275 := eq_true q275
            go_wp2_with (first | ((with_reducible refine gD 5 ?_); refine bxE #[.int .i64 0, .int .i64 0] 166 ?_; intro gb276 hg w31 BK276 hb; have GW276 := gE hg; have GE276 := gE hg; have NB273_276 := nL (g := gb273) hg; have NB276_273 := nG (g := gb273) hg; have NB274_276 := nL (g := gb274) hg; have NB276_274 := nG (g := gb274) hg; replace BK273 := kB (g := gb273) hb; replace BK274 := kB (g := gb274) hb; replace HB := hB hb; clear hb hg; have hnb32 := NB276_273.out; have hnc32 := NB273_276.out; have hnb33 := NB276_274.out; have hnc33 := NB274_276.out; have hz34 := cz2 BK276) | ((with_reducible refine gC 186 ?_); refine cL (some 18) Try.func186 #[.agg #[.int .i64 ((rd_T166 l0 x4_1).f0), .int .i64 ((rd_T166 l0 x4_1).f1)]] ?_; (with_reducible refine (spec_PointOk.calls ((rd_T166 l0 x4_1).f0) ((rd_T166 l0 x4_1).f1) _ _ A8.out).mono ?_); rintro e w35 ⟨rfl, hb⟩; refine ⟨_, rfl, ?_⟩; replace BK273 := kB (g := gb273) hb; replace BK274 := kB (g := gb274) hb; replace BK276 := Aside0.mk (blk_below (g := gb276) (o := .cells #[.int .i64 ((rd_T166 l0 x4_1).f0), .int .i64 ((rd_T166 l0 x4_1).f1)] 166 (0, 0)) kS hb); replace HB := hB hb; (try clear hb); (try clear hb2); (try clear hk); (try clear hi); have hnb36 := NB273_274.out; have hnc36 := NB274_273.out; have hz37 := cz4 BK273))
            refine bodyPost_ret (results_cell_row rfl _ _ gb273 39 #[.int .i64 0, .int .i64 0, .int .i64 0, .int .i64 0] (0, 0) _ rfl kS Try.underlying39 rfl (by kernel_rfl)) rfl ?_
            exact ⟨eS, bS⟩
        · rw [if_neg c7] at H
          exact absurd H (by simp)
      · rw [if_neg c6] at H
        have c6b0 : decide (x4_1 < (l0.length : Int)) = false := decide_eq_false c6
        clear c6
        simp only [Option.some.injEq, Prod.mk.injEq] at H
        obtain ⟨rfl, rfl, rfl, rfl⟩ := H
        have hnb38 := NB274_273.out
        have hnc38 := NB273_274.out
        have hz39 := cz4 BK274
        have hz40 := cz4 BK273
        go_wp2
        refine bodyPost_ret (results_cell_row rfl _ _ gb273 39 #[.int .i64 x275000_1, .int .i64 x275001_1, .int .i64 x275002_1, .int .i64 x275003_1] (0, 0) _ rfl kS Try.underlying39 rfl (by kernel_rfl)) rfl ?_
        exact ⟨eS, bS⟩

/-! ### spec_ObjectBox: function 154 -/
def spec_ObjectBox.f (k : Nat) (l0_0 : List (S166)) (a0_1 : Int) (a0_2 : Int) (a0_3 : Int) (a0_4 : Int) (a0_5 : Int) : Option (Int × Int × Int × Int) := (spec_ObjectOk.f k l0_0 a0_1 a0_2 a0_3 a0_4 a0_5).bind fun t280 => (if t280 = true then ((spec_BoxOf.f k l0_0).bind fun bt281 => ((spec_MeetBox.f bt281.1 bt281.2.1 bt281.2.2.1 bt281.2.2.2 a0_2 a0_3 a0_4 a0_5).bind fun bt285 => ((spec_l07Full.f).bind fun bt289 => ((spec_MeetBox.f bt285.1 bt285.2.1 bt285.2.2.1 bt285.2.2.2 bt289.1 bt289.2.1 bt289.2.2.1 bt289.2.2.2).bind fun bt293 => (some (bt293.1, bt293.2.1, bt293.2.2.1, bt293.2.2.2)))))) else (some (0, 0, 0, 0)))
def spec_ObjectBox.T3 : Bool × List (List Nat × List Nat) := (true, [([], []), ([0], [0]), ([1], [1]), ([], []), ([3], [3]), ([2, 4, 2], [2, 4]), ([5], []), ([5, 6, 6], [5, 6]), ([7, 7, 0, 1, 2, 3, 4, 5, 6, 7], [7])])
def spec_ObjectBox.B3 : List Nat := [0, 1, 3, 0, 8, 31, 63, 127, 255]
theorem spec_ObjectBox.tab3 : rtab .any (opsOf Try.f154 3) = spec_ObjectBox.T3 := by kernel_rfl
theorem spec_ObjectBox.bits3 : waitsOk spec_ObjectBox.T3.2 spec_ObjectBox.B3 = true := by kernel_rfl
theorem spec_ObjectBox.calls (k : Nat) (A0_0 : Option Addr) (c0_0 : Nat) (l0_0 : List (S166)) (a0_1 : Int) (a0_2 : Int) (a0_3 : Int) (a0_4 : Int) (a0_5 : Int) (r1 : Int) (r2 : Int) (r3 : Int) (r4 : Int) (w : World) (hr0_0 : Kd.C k166 w A0_0 l0_0.length l0_0) (hc0_0 : l0_0.length ≤ c0_0) (h : spec_ObjectBox.f k l0_0 a0_1 a0_2 a0_3 a0_4 a0_5 = some (r1, r2, r3, r4)) :
    Calls Try.prog 154 #[.agg #[.slice A0_0 l0_0.length c0_0, .int .i64 a0_1, .int .i64 a0_2, .int .i64 a0_3, .int .i64 a0_4, .int .i64 a0_5]] w fun e w' => e = .returned (.agg #[.int .i64 r1, .int .i64 r2, .int .i64 r3, .int .i64 r4]) ∧ Below w.heap.size w w' := by
  have hu41 := Try.underlying41
  have hu39 := Try.underlying39
  have HR0_0 := Aside0.mk hr0_0
  have HC0_0 := Aside0.mk hc0_0
  clear hr0_0 hc0_0
  have HB := Aside0.mk (Below.refl w.heap.size w)
  have H : ((spec_ObjectOk.f k l0_0 a0_1 a0_2 a0_3 a0_4 a0_5).bind fun t280 => (if t280 = true then ((spec_BoxOf.f k l0_0).bind fun bt281 => ((spec_MeetBox.f bt281.1 bt281.2.1 bt281.2.2.1 bt281.2.2.2 a0_2 a0_3 a0_4 a0_5).bind fun bt285 => ((spec_l07Full.f).bind fun bt289 => ((spec_MeetBox.f bt285.1 bt285.2.1 bt285.2.2.1 bt285.2.2.2 bt289.1 bt289.2.1 bt289.2.2.1 bt289.2.2.2).bind fun bt293 => (some (bt293.1, bt293.2.1, bt293.2.2.1, bt293.2.2.2)))))) else (some (0, 0, 0, 0)))) = some (r1, r2, r3, r4) := h
  clear h
  replace H := bN H
  obtain ⟨t280, A2, H⟩ := H
  by_cases c3 : t280 = true
  · subst c3
    rw [if_pos rfl] at H
    replace H := bN H
    obtain ⟨⟨t281, t282, t283, t284⟩, A4, H⟩ := H
    replace H := bN H
    obtain ⟨⟨t285, t286, t287, t288⟩, A5, H⟩ := H
    replace H := bN H
    obtain ⟨⟨t289, t290, t291, t292⟩, A6, H⟩ := H
    replace H := bN H
    obtain ⟨⟨t293, t294, t295, t296⟩, A7, H⟩ := H
    simp only [Option.some.injEq, Prod.mk.injEq] at H
    obtain ⟨rfl, rfl, rfl, rfl⟩ := H
    go_enter Try.func154, Try.ntmps154
    try go_wp2_with (first | ((with_reducible refine gD 1 ?_); refine bxE #[.slice A0_0 l0_0.length c0_0, .int .i64 a0_1, .int .i64 a0_2, .int .i64 a0_3, .int .i64 a0_4, .int .i64 a0_5] 41 ?_; intro gb278 hg w8 BK278 hb; have GW278 := gE hg; have GE278 := gE hg; replace HB := hB hb; clear hb hg) | ((with_reducible refine gD 2 ?_); refine bxE #[.int .i64 0, .int .i64 0, .int .i64 0, .int .i64 0] 39 ?_; intro gb279 hg w9 BK279 hb; have GW279 := gE hg; have GE279 := gE hg; have NB278_279 := nL (g := gb278) hg; have NB279_278 := nG (g := gb278) hg; replace BK278 := kB (g := gb278) hb; replace HB := hB hb; clear hb hg; have hnb10 := NB278_279.out; have hnc10 := NB279_278.out; have hz11 := cz6 BK278) | ((with_reducible refine gC 177 ?_); refine cL (some 4) Try.func177 #[.agg #[.slice A0_0 l0_0.length c0_0, .int .i64 a0_1, .int .i64 a0_2, .int .i64 a0_3, .int .i64 a0_4, .int .i64 a0_5]] ?_; (with_reducible refine (spec_ObjectOk.calls k _ _ l0_0 a0_1 a0_2 a0_3 a0_4 a0_5 _ _ ?side1 ?side2 A2.out).mono ?_); (case side1 => exact cS (Kd.C_below HR0_0.out HB.out)); (case side2 => exact HC0_0.out); rintro e w12 ⟨rfl, hb⟩; refine ⟨_, rfl, ?_⟩; replace BK278 := kB (g := gb278) hb; replace BK279 := kB (g := gb279) hb; replace HB := hB hb; (try clear hb); (try clear hb2); (try clear hk); (try clear hi)))
    replace BK278 := Aside0.mk (blk_drew BK278.out)
    replace BK279 := Aside0.mk (blk_drew BK279.out)
    replace HB := Aside0.mk (below_drew1 HB.out)
    refine start_ (n := 9) (S := fun w' => w'.cell? ⟨gb278, 0, none⟩ = some (.slice A0_0 l0_0.length c0_0) ∧ w'.cell? ⟨gb278, 1, none⟩ = some (.int .i64 a0_1) ∧ w'.cell? ⟨gb278, 2, none⟩ = some (.int .i64 a0_2) ∧ w'.cell? ⟨gb278, 3, none⟩ = some (.int .i64 a0_3) ∧ w'.cell? ⟨gb278, 4, none⟩ = some (.int .i64 a0_4) ∧ w'.cell? ⟨gb278, 5, none⟩ = some (.int .i64 a0_5)) (ds := []) #[false, false, false, false, false, false, false, false, false] (by kernel_rfl) rfl rfl ⟨(blk_cell BK278.out 0).trans rfl, (blk_cell BK278.out 1).trans rfl, (blk_cell BK278.out 2).trans rfl, (blk_cell BK278.out 3).trans rfl, (blk_cell BK278.out 4).trans rfl, (blk_cell BK278.out 5).trans rfl⟩ (fun hHeld => ?_); refine with_tabW spec_ObjectBox.tab3 spec_ObjectBox.bits3 (fun HT_ HW_ => ?_)
    generalize w12.drew = w13 at BK278 BK279 HB hHeld ⊢
    refine pure_ (i := 0) (N := some 7) (v := ?_) (a' := ?_) #[true, false, false, false, false, false, false, false, false] rfl rfl (any_of HT_.out (by kernel_rfl)) (fun _ _ _ h => h) (Or.inl ⟨by rfl, ?_⟩) ?_ ?_
    rotate_left
    · intro w'
      go_simp
      with_reducible rfl
    rotate_left
    · simp only [Act.put, List.setIfInBounds_toArray, List.set_cons_zero, List.set_cons_succ, i64_w, i32_w]
      rfl
    refine pure_ (i := 3) (N := some 10) (v := ?_) (a' := ?_) #[true, false, false, true, false, false, false, false, false] rfl rfl (any_of HT_.out (by kernel_rfl)) (fun _ _ _ h => h) (Or.inl ⟨by rfl, ?_⟩) ?_ ?_
    rotate_left
    · intro w'
      go_simp
      with_reducible rfl
    rotate_left
    · simp only [Act.put, List.setIfInBounds_toArray, List.set_cons_zero, List.set_cons_succ, i64_w, i32_w]
      rfl
    refine take_ (i := 1) (N := some 8) (v := ?_) (a' := ?_) #[true, true, false, true, false, false, false, false, false] rfl rfl (take_ofW HT_.out HW_.out (by kernel_rfl)) (fun _ _ _ h => h) (Or.inl ⟨by rfl, ?_⟩) hHeld ?_ ?_
    rotate_left
    · rintro w' ⟨s0, s1, s2, s3, s4, s5⟩
      go_simp
      with_reducible rfl
    rotate_left
    · simp only [Act.put, List.setIfInBounds_toArray, List.set_cons_zero, List.set_cons_succ, i64_w, i32_w]
      rfl
    refine take_ (i := 4) (N := some 11) (v := ?_) (a' := ?_) #[true, true, false, true, true, false, false, false, false] rfl rfl (take_ofW HT_.out HW_.out (by kernel_rfl)) (fun _ _ _ h => h) (Or.inl ⟨by rfl, ?_⟩) hHeld ?_ ?_
    rotate_left
    · rintro w' ⟨s0, s1, s2, s3, s4, s5⟩
      go_simp
      with_reducible rfl
    rotate_left
    · simp only [Act.put, List.setIfInBounds_toArray, List.set_cons_zero, List.set_cons_succ, i64_w, i32_w]
      rfl
    refine one_ (i := 2) (N := some 9) #[true, true, true, true, true, false, false, false, false] rfl rfl (one_of HT_.out (by kernel_rfl)) (by decide) (fun K hK => ?_)
    refine goes_ Try.func179 (by kernel_rfl) rfl #[.slice A0_0 l0_0.length c0_0] (by rfl) rfl rfl (by (try simp only [List.map_toArray, List.map_cons, List.map_nil]); first | done | rfl | (simp only [List.length_drop, List.length_take]; rfl)) ?_
    with_reducible refine (spec_BoxOf.calls k _ _ l0_0 t281 t282 t283 t284 _ ?side1 ?side2 A4.out).mono ?_
    (case side1 => exact cS (Kd.C_below HR0_0.out HB.out))
    (case side2 => exact HC0_0.out)
    rintro e w14 ⟨rfl, hb⟩
    refine ⟨_, rfl, ?_⟩
    replace BK278 := kB (g := gb278) hb
    replace BK279 := kB (g := gb279) hb
    replace HB := hB hb
    (try clear hb)
    (try clear hb2)
    (try clear hk)
    (try clear hi)
    refine hK.out _ _ ⟨(blk_cell BK278.out 0).trans rfl, (blk_cell BK278.out 1).trans rfl, (blk_cell BK278.out 2).trans rfl, (blk_cell BK278.out 3).trans rfl, (blk_cell BK278.out 4).trans rfl, (blk_cell BK278.out 5).trans rfl⟩ (fun hHeld => ?_)
    clear hK K
    refine norm_ (a' := ?_) ?_ ?_
    rotate_left
    · show Act.put _ (some 9) _ = _
      simp only [Act.put, List.setIfInBounds_toArray, List.set_cons_zero, List.set_cons_succ, i64_w, i32_w]
      rfl
    refine one_ (i := 5) (N := some 12) #[true, true, true, true, true, true, false, false, false] rfl rfl (one_of HT_.out (by kernel_rfl)) (by decide) (fun K hK => ?_)
    refine goes_ Try.func178 (by kernel_rfl) rfl #[.agg #[.int .i64 t281, .int .i64 t282, .int .i64 t283, .int .i64 t284], .agg #[.int .i64 a0_2, .int .i64 a0_3, .int .i64 a0_4, .int .i64 a0_5]] (by rfl) rfl rfl (by (try simp only [List.map_toArray, List.map_cons, List.map_nil]); first | done | rfl | (simp only [List.length_drop, List.length_take]; rfl)) ?_
    with_reducible refine (spec_MeetBox.calls t281 t282 t283 t284 a0_2 a0_3 a0_4 a0_5 t285 t286 t287 t288 _ A5.out).mono ?_
    rintro e w15 ⟨rfl, hb⟩
    refine ⟨_, rfl, ?_⟩
    replace BK278 := kB (g := gb278) hb
    replace BK279 := kB (g := gb279) hb
    replace HB := hB hb
    (try clear hb)
    (try clear hb2)
    (try clear hk)
    (try clear hi)
    refine hK.out _ _ ⟨(blk_cell BK278.out 0).trans rfl, (blk_cell BK278.out 1).trans rfl, (blk_cell BK278.out 2).trans rfl, (blk_cell BK278.out 3).trans rfl, (blk_cell BK278.out 4).trans rfl, (blk_cell BK278.out 5).trans rfl⟩ (fun hHeld => ?_)
    clear hK K
    refine norm_ (a' := ?_) ?_ ?_
    rotate_left
    · show Act.put _ (some 12) _ = _
      simp only [Act.put, List.setIfInBounds_toArray, List.set_cons_zero, List.set_cons_succ, i64_w, i32_w]
      rfl
    refine one_ (i := 6) (N := some 13) #[true, true, true, true, true, true, true, false, false] rfl rfl (one_of HT_.out (by kernel_rfl)) (by decide) (fun K hK => ?_)
    refine goes_ Try.func146 (by kernel_rfl) rfl #[] (by rfl) rfl rfl (by (try simp only [List.map_toArray, List.map_cons, List.map_nil]); first | done | rfl | (simp only [List.length_drop, List.length_take]; rfl)) ?_
    with_reducible refine (spec_l07Full.calls  t289 t290 t291 t292 _ A6.out).mono ?_
    rintro e w16 ⟨rfl, hb⟩
    refine ⟨_, rfl, ?_⟩
    replace BK278 := kB (g := gb278) hb
    replace BK279 := kB (g := gb279) hb
    replace HB := hB hb
    (try clear hb)
    (try clear hb2)
    (try clear hk)
    (try clear hi)
    refine hK.out _ _ ⟨(blk_cell BK278.out 0).trans rfl, (blk_cell BK278.out 1).trans rfl, (blk_cell BK278.out 2).trans rfl, (blk_cell BK278.out 3).trans rfl, (blk_cell BK278.out 4).trans rfl, (blk_cell BK278.out 5).trans rfl⟩ (fun hHeld => ?_)
    clear hK K
    refine norm_ (a' := ?_) ?_ ?_
    rotate_left
    · show Act.put _ (some 13) _ = _
      simp only [Act.put, List.setIfInBounds_toArray, List.set_cons_zero, List.set_cons_succ, i64_w, i32_w]
      rfl
    refine one_ (i := 7) (N := some 14) #[true, true, true, true, true, true, true, true, false] rfl rfl (one_of HT_.out (by kernel_rfl)) (by decide) (fun K hK => ?_)
    refine goes_ Try.func178 (by kernel_rfl) rfl #[.agg #[.int .i64 t285, .int .i64 t286, .int .i64 t287, .int .i64 t288], .agg #[.int .i64 t289, .int .i64 t290, .int .i64 t291, .int .i64 t292]] (by rfl) rfl rfl (by (try simp only [List.map_toArray, List.map_cons, List.map_nil]); first | done | rfl | (simp only [List.length_drop, List.length_take]; rfl)) ?_
    with_reducible refine (spec_MeetBox.calls t285 t286 t287 t288 t289 t290 t291 t292 t293 t294 t295 t296 _ A7.out).mono ?_
    rintro e w17 ⟨rfl, hb⟩
    refine ⟨_, rfl, ?_⟩
    replace BK278 := kB (g := gb278) hb
    replace BK279 := kB (g := gb279) hb
    replace HB := hB hb
    (try clear hb)
    (try clear hb2)
    (try clear hk)
    (try clear hi)
    refine hK.out _ _ ⟨(blk_cell BK278.out 0).trans rfl, (blk_cell BK278.out 1).trans rfl, (blk_cell BK278.out 2).trans rfl, (blk_cell BK278.out 3).trans rfl, (blk_cell BK278.out 4).trans rfl, (blk_cell BK278.out 5).trans rfl⟩ (fun hHeld => ?_)
    clear hK K
    refine norm_ (a' := ?_) ?_ ?_
    rotate_left
    · show Act.put _ (some 14) _ = _
      simp only [Act.put, List.setIfInBounds_toArray, List.set_cons_zero, List.set_cons_succ, i64_w, i32_w]
      rfl
    refine one_ (i := 8) (N := none) #[true, true, true, true, true, true, true, true, true] rfl rfl (one_of HT_.out (by kernel_rfl)) (by decide) (fun K hK => ?_)
    have hs18 : w17.cell? ⟨gb279, 0, none⟩ = some (.int .i64 0) := (blk_cell BK279.out 0).trans rfl
    have hfs18 := blk_frozen BK279.out 0
    have hns18_0 := NB278_279.out
    have hms18_0 := NB279_278.out
    have hs19 : w17.cell? ⟨gb279, 1, none⟩ = some (.int .i64 0) := (blk_cell BK279.out 1).trans rfl
    have hfs19 := blk_frozen BK279.out 1
    have hns19_0 := NB278_279.out
    have hms19_0 := NB279_278.out
    have hs20 : w17.cell? ⟨gb279, 2, none⟩ = some (.int .i64 0) := (blk_cell BK279.out 2).trans rfl
    have hfs20 := blk_frozen BK279.out 2
    have hns20_0 := NB278_279.out
    have hms20_0 := NB279_278.out
    have hs21 : w17.cell? ⟨gb279, 3, none⟩ = some (.int .i64 0) := (blk_cell BK279.out 3).trans rfl
    have hfs21 := blk_frozen BK279.out 3
    have hns21_0 := NB278_279.out
    have hms21_0 := NB279_278.out
    refine skip_ (w1 := ?_) (by rfl) rfl ?_ ?_
    rotate_left
    · go_simp
      rfl
    refine hK.out _ _ ⟨((cell_far (p := ⟨gb279, _, none⟩) NB278_279.out _).trans (((cell_far (p := ⟨gb279, _, none⟩) NB278_279.out _).trans (((cell_far (p := ⟨gb279, _, none⟩) NB278_279.out _).trans (((cell_far (p := ⟨gb279, _, none⟩) NB278_279.out _).trans (hHeld.1)))))))), ((cell_far (p := ⟨gb279, _, none⟩) NB278_279.out _).trans (((cell_far (p := ⟨gb279, _, none⟩) NB278_279.out _).trans (((cell_far (p := ⟨gb279, _, none⟩) NB278_279.out _).trans (((cell_far (p := ⟨gb279, _, none⟩) NB278_279.out _).trans (hHeld.2.1)))))))), ((cell_far (p := ⟨gb279, _, none⟩) NB278_279.out _).trans (((cell_far (p := ⟨gb279, _, none⟩) NB278_279.out _).trans (((cell_far (p := ⟨gb279, _, none⟩) NB278_279.out _).trans (((cell_far (p := ⟨gb279, _, none⟩) NB278_279.out _).trans (hHeld.2.2.1)))))))), ((cell_far (p := ⟨gb279, _, none⟩) NB278_279.out _).trans (((cell_far (p := ⟨gb279, _, none⟩) NB278_279.out _).trans (((cell_far (p := ⟨gb279, _, none⟩) NB278_279.out _).trans (((cell_far (p := ⟨gb279, _, none⟩) NB278_279.out _).trans (hHeld.2.2.2.1)))))))), ((cell_far (p := ⟨gb279, _, none⟩) NB278_279.out _).trans (((cell_far (p := ⟨gb279, _, none⟩) NB278_279.out _).trans (((cell_far (p := ⟨gb279, _, none⟩) NB278_279.out _).trans (((cell_far (p := ⟨gb279, _, none⟩) NB278_279.out _).trans (hHeld.2.2.2.2.1)))))))), ((cell_far (p := ⟨gb279, _, none⟩) NB278_279.out _).trans (((cell_far (p := ⟨gb279, _, none⟩) NB278_279.out _).trans (((cell_far (p := ⟨gb279, _, none⟩) NB278_279.out _).trans (((cell_far (p := ⟨gb279, _, none⟩) NB278_279.out _).trans (hHeld.2.2.2.2.2))))))))⟩ (fun hHeld => ?_)
    clear hK K
    refine done_ (done_of HT_.out (by kernel_rfl)) ?_
    try go_wp2
    refine bodyPost_ret (results_cell_row rfl _ _ gb279 39 #[.int .i64 t293, .int .i64 t294, .int .i64 t295, .int .i64 t296] (0, 0) _ rfl kS Try.underlying39 rfl (by kernel_rfl)) rfl ?_
    exact ⟨eS, bS⟩
  · obtain rfl := Bool.eq_false_iff.mpr c3
    rw [if_neg nF] at H
    simp only [Option.some.injEq, Prod.mk.injEq] at H
    obtain ⟨rfl, rfl, rfl, rfl⟩ := H
    go_enter Try.func154, Try.ntmps154
    go_wp2_with (first | ((with_reducible refine gD 1 ?_); refine bxE #[.slice A0_0 l0_0.length c0_0, .int .i64 a0_1, .int .i64 a0_2, .int .i64 a0_3, .int .i64 a0_4, .int .i64 a0_5] 41 ?_; intro gb278 hg w22 BK278 hb; have GW278 := gE hg; have GE278 := gE hg; replace HB := hB hb; clear hb hg) | ((with_reducible refine gD 2 ?_); refine bxE #[.int .i64 0, .int .i64 0, .int .i64 0, .int .i64 0] 39 ?_; intro gb279 hg w23 BK279 hb; have GW279 := gE hg; have GE279 := gE hg; have NB278_279 := nL (g := gb278) hg; have NB279_278 := nG (g := gb278) hg; replace BK278 := kB (g := gb278) hb; replace HB := hB hb; clear hb hg; have hnb24 := NB278_279.out; have hnc24 := NB279_278.out; have hz25 := cz6 BK278) | ((with_reducible refine gC 177 ?_); refine cL (some 4) Try.func177 #[.agg #[.slice A0_0 l0_0.length c0_0, .int .i64 a0_1, .int .i64 a0_2, .int .i64 a0_3, .int .i64 a0_4, .int .i64 a0_5]] ?_; (with_reducible refine (spec_ObjectOk.calls k _ _ l0_0 a0_1 a0_2 a0_3 a0_4 a0_5 _ _ ?side1 ?side2 A2.out).mono ?_); (case side1 => exact cS (Kd.C_below HR0_0.out HB.out)); (case side2 => exact HC0_0.out); rintro e w26 ⟨rfl, hb⟩; refine ⟨_, rfl, ?_⟩; replace BK278 := kB (g := gb278) hb; replace BK279 := kB (g := gb279) hb; replace HB := hB hb; (try clear hb); (try clear hb2); (try clear hk); (try clear hi); have hz27 := cz4 BK279))
    refine bodyPost_ret (results_cell_row rfl _ _ gb279 39 #[.int .i64 0, .int .i64 0, .int .i64 0, .int .i64 0] (0, 0) _ rfl kS Try.underlying39 rfl (by kernel_rfl)) rfl ?_
    exact ⟨eS, bS⟩

/-! ### spec_CountDots: function 162 -/
def spec_CountDots.f (a0_0 : Int) (a0_1 : Int) (a0_2 : Int) (a0_3 : Int) : Option (Int) := (spec_BoxOk.f a0_0 a0_1 a0_2 a0_3).bind fun t298 => (if t298 = true then (some (wrap64 ((wrap64 (a0_2 - a0_0)) * (wrap64 (a0_3 - a0_1))))) else (some 0))
theorem spec_CountDots.calls (a0_0 : Int) (a0_1 : Int) (a0_2 : Int) (a0_3 : Int) (r : Int) (w : World) (h : spec_CountDots.f a0_0 a0_1 a0_2 a0_3 = some r) :
    Calls Try.prog 162 #[.agg #[.int .i64 a0_0, .int .i64 a0_1, .int .i64 a0_2, .int .i64 a0_3]] w fun e w' => e = .returned (.int .i64 r) ∧ Below w.heap.size w w' := by
  have hu39 := Try.underlying39
  have HB := Aside0.mk (Below.refl w.heap.size w)
  have H : ((spec_BoxOk.f a0_0 a0_1 a0_2 a0_3).bind fun t298 => (if t298 = true then (some (wrap64 ((wrap64 (a0_2 - a0_0)) * (wrap64 (a0_3 - a0_1))))) else (some 0))) = some r := h
  clear h
  replace H := bN H
  obtain ⟨t298, A2, H⟩ := H
  by_cases c3 : t298 = true
  · subst c3
    rw [if_pos rfl] at H
    obtain rfl := Option.some.inj H
    go_enter Try.func162, Try.ntmps162
    go_wp2_with (first | ((with_reducible refine gD 1 ?_); refine bxE #[.int .i64 a0_0, .int .i64 a0_1, .int .i64 a0_2, .int .i64 a0_3] 39 ?_; intro gb297 hg w4 BK297 hb; have GW297 := gE hg; have GE297 := gE hg; replace HB := hB hb; clear hb hg; have hz5 := cz4 BK297) | ((with_reducible refine gC 170 ?_); refine cL (some 4) Try.func170 #[.agg #[.int .i64 a0_0, .int .i64 a0_1, .int .i64 a0_2, .int .i64 a0_3]] ?_; (with_reducible refine (spec_BoxOk.calls a0_0 a0_1 a0_2 a0_3 _ _ A2.out).mono ?_); rintro e w6 ⟨rfl, hb⟩; refine ⟨_, rfl, ?_⟩; replace BK297 := kB (g := gb297) hb; replace HB := hB hb; (try clear hb); (try clear hb2); (try clear hk); (try clear hi); have hz7 := cz4 BK297))
    go_ret
    exact ⟨eS, bS⟩
  · obtain rfl := Bool.eq_false_iff.mpr c3
    rw [if_neg nF] at H
    obtain rfl := Option.some.inj H
    go_enter Try.func162, Try.ntmps162
    go_wp2_with (first | ((with_reducible refine gD 1 ?_); refine bxE #[.int .i64 a0_0, .int .i64 a0_1, .int .i64 a0_2, .int .i64 a0_3] 39 ?_; intro gb297 hg w8 BK297 hb; have GW297 := gE hg; have GE297 := gE hg; replace HB := hB hb; clear hb hg; have hz9 := cz4 BK297) | ((with_reducible refine gC 170 ?_); refine cL (some 4) Try.func170 #[.agg #[.int .i64 a0_0, .int .i64 a0_1, .int .i64 a0_2, .int .i64 a0_3]] ?_; (with_reducible refine (spec_BoxOk.calls a0_0 a0_1 a0_2 a0_3 _ _ A2.out).mono ?_); rintro e w10 ⟨rfl, hb⟩; refine ⟨_, rfl, ?_⟩; replace BK297 := kB (g := gb297) hb; replace HB := hB hb; (try clear hb); (try clear hb2); (try clear hk); (try clear hi)))
    go_ret
    exact ⟨eS, bS⟩

end Go.Proofs.Ytimpejidlnjhlaa.QFnExactObjectsOfBand
