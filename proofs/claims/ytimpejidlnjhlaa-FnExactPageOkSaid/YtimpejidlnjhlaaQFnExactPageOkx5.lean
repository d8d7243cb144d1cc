-- Made out of the translation by a program of this session (a changed copy of the print). Not trusted: Lean checks it.
import Derived.Test.YtimpejidlnjhlaaQFnExactPageOkx0
import Derived.Test.YtimpejidlnjhlaaQFnExactPageOkx4
namespace Go.Proofs.Ytimpejidlnjhlaa.QFnExactPageOk
open Go.RowKit Go.Proofs.YtimpejidlnjhlaaW.PrintWords Go.Proofs.YtimpejidlnjhlaaW.PrintLast Go.Proofs.YtimpejidlnjhlaaW.PrintMore
attribute [local go_sem] max2_int min2_int max_two min_two max_three min_three max_four min_four   -- for this text's walks alone
set_option linter.unusedVariables false
set_option linter.unusedSimpArgs false
set_option maxHeartbeats 8000000
set_option maxRecDepth 100000

/-! ### impl_pointsOk: function 156 -/
def impl_pointsOk.l0 : Nat → List (S166) → Int → Int → Option (Bool)
 | 0, _, _, _ => none
 | k + 1, x5, x6, x7 => if x7 < x6 then (if 0 ≤ x7 then (if x7 < (x5.length : Int) then ((impl_PointOk.f ((rd_T166 x5 x7).f0) ((rd_T166 x5 x7).f1)).bind fun t264 => (if t264 = true then (impl_pointsOk.l0 k x5 x6 (wrap64 (x7 + 1))) else (some false))) else (none)) else (none)) else (some true)
def impl_pointsOk.f (k : Nat) (l0 : List (S166)) : Option (Bool) := impl_pointsOk.l0 k l0 (l0.length : Int) 0
theorem impl_pointsOk.calls (k : Nat) (A0 : Option Addr) (c0 : Nat) (l0 : List (S166)) (r : Bool) (w : World) (hr0 : Kd.C k166 w A0 l0.length l0) (hc0 : l0.length ≤ c0) (h : impl_pointsOk.f k l0 = some r) :
  Calls Try.prog 156 #[.slice A0 l0.length c0] w fun e w' => e = .returned (.bool r) ∧ Below w.heap.size w w' := by
 have hu166 := Try.underlying166
 have HR0 := Aside0.mk hr0
 have HC0 := Aside0.mk hc0
 clear hr0 hc0
 have HB := Aside0.mk (Below.refl w.heap.size w)
 have H : (impl_pointsOk.l0 k l0 (l0.length : Int) 0) = some r := h
 clear h
 have H' := Aside0.mk H
 clear H
 go_enter Try.func156, Try.ntmps156
 go_wp2
 go_loopg [7] k (fun kq v7 w' => ∃ (x7_1 : Int), v7 = .int .i64 x7_1 ∧ Aside0 (impl_pointsOk.l0 kq l0 (l0.length : Int) x7_1 = some r) ∧ Aside0 (kq ≤ k) ∧ Aside0 (Below w.heap.size w w'))
 case atStart => exact ⟨(0), fS, H', ⟨Nat.le_refl _⟩, ⟨bS⟩⟩
 case round =>
  clear H'
  try clear c1
  obtain ⟨x7_1, rfl, HA, HK1, HB⟩ := hrel
  cases gk with
  | zero => exact absurd HA.out (by simp [impl_pointsOk.l0])
  | succ k1 =>
   have H := HA.out
   clear HA
   simp only [impl_pointsOk.l0] at H
   rcases iD H with ⟨c2b0, H⟩ | ⟨c2b0, H⟩
   ·obtain ⟨c3b0, H⟩ := iT H
    obtain ⟨c4b0, H⟩ := iT H
    replace H := bN H
    obtain ⟨t264, A5, H⟩ := H
    by_cases c6 : t264 = true
    ·subst c6
     rw [if_pos rfl] at H
     have H' := Aside0.mk H
     clear H
     have p262 : 0 ≤ (x7_1 : Int) := dA
     have q262 : x7_1 < (l0.length : Int) := dA
     obtain ⟨ad262, e262, hx262_0, hx262_1⟩ := at_T166 HR0.out x7_1 p262 q262
     cases e262
     replace hx262_0 := cB HB hx262_0
     replace hx262_1 := cB HB hx262_1
     replace p262 := eq_true p262
     replace q262 := eq_true q262
     go_wp2_with (first | ((with_reducible refine gD 4 ?_); refine bxE #[.int .i64 0, .int .i64 0] 166 ?_; intro gb263 hg w7 BK263 hb; have GW263 := gE hg; have GE263 := gE hg; replace HB := hB hb; clear hb hg; have hz8 := cz2 BK263) | ((with_reducible refine gC 180 ?_); refine cL (some 12) Try.func180 #[.agg #[.int .i64 ((rd_T166 l0 x7_1).f0), .int .i64 ((rd_T166 l0 x7_1).f1)]] ?_; (with_reducible refine (impl_PointOk.calls ((rd_T166 l0 x7_1).f0) ((rd_T166 l0 x7_1).f1) _ _ A5.out).mono ?_); rintro e w9 ⟨rfl, hb⟩; refine ⟨_, rfl, ?_⟩; replace BK263 := Aside0.mk (blk_below (g := gb263) (o := .cells #[.int .i64 ((rd_T166 l0 x7_1).f0), .int .i64 ((rd_T166 l0 x7_1).f1)] 166 (0, 0)) kS hb); replace HB := hB hb; (try clear hb); (try clear hb2); (try clear hk); (try clear hi)))
     go_roundg k1
     case measure => have := HK1.out; omega
     case rel => exact ⟨(wrap64 (x7_1 + 1)), fS, H', ⟨by have := HK1.out; omega⟩, ⟨bS⟩⟩
    ·obtain rfl := Bool.eq_false_iff.mpr c6
     rw [if_neg nF] at H
     obtain rfl := Option.some.inj H
     have p262 : 0 ≤ (x7_1 : Int) := dA
     have q262 : x7_1 < (l0.length : Int) := dA
     obtain ⟨ad262, e262, hx262_0, hx262_1⟩ := at_T166 HR0.out x7_1 p262 q262
     cases e262
     replace hx262_0 := cB HB hx262_0
     replace hx262_1 := cB HB hx262_1
     replace p262 := eq_true p262
     replace q262 := eq_true q262
     go_wp2_with (first | ((with_reducible refine gD 4 ?_); refine bxE #[.int .i64 0, .int .i64 0] 166 ?_; intro gb263 hg w10 BK263 hb; have GW263 := gE hg; have GE263 := gE hg; replace HB := hB hb; clear hb hg; have hz11 := cz2 BK263) | ((with_reducible refine gC 180 ?_); refine cL (some 12) Try.func180 #[.agg #[.int .i64 ((rd_T166 l0 x7_1).f0), .int .i64 ((rd_T166 l0 x7_1).f1)]] ?_; (with_reducible refine (impl_PointOk.calls ((rd_T166 l0 x7_1).f0) ((rd_T166 l0 x7_1).f1) _ _ A5.out).mono ?_); rintro e w12 ⟨rfl, hb⟩; refine ⟨_, rfl, ?_⟩; replace BK263 := Aside0.mk (blk_below (g := gb263) (o := .cells #[.int .i64 ((rd_T166 l0 x7_1).f0), .int .i64 ((rd_T166 l0 x7_1).f1)] 166 (0, 0)) kS hb); replace HB := hB hb; (try clear hb); (try clear hb2); (try clear hk); (try clear hi)))
     go_ret
     exact ⟨eS, bS⟩
   ·obtain rfl := Option.some.inj H
    go_wp2
    go_ret
    exact ⟨eS, bS⟩

/-! ### impl_ObjectOk: function 107 -/
def impl_ObjectOk.f (k : Nat) (l0_0 : List (S166)) (a0_1 : Int) (a0_2 : Int) (a0_3 : Int) (a0_4 : Int) (a0_5 : Int) : Option (Bool) := (impl_within.f (l0_0.length : Int) 3 8).bind fun t266 => (if t266 = true then ((impl_pointsOk.f k l0_0).bind fun t267 => (if t267 = true then ((impl_within.f a0_1 0 255).bind fun t268 => (if t268 = true then ((impl_BoxOk.f a0_2 a0_3 a0_4 a0_5).bind fun t269 => (some t269)) else (some false))) else (some false))) else (some false))
theorem impl_ObjectOk.lf0 {p : Prop} (h : p := by
 go_enter Try.func107, Try.ntmps107
 go_wp2_with (first | ((with_reducible refine gD 1 ?_); refine bxE #[.slice A0_0 l0_0.length c0_0, .int .i64 a0_1, .int .i64 a0_2, .int .i64 a0_3, .int .i64 a0_4, .int .i64 a0_5] 41 ?_; intro gb265 hg w9 BK265 hb; have GW265 := gE hg; have GE265 := gE hg; replace HB := hB hb; clear hb hg; have hz10 := cz6 BK265) | ((with_reducible refine gC 101 ?_); refine cL (some 6) Try.func101 #[.int .i64 (l0_0.length : Int), .int .i64 3, .int .i64 8] ?_; (with_reducible refine (impl_within.calls (l0_0.length : Int) 3 8 _ _ A2.out).mono ?_); rintro e w' ⟨rfl, ⟨nd, rfl⟩⟩; refine ⟨_, rfl, ?_⟩) | (go_at_call 156; (with_reducible refine (impl_pointsOk.calls k _ _ l0_0 _ _ (cS (Kd.C_below HR0_0.out bS)) HC0_0.out A4.out).mono ?_); rintro e w11 ⟨rfl, hb⟩; replace BK265 := kB (g := gb265) hb; replace HB := hB hb; (try clear hb); (try clear hb2); (try clear hk); (try clear hi); have hz12 := cz6 BK265) | (go_at_call 101; (with_reducible refine (impl_within.calls a0_1 0 255 _ _ A6.out).mono ?_); rintro e w' ⟨rfl, ⟨nd, rfl⟩⟩) | (go_at_call 153; (with_reducible refine (impl_BoxOk.calls a0_2 a0_3 a0_4 a0_5 t269 _ A8.out).mono ?_); rintro e w13 ⟨rfl, hb⟩; replace BK265 := kB (g := gb265) hb; replace HB := hB hb; (try clear hb); (try clear hb2); (try clear hk); (try clear hi)))
 go_ret
 exact ⟨eS, bS⟩) : p := h
theorem impl_ObjectOk.calls (k : Nat) (A0_0 : Option Addr) (c0_0 : Nat) (l0_0 : List (S166)) (a0_1 : Int) (a0_2 : Int) (a0_3 : Int) (a0_4 : Int) (a0_5 : Int) (r : Bool) (w : World) (hr0_0 : Kd.C k166 w A0_0 l0_0.length l0_0) (hc0_0 : l0_0.length ≤ c0_0) (h : impl_ObjectOk.f k l0_0 a0_1 a0_2 a0_3 a0_4 a0_5 = some r) :
  Calls Try.prog 107 #[.agg #[.slice A0_0 l0_0.length c0_0, .int .i64 a0_1, .int .i64 a0_2, .int .i64 a0_3, .int .i64 a0_4, .int .i64 a0_5]] w fun e w' => e = .returned (.bool r) ∧ Below w.heap.size w w' := by
 have hu41 := Try.underlying41
 have hu39 := Try.underlying39
 have HR0_0 := Aside0.mk hr0_0
 have HC0_0 := Aside0.mk hc0_0
 clear hr0_0 hc0_0
 have HB := Aside0.mk (Below.refl w.heap.size w)
 have H : ((impl_within.f (l0_0.length : Int) 3 8).bind fun t266 => (if t266 = true then ((impl_pointsOk.f k l0_0).bind fun t267 => (if t267 = true then ((impl_within.f a0_1 0 255).bind fun t268 => (if t268 = true then ((impl_BoxOk.f a0_2 a0_3 a0_4 a0_5).bind fun t269 => (some t269)) else (some false))) else (some false))) else (some false))) = some r := h
 clear h
 replace H := bN H
 obtain ⟨t266, A2, H⟩ := H
 by_cases c3 : t266 = true
 ·subst c3
  rw [if_pos rfl] at H
  replace H := bN H
  obtain ⟨t267, A4, H⟩ := H
  by_cases c5 : t267 = true
  ·subst c5
   rw [if_pos rfl] at H
   replace H := bN H
   obtain ⟨t268, A6, H⟩ := H
   by_cases c7 : t268 = true
   ·subst c7
    rw [if_pos rfl] at H
    replace H := bN H
    obtain ⟨t269, A8, H⟩ := H
    obtain rfl := Option.some.inj H
    exact impl_ObjectOk.lf0
   ·obtain rfl := Bool.eq_false_iff.mpr c7
    rw [if_neg nF] at H
    obtain rfl := Option.some.inj H
    exact impl_ObjectOk.lf0
  ·obtain rfl := Bool.eq_false_iff.mpr c5
   rw [if_neg nF] at H
   obtain rfl := Option.some.inj H
   go_enter Try.func107, Try.ntmps107
   go_wp2_with (first | ((with_reducible refine gD 1 ?_); refine bxE #[.slice A0_0 l0_0.length c0_0, .int .i64 a0_1, .int .i64 a0_2, .int .i64 a0_3, .int .i64 a0_4, .int .i64 a0_5] 41 ?_; intro gb265 hg w18 BK265 hb; have GW265 := gE hg; have GE265 := gE hg; replace HB := hB hb; clear hb hg; have hz19 := cz6 BK265) | ((with_reducible refine gC 101 ?_); refine cL (some 6) Try.func101 #[.int .i64 (l0_0.length : Int), .int .i64 3, .int .i64 8] ?_; (with_reducible refine (impl_within.calls (l0_0.length : Int) 3 8 _ _ A2.out).mono ?_); rintro e w' ⟨rfl, ⟨nd, rfl⟩⟩; refine ⟨_, rfl, ?_⟩) | (go_at_call 156; (with_reducible refine (impl_pointsOk.calls k _ _ l0_0 _ _ (cS (Kd.C_below HR0_0.out bS)) HC0_0.out A4.out).mono ?_); rintro e w20 ⟨rfl, hb⟩; replace BK265 := kB (g := gb265) hb; replace HB := hB hb; (try clear hb); (try clear hb2); (try clear hk); (try clear hi)))
   go_ret
   exact ⟨eS, bS⟩
 ·obtain rfl := Bool.eq_false_iff.mpr c3
  rw [if_neg nF] at H
  obtain rfl := Option.some.inj H
  exact impl_ObjectOk.lf0

/-! ### impl_StackOk: function 173 -/
def impl_StackOk.l0 : Nat → List Int → Int → Int → Option (Bool)
 | 0, _, _, _ => none
 | k + 1, x8, x9, x10 => if x10 < x9 then (if 0 ≤ x10 then (if x10 < (x8.length : Int) then ((impl_within.f (rd x8 x10) (-9999) 9999).bind fun t271 => (if t271 = true then (impl_StackOk.l0 k x8 x9 (wrap64 (x10 + 1))) else (some false))) else (none)) else (none)) else (some true)
def impl_StackOk.f (k : Nat) (l0 : List Int) : Option (Bool) := if (l0.length : Int) > 12 then (some false) else (impl_StackOk.l0 k l0 (l0.length : Int) 0)
theorem impl_StackOk.calls (k : Nat) (A0 : Option Addr) (c0 : Nat) (l0 : List Int) (r : Bool) (w : World) (hr0 : Kd.C (Kd.int .i64) w A0 l0.length l0) (hc0 : l0.length ≤ c0) (h : impl_StackOk.f k l0 = some r) :
  Calls Try.prog 173 #[.slice A0 l0.length c0] w fun e w' => e = .returned (.bool r) ∧ Drawn0 w w' := by
 have HR0 := Aside0.mk hr0
 have HC0 := Aside0.mk hc0
 clear hr0 hc0
 have H : (if (l0.length : Int) > 12 then (some false) else (impl_StackOk.l0 k l0 (l0.length : Int) 0)) = some r := h
 clear h
 by_cases c2 : (l0.length : Int) > 12
 ·rw [if_pos c2] at H
  have c2b0 : decide (12 < (l0.length : Int)) = true := decide_eq_true c2
  have c2b1 : decide (12 < l0.length) = true := decide_eq_true (by omega)
  clear c2
  obtain rfl := Option.some.inj H
  go_enter Try.func173, Try.ntmps173
  go_wp2
  go_ret
  exact ⟨fS, dS⟩
 ·rw [if_neg c2] at H
  have c2b0 : decide (12 < (l0.length : Int)) = false := decide_eq_false c2
  have c2b1 : decide (12 < l0.length) = false := decide_eq_false (by omega)
  clear c2
  have H' := Aside0.mk H
  clear H
  go_enter Try.func173, Try.ntmps173
  go_wp2
  go_loopg [10] k (fun kq v10 w' => ∃ (x10_1 : Int), v10 = .int .i64 x10_1 ∧ Aside0 (impl_StackOk.l0 kq l0 (l0.length : Int) x10_1 = some r) ∧ Aside0 (kq ≤ k) ∧ Drawn0 w w')
  case atStart => exact ⟨(0), fS, H', ⟨Nat.le_refl _⟩, dS⟩
  case round =>
   clear H'
   try clear c1
   try clear c2
   try clear c2b0
   try clear c2b1
   try clear p2
   obtain ⟨x10_1, rfl, HA, HK1, ⟨m1, rfl⟩⟩ := hrel
   cases gk with
   | zero => exact absurd HA.out (by simp [impl_StackOk.l0])
   | succ k1 =>
    have H := HA.out
    clear HA
    simp only [impl_StackOk.l0] at H
    rcases iD H with ⟨c3b0, H⟩ | ⟨c3b0, H⟩
    ·obtain ⟨c4b0, H⟩ := iT H
     obtain ⟨c5b0, H⟩ := iT H
     replace H := bN H
     obtain ⟨t271, A6, H⟩ := H
     by_cases c7 : t271 = true
     ·subst c7
      rw [if_pos rfl] at H
      have H' := Aside0.mk H
      clear H
      have p270 : 0 ≤ (x10_1 : Int) := dA
      have q270 : x10_1 < (l0.length : Int) := dA
      obtain ⟨ad270, e270, hx270_0⟩ := Kd.at_int HR0.out x10_1 p270 q270
      cases e270
      replace p270 := eq_true p270
      replace q270 := eq_true q270
      go_wp2_with (first | ((with_reducible refine gC 101 ?_); refine cL (some 15) Try.func101 #[.int .i64 (rd l0 x10_1), .int .i64 (-9999), .int .i64 9999] ?_; (with_reducible refine (impl_within.calls (rd l0 x10_1) (-9999) 9999 _ _ A6.out).mono ?_); rintro e w' ⟨rfl, ⟨nd, rfl⟩⟩; refine ⟨_, rfl, ?_⟩))
      go_roundg k1
      case measure => have := HK1.out; omega
      case rel => exact ⟨(wrap64 (x10_1 + 1)), fS, H', ⟨by have := HK1.out; omega⟩, dS⟩
     ·obtain rfl := Bool.eq_false_iff.mpr c7
      rw [if_neg nF] at H
      obtain rfl := Option.some.inj H
      have p270 : 0 ≤ (x10_1 : Int) := dA
      have q270 : x10_1 < (l0.length : Int) := dA
      obtain ⟨ad270, e270, hx270_0⟩ := Kd.at_int HR0.out x10_1 p270 q270
      cases e270
      replace p270 := eq_true p270
      replace q270 := eq_true q270
      go_wp2_with (first | ((with_reducible refine gC 101 ?_); refine cL (some 15) Try.func101 #[.int .i64 (rd l0 x10_1), .int .i64 (-9999), .int .i64 9999] ?_; (with_reducible refine (impl_within.calls (rd l0 x10_1) (-9999) 9999 _ _ A6.out).mono ?_); rintro e w' ⟨rfl, ⟨nd, rfl⟩⟩; refine ⟨_, rfl, ?_⟩))
      go_ret
      exact ⟨fS, dS⟩
    ·obtain rfl := Option.some.inj H
     go_wp2
     go_ret
     exact ⟨fS, dS⟩

/-! ### impl_TurnOk: function 174 -/
def impl_TurnOk.f (a0_0 : Int) (a0_1 : Int) (a0_2 : Int) (a0_3 : Int) : Option (Bool) := (impl_within.f a0_0 0 3).bind fun t273 => (if t273 = true then ((impl_within.f a0_1 1 4).bind fun t274 => (if t274 = true then ((impl_coordOk.f a0_2).bind fun t275 => (if t275 = true then ((impl_coordOk.f a0_3).bind fun t276 => (some t276)) else (some false))) else (some false))) else (some false))
theorem impl_TurnOk.lf0 {p : Prop} (h : p := by
 go_enter Try.func174, Try.ntmps174
 go_wp2_with (first | ((with_reducible refine gD 1 ?_); refine bxE #[.int .i64 a0_0, .int .i64 a0_1, .int .i64 a0_2, .int .i64 a0_3] 105 ?_; intro gb272 hg w9 BK272 hb; have GW272 := gE hg; have GE272 := gE hg; replace HB := hB hb; clear hb hg; have hz10 := cz4 BK272) | ((with_reducible refine gC 101 ?_); refine cL (some 5) Try.func101 #[.int .i64 a0_0, .int .i64 0, .int .i64 3] ?_; (with_reducible refine (impl_within.calls a0_0 0 3 _ _ A2.out).mono ?_); rintro e w' ⟨rfl, ⟨nd, rfl⟩⟩; refine ⟨_, rfl, ?_⟩) | (go_at_call 101; (with_reducible refine (impl_within.calls a0_1 1 4 _ _ A4.out).mono ?_); rintro e w' ⟨rfl, ⟨nd, rfl⟩⟩) | (go_at_call 158; (with_reducible refine (impl_coordOk.calls a0_2 _ _ A6.out).mono ?_); rintro e w' ⟨rfl, ⟨nd, rfl⟩⟩) | (go_at_call 158; (with_reducible refine (impl_coordOk.calls a0_3 t276 _ A8.out).mono ?_); rintro e w' ⟨rfl, ⟨nd, rfl⟩⟩))
 go_ret
 exact ⟨eS, bS⟩) : p := h
theorem impl_TurnOk.calls (a0_0 : Int) (a0_1 : Int) (a0_2 : Int) (a0_3 : Int) (r : Bool) (w : World) (h : impl_TurnOk.f a0_0 a0_1 a0_2 a0_3 = some r) :
  Calls Try.prog 174 #[.agg #[.int .i64 a0_0, .int .i64 a0_1, .int .i64 a0_2, .int .i64 a0_3]] w fun e w' => e = .returned (.bool r) ∧ Below w.heap.size w w' := by
 have hu105 := Try.underlying105
 have HB := Aside0.mk (Below.refl w.heap.size w)
 have H : ((impl_within.f a0_0 0 3).bind fun t273 => (if t273 = true then ((impl_within.f a0_1 1 4).bind fun t274 => (if t274 = true then ((impl_coordOk.f a0_2).bind fun t275 => (if t275 = true then ((impl_coordOk.f a0_3).bind fun t276 => (some t276)) else (some false))) else (some false))) else (some false))) = some r := h
 clear h
 replace H := bN H
 obtain ⟨t273, A2, H⟩ := H
 by_cases c3 : t273 = true
 ·subst c3
  rw [if_pos rfl] at H
  replace H := bN H
  obtain ⟨t274, A4, H⟩ := H
  by_cases c5 : t274 = true
  ·subst c5
   rw [if_pos rfl] at H
   replace H := bN H
   obtain ⟨t275, A6, H⟩ := H
   by_cases c7 : t275 = true
   ·subst c7
    rw [if_pos rfl] at H
    replace H := bN H
    obtain ⟨t276, A8, H⟩ := H
    obtain rfl := Option.some.inj H
    exact impl_TurnOk.lf0
   ·obtain rfl := Bool.eq_false_iff.mpr c7
    rw [if_neg nF] at H
    obtain rfl := Option.some.inj H
    exact impl_TurnOk.lf0
  ·obtain rfl := Bool.eq_false_iff.mpr c5
   rw [if_neg nF] at H
   obtain rfl := Option.some.inj H
   exact impl_TurnOk.lf0
 ·obtain rfl := Bool.eq_false_iff.mpr c3
  rw [if_neg nF] at H
  obtain rfl := Option.some.inj H
  exact impl_TurnOk.lf0

/-! ### impl_GraphicsOk: function 135 -/
def impl_GraphicsOk.f (k : Nat) (l0_0 : List Int) (a0_1 : Int) (a0_2 : Int) (a0_3 : Int) (a0_4 : Int) (l0_5 : List (S166)) (a0_6 : Int) (a0_7 : Int) (a0_8 : Int) (a0_9 : Int) (a0_10 : Int) : Option (Bool) := (impl_StackOk.f k l0_0).bind fun t278 => (if t278 = true then ((impl_TurnOk.f a0_1 a0_2 a0_3 a0_4).bind fun t279 => (if t279 = true then ((impl_BoxOk.f a0_7 a0_8 a0_9 a0_10).bind fun t280 => (if t280 = true then (if (l0_5.length : Int) ≤ 8 then ((impl_pointsOk.f k l0_5).bind fun t281 => (if t281 = true then ((impl_within.f a0_6 0 255).bind fun t282 => (some t282)) else (some false))) else (some false)) else (some false))) else (some false))) else (some false))
theorem impl_GraphicsOk.lf0 {p : Prop} (h : p := by
 go_enter Try.func135, Try.ntmps135
 go_wp2_with (first | ((with_reducible refine gD 1 ?_); refine bxE #[.slice A0_0 l0_0.length c0_0, .int .i64 a0_1, .int .i64 a0_2, .int .i64 a0_3, .int .i64 a0_4, .slice A0_5 l0_5.length c0_5, .int .i64 a0_6, .int .i64 a0_7, .int .i64 a0_8, .int .i64 a0_9, .int .i64 a0_10] 107 ?_; intro gb277 hg w12 BK277 hb; have GW277 := gE hg; have GE277 := gE hg; replace HB := hB hb; clear hb hg; have hcz13_0 : w12.cell? ⟨gb277, 0, none⟩ = some (.slice A0_0 l0_0.length c0_0) := (blk_cell BK277.out 0).trans rfl; have hcz13_1 : w12.cell? ⟨gb277, 1, none⟩ = some (.int .i64 a0_1) := (blk_cell BK277.out 1).trans rfl; have hcz13_2 : w12.cell? ⟨gb277, 2, none⟩ = some (.int .i64 a0_2) := (blk_cell BK277.out 2).trans rfl; have hcz13_3 : w12.cell? ⟨gb277, 3, none⟩ = some (.int .i64 a0_3) := (blk_cell BK277.out 3).trans rfl; have hcz13_4 : w12.cell? ⟨gb277, 4, none⟩ = some (.int .i64 a0_4) := (blk_cell BK277.out 4).trans rfl; have hcz13_5 : w12.cell? ⟨gb277, 5, none⟩ = some (.slice A0_5 l0_5.length c0_5) := (blk_cell BK277.out 5).trans rfl; have hcz13_6 : w12.cell? ⟨gb277, 6, none⟩ = some (.int .i64 a0_6) := (blk_cell BK277.out 6).trans rfl; have hcz13_7 : w12.cell? ⟨gb277, 7, none⟩ = some (.int .i64 a0_7) := (blk_cell BK277.out 7).trans rfl; have hcz13_8 : w12.cell? ⟨gb277, 8, none⟩ = some (.int .i64 a0_8) := (blk_cell BK277.out 8).trans rfl; have hcz13_9 : w12.cell? ⟨gb277, 9, none⟩ = some (.int .i64 a0_9) := (blk_cell BK277.out 9).trans rfl; have hcz13_10 : w12.cell? ⟨gb277, 10, none⟩ = some (.int .i64 a0_10) := (blk_cell BK277.out 10).trans rfl; have hfz13_0 := blk_frozen BK277.out 0; have hfz13_1 := blk_frozen BK277.out 1; have hfz13_2 := blk_frozen BK277.out 2; have hfz13_3 := blk_frozen BK277.out 3; have hfz13_4 := blk_frozen BK277.out 4; have hfz13_5 := blk_frozen BK277.out 5; have hfz13_6 := blk_frozen BK277.out 6; have hfz13_7 := blk_frozen BK277.out 7; have hfz13_8 := blk_frozen BK277.out 8; have hfz13_9 := blk_frozen BK277.out 9; have hfz13_10 := blk_frozen BK277.out 10) | ((with_reducible refine gC 173 ?_); refine cL (some 5) Try.func173 #[.slice A0_0 l0_0.length c0_0] ?_; (with_reducible refine (impl_StackOk.calls k _ _ l0_0 _ _ (cS (Kd.C_below HR0_0.out HB.out)) HC0_0.out A2.out).mono ?_); rintro e w' ⟨rfl, ⟨nd, rfl⟩⟩; refine ⟨_, rfl, ?_⟩) | (go_at_call 174; (with_reducible refine (impl_TurnOk.calls a0_1 a0_2 a0_3 a0_4 _ _ A4.out).mono ?_); rintro e w14 ⟨rfl, hb⟩; replace BK277 := kB (g := gb277) hb; replace HB := hB hb; (try clear hb); (try clear hb2); (try clear hk); (try clear hi); have hcz15_0 : w14.cell? ⟨gb277, 0, none⟩ = some (.slice A0_0 l0_0.length c0_0) := (blk_cell BK277.out 0).trans rfl; have hcz15_1 : w14.cell? ⟨gb277, 1, none⟩ = some (.int .i64 a0_1) := (blk_cell BK277.out 1).trans rfl; have hcz15_2 : w14.cell? ⟨gb277, 2, none⟩ = some (.int .i64 a0_2) := (blk_cell BK277.out 2).trans rfl; have hcz15_3 : w14.cell? ⟨gb277, 3, none⟩ = some (.int .i64 a0_3) := (blk_cell BK277.out 3).trans rfl; have hcz15_4 : w14.cell? ⟨gb277, 4, none⟩ = some (.int .i64 a0_4) := (blk_cell BK277.out 4).trans rfl; have hcz15_5 : w14.cell? ⟨gb277, 5, none⟩ = some (.slice A0_5 l0_5.length c0_5) := (blk_cell BK277.out 5).trans rfl; have hcz15_6 : w14.cell? ⟨gb277, 6, none⟩ = some (.int .i64 a0_6) := (blk_cell BK277.out 6).trans rfl; have hcz15_7 : w14.cell? ⟨gb277, 7, none⟩ = some (.int .i64 a0_7) := (blk_cell BK277.out 7).trans rfl; have hcz15_8 : w14.cell? ⟨gb277, 8, none⟩ = some (.int .i64 a0_8) := (blk_cell BK277.out 8).trans rfl; have hcz15_9 : w14.cell? ⟨gb277, 9, none⟩ = some (.int .i64 a0_9) := (blk_cell BK277.out 9).trans rfl; have hcz15_10 : w14.cell? ⟨gb277, 10, none⟩ = some (.int .i64 a0_10) := (blk_cell BK277.out 10).trans rfl; have hfz15_0 := blk_frozen BK277.out 0; have hfz15_1 := blk_frozen BK277.out 1; have hfz15_2 := blk_frozen BK277.out 2; have hfz15_3 := blk_frozen BK277.out 3; have hfz15_4 := blk_frozen BK277.out 4; have hfz15_5 := blk_frozen BK277.out 5; have hfz15_6 := blk_frozen BK277.out 6; have hfz15_7 := blk_frozen BK277.out 7; have hfz15_8 := blk_frozen BK277.out 8; have hfz15_9 := blk_frozen BK277.out 9; have hfz15_10 := blk_frozen BK277.out 10) | (go_at_call 153; (with_reducible refine (impl_BoxOk.calls a0_7 a0_8 a0_9 a0_10 _ _ A6.out).mono ?_); rintro e w16 ⟨rfl, hb⟩; replace BK277 := kB (g := gb277) hb; replace HB := hB hb; (try clear hb); (try clear hb2); (try clear hk); (try clear hi); have hcz17_0 : w16.cell? ⟨gb277, 0, none⟩ = some (.slice A0_0 l0_0.length c0_0) := (blk_cell BK277.out 0).trans rfl; have hcz17_1 : w16.cell? ⟨gb277, 1, none⟩ = some (.int .i64 a0_1) := (blk_cell BK277.out 1).trans rfl; have hcz17_2 : w16.cell? ⟨gb277, 2, none⟩ = some (.int .i64 a0_2) := (blk_cell BK277.out 2).trans rfl; have hcz17_3 : w16.cell? ⟨gb277, 3, none⟩ = some (.int .i64 a0_3) := (blk_cell BK277.out 3).trans rfl; have hcz17_4 : w16.cell? ⟨gb277, 4, none⟩ = some (.int .i64 a0_4) := (blk_cell BK277.out 4).trans rfl; have hcz17_5 : w16.cell? ⟨gb277, 5, none⟩ = some (.slice A0_5 l0_5.length c0_5) := (blk_cell BK277.out 5).trans rfl; have hcz17_6 : w16.cell? ⟨gb277, 6, none⟩ = some (.int .i64 a0_6) := (blk_cell BK277.out 6).trans rfl; have hcz17_7 : w16.cell? ⟨gb277, 7, none⟩ = some (.int .i64 a0_7) := (blk_cell BK277.out 7).trans rfl; have hcz17_8 : w16.cell? ⟨gb277, 8, none⟩ = some (.int .i64 a0_8) := (blk_cell BK277.out 8).trans rfl; have hcz17_9 : w16.cell? ⟨gb277, 9, none⟩ = some (.int .i64 a0_9) := (blk_cell BK277.out 9).trans rfl; have hcz17_10 : w16.cell? ⟨gb277, 10, none⟩ = some (.int .i64 a0_10) := (blk_cell BK277.out 10).trans rfl; have hfz17_0 := blk_frozen BK277.out 0; have hfz17_1 := blk_frozen BK277.out 1; have hfz17_2 := blk_frozen BK277.out 2; have hfz17_3 := blk_frozen BK277.out 3; have hfz17_4 := blk_frozen BK277.out 4; have hfz17_5 := blk_frozen BK277.out 5; have hfz17_6 := blk_frozen BK277.out 6; have hfz17_7 := blk_frozen BK277.out 7; have hfz17_8 := blk_frozen BK277.out 8; have hfz17_9 := blk_frozen BK277.out 9; have hfz17_10 := blk_frozen BK277.out 10) | (go_at_call 156; (with_reducible refine (impl_pointsOk.calls k _ _ l0_5 _ _ (cS (Kd.C_below HR0_5.out HB.out)) HC0_5.out A9.out).mono ?_); rintro e w18 ⟨rfl, hb⟩; replace BK277 := kB (g := gb277) hb; replace HB := hB hb; (try clear hb); (try clear hb2); (try clear hk); (try clear hi); have hcz19_0 : w18.cell? ⟨gb277, 0, none⟩ = some (.slice A0_0 l0_0.length c0_0) := (blk_cell BK277.out 0).trans rfl; have hcz19_1 : w18.cell? ⟨gb277, 1, none⟩ = some (.int .i64 a0_1) := (blk_cell BK277.out 1).trans rfl; have hcz19_2 : w18.cell? ⟨gb277, 2, none⟩ = some (.int .i64 a0_2) := (blk_cell BK277.out 2).trans rfl; have hcz19_3 : w18.cell? ⟨gb277, 3, none⟩ = some (.int .i64 a0_3) := (blk_cell BK277.out 3).trans rfl; have hcz19_4 : w18.cell? ⟨gb277, 4, none⟩ = some (.int .i64 a0_4) := (blk_cell BK277.out 4).trans rfl; have hcz19_5 : w18.cell? ⟨gb277, 5, none⟩ = some (.slice A0_5 l0_5.length c0_5) := (blk_cell BK277.out 5).trans rfl; have hcz19_6 : w18.cell? ⟨gb277, 6, none⟩ = some (.int .i64 a0_6) := (blk_cell BK277.out 6).trans rfl; have hcz19_7 : w18.cell? ⟨gb277, 7, none⟩ = some (.int .i64 a0_7) := (blk_cell BK277.out 7).trans rfl; have hcz19_8 : w18.cell? ⟨gb277, 8, none⟩ = some (.int .i64 a0_8) := (blk_cell BK277.out 8).trans rfl; have hcz19_9 : w18.cell? ⟨gb277, 9, none⟩ = some (.int .i64 a0_9) := (blk_cell BK277.out 9).trans rfl; have hcz19_10 : w18.cell? ⟨gb277, 10, none⟩ = some (.int .i64 a0_10) := (blk_cell BK277.out 10).trans rfl; have hfz19_0 := blk_frozen BK277.out 0; have hfz19_1 := blk_frozen BK277.out 1; have hfz19_2 := blk_frozen BK277.out 2; have hfz19_3 := blk_frozen BK277.out 3; have hfz19_4 := blk_frozen BK277.out 4; have hfz19_5 := blk_frozen BK277.out 5; have hfz19_6 := blk_frozen BK277.out 6; have hfz19_7 := blk_frozen BK277.out 7; have hfz19_8 := blk_frozen BK277.out 8; have hfz19_9 := blk_frozen BK277.out 9; have hfz19_10 := blk_frozen BK277.out 10) | (go_at_call 101; (with_reducible refine (impl_within.calls a0_6 0 255 t282 _ A11.out).mono ?_); rintro e w' ⟨rfl, ⟨nd, rfl⟩⟩))
 go_ret
 exact ⟨eS, bS⟩) : p := h
theorem impl_GraphicsOk.calls (k : Nat) (A0_0 : Option Addr) (c0_0 : Nat) (l0_0 : List Int) (a0_1 : Int) (a0_2 : Int) (a0_3 : Int) (a0_4 : Int) (A0_5 : Option Addr) (c0_5 : Nat) (l0_5 : List (S166)) (a0_6 : Int) (a0_7 : Int) (a0_8 : Int) (a0_9 : Int) (a0_10 : Int) (r : Bool) (w : World) (hr0_0 : Kd.C (Kd.int .i64) w A0_0 l0_0.length l0_0) (hc0_0 : l0_0.length ≤ c0_0) (hr0_5 : Kd.C k166 w A0_5 l0_5.length l0_5) (hc0_5 : l0_5.length ≤ c0_5) (h : impl_GraphicsOk.f k l0_0 a0_1 a0_2 a0_3 a0_4 l0_5 a0_6 a0_7 a0_8 a0_9 a0_10 = some r) :
  Calls Try.prog 135 #[.agg #[.slice A0_0 l0_0.length c0_0, .int .i64 a0_1, .int .i64 a0_2, .int .i64 a0_3, .int .i64 a0_4, .slice A0_5 l0_5.length c0_5, .int .i64 a0_6, .int .i64 a0_7, .int .i64 a0_8, .int .i64 a0_9, .int .i64 a0_10]] w fun e w' => e = .returned (.bool r) ∧ Below w.heap.size w w' := by
 have hu107 := Try.underlying107
 have hu105 := Try.underlying105
 have hu39 := Try.underlying39
 have HR0_0 := Aside0.mk hr0_0
 have HC0_0 := Aside0.mk hc0_0
 clear hr0_0 hc0_0
 have HR0_5 := Aside0.mk hr0_5
 have HC0_5 := Aside0.mk hc0_5
 clear hr0_5 hc0_5
 have HB := Aside0.mk (Below.refl w.heap.size w)
 have H : ((impl_StackOk.f k l0_0).bind fun t278 => (if t278 = true then ((impl_TurnOk.f a0_1 a0_2 a0_3 a0_4).bind fun t279 => (if t279 = true then ((impl_BoxOk.f a0_7 a0_8 a0_9 a0_10).bind fun t280 => (if t280 = true then (if (l0_5.length : Int) ≤ 8 then ((impl_pointsOk.f k l0_5).bind fun t281 => (if t281 = true then ((impl_within.f a0_6 0 255).bind fun t282 => (some t282)) else (some false))) else (some false)) else (some false))) else (some false))) else (some false))) = some r := h
 clear h
 replace H := bN H
 obtain ⟨t278, A2, H⟩ := H
 by_cases c3 : t278 = true
 ·subst c3
  rw [if_pos rfl] at H
  replace H := bN H
  obtain ⟨t279, A4, H⟩ := H
  by_cases c5 : t279 = true
  ·subst c5
   rw [if_pos rfl] at H
   replace H := bN H
   obtain ⟨t280, A6, H⟩ := H
   by_cases c7 : t280 = true
   ·subst c7
    rw [if_pos rfl] at H
    by_cases c8 : (l0_5.length : Int) ≤ 8
    ·rw [if_pos c8] at H
     have c8b0 : decide ((l0_5.length : Int) ≤ 8) = true := decide_eq_true c8
     have c8b1 : decide (l0_5.length ≤ 8) = true := decide_eq_true (by omega)
     clear c8
     replace H := bN H
     obtain ⟨t281, A9, H⟩ := H
     by_cases c10 : t281 = true
     ·subst c10
      rw [if_pos rfl] at H
      replace H := bN H
      obtain ⟨t282, A11, H⟩ := H
      obtain rfl := Option.some.inj H
      exact impl_GraphicsOk.lf0
     ·obtain rfl := Bool.eq_false_iff.mpr c10
      rw [if_neg nF] at H
      obtain rfl := Option.some.inj H
      go_enter Try.func135, Try.ntmps135
      go_wp2_with (first | ((with_reducible refine gD 1 ?_); refine bxE #[.slice A0_0 l0_0.length c0_0, .int .i64 a0_1, .int .i64 a0_2, .int .i64 a0_3, .int .i64 a0_4, .slice A0_5 l0_5.length c0_5, .int .i64 a0_6, .int .i64 a0_7, .int .i64 a0_8, .int .i64 a0_9, .int .i64 a0_10] 107 ?_; intro gb277 hg w20 BK277 hb; have GW277 := gE hg; have GE277 := gE hg; replace HB := hB hb; clear hb hg; have hcz21_0 : w20.cell? ⟨gb277, 0, none⟩ = some (.slice A0_0 l0_0.length c0_0) := (blk_cell BK277.out 0).trans rfl; have hcz21_1 : w20.cell? ⟨gb277, 1, none⟩ = some (.int .i64 a0_1) := (blk_cell BK277.out 1).trans rfl; have hcz21_2 : w20.cell? ⟨gb277, 2, none⟩ = some (.int .i64 a0_2) := (blk_cell BK277.out 2).trans rfl; have hcz21_3 : w20.cell? ⟨gb277, 3, none⟩ = some (.int .i64 a0_3) := (blk_cell BK277.out 3).trans rfl; have hcz21_4 : w20.cell? ⟨gb277, 4, none⟩ = some (.int .i64 a0_4) := (blk_cell BK277.out 4).trans rfl; have hcz21_5 : w20.cell? ⟨gb277, 5, none⟩ = some (.slice A0_5 l0_5.length c0_5) := (blk_cell BK277.out 5).trans rfl; have hcz21_6 : w20.cell? ⟨gb277, 6, none⟩ = some (.int .i64 a0_6) := (blk_cell BK277.out 6).trans rfl; have hcz21_7 : w20.cell? ⟨gb277, 7, none⟩ = some (.int .i64 a0_7) := (blk_cell BK277.out 7).trans rfl; have hcz21_8 : w20.cell? ⟨gb277, 8, none⟩ = some (.int .i64 a0_8) := (blk_cell BK277.out 8).trans rfl; have hcz21_9 : w20.cell? ⟨gb277, 9, none⟩ = some (.int .i64 a0_9) := (blk_cell BK277.out 9).trans rfl; have hcz21_10 : w20.cell? ⟨gb277, 10, none⟩ = some (.int .i64 a0_10) := (blk_cell BK277.out 10).trans rfl; have hfz21_0 := blk_frozen BK277.out 0; have hfz21_1 := blk_frozen BK277.out 1; have hfz21_2 := blk_frozen BK277.out 2; have hfz21_3 := blk_frozen BK277.out 3; have hfz21_4 := blk_frozen BK277.out 4; have hfz21_5 := blk_frozen BK277.out 5; have hfz21_6 := blk_frozen BK277.out 6; have hfz21_7 := blk_frozen BK277.out 7; have hfz21_8 := blk_frozen BK277.out 8; have hfz21_9 := blk_frozen BK277.out 9; have hfz21_10 := blk_frozen BK277.out 10) | ((with_reducible refine gC 173 ?_); refine cL (some 5) Try.func173 #[.slice A0_0 l0_0.length c0_0] ?_; (with_reducible refine (impl_StackOk.calls k _ _ l0_0 _ _ (cS (Kd.C_below HR0_0.out HB.out)) HC0_0.out A2.out).mono ?_); rintro e w' ⟨rfl, ⟨nd, rfl⟩⟩; refine ⟨_, rfl, ?_⟩) | (go_at_call 174; (with_reducible refine (impl_TurnOk.calls a0_1 a0_2 a0_3 a0_4 _ _ A4.out).mono ?_); rintro e w22 ⟨rfl, hb⟩; replace BK277 := kB (g := gb277) hb; replace HB := hB hb; (try clear hb); (try clear hb2); (try clear hk); (try clear hi); have hcz23_0 : w22.cell? ⟨gb277, 0, none⟩ = some (.slice A0_0 l0_0.length c0_0) := (blk_cell BK277.out 0).trans rfl; have hcz23_1 : w22.cell? ⟨gb277, 1, none⟩ = some (.int .i64 a0_1) := (blk_cell BK277.out 1).trans rfl; have hcz23_2 : w22.cell? ⟨gb277, 2, none⟩ = some (.int .i64 a0_2) := (blk_cell BK277.out 2).trans rfl; have hcz23_3 : w22.cell? ⟨gb277, 3, none⟩ = some (.int .i64 a0_3) := (blk_cell BK277.out 3).trans rfl; have hcz23_4 : w22.cell? ⟨gb277, 4, none⟩ = some (.int .i64 a0_4) := (blk_cell BK277.out 4).trans rfl; have hcz23_5 : w22.cell? ⟨gb277, 5, none⟩ = some (.slice A0_5 l0_5.length c0_5) := (blk_cell BK277.out 5).trans rfl; have hcz23_6 : w22.cell? ⟨gb277, 6, none⟩ = some (.int .i64 a0_6) := (blk_cell BK277.out 6).trans rfl; have hcz23_7 : w22.cell? ⟨gb277, 7, none⟩ = some (.int .i64 a0_7) := (blk_cell BK277.out 7).trans rfl; have hcz23_8 : w22.cell? ⟨gb277, 8, none⟩ = some (.int .i64 a0_8) := (blk_cell BK277.out 8).trans rfl; have hcz23_9 : w22.cell? ⟨gb277, 9, none⟩ = some (.int .i64 a0_9) := (blk_cell BK277.out 9).trans rfl; have hcz23_10 : w22.cell? ⟨gb277, 10, none⟩ = some (.int .i64 a0_10) := (blk_cell BK277.out 10).trans rfl; have hfz23_0 := blk_frozen BK277.out 0; have hfz23_1 := blk_frozen BK277.out 1; have hfz23_2 := blk_frozen BK277.out 2; have hfz23_3 := blk_frozen BK277.out 3; have hfz23_4 := blk_frozen BK277.out 4; have hfz23_5 := blk_frozen BK277.out 5; have hfz23_6 := blk_frozen BK277.out 6; have hfz23_7 := blk_frozen BK277.out 7; have hfz23_8 := blk_frozen BK277.out 8; have hfz23_9 := blk_frozen BK277.out 9; have hfz23_10 := blk_frozen BK277.out 10) | (go_at_call 153; (with_reducible refine (impl_BoxOk.calls a0_7 a0_8 a0_9 a0_10 _ _ A6.out).mono ?_); rintro e w24 ⟨rfl, hb⟩; replace BK277 := kB (g := gb277) hb; replace HB := hB hb; (try clear hb); (try clear hb2); (try clear hk); (try clear hi); have hcz25_0 : w24.cell? ⟨gb277, 0, none⟩ = some (.slice A0_0 l0_0.length c0_0) := (blk_cell BK277.out 0).trans rfl; have hcz25_1 : w24.cell? ⟨gb277, 1, none⟩ = some (.int .i64 a0_1) := (blk_cell BK277.out 1).trans rfl; have hcz25_2 : w24.cell? ⟨gb277, 2, none⟩ = some (.int .i64 a0_2) := (blk_cell BK277.out 2).trans rfl; have hcz25_3 : w24.cell? ⟨gb277, 3, none⟩ = some (.int .i64 a0_3) := (blk_cell BK277.out 3).trans rfl; have hcz25_4 : w24.cell? ⟨gb277, 4, none⟩ = some (.int .i64 a0_4) := (blk_cell BK277.out 4).trans rfl; have hcz25_5 : w24.cell? ⟨gb277, 5, none⟩ = some (.slice A0_5 l0_5.length c0_5) := (blk_cell BK277.out 5).trans rfl; have hcz25_6 : w24.cell? ⟨gb277, 6, none⟩ = some (.int .i64 a0_6) := (blk_cell BK277.out 6).trans rfl; have hcz25_7 : w24.cell? ⟨gb277, 7, none⟩ = some (.int .i64 a0_7) := (blk_cell BK277.out 7).trans rfl; have hcz25_8 : w24.cell? ⟨gb277, 8, none⟩ = some (.int .i64 a0_8) := (blk_cell BK277.out 8).trans rfl; have hcz25_9 : w24.cell? ⟨gb277, 9, none⟩ = some (.int .i64 a0_9) := (blk_cell BK277.out 9).trans rfl; have hcz25_10 : w24.cell? ⟨gb277, 10, none⟩ = some (.int .i64 a0_10) := (blk_cell BK277.out 10).trans rfl; have hfz25_0 := blk_frozen BK277.out 0; have hfz25_1 := blk_frozen BK277.out 1; have hfz25_2 := blk_frozen BK277.out 2; have hfz25_3 := blk_frozen BK277.out 3; have hfz25_4 := blk_frozen BK277.out 4; have hfz25_5 := blk_frozen BK277.out 5; have hfz25_6 := blk_frozen BK277.out 6; have hfz25_7 := blk_frozen BK277.out 7; have hfz25_8 := blk_frozen BK277.out 8; have hfz25_9 := blk_frozen BK277.out 9; have hfz25_10 := blk_frozen BK277.out 10) | (go_at_call 156; (with_reducible refine (impl_pointsOk.calls k _ _ l0_5 _ _ (cS (Kd.C_below HR0_5.out HB.out)) HC0_5.out A9.out).mono ?_); rintro e w26 ⟨rfl, hb⟩; replace BK277 := kB (g := gb277) hb; replace HB := hB hb; (try clear hb); (try clear hb2); (try clear hk); (try clear hi)))
      go_ret
      exact ⟨eS, bS⟩
    ·rw [if_neg c8] at H
     have c8b0 : decide ((l0_5.length : Int) ≤ 8) = false := decide_eq_false c8
     have c8b1 : decide (l0_5.length ≤ 8) = false := decide_eq_false (by omega)
     clear c8
     obtain rfl := Option.some.inj H
     exact impl_GraphicsOk.lf0
   ·obtain rfl := Bool.eq_false_iff.mpr c7
    rw [if_neg nF] at H
    obtain rfl := Option.some.inj H
    go_enter Try.func135, Try.ntmps135
    go_wp2_with (first | ((with_reducible refine gD 1 ?_); refine bxE #[.slice A0_0 l0_0.length c0_0, .int .i64 a0_1, .int .i64 a0_2, .int .i64 a0_3, .int .i64 a0_4, .slice A0_5 l0_5.length c0_5, .int .i64 a0_6, .int .i64 a0_7, .int .i64 a0_8, .int .i64 a0_9, .int .i64 a0_10] 107 ?_; intro gb277 hg w33 BK277 hb; have GW277 := gE hg; have GE277 := gE hg; replace HB := hB hb; clear hb hg; have hcz34_0 : w33.cell? ⟨gb277, 0, none⟩ = some (.slice A0_0 l0_0.length c0_0) := (blk_cell BK277.out 0).trans rfl; have hcz34_1 : w33.cell? ⟨gb277, 1, none⟩ = some (.int .i64 a0_1) := (blk_cell BK277.out 1).trans rfl; have hcz34_2 : w33.cell? ⟨gb277, 2, none⟩ = some (.int .i64 a0_2) := (blk_cell BK277.out 2).trans rfl; have hcz34_3 : w33.cell? ⟨gb277, 3, none⟩ = some (.int .i64 a0_3) := (blk_cell BK277.out 3).trans rfl; have hcz34_4 : w33.cell? ⟨gb277, 4, none⟩ = some (.int .i64 a0_4) := (blk_cell BK277.out 4).trans rfl; have hcz34_5 : w33.cell? ⟨gb277, 5, none⟩ = some (.slice A0_5 l0_5.length c0_5) := (blk_cell BK277.out 5).trans rfl; have hcz34_6 : w33.cell? ⟨gb277, 6, none⟩ = some (.int .i64 a0_6) := (blk_cell BK277.out 6).trans rfl; have hcz34_7 : w33.cell? ⟨gb277, 7, none⟩ = some (.int .i64 a0_7) := (blk_cell BK277.out 7).trans rfl; have hcz34_8 : w33.cell? ⟨gb277, 8, none⟩ = some (.int .i64 a0_8) := (blk_cell BK277.out 8).trans rfl; have hcz34_9 : w33.cell? ⟨gb277, 9, none⟩ = some (.int .i64 a0_9) := (blk_cell BK277.out 9).trans rfl; have hcz34_10 : w33.cell? ⟨gb277, 10, none⟩ = some (.int .i64 a0_10) := (blk_cell BK277.out 10).trans rfl; have hfz34_0 := blk_frozen BK277.out 0; have hfz34_1 := blk_frozen BK277.out 1; have hfz34_2 := blk_frozen BK277.out 2; have hfz34_3 := blk_frozen BK277.out 3; have hfz34_4 := blk_frozen BK277.out 4; have hfz34_5 := blk_frozen BK277.out 5; have hfz34_6 := blk_frozen BK277.out 6; have hfz34_7 := blk_frozen BK277.out 7; have hfz34_8 := blk_frozen BK277.out 8; have hfz34_9 := blk_frozen BK277.out 9; have hfz34_10 := blk_frozen BK277.out 10) | ((with_reducible refine gC 173 ?_); refine cL (some 5) Try.func173 #[.slice A0_0 l0_0.length c0_0] ?_; (with_reducible refine (impl_StackOk.calls k _ _ l0_0 _ _ (cS (Kd.C_below HR0_0.out HB.out)) HC0_0.out A2.out).mono ?_); rintro e w' ⟨rfl, ⟨nd, rfl⟩⟩; refine ⟨_, rfl, ?_⟩) | (go_at_call 174; (with_reducible refine (impl_TurnOk.calls a0_1 a0_2 a0_3 a0_4 _ _ A4.out).mono ?_); rintro e w35 ⟨rfl, hb⟩; replace BK277 := kB (g := gb277) hb; replace HB := hB hb; (try clear hb); (try clear hb2); (try clear hk); (try clear hi); have hcz36_0 : w35.cell? ⟨gb277, 0, none⟩ = some (.slice A0_0 l0_0.length c0_0) := (blk_cell BK277.out 0).trans rfl; have hcz36_1 : w35.cell? ⟨gb277, 1, none⟩ = some (.int .i64 a0_1) := (blk_cell BK277.out 1).trans rfl; have hcz36_2 : w35.cell? ⟨gb277, 2, none⟩ = some (.int .i64 a0_2) := (blk_cell BK277.out 2).trans rfl; have hcz36_3 : w35.cell? ⟨gb277, 3, none⟩ = some (.int .i64 a0_3) := (blk_cell BK277.out 3).trans rfl; have hcz36_4 : w35.cell? ⟨gb277, 4, none⟩ = some (.int .i64 a0_4) := (blk_cell BK277.out 4).trans rfl; have hcz36_5 : w35.cell? ⟨gb277, 5, none⟩ = some (.slice A0_5 l0_5.length c0_5) := (blk_cell BK277.out 5).trans rfl; have hcz36_6 : w35.cell? ⟨gb277, 6, none⟩ = some (.int .i64 a0_6) := (blk_cell BK277.out 6).trans rfl; have hcz36_7 : w35.cell? ⟨gb277, 7, none⟩ = some (.int .i64 a0_7) := (blk_cell BK277.out 7).trans rfl; have hcz36_8 : w35.cell? ⟨gb277, 8, none⟩ = some (.int .i64 a0_8) := (blk_cell BK277.out 8).trans rfl; have hcz36_9 : w35.cell? ⟨gb277, 9, none⟩ = some (.int .i64 a0_9) := (blk_cell BK277.out 9).trans rfl; have hcz36_10 : w35.cell? ⟨gb277, 10, none⟩ = some (.int .i64 a0_10) := (blk_cell BK277.out 10).trans rfl; have hfz36_0 := blk_frozen BK277.out 0; have hfz36_1 := blk_frozen BK277.out 1; have hfz36_2 := blk_frozen BK277.out 2; have hfz36_3 := blk_frozen BK277.out 3; have hfz36_4 := blk_frozen BK277.out 4; have hfz36_5 := blk_frozen BK277.out 5; have hfz36_6 := blk_frozen BK277.out 6; have hfz36_7 := blk_frozen BK277.out 7; have hfz36_8 := blk_frozen BK277.out 8; have hfz36_9 := blk_frozen BK277.out 9; have hfz36_10 := blk_frozen BK277.out 10) | (go_at_call 153; (with_reducible refine (impl_BoxOk.calls a0_7 a0_8 a0_9 a0_10 _ _ A6.out).mono ?_); rintro e w37 ⟨rfl, hb⟩; replace BK277 := kB (g := gb277) hb; replace HB := hB hb; (try clear hb); (try clear hb2); (try clear hk); (try clear hi)))
    go_ret
    exact ⟨eS, bS⟩
  ·obtain rfl := Bool.eq_false_iff.mpr c5
   rw [if_neg nF] at H
   obtain rfl := Option.some.inj H
   go_enter Try.func135, Try.ntmps135
   go_wp2_with (first | ((with_reducible refine gD 1 ?_); refine bxE #[.slice A0_0 l0_0.length c0_0, .int .i64 a0_1, .int .i64 a0_2, .int .i64 a0_3, .int .i64 a0_4, .slice A0_5 l0_5.length c0_5, .int .i64 a0_6, .int .i64 a0_7, .int .i64 a0_8, .int .i64 a0_9, .int .i64 a0_10] 107 ?_; intro gb277 hg w38 BK277 hb; have GW277 := gE hg; have GE277 := gE hg; replace HB := hB hb; clear hb hg; have hcz39_0 : w38.cell? ⟨gb277, 0, none⟩ = some (.slice A0_0 l0_0.length c0_0) := (blk_cell BK277.out 0).trans rfl; have hcz39_1 : w38.cell? ⟨gb277, 1, none⟩ = some (.int .i64 a0_1) := (blk_cell BK277.out 1).trans rfl; have hcz39_2 : w38.cell? ⟨gb277, 2, none⟩ = some (.int .i64 a0_2) := (blk_cell BK277.out 2).trans rfl; have hcz39_3 : w38.cell? ⟨gb277, 3, none⟩ = some (.int .i64 a0_3) := (blk_cell BK277.out 3).trans rfl; have hcz39_4 : w38.cell? ⟨gb277, 4, none⟩ = some (.int .i64 a0_4) := (blk_cell BK277.out 4).trans rfl; have hcz39_5 : w38.cell? ⟨gb277, 5, none⟩ = some (.slice A0_5 l0_5.length c0_5) := (blk_cell BK277.out 5).trans rfl; have hcz39_6 : w38.cell? ⟨gb277, 6, none⟩ = some (.int .i64 a0_6) := (blk_cell BK277.out 6).trans rfl; have hcz39_7 : w38.cell? ⟨gb277, 7, none⟩ = some (.int .i64 a0_7) := (blk_cell BK277.out 7).trans rfl; have hcz39_8 : w38.cell? ⟨gb277, 8, none⟩ = some (.int .i64 a0_8) := (blk_cell BK277.out 8).trans rfl; have hcz39_9 : w38.cell? ⟨gb277, 9, none⟩ = some (.int .i64 a0_9) := (blk_cell BK277.out 9).trans rfl; have hcz39_10 : w38.cell? ⟨gb277, 10, none⟩ = some (.int .i64 a0_10) := (blk_cell BK277.out 10).trans rfl; have hfz39_0 := blk_frozen BK277.out 0; have hfz39_1 := blk_frozen BK277.out 1; have hfz39_2 := blk_frozen BK277.out 2; have hfz39_3 := blk_frozen BK277.out 3; have hfz39_4 := blk_frozen BK277.out 4; have hfz39_5 := blk_frozen BK277.out 5; have hfz39_6 := blk_frozen BK277.out 6; have hfz39_7 := blk_frozen BK277.out 7; have hfz39_8 := blk_frozen BK277.out 8; have hfz39_9 := blk_frozen BK277.out 9; have hfz39_10 := blk_frozen BK277.out 10) | ((with_reducible refine gC 173 ?_); refine cL (some 5) Try.func173 #[.slice A0_0 l0_0.length c0_0] ?_; (with_reducible refine (impl_StackOk.calls k _ _ l0_0 _ _ (cS (Kd.C_below HR0_0.out HB.out)) HC0_0.out A2.out).mono ?_); rintro e w' ⟨rfl, ⟨nd, rfl⟩⟩; refine ⟨_, rfl, ?_⟩) | (go_at_call 174; (with_reducible refine (impl_TurnOk.calls a0_1 a0_2 a0_3 a0_4 _ _ A4.out).mono ?_); rintro e w40 ⟨rfl, hb⟩; replace BK277 := kB (g := gb277) hb; replace HB := hB hb; (try clear hb); (try clear hb2); (try clear hk); (try clear hi)))
   go_ret
   exact ⟨eS, bS⟩
 ·obtain rfl := Bool.eq_false_iff.mpr c3
  rw [if_neg nF] at H
  obtain rfl := Option.some.inj H
  exact impl_GraphicsOk.lf0

end Go.Proofs.Ytimpejidlnjhlaa.QFnExactPageOk
