-- Made out of the translation by a program of this session (a changed copy of the print). Not trusted: Lean checks it.
import Derived.Test.YtncfipboidmfbaaGreatQFnExactAddToBandx0
import Derived.Test.YtncfipboidmfbaaGreatQFnExactAddToBandx1
namespace Go.Proofs.YtncfipboidmfbaaGreat.QFnExactAddToBand
open Go.RowKit Go.Proofs.YtncfipboidmfbaaGreatW.PrintWords Go.Proofs.YtncfipboidmfbaaGreatW.PrintLast Go.Proofs.YtncfipboidmfbaaGreatW.PrintMore
attribute [local go_sem] max2_int min2_int max_two min_two max_three min_three max_four min_four   -- for this text's walks alone
set_option linter.unusedVariables false
set_option linter.unusedSimpArgs false
set_option maxHeartbeats 8000000
set_option maxRecDepth 100000

/-! ### laws_heldBand: function 19 -/
def laws_heldBand.f (k : Nat) (a0_0 : Int) (a0_1 : Int) (l0_2 : List (List Int)) (l0_3 : List (S49)) (a1 : Int) : Option (Int) := (laws_heldIntSS.f k l0_2 a1).bind fun t207 => (if t207 < 0 then (some (-1)) else ((laws_heldObjectS.f k l0_3 t207).bind fun t208 => (if t208 < 0 then (some (-1)) else (some t208))))
theorem laws_heldBand.lf0 {p : Prop} (h : p := by
 go_enter Tryz.func19, Tryz.ntmps19
 go_wp2_with (first | ((with_reducible refine gD 2 ?_); refine bxE #[.int .i64 a0_0, .int .i64 a0_1, .slice A0_2 l0_2.length c0_2, .slice A0_3 l0_3.length c0_3] 30 ?_; intro gb206 hg w11 BK206 hb; have GW206 := gE hg; have GE206 := gE hg; replace HB := hB hb; clear hb hg; have hz12 := cz4 BK206) | ((with_reducible refine gC 16 ?_); refine cM (some 8) Tryz.func16 (laws_heldIntSS.calls k _ _ l0_2 a1 t207 _ (cC HR0_2 HB) HC0_2.out A3.out) ?_; rintro e w' ⟨rfl, ⟨nd, rfl⟩⟩; refine ⟨_, rfl, ?_⟩) | ((with_reducible refine gC 56 ?_); refine cM (some 14) Tryz.func56 (laws_heldObjectS.calls k _ _ l0_3 t207 t208 _ (cS (Kd.C_below HR0_3.out bS)) HC0_3.out A7.out) ?_; rintro e w' ⟨rfl, ⟨nd, rfl⟩⟩; refine ⟨_, rfl, ?_⟩))
 go_ret
 exact ⟨eS, bS⟩) : p := h
theorem laws_heldBand.calls (k : Nat) (a0_0 : Int) (a0_1 : Int) (A0_2 : Option Addr) (c0_2 : Nat) (l0_2 : List (List Int)) (A0_3 : Option Addr) (c0_3 : Nat) (l0_3 : List (S49)) (a1 : Int) (r : Int) (w : World) (hr0_2 : Kd.C (Kd.slice 3 (Kd.int .i64)) w A0_2 l0_2.length l0_2) (hc0_2 : l0_2.length ≤ c0_2) (hr0_3 : Kd.C k49 w A0_3 l0_3.length l0_3) (hc0_3 : l0_3.length ≤ c0_3) (h : laws_heldBand.f k a0_0 a0_1 l0_2 l0_3 a1 = some r) :
  Calls Tryz.prog 19 #[.agg #[.int .i64 a0_0, .int .i64 a0_1, .slice A0_2 l0_2.length c0_2, .slice A0_3 l0_3.length c0_3], .int .i64 a1] w fun e w' => e = .returned (.int .i64 r) ∧ Below w.heap.size w w' := by
 have hu30 := Tryz.underlying30
 have HR0_2 := aM hr0_2
 have HC0_2 := aM hc0_2
 clear hr0_2 hc0_2
 have HR0_3 := aM hr0_3
 have HC0_3 := aM hc0_3
 clear hr0_3 hc0_3
 have HB := aM (Below.refl w.heap.size w)
 have H := h
 clear h
 unfold laws_heldBand.f at H
 replace H := bN H
 obtain ⟨t207, A3, H⟩ := H
 rcases iD H with ⟨c4b0, H⟩ | ⟨c4b0, H⟩
 ·obtain rfl := Option.some.inj H
  exact laws_heldBand.lf0
 ·replace H := bN H
  obtain ⟨t208, A7, H⟩ := H
  rcases iD H with ⟨c8b0, H⟩ | ⟨c8b0, H⟩
  ·obtain rfl := Option.some.inj H
   exact laws_heldBand.lf0
  ·obtain rfl := Option.some.inj H
   exact laws_heldBand.lf0

/-! ### spec_l01In: function 114 -/
def spec_l01In.f (a0 : Int) (a1 : Int) (a2 : Int) : Option (Bool) := if a0 ≥ a1 then (some (decide (a0 ≤ a2))) else (some false)
theorem spec_l01In.calls (a0 : Int) (a1 : Int) (a2 : Int) (r : Bool) (w : World) (h : spec_l01In.f a0 a1 a2 = some r) :
  Calls Tryz.prog 114 #[.int .i64 a0, .int .i64 a1, .int .i64 a2] w fun e w' => e = .returned (.bool r) ∧ Drawn0 w w' := by
 have H := h
 clear h
 unfold spec_l01In.f at H
 by_cases c4 : a0 ≥ a1
 ·rw [if_pos c4] at H
  have c4b0 : decide (a1 ≤ a0) = true := decide_eq_true c4
  clear c4
  obtain rfl := Option.some.inj H
  go_enter Tryz.func114, Tryz.ntmps114
  go_wp2
  go_ret
  exact ⟨fS, dS⟩
 ·rw [if_neg c4] at H
  have c4b0 : decide (a1 ≤ a0) = false := decide_eq_false c4
  clear c4
  obtain rfl := Option.some.inj H
  go_enter Tryz.func114, Tryz.ntmps114
  go_wp2
  go_ret
  exact ⟨fS, dS⟩

/-! ### spec_l02In: function 185 -/
def spec_l02In.f (a0 : Int) : Option (Bool) := (spec_l01In.f a0 (-200) 200).bind fun t209 => (some t209)
theorem spec_l02In.calls (a0 : Int) (r : Bool) (w : World) (h : spec_l02In.f a0 = some r) :
  Calls Tryz.prog 185 #[.int .i64 a0] w fun e w' => e = .returned (.bool r) ∧ Drawn0 w w' := by
 have H := h
 clear h
 unfold spec_l02In.f at H
 replace H := bN H
 obtain ⟨t209, A2, H⟩ := H
 obtain rfl := Option.some.inj H
 go_enter Tryz.func185, Tryz.ntmps185
 go_wp2_with (first | ((with_reducible refine gC 114 ?_); refine cM (some 4) Tryz.func114 (spec_l01In.calls a0 (-200) 200 t209 _ A2.out) ?_; rintro e w' ⟨rfl, ⟨nd, rfl⟩⟩; refine ⟨_, rfl, ?_⟩))
 go_ret
 exact ⟨fS, dS⟩

/-! ### spec_PointOk: function 175 -/
def spec_PointOk.f (a0_0 : Int) (a0_1 : Int) : Option (Bool) := (spec_l02In.f a0_0).bind fun t211 => (if t211 = true then ((spec_l02In.f a0_1).bind fun t212 => (some t212)) else (some false))
theorem spec_PointOk.lf0 {p : Prop} (h : p := by
 go_enter Tryz.func175, Tryz.ntmps175
 go_wp2_with (first | ((with_reducible refine gD 1 ?_); refine bxE #[.int .i64 a0_0, .int .i64 a0_1] 151 ?_; intro gb210 hg w5 BK210 hb; have GW210 := gE hg; have GE210 := gE hg; replace HB := hB hb; clear hb hg; have hz6 := cz2 BK210) | ((with_reducible refine gC 185 ?_); refine cM (some 5) Tryz.func185 (spec_l02In.calls a0_0 _ _ A2.out) ?_; rintro e w' ⟨rfl, ⟨nd, rfl⟩⟩; refine ⟨_, rfl, ?_⟩) | (go_at_call 185; (with_reducible refine (spec_l02In.calls a0_1 t212 _ A4.out).mono ?_); rintro e w' ⟨rfl, ⟨nd, rfl⟩⟩))
 go_ret
 exact ⟨eS, bS⟩) : p := h
theorem spec_PointOk.calls (a0_0 : Int) (a0_1 : Int) (r : Bool) (w : World) (h : spec_PointOk.f a0_0 a0_1 = some r) :
  Calls Tryz.prog 175 #[.agg #[.int .i64 a0_0, .int .i64 a0_1]] w fun e w' => e = .returned (.bool r) ∧ Below w.heap.size w w' := by
 have hu151 := Tryz.underlying151
 have HB := aM (Below.refl w.heap.size w)
 have H := h
 clear h
 unfold spec_PointOk.f at H
 replace H := bN H
 obtain ⟨t211, A2, H⟩ := H
 by_cases c3 : t211 = true
 ·subst c3
  rw [if_pos rfl] at H
  replace H := bN H
  obtain ⟨t212, A4, H⟩ := H
  obtain rfl := Option.some.inj H
  exact spec_PointOk.lf0
 ·obtain rfl := Bool.eq_false_iff.mpr c3
  rw [if_neg nF] at H
  obtain rfl := Option.some.inj H
  exact spec_PointOk.lf0

/-! ### spec_l07Points: function 170 -/
def spec_l07Points.l0 : Nat → List (S151) → Int → Option (Bool)
 | 0, _, _ => none
 | k + 1, x0, x3 => if x3 < (x0.length : Int) then (if 0 ≤ x3 then ((spec_PointOk.f ((rd_T151 x0 x3).f0) ((rd_T151 x0 x3).f1)).bind fun t214 => (if t214 = true then (spec_l07Points.l0 k x0 (wrap64 (x3 + 1))) else (some false))) else (none)) else (some (decide ((x0.length : Int) ≤ 8)))
def spec_l07Points.f (k : Nat) (l0 : List (S151)) : Option (Bool) := spec_l07Points.l0 k l0 0
theorem spec_l07Points.calls (k : Nat) (A0 : Option Addr) (c0 : Nat) (l0 : List (S151)) (r : Bool) (w : World) (hr0 : Kd.C k151 w A0 l0.length l0) (hc0 : l0.length ≤ c0) (h : spec_l07Points.f k l0 = some r) :
  Calls Tryz.prog 170 #[.slice A0 l0.length c0] w fun e w' => e = .returned (.bool r) ∧ Below w.heap.size w w' := by
 have hu151 := Tryz.underlying151
 have HR0 := aM hr0
 have HC0 := aM hc0
 clear hr0 hc0
 have HB := aM (Below.refl w.heap.size w)
 have H := h
 clear h
 unfold spec_l07Points.f at H
 have H' := aM H
 clear H
 go_enter Tryz.func170, Tryz.ntmps170
 go_wp2
 go_loopg [3] k (fun kq v3 w' => ∃ (x3_1 : Int), v3 = .int .i64 x3_1 ∧ Aside0 (spec_l07Points.l0 kq l0 x3_1 = some r) ∧ Aside0 (kq ≤ k) ∧ Aside0 (Below w.heap.size w w'))
 case atStart => exact ⟨(0), fS, H', ⟨Nat.le_refl _⟩, ⟨bS⟩⟩
 case round =>
  clear H'
  try clear c1
  obtain ⟨x3_1, rfl, HA, HK1, HB⟩ := hrel
  cases gk with
  | zero => exact absurd HA.out (by simp [spec_l07Points.l0])
  | succ k1 =>
   have H := HA.out
   clear HA
   simp only [spec_l07Points.l0] at H
   rcases iD H with ⟨c2b0, H⟩ | ⟨c2b0, H⟩
   ·obtain ⟨c3b0, H⟩ := iT H
    replace H := bN H
    obtain ⟨t214, A4, H⟩ := H
    by_cases c5 : t214 = true
    ·subst c5
     rw [if_pos rfl] at H
     have H' := aM H
     clear H
     have p213 : 0 ≤ (x3_1 : Int) := dA
     have q213 : x3_1 < (l0.length : Int) := dA
     obtain ⟨ad213, e213, hx213_0, hx213_1⟩ := at_T151 HR0.out x3_1 p213 q213
     cases e213
     replace hx213_0 := cB HB hx213_0
     replace hx213_1 := cB HB hx213_1
     replace p213 := eq_true p213
     replace q213 := eq_true q213
     go_wp2_with (first | ((with_reducible refine gC 175 ?_); refine cM (some 14) Tryz.func175 (spec_PointOk.calls ((rd_T151 l0 x3_1).f0) ((rd_T151 l0 x3_1).f1) _ _ A4.out) ?_; rintro e w6 ⟨rfl, hb⟩; refine ⟨_, rfl, ?_⟩; replace HB := hB hb; (try clear hb)))
     go_roundg k1
     case measure => have := HK1.out; omega
     case rel => exact ⟨(wrap64 (x3_1 + 1)), fS, H', ⟨by have := HK1.out; omega⟩, ⟨bS⟩⟩
    ·obtain rfl := Bool.eq_false_iff.mpr c5
     rw [if_neg nF] at H
     obtain rfl := Option.some.inj H
     have p213 : 0 ≤ (x3_1 : Int) := dA
     have q213 : x3_1 < (l0.length : Int) := dA
     obtain ⟨ad213, e213, hx213_0, hx213_1⟩ := at_T151 HR0.out x3_1 p213 q213
     cases e213
     replace hx213_0 := cB HB hx213_0
     replace hx213_1 := cB HB hx213_1
     replace p213 := eq_true p213
     replace q213 := eq_true q213
     go_wp2_with (first | ((with_reducible refine gC 175 ?_); refine cM (some 14) Tryz.func175 (spec_PointOk.calls ((rd_T151 l0 x3_1).f0) ((rd_T151 l0 x3_1).f1) _ _ A4.out) ?_; rintro e w7 ⟨rfl, hb⟩; refine ⟨_, rfl, ?_⟩; replace HB := hB hb; (try clear hb)))
     go_ret
     exact ⟨eS, bS⟩
   ·obtain rfl := Option.some.inj H
    go_wp2
    go_ret
    exact ⟨eS, bS⟩

/-! ### spec_BoxOk: function 171 -/
def spec_BoxOk.f (a0_0 : Int) (a0_1 : Int) (a0_2 : Int) (a0_3 : Int) : Option (Bool) := (spec_l02In.f a0_0).bind fun t216 => (if t216 = true then ((spec_l02In.f a0_1).bind fun t217 => (if t217 = true then ((spec_l02In.f a0_2).bind fun t218 => (if t218 = true then ((spec_l02In.f a0_3).bind fun t219 => (if t219 = true then (if a0_0 ≤ a0_2 then (some (decide (a0_1 ≤ a0_3))) else (some false)) else (some false))) else (some false))) else (some false))) else (some false))
theorem spec_BoxOk.lf0 {p : Prop} (h : p := by
 go_enter Tryz.func171, Tryz.ntmps171
 go_wp2_with (first | ((with_reducible refine gD 1 ?_); refine bxE #[.int .i64 a0_0, .int .i64 a0_1, .int .i64 a0_2, .int .i64 a0_3] 47 ?_; intro gb215 hg w11 BK215 hb; have GW215 := gE hg; have GE215 := gE hg; replace HB := hB hb; clear hb hg; have hz12 := cz4 BK215) | ((with_reducible refine gC 185 ?_); refine cM (some 5) Tryz.func185 (spec_l02In.calls a0_0 _ _ A2.out) ?_; rintro e w' ⟨rfl, ⟨nd, rfl⟩⟩; refine ⟨_, rfl, ?_⟩) | (go_at_call 185; (with_reducible refine (spec_l02In.calls a0_1 _ _ A4.out).mono ?_); rintro e w' ⟨rfl, ⟨nd, rfl⟩⟩) | (go_at_call 185; (with_reducible refine (spec_l02In.calls a0_2 _ _ A6.out).mono ?_); rintro e w' ⟨rfl, ⟨nd, rfl⟩⟩) | (go_at_call 185; (with_reducible refine (spec_l02In.calls a0_3 _ _ A8.out).mono ?_); rintro e w' ⟨rfl, ⟨nd, rfl⟩⟩))
 go_ret
 exact ⟨eS, bS⟩) : p := h
theorem spec_BoxOk.calls (a0_0 : Int) (a0_1 : Int) (a0_2 : Int) (a0_3 : Int) (r : Bool) (w : World) (h : spec_BoxOk.f a0_0 a0_1 a0_2 a0_3 = some r) :
  Calls Tryz.prog 171 #[.agg #[.int .i64 a0_0, .int .i64 a0_1, .int .i64 a0_2, .int .i64 a0_3]] w fun e w' => e = .returned (.bool r) ∧ Below w.heap.size w w' := by
 have hu47 := Tryz.underlying47
 have HB := aM (Below.refl w.heap.size w)
 have H := h
 clear h
 unfold spec_BoxOk.f at H
 replace H := bN H
 obtain ⟨t216, A2, H⟩ := H
 by_cases c3 : t216 = true
 ·subst c3
  rw [if_pos rfl] at H
  replace H := bN H
  obtain ⟨t217, A4, H⟩ := H
  by_cases c5 : t217 = true
  ·subst c5
   rw [if_pos rfl] at H
   replace H := bN H
   obtain ⟨t218, A6, H⟩ := H
   by_cases c7 : t218 = true
   ·subst c7
    rw [if_pos rfl] at H
    replace H := bN H
    obtain ⟨t219, A8, H⟩ := H
    by_cases c9 : t219 = true
    ·subst c9
     rw [if_pos rfl] at H
     rcases iD H with ⟨c10b0, H⟩ | ⟨c10b0, H⟩
     ·obtain rfl := Option.some.inj H
      exact spec_BoxOk.lf0
     ·obtain rfl := Option.some.inj H
      exact spec_BoxOk.lf0
    ·obtain rfl := Bool.eq_false_iff.mpr c9
     rw [if_neg nF] at H
     obtain rfl := Option.some.inj H
     exact spec_BoxOk.lf0
   ·obtain rfl := Bool.eq_false_iff.mpr c7
    rw [if_neg nF] at H
    obtain rfl := Option.some.inj H
    exact spec_BoxOk.lf0
  ·obtain rfl := Bool.eq_false_iff.mpr c5
   rw [if_neg nF] at H
   obtain rfl := Option.some.inj H
   exact spec_BoxOk.lf0
 ·obtain rfl := Bool.eq_false_iff.mpr c3
  rw [if_neg nF] at H
  obtain rfl := Option.some.inj H
  exact spec_BoxOk.lf0

/-! ### spec_l07Object: function 120 -/
def spec_l07Object.f (k : Nat) (l0_0 : List (S151)) (a0_1 : Int) (a0_2 : Int) (a0_3 : Int) (a0_4 : Int) (a0_5 : Int) : Option (Bool) := if (l0_0.length : Int) ≥ 3 then ((spec_l07Points.f k l0_0).bind fun t221 => (if t221 = true then ((spec_l01In.f a0_1 0 255).bind fun t222 => (if t222 = true then ((spec_BoxOk.f a0_2 a0_3 a0_4 a0_5).bind fun t223 => (some t223)) else (some false))) else (some false))) else (some false)
theorem spec_l07Object.lf0 {p : Prop} (h : p := by
 go_enter Tryz.func120, Tryz.ntmps120
 go_wp2_with (first | ((with_reducible refine gD 1 ?_); refine bxE #[.slice A0_0 l0_0.length c0_0, .int .i64 a0_1, .int .i64 a0_2, .int .i64 a0_3, .int .i64 a0_4, .int .i64 a0_5] 49 ?_; intro gb220 hg w8 BK220 hb; have GW220 := gE hg; have GE220 := gE hg; replace HB := hB hb; clear hb hg; have hz9 := cz6 BK220) | (go_at_call 170; (with_reducible refine (spec_l07Points.calls k _ _ l0_0 _ _ (cC HR0_0 HB) HC0_0.out A3.out).mono ?_); rintro e w10 ⟨rfl, hb⟩; replace BK220 := kB_ gb220 hb; replace HB := hB hb; (try clear hb); have hz11 := cz6 BK220) | (go_at_call 114; (with_reducible refine (spec_l01In.calls a0_1 0 255 _ _ A5.out).mono ?_); rintro e w' ⟨rfl, ⟨nd, rfl⟩⟩) | (go_at_call 171; (with_reducible refine (spec_BoxOk.calls a0_2 a0_3 a0_4 a0_5 t223 _ A7.out).mono ?_); rintro e w12 ⟨rfl, hb⟩; replace BK220 := kB_ gb220 hb; replace HB := hB hb; (try clear hb)))
 go_ret
 exact ⟨eS, bS⟩) : p := h
theorem spec_l07Object.calls (k : Nat) (A0_0 : Option Addr) (c0_0 : Nat) (l0_0 : List (S151)) (a0_1 : Int) (a0_2 : Int) (a0_3 : Int) (a0_4 : Int) (a0_5 : Int) (r : Bool) (w : World) (hr0_0 : Kd.C k151 w A0_0 l0_0.length l0_0) (hc0_0 : l0_0.length ≤ c0_0) (h : spec_l07Object.f k l0_0 a0_1 a0_2 a0_3 a0_4 a0_5 = some r) :
  Calls Tryz.prog 120 #[.agg #[.slice A0_0 l0_0.length c0_0, .int .i64 a0_1, .int .i64 a0_2, .int .i64 a0_3, .int .i64 a0_4, .int .i64 a0_5]] w fun e w' => e = .returned (.bool r) ∧ Below w.heap.size w w' := by
 have hu49 := Tryz.underlying49
 have hu47 := Tryz.underlying47
 have HR0_0 := aM hr0_0
 have HC0_0 := aM hc0_0
 clear hr0_0 hc0_0
 have HB := aM (Below.refl w.heap.size w)
 have H := h
 clear h
 unfold spec_l07Object.f at H
 by_cases c2 : (l0_0.length : Int) ≥ 3
 ·rw [if_pos c2] at H
  have c2b0 : decide (3 ≤ (l0_0.length : Int)) = true := decide_eq_true c2
  have c2b1 : decide (3 ≤ l0_0.length) = true := decide_eq_true (by omega)
  clear c2
  replace H := bN H
  obtain ⟨t221, A3, H⟩ := H
  by_cases c4 : t221 = true
  ·subst c4
   rw [if_pos rfl] at H
   replace H := bN H
   obtain ⟨t222, A5, H⟩ := H
   by_cases c6 : t222 = true
   ·subst c6
    rw [if_pos rfl] at H
    replace H := bN H
    obtain ⟨t223, A7, H⟩ := H
    obtain rfl := Option.some.inj H
    exact spec_l07Object.lf0
   ·obtain rfl := Bool.eq_false_iff.mpr c6
    rw [if_neg nF] at H
    obtain rfl := Option.some.inj H
    exact spec_l07Object.lf0
  ·obtain rfl := Bool.eq_false_iff.mpr c4
   rw [if_neg nF] at H
   obtain rfl := Option.some.inj H
   go_enter Tryz.func120, Tryz.ntmps120
   go_wp2_with (first | ((with_reducible refine gD 1 ?_); refine bxE #[.slice A0_0 l0_0.length c0_0, .int .i64 a0_1, .int .i64 a0_2, .int .i64 a0_3, .int .i64 a0_4, .int .i64 a0_5] 49 ?_; intro gb220 hg w17 BK220 hb; have GW220 := gE hg; have GE220 := gE hg; replace HB := hB hb; clear hb hg; have hz18 := cz6 BK220) | (go_at_call 170; (with_reducible refine (spec_l07Points.calls k _ _ l0_0 _ _ (cC HR0_0 HB) HC0_0.out A3.out).mono ?_); rintro e w19 ⟨rfl, hb⟩; replace BK220 := kB_ gb220 hb; replace HB := hB hb; (try clear hb)))
   go_ret
   exact ⟨eS, bS⟩
 ·rw [if_neg c2] at H
  have c2b0 : decide (3 ≤ (l0_0.length : Int)) = false := decide_eq_false c2
  have c2b1 : decide (3 ≤ l0_0.length) = false := decide_eq_false (by omega)
  clear c2
  obtain rfl := Option.some.inj H
  exact spec_l07Object.lf0

/-! ### spec_ObjectOk: function 58 -/
def spec_ObjectOk.f (k : Nat) (l0_0 : List (S151)) (a0_1 : Int) (a0_2 : Int) (a0_3 : Int) (a0_4 : Int) (a0_5 : Int) : Option (Bool) := (spec_l07Object.f k l0_0 a0_1 a0_2 a0_3 a0_4 a0_5).bind fun t225 => (some t225)
theorem spec_ObjectOk.calls (k : Nat) (A0_0 : Option Addr) (c0_0 : Nat) (l0_0 : List (S151)) (a0_1 : Int) (a0_2 : Int) (a0_3 : Int) (a0_4 : Int) (a0_5 : Int) (r : Bool) (w : World) (hr0_0 : Kd.C k151 w A0_0 l0_0.length l0_0) (hc0_0 : l0_0.length ≤ c0_0) (h : spec_ObjectOk.f k l0_0 a0_1 a0_2 a0_3 a0_4 a0_5 = some r) :
  Calls Tryz.prog 58 #[.agg #[.slice A0_0 l0_0.length c0_0, .int .i64 a0_1, .int .i64 a0_2, .int .i64 a0_3, .int .i64 a0_4, .int .i64 a0_5]] w fun e w' => e = .returned (.bool r) ∧ Below w.heap.size w w' := by
 have hu49 := Tryz.underlying49
 have HR0_0 := aM hr0_0
 have HC0_0 := aM hc0_0
 clear hr0_0 hc0_0
 have HB := aM (Below.refl w.heap.size w)
 have H := h
 clear h
 unfold spec_ObjectOk.f at H
 replace H := bN H
 obtain ⟨t225, A2, H⟩ := H
 obtain rfl := Option.some.inj H
 go_enter Tryz.func58, Tryz.ntmps58
 go_wp2_with (first | ((with_reducible refine gD 1 ?_); refine bxE #[.slice A0_0 l0_0.length c0_0, .int .i64 a0_1, .int .i64 a0_2, .int .i64 a0_3, .int .i64 a0_4, .int .i64 a0_5] 49 ?_; intro gb224 hg w3 BK224 hb; have GW224 := gE hg; have GE224 := gE hg; replace HB := hB hb; clear hb hg; have hz4 := cz6 BK224) | ((with_reducible refine gC 120 ?_); refine cM (some 4) Tryz.func120 (spec_l07Object.calls k _ _ l0_0 a0_1 a0_2 a0_3 a0_4 a0_5 t225 _ (cC HR0_0 HB) HC0_0.out A2.out) ?_; rintro e w5 ⟨rfl, hb⟩; refine ⟨_, rfl, ?_⟩; replace BK224 := kB_ gb224 hb; replace HB := hB hb; (try clear hb)))
 go_ret
 exact ⟨eS, bS⟩

/-! ### spec_BandCells: function 60 -/
def spec_BandCells.l0 : Nat → Int → Int → Int → Int → List (List Int) → List (S49) → Option (Int)
 | 0, _, _, _, _, _, _ => none
 | k + 1, x3, x4, x227000, x227001, x227002, x227003 => if x4 < (x227003.length : Int) then (if 0 ≤ x4 then (spec_BandCells.l0 k (wrap64 ((wrap64 (x3 + 2)) + (((rd_T49 x227003 x4).f0).length : Int))) (wrap64 (x4 + 1)) x227000 x227001 x227002 x227003) else (none)) else (some x3)
def spec_BandCells.f (k : Nat) (a0_0 : Int) (a0_1 : Int) (l0_2 : List (List Int)) (l0_3 : List (S49)) : Option (Int) := spec_BandCells.l0 k 0 0 a0_0 a0_1 l0_2 l0_3
theorem spec_BandCells.calls (k : Nat) (a0_0 : Int) (a0_1 : Int) (A0_2 : Option Addr) (c0_2 : Nat) (l0_2 : List (List Int)) (A0_3 : Option Addr) (c0_3 : Nat) (l0_3 : List (S49)) (r : Int) (w : World) (hr0_2 : Kd.C (Kd.slice 3 (Kd.int .i64)) w A0_2 l0_2.length l0_2) (hc0_2 : l0_2.length ≤ c0_2) (hr0_3 : Kd.C k49 w A0_3 l0_3.length l0_3) (hc0_3 : l0_3.length ≤ c0_3) (h : spec_BandCells.f k a0_0 a0_1 l0_2 l0_3 = some r) :
  Calls Tryz.prog 60 #[.agg #[.int .i64 a0_0, .int .i64 a0_1, .slice A0_2 l0_2.length c0_2, .slice A0_3 l0_3.length c0_3]] w fun e w' => e = .returned (.int .i64 r) ∧ Below w.heap.size w w' := by
 have hu30 := Tryz.underlying30
 have HR0_2 := aM hr0_2
 have HC0_2 := aM hc0_2
 clear hr0_2 hc0_2
 have HR0_3 := aM hr0_3
 have HC0_3 := aM hc0_3
 clear hr0_3 hc0_3
 have HB := aM (Below.refl w.heap.size w)
 have H := h
 clear h
 unfold spec_BandCells.f at H
 have H' := aM H
 clear H
 go_enter Tryz.func60, Tryz.ntmps60
 go_wp2_with (first | ((with_reducible refine gD 1 ?_); refine bxE #[.int .i64 a0_0, .int .i64 a0_1, .slice A0_2 l0_2.length c0_2, .slice A0_3 l0_3.length c0_3] 30 ?_; intro gb226 hg w2 BK226 hb; have GW226 := gE hg; have GE226 := gE hg; replace HB := hB hb; clear hb hg))
 go_loopg [3, 4] k (fun kq v3 v4 w' => ∃ (x3_1 : Int) (x4_1 : Int), v3 = .int .i64 x3_1 ∧ v4 = .int .i64 x4_1 ∧ Aside0 (spec_BandCells.l0 kq x3_1 x4_1 a0_0 a0_1 l0_2 l0_3 = some r) ∧ Aside0 (kq ≤ k) ∧ Aside0 (w'.heap[gb226]? = some (.cells #[.int .i64 a0_0, .int .i64 a0_1, (.slice A0_2 l0_2.length c0_2), (.slice A0_3 l0_3.length c0_3)] 30 (0, 0))) ∧ Aside0 (Below w.heap.size w w'))
 case atStart => exact ⟨(0), (0), fS, fS, H', ⟨Nat.le_refl _⟩, ⟨kS⟩, ⟨bS⟩⟩
 case round =>
  clear H'
  try clear p2
  obtain ⟨x3_1, x4_1, rfl, rfl, HA, HK1, BK226, HB⟩ := hrel
  cases gk with
  | zero => exact absurd HA.out (by simp [spec_BandCells.l0])
  | succ k1 =>
   have H := HA.out
   clear HA
   simp only [spec_BandCells.l0] at H
   rcases iD H with ⟨c3b0, H⟩ | ⟨c3b0, H⟩
   ·obtain ⟨c4b0, H⟩ := iT H
    have H' := aM H
    clear H
    have hz5 := cz4 BK226
    have p227 : 0 ≤ (x4_1 : Int) := dA
    have q227 : x4_1 < (l0_3.length : Int) := dA
    obtain ⟨ad227, A227_0, c227_0, e227, hx227_0, hx227_1, hx227_2, hx227_3, hx227_4, hx227_5, hl227_0, hi227_0⟩ := at_T49 HR0_3.out x4_1 p227 q227
    cases e227
    replace hx227_0 := cB HB hx227_0
    replace hx227_1 := cB HB hx227_1
    replace hx227_2 := cB HB hx227_2
    replace hx227_3 := cB HB hx227_3
    replace hx227_4 := cB HB hx227_4
    replace hx227_5 := cB HB hx227_5
    have HR227_0 := aM hi227_0
    have HC227_0 := aM hl227_0
    clear hi227_0 hl227_0
    replace p227 := eq_true p227
    replace q227 := eq_true q227
    go_wp2
    go_roundg k1
    case measure => have := HK1.out; omega
    case rel => exact ⟨(wrap64 ((wrap64 (x3_1 + 2)) + (((rd_T49 l0_3 x4_1).f0).length : Int))), (wrap64 (x4_1 + 1)), fS, fS, H', ⟨by have := HK1.out; omega⟩, ⟨kS⟩, ⟨bS⟩⟩
   ·obtain rfl := Option.some.inj H
    have hz6 := cz4 BK226
    go_wp2
    go_ret
    exact ⟨eS, bS⟩

/-! ### spec_IsHeight: function 182 -/
def spec_IsHeight.f (a0 : Int) : Option (Bool) := if a0 = 1 then (some true) else (if a0 = 2 then (some true) else (if a0 = 4 then (some true) else (if a0 = 8 then (some true) else (if a0 = 16 then (some true) else (some (a0 == 32))))))
theorem spec_IsHeight.calls (a0 : Int) (r : Bool) (w : World) (h : spec_IsHeight.f a0 = some r) :
  Calls Tryz.prog 182 #[.int .i64 a0] w fun e w' => e = .returned (.bool r) ∧ Drawn0 w w' := by
 have H := h
 clear h
 unfold spec_IsHeight.f at H
 by_cases c2 : a0 = 1
 ·rw [if_pos c2] at H
  have c2b0 : (a0 == 1) = true := beq_iff_eq.mpr c2
  have c2b1 : (a0 != 1) = false := bne_eq_false_iff_eq.mpr c2
  clear c2
  obtain rfl := Option.some.inj H
  go_enter Tryz.func182, Tryz.ntmps182
  go_wp2
  go_ret
  exact ⟨fS, dS⟩
 ·rw [if_neg c2] at H
  have c2b0 : (a0 == 1) = false := beq_eq_false_iff_ne.mpr c2
  have c2b1 : (a0 != 1) = true := bne_iff_ne.mpr c2
  by_cases c3 : a0 = 2
  ·rw [if_pos c3] at H
   have c3b0 : (a0 == 2) = true := beq_iff_eq.mpr c3
   have c3b1 : (a0 != 2) = false := bne_eq_false_iff_eq.mpr c3
   clear c3
   obtain rfl := Option.some.inj H
   go_enter Tryz.func182, Tryz.ntmps182
   go_wp2
   go_ret
   exact ⟨fS, dS⟩
  ·rw [if_neg c3] at H
   have c3b0 : (a0 == 2) = false := beq_eq_false_iff_ne.mpr c3
   have c3b1 : (a0 != 2) = true := bne_iff_ne.mpr c3
   by_cases c4 : a0 = 4
   ·rw [if_pos c4] at H
    have c4b0 : (a0 == 4) = true := beq_iff_eq.mpr c4
    have c4b1 : (a0 != 4) = false := bne_eq_false_iff_eq.mpr c4
    clear c4
    obtain rfl := Option.some.inj H
    go_enter Tryz.func182, Tryz.ntmps182
    go_wp2
    go_ret
    exact ⟨fS, dS⟩
   ·rw [if_neg c4] at H
    have c4b0 : (a0 == 4) = false := beq_eq_false_iff_ne.mpr c4
    have c4b1 : (a0 != 4) = true := bne_iff_ne.mpr c4
    by_cases c5 : a0 = 8
    ·rw [if_pos c5] at H
     have c5b0 : (a0 == 8) = true := beq_iff_eq.mpr c5
     have c5b1 : (a0 != 8) = false := bne_eq_false_iff_eq.mpr c5
     clear c5
     obtain rfl := Option.some.inj H
     go_enter Tryz.func182, Tryz.ntmps182
     go_wp2
     go_ret
     exact ⟨fS, dS⟩
    ·rw [if_neg c5] at H
     have c5b0 : (a0 == 8) = false := beq_eq_false_iff_ne.mpr c5
     have c5b1 : (a0 != 8) = true := bne_iff_ne.mpr c5
     by_cases c6 : a0 = 16
     ·rw [if_pos c6] at H
      have c6b0 : (a0 == 16) = true := beq_iff_eq.mpr c6
      have c6b1 : (a0 != 16) = false := bne_eq_false_iff_eq.mpr c6
      clear c6
      obtain rfl := Option.some.inj H
      go_enter Tryz.func182, Tryz.ntmps182
      go_wp2
      go_ret
      exact ⟨fS, dS⟩
     ·rw [if_neg c6] at H
      have c6b0 : (a0 == 16) = false := beq_eq_false_iff_ne.mpr c6
      have c6b1 : (a0 != 16) = true := bne_iff_ne.mpr c6
      obtain rfl := Option.some.inj H
      go_enter Tryz.func182, Tryz.ntmps182
      go_wp2
      go_ret
      exact ⟨fS, dS⟩

/-! ### spec_CountBands: function 162 -/
def spec_CountBands.f (a0 : Int) : Option (Int) := (spec_IsHeight.f a0).bind fun t228 => (if t228 = true then (if a0 = 0 then (none) else (some (wrap64 ((32 : Int) / a0)))) else (some 0))
theorem spec_CountBands.calls (a0 : Int) (r : Int) (w : World) (h : spec_CountBands.f a0 = some r) :
  Calls Tryz.prog 162 #[.int .i64 a0] w fun e w' => e = .returned (.int .i64 r) ∧ Drawn0 w w' := by
 have H := h
 clear h
 unfold spec_CountBands.f at H
 replace H := bN H
 obtain ⟨t228, A2, H⟩ := H
 by_cases c3 : t228 = true
 ·subst c3
  rw [if_pos rfl] at H
  by_cases c4 : a0 = 0
  ·rw [if_pos c4] at H
   exact absurd H (by simp)
  ·rw [if_neg c4] at H
   have c4b0 : (a0 == 0) = false := beq_eq_false_iff_ne.mpr c4
   have c4b1 : (a0 != 0) = true := bne_iff_ne.mpr c4
   obtain rfl := Option.some.inj H
   go_enter Tryz.func162, Tryz.ntmps162
   go_wp2_with (first | ((with_reducible refine gC 182 ?_); refine cM (some 4) Tryz.func182 (spec_IsHeight.calls a0 _ _ A2.out) ?_; rintro e w' ⟨rfl, ⟨nd, rfl⟩⟩; refine ⟨_, rfl, ?_⟩))
   go_ret
   exact ⟨by first | rfl | (simp; done) | (simp [*]; done) | (simp [*, Int.tdiv_eq_ediv_of_nonneg]; done), dS⟩
 ·obtain rfl := Bool.eq_false_iff.mpr c3
  rw [if_neg nF] at H
  obtain rfl := Option.some.inj H
  go_enter Tryz.func162, Tryz.ntmps162
  go_wp2_with (first | ((with_reducible refine gC 182 ?_); refine cM (some 4) Tryz.func182 (spec_IsHeight.calls a0 _ _ A2.out) ?_; rintro e w' ⟨rfl, ⟨nd, rfl⟩⟩; refine ⟨_, rfl, ?_⟩))
  go_ret
  exact ⟨by first | rfl | (simp; done) | (simp [*]; done) | (simp [*, Int.tdiv_eq_ediv_of_nonneg]; done), dS⟩

/-! ### spec_l12Ok: function 107 -/
def spec_l12Ok.f (a0 : Int) (a1 : Int) : Option (Bool) := (spec_CountBands.f a0).bind fun t229 => ((spec_l01In.f a1 0 (wrap64 (t229 - 1))).bind fun t230 => (some t230))
theorem spec_l12Ok.calls (a0 : Int) (a1 : Int) (r : Bool) (w : World) (h : spec_l12Ok.f a0 a1 = some r) :
  Calls Tryz.prog 107 #[.int .i64 a0, .int .i64 a1] w fun e w' => e = .returned (.bool r) ∧ Drawn0 w w' := by
 have H := h
 clear h
 unfold spec_l12Ok.f at H
 replace H := bN H
 obtain ⟨t229, A3, H⟩ := H
 replace H := bN H
 obtain ⟨t230, A4, H⟩ := H
 obtain rfl := Option.some.inj H
 go_enter Tryz.func107, Tryz.ntmps107
 go_wp2_with (first | ((with_reducible refine gC 162 ?_); refine cM (some 7) Tryz.func162 (spec_CountBands.calls a0 t229 _ A3.out) ?_; rintro e w' ⟨rfl, ⟨nd, rfl⟩⟩; refine ⟨_, rfl, ?_⟩) | ((with_reducible refine gC 114 ?_); refine cM (some 9) Tryz.func114 (spec_l01In.calls a1 0 (wrap64 (t229 - 1)) t230 _ A4.out) ?_; rintro e w' ⟨rfl, ⟨nd, rfl⟩⟩; refine ⟨_, rfl, ?_⟩))
 go_ret
 exact ⟨fS, dS⟩

/-! ### spec_l11Row: function 163 -/
def spec_l11Row.l0 : Nat → List Int → Int → Option (Bool)
 | 0, _, _ => none
 | k + 1, x0, x3 => if x3 < (x0.length : Int) then (if 0 ≤ x3 then ((spec_l01In.f (rd x0 x3) 0 255).bind fun t232 => (if t232 = true then (spec_l11Row.l0 k x0 (wrap64 (x3 + 1))) else (some false))) else (none)) else (some ((x0.length : Int) == 32))
def spec_l11Row.f (k : Nat) (l0 : List Int) : Option (Bool) := spec_l11Row.l0 k l0 0
theorem spec_l11Row.calls (k : Nat) (A0 : Option Addr) (c0 : Nat) (l0 : List Int) (r : Bool) (w : World) (hr0 : Kd.C (Kd.int .i64) w A0 l0.length l0) (hc0 : l0.length ≤ c0) (h : spec_l11Row.f k l0 = some r) :
  Calls Tryz.prog 163 #[.slice A0 l0.length c0] w fun e w' => e = .returned (.bool r) ∧ Drawn0 w w' := by
 have HR0 := aM hr0
 have HC0 := aM hc0
 clear hr0 hc0
 have H := h
 clear h
 unfold spec_l11Row.f at H
 have H' := aM H
 clear H
 go_enter Tryz.func163, Tryz.ntmps163
 go_wp2
 go_loopg [3] k (fun kq v3 w' => ∃ (x3_1 : Int), v3 = .int .i64 x3_1 ∧ Aside0 (spec_l11Row.l0 kq l0 x3_1 = some r) ∧ Aside0 (kq ≤ k) ∧ Drawn0 w w')
 case atStart => exact ⟨(0), fS, H', ⟨Nat.le_refl _⟩, dS⟩
 case round =>
  clear H'
  try clear c1
  obtain ⟨x3_1, rfl, HA, HK1, ⟨m1, rfl⟩⟩ := hrel
  cases gk with
  | zero => exact absurd HA.out (by simp [spec_l11Row.l0])
  | succ k1 =>
   have H := HA.out
   clear HA
   simp only [spec_l11Row.l0] at H
   rcases iD H with ⟨c2b0, H⟩ | ⟨c2b0, H⟩
   ·obtain ⟨c3b0, H⟩ := iT H
    replace H := bN H
    obtain ⟨t232, A4, H⟩ := H
    by_cases c5 : t232 = true
    ·subst c5
     rw [if_pos rfl] at H
     have H' := aM H
     clear H
     have p231 : 0 ≤ (x3_1 : Int) := dA
     have q231 : x3_1 < (l0.length : Int) := dA
     obtain ⟨ad231, e231, hx231_0⟩ := Kd.at_int HR0.out x3_1 p231 q231
     cases e231
     replace p231 := eq_true p231
     replace q231 := eq_true q231
     go_wp2_with (first | ((with_reducible refine gC 114 ?_); refine cM (some 14) Tryz.func114 (spec_l01In.calls (rd l0 x3_1) 0 255 _ _ A4.out) ?_; rintro e w' ⟨rfl, ⟨nd, rfl⟩⟩; refine ⟨_, rfl, ?_⟩))
     go_roundg k1
     case measure => have := HK1.out; omega
     case rel => exact ⟨(wrap64 (x3_1 + 1)), fS, H', ⟨by have := HK1.out; omega⟩, dS⟩
    ·obtain rfl := Bool.eq_false_iff.mpr c5
     rw [if_neg nF] at H
     obtain rfl := Option.some.inj H
     have p231 : 0 ≤ (x3_1 : Int) := dA
     have q231 : x3_1 < (l0.length : Int) := dA
     obtain ⟨ad231, e231, hx231_0⟩ := Kd.at_int HR0.out x3_1 p231 q231
     cases e231
     replace p231 := eq_true p231
     replace q231 := eq_true q231
     go_wp2_with (first | ((with_reducible refine gC 114 ?_); refine cM (some 14) Tryz.func114 (spec_l01In.calls (rd l0 x3_1) 0 255 _ _ A4.out) ?_; rintro e w' ⟨rfl, ⟨nd, rfl⟩⟩; refine ⟨_, rfl, ?_⟩))
     go_ret
     exact ⟨fS, dS⟩
   ·obtain rfl := Option.some.inj H
    go_wp2
    go_ret
    exact ⟨fS, dS⟩

/-! ### spec_RowsOk: function 108 -/
def spec_RowsOk.l0 : Nat → List (List Int) → Int → Option (Bool)
 | 0, _, _ => none
 | k + 1, x0, x3 => if x3 < (x0.length : Int) then (if 0 ≤ x3 then ((spec_l11Row.f k (rd_L1 x0 x3)).bind fun t234 => (if t234 = true then (spec_RowsOk.l0 k x0 (wrap64 (x3 + 1))) else (some false))) else (none)) else (some (decide ((x0.length : Int) ≤ 32)))
def spec_RowsOk.f (k : Nat) (l0 : List (List Int)) : Option (Bool) := spec_RowsOk.l0 k l0 0
theorem spec_RowsOk.calls (k : Nat) (A0 : Option Addr) (c0 : Nat) (l0 : List (List Int)) (r : Bool) (w : World) (hr0 : Kd.C (Kd.slice 3 (Kd.int .i64)) w A0 l0.length l0) (hc0 : l0.length ≤ c0) (h : spec_RowsOk.f k l0 = some r) :
  Calls Tryz.prog 108 #[.slice A0 l0.length c0] w fun e w' => e = .returned (.bool r) ∧ Drawn0 w w' := by
 have HR0 := aM hr0
 have HC0 := aM hc0
 clear hr0 hc0
 have H := h
 clear h
 unfold spec_RowsOk.f at H
 have H' := aM H
 clear H
 go_enter Tryz.func108, Tryz.ntmps108
 go_wp2
 go_loopg [3] k (fun kq v3 w' => ∃ (x3_1 : Int), v3 = .int .i64 x3_1 ∧ Aside0 (spec_RowsOk.l0 kq l0 x3_1 = some r) ∧ Aside0 (kq ≤ k) ∧ Drawn0 w w')
 case atStart => exact ⟨(0), fS, H', ⟨Nat.le_refl _⟩, dS⟩
 case round =>
  clear H'
  try clear c1
  obtain ⟨x3_1, rfl, HA, HK1, ⟨m1, rfl⟩⟩ := hrel
  cases gk with
  | zero => exact absurd HA.out (by simp [spec_RowsOk.l0])
  | succ k1 =>
   have H := HA.out
   clear HA
   simp only [spec_RowsOk.l0] at H
   rcases iD H with ⟨c2b0, H⟩ | ⟨c2b0, H⟩
   ·obtain ⟨c3b0, H⟩ := iT H
    replace H := bN H
    obtain ⟨t234, A4, H⟩ := H
    by_cases c5 : t234 = true
    ·subst c5
     rw [if_pos rfl] at H
     have H' := aM H
     clear H
     have p233 : 0 ≤ (x3_1 : Int) := dA
     have q233 : x3_1 < (l0.length : Int) := dA
     obtain ⟨ad233, A233_0, c233_0, e233, hx233_0, hl233_0, hi233_0⟩ := at_L1 HR0.out x3_1 p233 q233
     cases e233
     have HR233_0 := aM hi233_0
     have HC233_0 := aM hl233_0
     clear hi233_0 hl233_0
     replace p233 := eq_true p233
     replace q233 := eq_true q233
     go_wp2_with (first | ((with_reducible refine gC 163 ?_); refine cL (some 14) Tryz.func163 #[.slice A233_0 (rd_L1 l0 x3_1).length c233_0] ?_; (with_reducible refine (spec_l11Row.calls k1 _ _ (rd_L1 l0 x3_1) _ _ ?side1 ?side2 A4.out).mono ?_); (case side1 => exact cS HR233_0.out); (case side2 => exact HC233_0.out); rintro e w' ⟨rfl, ⟨nd, rfl⟩⟩; refine ⟨_, rfl, ?_⟩))
     go_roundg k1
     case measure => have := HK1.out; omega
     case rel => exact ⟨(wrap64 (x3_1 + 1)), fS, H', ⟨by have := HK1.out; omega⟩, dS⟩
    ·obtain rfl := Bool.eq_false_iff.mpr c5
     rw [if_neg nF] at H
     obtain rfl := Option.some.inj H
     have p233 : 0 ≤ (x3_1 : Int) := dA
     have q233 : x3_1 < (l0.length : Int) := dA
     obtain ⟨ad233, A233_0, c233_0, e233, hx233_0, hl233_0, hi233_0⟩ := at_L1 HR0.out x3_1 p233 q233
     cases e233
     have HR233_0 := aM hi233_0
     have HC233_0 := aM hl233_0
     clear hi233_0 hl233_0
     replace p233 := eq_true p233
     replace q233 := eq_true q233
     go_wp2_with (first | ((with_reducible refine gC 163 ?_); refine cL (some 14) Tryz.func163 #[.slice A233_0 (rd_L1 l0 x3_1).length c233_0] ?_; (with_reducible refine (spec_l11Row.calls k1 _ _ (rd_L1 l0 x3_1) _ _ ?side1 ?side2 A4.out).mono ?_); (case side1 => exact cS HR233_0.out); (case side2 => exact HC233_0.out); rintro e w' ⟨rfl, ⟨nd, rfl⟩⟩; refine ⟨_, rfl, ?_⟩))
     go_ret
     exact ⟨fS, dS⟩
   ·obtain rfl := Option.some.inj H
    go_wp2
    go_ret
    exact ⟨fS, dS⟩

/-! ### spec_BandOk: function 43 -/
def spec_BandOk.l0 : Nat → Int → Int → Int → List (List Int) → List (S49) → Option (Bool)
 | 0, _, _, _, _, _ => none
 | k + 1, x3, x236000, x236001, x236002, x236003 => if x3 < (x236003.length : Int) then (if 0 ≤ x3 then ((spec_ObjectOk.f k ((rd_T49 x236003 x3).f0) ((rd_T49 x236003 x3).f1) ((rd_T49 x236003 x3).f2.f0) ((rd_T49 x236003 x3).f2.f1) ((rd_T49 x236003 x3).f2.f2) ((rd_T49 x236003 x3).f2.f3)).bind fun t237 => (if t237 = true then (spec_BandOk.l0 k (wrap64 (x3 + 1)) x236000 x236001 x236002 x236003) else (some false))) else (none)) else ((spec_l12Ok.f x236000 x236001).bind fun t238 => (if t238 = true then (if (x236002.length : Int) = x236000 then ((spec_RowsOk.f k x236002).bind fun t239 => (if t239 = true then ((spec_BandCells.f k x236000 x236001 x236002 x236003).bind fun t240 => (some (decide (t240 ≤ 60)))) else (some false))) else (some false)) else (some false)))
def spec_BandOk.f (k : Nat) (a0_0 : Int) (a0_1 : Int) (l0_2 : List (List Int)) (l0_3 : List (S49)) : Option (Bool) := spec_BandOk.l0 k 0 a0_0 a0_1 l0_2 l0_3
theorem spec_BandOk.calls (k : Nat) (a0_0 : Int) (a0_1 : Int) (A0_2 : Option Addr) (c0_2 : Nat) (l0_2 : List (List Int)) (A0_3 : Option Addr) (c0_3 : Nat) (l0_3 : List (S49)) (r : Bool) (w : World) (hr0_2 : Kd.C (Kd.slice 3 (Kd.int .i64)) w A0_2 l0_2.length l0_2) (hc0_2 : l0_2.length ≤ c0_2) (hr0_3 : Kd.C k49 w A0_3 l0_3.length l0_3) (hc0_3 : l0_3.length ≤ c0_3) (h : spec_BandOk.f k a0_0 a0_1 l0_2 l0_3 = some r) :
  Calls Tryz.prog 43 #[.agg #[.int .i64 a0_0, .int .i64 a0_1, .slice A0_2 l0_2.length c0_2, .slice A0_3 l0_3.length c0_3]] w fun e w' => e = .returned (.bool r) ∧ Below w.heap.size w w' := by
 have hu30 := Tryz.underlying30
 have hu49 := Tryz.underlying49
 have HR0_2 := aM hr0_2
 have HC0_2 := aM hc0_2
 clear hr0_2 hc0_2
 have HR0_3 := aM hr0_3
 have HC0_3 := aM hc0_3
 clear hr0_3 hc0_3
 have HB := aM (Below.refl w.heap.size w)
 have H := h
 clear h
 unfold spec_BandOk.f at H
 have H' := aM H
 clear H
 go_enter Tryz.func43, Tryz.ntmps43
 go_wp2_with (first | ((with_reducible refine gD 1 ?_); refine bxE #[.int .i64 a0_0, .int .i64 a0_1, .slice A0_2 l0_2.length c0_2, .slice A0_3 l0_3.length c0_3] 30 ?_; intro gb235 hg w2 BK235 hb; have GW235 := gE hg; have GE235 := gE hg; replace HB := hB hb; clear hb hg))
 go_loopg [3] k (fun kq v3 w' => ∃ (x3_1 : Int), v3 = .int .i64 x3_1 ∧ Aside0 (spec_BandOk.l0 kq x3_1 a0_0 a0_1 l0_2 l0_3 = some r) ∧ Aside0 (kq ≤ k) ∧ Aside0 (w'.heap[gb235]? = some (.cells #[.int .i64 a0_0, .int .i64 a0_1, (.slice A0_2 l0_2.length c0_2), (.slice A0_3 l0_3.length c0_3)] 30 (0, 0))) ∧ Aside0 (Below w.heap.size w w'))
 case atStart => exact ⟨(0), fS, H', ⟨Nat.le_refl _⟩, ⟨kS⟩, ⟨bS⟩⟩
 case round =>
  clear H'
  try clear p2
  obtain ⟨x3_1, rfl, HA, HK1, BK235, HB⟩ := hrel
  cases gk with
  | zero => exact absurd HA.out (by simp [spec_BandOk.l0])
  | succ k1 =>
   have H := HA.out
   clear HA
   simp only [spec_BandOk.l0] at H
   rcases iD H with ⟨c3b0, H⟩ | ⟨c3b0, H⟩
   ·obtain ⟨c4b0, H⟩ := iT H
    replace H := bN H
    obtain ⟨t237, A5, H⟩ := H
    by_cases c6 : t237 = true
    ·subst c6
     rw [if_pos rfl] at H
     have H' := aM H
     clear H
     have hz7 := cz4 BK235
     have p236 : 0 ≤ (x3_1 : Int) := dA
     have q236 : x3_1 < (l0_3.length : Int) := dA
     obtain ⟨ad236, A236_0, c236_0, e236, hx236_0, hx236_1, hx236_2, hx236_3, hx236_4, hx236_5, hl236_0, hi236_0⟩ := at_T49 HR0_3.out x3_1 p236 q236
     cases e236
     replace hx236_0 := cB HB hx236_0
     replace hx236_1 := cB HB hx236_1
     replace hx236_2 := cB HB hx236_2
     replace hx236_3 := cB HB hx236_3
     replace hx236_4 := cB HB hx236_4
     replace hx236_5 := cB HB hx236_5
     have HR236_0 := aM hi236_0
     have HC236_0 := aM hl236_0
     clear hi236_0 hl236_0
     replace p236 := eq_true p236
     replace q236 := eq_true q236
     go_wp2_with (first | ((with_reducible refine gC 58 ?_); refine cM (some 16) Tryz.func58 (spec_ObjectOk.calls k1 _ _ ((rd_T49 l0_3 x3_1).f0) ((rd_T49 l0_3 x3_1).f1) ((rd_T49 l0_3 x3_1).f2.f0) ((rd_T49 l0_3 x3_1).f2.f1) ((rd_T49 l0_3 x3_1).f2.f2) ((rd_T49 l0_3 x3_1).f2.f3) _ _ (cC HR236_0 HB) HC236_0.out A5.out) ?_; rintro e w8 ⟨rfl, hb⟩; refine ⟨_, rfl, ?_⟩; replace BK235 := kB_ gb235 hb; replace HB := hB hb; (try clear hb)))
     go_roundg k1
     case measure => have := HK1.out; omega
     case rel => exact ⟨(wrap64 (x3_1 + 1)), fS, H', ⟨by have := HK1.out; omega⟩, ⟨kS⟩, ⟨bS⟩⟩
    ·obtain rfl := Bool.eq_false_iff.mpr c6
     rw [if_neg nF] at H
     obtain rfl := Option.some.inj H
     have hz9 := cz4 BK235
     have p236 : 0 ≤ (x3_1 : Int) := dA
     have q236 : x3_1 < (l0_3.length : Int) := dA
     obtain ⟨ad236, A236_0, c236_0, e236, hx236_0, hx236_1, hx236_2, hx236_3, hx236_4, hx236_5, hl236_0, hi236_0⟩ := at_T49 HR0_3.out x3_1 p236 q236
     cases e236
     replace hx236_0 := cB HB hx236_0
     replace hx236_1 := cB HB hx236_1
     replace hx236_2 := cB HB hx236_2
     replace hx236_3 := cB HB hx236_3
     replace hx236_4 := cB HB hx236_4
     replace hx236_5 := cB HB hx236_5
     have HR236_0 := aM hi236_0
     have HC236_0 := aM hl236_0
     clear hi236_0 hl236_0
     replace p236 := eq_true p236
     replace q236 := eq_true q236
     go_wp2_with (first | ((with_reducible refine gC 58 ?_); refine cM (some 16) Tryz.func58 (spec_ObjectOk.calls k1 _ _ ((rd_T49 l0_3 x3_1).f0) ((rd_T49 l0_3 x3_1).f1) ((rd_T49 l0_3 x3_1).f2.f0) ((rd_T49 l0_3 x3_1).f2.f1) ((rd_T49 l0_3 x3_1).f2.f2) ((rd_T49 l0_3 x3_1).f2.f3) _ _ (cC HR236_0 HB) HC236_0.out A5.out) ?_; rintro e w10 ⟨rfl, hb⟩; refine ⟨_, rfl, ?_⟩; replace BK235 := kB_ gb235 hb; replace HB := hB hb; (try clear hb)))
     go_ret
     exact ⟨eS, bS⟩
   ·replace H := bN H
    obtain ⟨t238, A11, H⟩ := H
    by_cases c12 : t238 = true
    ·subst c12
     rw [if_pos rfl] at H
     by_cases c13 : (l0_2.length : Int) = a0_0
     ·rw [if_pos c13] at H
      have c13b0 : ((l0_2.length : Int) == a0_0) = true := beq_iff_eq.mpr c13
      have c13b1 : ((l0_2.length : Int) != a0_0) = false := bne_eq_false_iff_eq.mpr c13
      clear c13
      replace H := bN H
      obtain ⟨t239, A14, H⟩ := H
      by_cases c15 : t239 = true
      ·subst c15
       rw [if_pos rfl] at H
       replace H := bN H
       obtain ⟨t240, A16, H⟩ := H
       obtain rfl := Option.some.inj H
       have hz17 := cz4 BK235
       go_wp2_with (first | ((with_reducible refine gC 107 ?_); refine cM (some 22) Tryz.func107 (spec_l12Ok.calls a0_0 a0_1 _ _ A11.out) ?_; rintro e w' ⟨rfl, ⟨nd, rfl⟩⟩; refine ⟨_, rfl, ?_⟩) | (go_at_call 108; (with_reducible refine (spec_RowsOk.calls k1 _ _ l0_2 _ _ (cS (Kd.C_below HR0_2.out bS)) HC0_2.out A14.out).mono ?_); rintro e w' ⟨rfl, ⟨nd, rfl⟩⟩) | (go_at_call 60; (with_reducible refine (spec_BandCells.calls k1 a0_0 a0_1 _ _ l0_2 _ _ l0_3 t240 _ (cS (Kd.C_below HR0_2.out bS)) HC0_2.out (cS (Kd.C_below HR0_3.out bS)) HC0_3.out A16.out).mono ?_); rintro e w18 ⟨rfl, hb⟩; replace BK235 := kB_ gb235 hb; replace HB := hB hb; (try clear hb)))
       go_ret
       exact ⟨eS, bS⟩
      ·obtain rfl := Bool.eq_false_iff.mpr c15
       rw [if_neg nF] at H
       obtain rfl := Option.some.inj H
       have hz19 := cz4 BK235
       go_wp2_with (first | ((with_reducible refine gC 107 ?_); refine cM (some 22) Tryz.func107 (spec_l12Ok.calls a0_0 a0_1 _ _ A11.out) ?_; rintro e w' ⟨rfl, ⟨nd, rfl⟩⟩; refine ⟨_, rfl, ?_⟩) | (go_at_call 108; (with_reducible refine (spec_RowsOk.calls k1 _ _ l0_2 _ _ (cS (Kd.C_below HR0_2.out bS)) HC0_2.out A14.out).mono ?_); rintro e w' ⟨rfl, ⟨nd, rfl⟩⟩))
       go_ret
       exact ⟨eS, bS⟩
     ·rw [if_neg c13] at H
      have c13b0 : ((l0_2.length : Int) == a0_0) = false := beq_eq_false_iff_ne.mpr c13
      have c13b1 : ((l0_2.length : Int) != a0_0) = true := bne_iff_ne.mpr c13
      obtain rfl := Option.some.inj H
      have hz20 := cz4 BK235
      go_wp2_with (first | ((with_reducible refine gC 107 ?_); refine cM (some 22) Tryz.func107 (spec_l12Ok.calls a0_0 a0_1 _ _ A11.out) ?_; rintro e w' ⟨rfl, ⟨nd, rfl⟩⟩; refine ⟨_, rfl, ?_⟩))
      go_ret
      exact ⟨eS, bS⟩
    ·obtain rfl := Bool.eq_false_iff.mpr c12
     rw [if_neg nF] at H
     obtain rfl := Option.some.inj H
     have hz21 := cz4 BK235
     go_wp2_with (first | ((with_reducible refine gC 107 ?_); refine cM (some 22) Tryz.func107 (spec_l12Ok.calls a0_0 a0_1 _ _ A11.out) ?_; rintro e w' ⟨rfl, ⟨nd, rfl⟩⟩; refine ⟨_, rfl, ?_⟩))
     go_ret
     exact ⟨eS, bS⟩

/-! ### spec_l07Shape: function 61 -/
def spec_l07Shape.f (l0_0 : List (S151)) (a0_1 : Int) (a0_2 : Int) (a0_3 : Int) (a0_4 : Int) (a0_5 : Int) : Option ((List (S151)) × Int × Int × Int × Int × Int) := (some (([] : List (S151)) : List (S151))).bind fun y243 => (if y243.length + l0_0.length < 8796093022208 then (some ((y243 ++ l0_0), a0_1, a0_2, a0_3, a0_4, a0_5)) else (none))
def spec_l07Shape.T1 : Bool × List (List Nat × List Nat) := (true, [([], []), ([], []), ([1], [1]), ([0, 2], [0, 2]), ([], []), ([4], [4]), ([], []), ([6], [6]), ([3, 5, 7], [3, 5, 7]), ([8, 3, 0, 1, 2, 3, 4, 5, 6, 7, 8], [8])])
def spec_l07Shape.B1 : List Nat := [0, 0, 2, 7, 0, 16, 0, 64, 255, 511]
theorem spec_l07Shape.tab1 : rtab .any (opsOf Tryz.f61 1) = spec_l07Shape.T1 := by kernel_rfl
theorem spec_l07Shape.bits1 : waitsOk spec_l07Shape.T1.2 spec_l07Shape.B1 = true := by kernel_rfl
theorem spec_l07Shape.calls (A0_0 : Option Addr) (c0_0 : Nat) (l0_0 : List (S151)) (a0_1 : Int) (a0_2 : Int) (a0_3 : Int) (a0_4 : Int) (a0_5 : Int) (r1 : List (S151)) (r2 : Int) (r3 : Int) (r4 : Int) (r5 : Int) (r6 : Int) (w : World) (hr0_0 : Kd.C k151 w A0_0 l0_0.length l0_0) (hc0_0 : l0_0.length ≤ c0_0) (h : spec_l07Shape.f l0_0 a0_1 a0_2 a0_3 a0_4 a0_5 = some (r1, r2, r3, r4, r5, r6)) :
  Calls Tryz.prog 61 #[.agg #[.slice A0_0 l0_0.length c0_0, .int .i64 a0_1, .int .i64 a0_2, .int .i64 a0_3, .int .i64 a0_4, .int .i64 a0_5]] w fun e w' => ∃ v0_ : Value, e = .returned (.agg #[v0_, .int .i64 r2, .int .i64 r3, .int .i64 r4, .int .i64 r5, .int .i64 r6]) ∧ Kd.R k151 151 w' w.heap.size (fun _ => True) v0_ r1 ∧ Below w.heap.size w w' := by
 have hu49 := Tryz.underlying49
 have hu47 := Tryz.underlying47
 have HR0_0 := aM hr0_0
 have HC0_0 := aM hc0_0
 clear hr0_0 hc0_0
 have HB := aM (Below.refl w.heap.size w)
 have H := h
 clear h
 unfold spec_l07Shape.f at H
 obtain ⟨y243, hy_⟩ : ∃ y_ : List (S151), y_ = (([] : List (S151))) := ⟨_, rfl⟩
 replace H : (if y243.length + l0_0.length < 8796093022208 then (some ((y243 ++ l0_0), a0_1, a0_2, a0_3, a0_4, a0_5)) else (none)) = some (r1, r2, r3, r4, r5, r6) := yS
 have Ny243 := aM hy_
 clear hy_
 by_cases c2 : y243.length + l0_0.length < 8796093022208
 ·rw [if_pos c2] at H
  have LMc2 := aM c2
  clear c2
  obtain ⟨y246, hy_⟩ : ∃ y_ : List (S151), y_ = (y243 ++ l0_0) := ⟨_, rfl⟩
  replace H : (some (y246, a0_1, a0_2, a0_3, a0_4, a0_5)) = some (r1, r2, r3, r4, r5, r6) := yS
  have Ny246 := aM hy_
  clear hy_
  obtain ⟨rfl, rfl, rfl, rfl, rfl, rfl⟩ := sI6 H
  go_enter Tryz.func61, Tryz.ntmps61
  try go_wp2_with (first | ((with_reducible refine gD 1 ?_); refine bxE #[.slice A0_0 l0_0.length c0_0, .int .i64 a0_1, .int .i64 a0_2, .int .i64 a0_3, .int .i64 a0_4, .int .i64 a0_5] 49 ?_; intro gb241 hg w3 BK241 hb; have GW241 := gE hg; have GE241 := gE hg; replace HB := hB hb; clear hb hg) | ((with_reducible refine gD 2 ?_); refine bxE #[.slice none 0 0, .int .i64 0, .int .i64 0, .int .i64 0, .int .i64 0, .int .i64 0] 49 ?_; intro gb242 hg w4 BK242 hb; have GW242 := gE hg; have GE242 := gE hg; have NB241_242 := nL_ gb241 hg; have NB242_241 := nG_ gb241 hg; replace BK241 := kB_ gb241 hb; replace HB := hB hb; clear hb hg))
  replace BK241 := aM (blk_drew BK241.out)
  replace BK242 := aM (blk_drew BK242.out)
  replace HB := aM (below_drew1 HB.out)
  refine start_ (n := 10) (S := fun w' => w'.cell? ⟨gb241, 0, none⟩ = some (.slice A0_0 l0_0.length c0_0) ∧ w'.cell? ⟨gb241, 1, none⟩ = some (.int .i64 a0_1) ∧ w'.cell? ⟨gb241, 2, none⟩ = some (.int .i64 a0_2) ∧ w'.cell? ⟨gb241, 3, none⟩ = some (.int .i64 a0_3) ∧ w'.cell? ⟨gb241, 4, none⟩ = some (.int .i64 a0_4) ∧ w'.cell? ⟨gb241, 5, none⟩ = some (.int .i64 a0_5)) (ds := []) (mB 10 0) (by kernel_rfl) rfl rfl (cy6 BK241) (fun hHeld => ?_); refine with_tabW spec_l07Shape.tab1 spec_l07Shape.bits1 (fun HT_ HW_ => ?_)
  generalize w4.drew = w5 at BK241 BK242 HB hHeld ⊢
  refine pU 1 (some 4) (mB 10 2) ?_
  refine pU 4 (some 7) (mB 10 18) ?_
  refine pU 6 (some 9) (mB 10 82) ?_
  refine tK 2 (some 5) (mB 10 86) ?_
  refine tK 5 (some 8) (mB 10 118) ?_
  refine tK 7 (some 10) (mB 10 246) ?_
  refine one_ (i := 0) (N := some 3) (mB 10 247) rfl rfl (one_of HT_.out (by kernel_rfl)) (by decide) (fun K hK => ?_)
  refine Kd.R_lit_step k151 _ 151 ?hg (N := 3) ?hd (xs := ([] : List (S151))) (inner := []) (ok := fun _ => True) (okp := fun _ => True) ?hr ?hp (fun _ hk => hk) trivial (Below.refl _ _) (Nat.le_refl _) (by simp) ?_; (case hd => rfl); (case hg => rfl); (case hr => first | (go_simp; done) | (go_simp; rfl)); (case hp => exact (Reps.none _ _))
  intro v244 w6 ho7 hb hg_ hnew_
  clear hg_ hnew_
  (first | rw [← Ny243.out] at ho7 | (simp only [Int.reduceToNat] at ho7; rw [← Ny243.out] at ho7))
  have HO245 := aM (Kd.R_lower ho7 (below_size bS))
  replace BK241 := kB_ gb241 hb
  replace BK242 := kB_ gb242 hb
  replace HB := hB hb
  clear hb ho7
  refine hK.out _ _ (cy6 BK241) (fun hHeld => ?_)
  clear hK K
  refine norm_ (a' := ?_) ?_ ?_
  rotate_left
  ·show Act.put _ (some 3) _ = _
   simp only [Act.put, List.setIfInBounds_toArray, List.set_cons_zero, List.set_cons_succ, i64_w, i32_w]
   rfl
  refine one_ (i := 3) (N := some 6) (mB 10 255) rfl rfl (one_of HT_.out (by kernel_rfl)) (by decide) (fun K hK => ?_)
  refine Kd.R_append_rows_step k151 (w0 := w) w.heap.size (by rfl) (.tmp 3) (.tmp 5) 46 151 (.agg #[(.int .i64 0), (.int .i64 0)]) 16 rfl Tryz.underlying46 info151 rfl (by decide) (by omega) v244 y243 l0_0 _ _ _ (fun _ => True) (fun _ => False) rfl rfl ?aO ?aR (fun _ _ h => h) (fun _ h => h.elim) ?aF ?aB ?aS ?aL ?_
  (case aR => exact cS (Kd.C_below HR0_0.out HB.out))
  (case aB => exact bS)
  (case aF => exact (fun _ _ => trivial))
  (case aO => exact (rS HO245))
  (case aS => exact (below_size bS))
  (case aL => have := LMc2.out; omega)
  intro v247 w8 ho hb hg hat
  rw [← Ny246.out] at ho
  have HO248 := aM (ho)
  replace BK241 := aM (blk_grown (g := gb241) kS hg (Kd.R_ne HO245.out BK241.out (by decide)))
  replace BK242 := aM (blk_grown (g := gb242) kS hg (Kd.R_ne HO245.out BK242.out (by decide)))
  replace HB := aM (hb)
  clear HO245
  clear ho hb hg hat
  obtain ⟨Ao9, co9, eo9⟩ := Kd.R_slice HO248.out
  (first | subst eo9 | obtain ⟨rfl, rfl⟩ := slE eo9)
  refine hK.out _ _ (cy6 BK241) (fun hHeld => ?_)
  clear hK K
  refine norm_ (a' := ?_) ?_ ?_
  rotate_left
  ·show Act.put _ (some 6) _ = _
   simp only [Act.put, List.setIfInBounds_toArray, List.set_cons_zero, List.set_cons_succ, i64_w, i32_w]
   rfl
  refine pU 8 (some 11) (mB 10 511) ?_
  refine one_ (i := 9) (N := none) (mB 10 1023) rfl rfl (one_of HT_.out (by kernel_rfl)) (by decide) (fun K hK => ?_)
  have hs10 := cg0 BK242
  have hfs10 := blk_frozen BK242.out 0
  have hns10_0 := NB241_242.out
  have hms10_0 := NB242_241.out
  have hs11 := cg1 BK242
  have hfs11 := blk_frozen BK242.out 1
  have hns11_0 := NB241_242.out
  have hms11_0 := NB242_241.out
  have hs12 := cg2 BK242
  have hfs12 := blk_frozen BK242.out 2
  have hns12_0 := NB241_242.out
  have hms12_0 := NB242_241.out
  have hs13 := cg3 BK242
  have hfs13 := blk_frozen BK242.out 3
  have hns13_0 := NB241_242.out
  have hms13_0 := NB242_241.out
  have hs14 := cg4 BK242
  have hfs14 := blk_frozen BK242.out 4
  have hns14_0 := NB241_242.out
  have hms14_0 := NB242_241.out
  have hs15 := cg5 BK242
  have hfs15 := blk_frozen BK242.out 5
  have hns15_0 := NB241_242.out
  have hms15_0 := NB242_241.out
  refine skip_ (w1 := ?_) (by rfl) rfl ?_ ?_
  rotate_left
  ·go_simp
   rfl
  refine hK.out _ _ ⟨(cF NB241_242 hHeld.1), (cF NB241_242 hHeld.2.1), (cF NB241_242 hHeld.2.2.1), (cF NB241_242 hHeld.2.2.2.1), (cF NB241_242 hHeld.2.2.2.2.1), (cF NB241_242 hHeld.2.2.2.2.2)⟩ (fun hHeld => ?_)
  clear hK K
  refine done_ (done_of HT_.out (by kernel_rfl)) ?_
  try go_wp2
  refine bodyPost_ret (results_cell_row rfl _ _ gb242 49 #[.slice Ao9 y246.length co9, .int .i64 a0_1, .int .i64 a0_2, .int .i64 a0_3, .int .i64 a0_4, .int .i64 a0_5] (0, 0) _ rfl kS Tryz.underlying49 rfl (by kernel_rfl)) rfl ?_
  exact ⟨_, eS, by exact rT (Kd.R_mono (Kd.R_far (p := ⟨gb242, 5, none⟩) (Kd.R_far (p := ⟨gb242, 4, none⟩) (Kd.R_far (p := ⟨gb242, 3, none⟩) (Kd.R_far (p := ⟨gb242, 2, none⟩) (Kd.R_far (p := ⟨gb242, 1, none⟩) (Kd.R_far (p := ⟨gb242, 0, none⟩) (Kd.R_types HO248.out BK242.out (by decide)) (fun _ hk => hk.2) (.slice Ao9 y246.length co9)) (fun _ hk => hk.2) (.int .i64 a0_1)) (fun _ hk => hk.2) (.int .i64 a0_2)) (fun _ hk => hk.2) (.int .i64 a0_3)) (fun _ hk => hk.2) (.int .i64 a0_4)) (fun _ hk => hk.2) (.int .i64 a0_5)) (fun _ hk => trivial)), bS⟩
 ·rw [if_neg c2] at H
  exact absurd H (by simp)

/-! ### spec_l05Copy: function 137 -/
def spec_l05Copy.f (l0 : List Int) : Option (List Int) := (some (([] : List Int) : List Int)).bind fun y249 => (if y249.length + l0.length < 17592186044416 then (some (y249 ++ l0)) else (none))
theorem spec_l05Copy.calls (A0 : Option Addr) (c0 : Nat) (l0 : List Int) (r : List Int) (w : World) (hr0 : Kd.C (Kd.int .i64) w A0 l0.length l0) (hc0 : l0.length ≤ c0) (h : spec_l05Copy.f l0 = some r) :
  Calls Tryz.prog 137 #[.slice A0 l0.length c0] w fun e w' => ∃ v0_ : Value, e = .returned (v0_) ∧ Kd.R (Kd.int .i64) 3 w' w.heap.size (fun _ => True) v0_ r ∧ Below w.heap.size w w' := by
 have HR0 := aM hr0
 have HC0 := aM hc0
 clear hr0 hc0
 have HB := aM (Below.refl w.heap.size w)
 have H := h
 clear h
 unfold spec_l05Copy.f at H
 obtain ⟨y249, hy_⟩ : ∃ y_ : List Int, y_ = (([] : List Int)) := ⟨_, rfl⟩
 replace H : (if y249.length + l0.length < 17592186044416 then (some (y249 ++ l0)) else (none)) = some r := yS
 have Ny249 := aM hy_
 clear hy_
 by_cases c2 : y249.length + l0.length < 17592186044416
 ·rw [if_pos c2] at H
  have LMc2 := aM c2
  clear c2
  obtain ⟨y252, hy_⟩ : ∃ y_ : List Int, y_ = (y249 ++ l0) := ⟨_, rfl⟩
  replace H : (some y252) = some r := yS
  have Ny252 := aM hy_
  clear hy_
  obtain rfl := Option.some.inj H
  go_enter Tryz.func137, Tryz.ntmps137
  go_wp2_with (first | ((with_reducible refine gate_dst (N := 3) rfl ?_); refine Kd.R_lit (Kd.int .i64) _ 3 ?hg (N := 3) ?hd (xs := ([] : List Int)) (inner := []) (ok := fun _ => True) (okp := fun _ => True) ?hr ?hp (fun _ hk => hk) trivial (Below.refl _ _) (Nat.le_refl _) (by simp) ?_; (case hd => rfl); (case hg => rfl); (case hr => first | (go_simp; done) | (go_simp; rfl)); (case hp => exact (Reps.none _ _)); intro v250 w3 ho4 hb hg_ hnew_; clear hg_ hnew_; (first | rw [← Ny249.out] at ho4 | (simp only [Int.reduceToNat] at ho4; rw [← Ny249.out] at ho4)); have HO251 := aM (Kd.R_lower ho4 (below_size bS)); replace HB := hB hb; clear hb ho4) | ((with_reducible refine gate_builtin (b := .append) (xs := #[.tmp 3, .tmp 4]) rfl ?_); at_builtin; refine Kd.R_append_rows (Kd.int .i64) (w0 := w) w.heap.size rfl (.tmp 3) (.tmp 4) 54 3 (.int .i64 0) 8 rfl Tryz.underlying54 info3 rfl (by decide) (by omega) v250 y249 l0 _ _ _ (fun _ => True) (fun _ => False) rfl rfl ?aO ?aR (fun _ _ h => h) (fun _ h => h.elim) ?aF ?aB ?aS ?aL ?_; (case aR => exact cS (Kd.C_below HR0.out HB.out)); (case aB => exact bS); (case aF => exact (fun _ _ => trivial)); (case aO => exact (rS HO251)); (case aS => exact (below_size bS)); (case aL => have := LMc2.out; omega); intro v253 w5 ho hb hg hat; rw [← Ny252.out] at ho; have HO254 := aM (ho); replace HB := aM (hb); clear HO251; clear ho hb hg hat))
  go_ret
  exact ⟨_, eS, rS HO254, bS⟩
 ·rw [if_neg c2] at H
  exact absurd H (by simp)

/-! ### spec_l11Copy: function 113 -/
def spec_l11Copy.l0 : Nat → List (List Int) → List (List Int) → Int → Option ((List (List Int)))
 | 0, _, _, _ => none
 | k + 1, x0, x3, x4 => if x4 < (x0.length : Int) then (if 0 ≤ x4 then ((spec_l05Copy.f (rd_L1 x0 x4)).bind fun t259 => (if x3.length < 5864062014805 then (spec_l11Copy.l0 k x0 (x3 ++ [t259]) (wrap64 (x4 + 1))) else (none))) else (none)) else (some x3)
def spec_l11Copy.f (k : Nat) (l0 : List (List Int)) : Option ((List (List Int))) := spec_l11Copy.l0 k l0 (([] : List (List Int))) 0
theorem spec_l11Copy.calls (k : Nat) (A0 : Option Addr) (c0 : Nat) (l0 : List (List Int)) (r : List (List Int)) (w : World) (hr0 : Kd.C (Kd.slice 3 (Kd.int .i64)) w A0 l0.length l0) (hc0 : l0.length ≤ c0) (h : spec_l11Copy.f k l0 = some r) :
  Calls Tryz.prog 113 #[.slice A0 l0.length c0] w fun e w' => ∃ v0_ : Value, e = .returned (v0_) ∧ Kd.S (Kd.slice 3 (Kd.int .i64)) 54 w' w.heap.size (fun _ => True) v0_ r ∧ Below w.heap.size w w' := by
 have HR0 := aM hr0
 have HC0 := aM hc0
 clear hr0 hc0
 have HB := aM (Below.refl w.heap.size w)
 have H := h
 clear h
 unfold spec_l11Copy.f at H
 obtain ⟨y255, hy_⟩ : ∃ y_ : List (List Int), y_ = (([] : List (List Int))) := ⟨_, rfl⟩
 replace H : (spec_l11Copy.l0 k l0 y255 0) = some r := yS
 have Ny255 := aM hy_
 clear hy_
 have H' := aM H
 clear H
 go_enter Tryz.func113, Tryz.ntmps113
 go_wp2_with (first | ((with_reducible refine gate_dst (N := 5) rfl ?_); refine Kd.S_lit (Kd.slice 3 (Kd.int .i64)) _ 54 ?hg (N := 5) ?hd (xs := ([] : List (List Int))) (inner := []) (ok := fun _ => True) (okp := fun _ => True) ?hr ?hp (fun _ hk => hk) trivial (Below.refl _ _) (Nat.le_refl _) (by simp) ?_; (case hd => rfl); (case hg => rfl); (case hr => first | (go_simp; done) | (go_simp; rfl)); (case hp => exact (Reps.none _ _)); intro v256 w2 ho3 hb hg_ hnew_; clear hg_ hnew_; (first | rw [← Ny255.out] at ho3 | (simp only [Int.reduceToNat] at ho3; rw [← Ny255.out] at ho3)); have HO257 := aM (Kd.S_lower ho3 (below_size bS)); replace HB := hB hb; clear hb ho3))
 go_loopg [3, 4] k (fun kq v3 v4 w' => ∃ (x3_1 : List (List Int)) (x4_1 : Int), v4 = .int .i64 x4_1 ∧ Aside0 (spec_l11Copy.l0 kq l0 x3_1 x4_1 = some r) ∧ Aside0 (kq ≤ k) ∧ Aside0 (Kd.S (Kd.slice 3 (Kd.int .i64)) 54 w' w.heap.size (fun _ => True) v3 x3_1) ∧ Aside0 (Below w.heap.size w w'))
 case atStart => exact ⟨(y255), (0), fS, H', ⟨Nat.le_refl _⟩, ⟨sS HO257⟩, ⟨bS⟩⟩
 case round =>
  clear H'
  try clear c1
  try clear p2
  obtain ⟨x3_1, x4_1, rfl, HA, HK1, HO_3, HB⟩ := hrel
  cases gk with
  | zero => exact absurd HA.out (by simp [spec_l11Copy.l0])
  | succ k1 =>
   have H := HA.out
   clear HA
   simp only [spec_l11Copy.l0] at H
   rcases iD H with ⟨c4b0, H⟩ | ⟨c4b0, H⟩
   ·obtain ⟨c5b0, H⟩ := iT H
    replace H := bN H
    obtain ⟨t259, A6, H⟩ := H
    obtain ⟨LMc7, H⟩ := iL H
    obtain ⟨y262, hy_⟩ : ∃ y_ : List (List Int), y_ = (x3_1 ++ [t259]) := ⟨_, rfl⟩
    replace H : (spec_l11Copy.l0 k1 l0 y262 (wrap64 (x4_1 + 1))) = some r := yS
    have Ny262 := aM hy_
    clear hy_
    have H' := aM H
    clear H
    have p258 : 0 ≤ (x4_1 : Int) := dA
    have q258 : x4_1 < (l0.length : Int) := dA
    obtain ⟨ad258, A258_0, c258_0, e258, hx258_0, hl258_0, hi258_0⟩ := at_L1 HR0.out x4_1 p258 q258
    cases e258
    replace hx258_0 := cB HB hx258_0
    have HR258_0 := aM hi258_0
    have HC258_0 := aM hl258_0
    clear hi258_0 hl258_0
    replace p258 := eq_true p258
    replace q258 := eq_true q258
    go_wp2_with (first | ((with_reducible refine gC 137 ?_); refine cM (some 17) Tryz.func137 (spec_l05Copy.calls _ _ (rd_L1 l0 x4_1) t259 _ (cC HR258_0 HB) HC258_0.out A6.out) ?_; rintro e w8 ⟨v260, rfl, ho0, hb⟩; refine ⟨_, rfl, ?_⟩; have HO261 := aM (Kd.R_lower ho0 (below_size bS)); replace HO_3 := aM (Kd.S_elder' (sS HO_3) (Kd.R_base ho0) hb); replace HB := hB hb; (try clear hb ho0); obtain ⟨Ao10, co10, eo10⟩ := Kd.R_slice HO261.out; subst eo10) | ((with_reducible refine gate_builtin (b := .append) (xs := #[.tmp 12, .tmp 18]) rfl ?_); at_builtin; refine Kd.S_append (Kd.slice 3 (Kd.int .i64)) (w0 := w) w.heap.size rfl (.tmp 12) (.tmp 18) 22 54 (.slice none 0 0) 24 rfl Tryz.underlying22 info54 rfl (by decide) (by omega) u3 x3_1 t259 [.slice Ao10 t259.length co10] (fun _ => True) (fun k_ => some k_ = (.slice Ao10 t259.length co10 : Value).ownBlock) rfl rfl ?aP (fun k_ hk_ => ((Kd.R_mono (ok' := fun k_ => ((fun _ => True)) k_ ∧ some k_ ≠ (u3 : Value).ownBlock) (Kd.R_apart' (HO261.out) (Kd.S_typed HO_3.out) (by decide)) (fun k_ hk => ⟨trivial, hk.2⟩))).1 k_ hk_.symm) ?aF ?aO ?aB ?aS ?aL ?_; (case aP => exact Kd.M_row (Kd.R_mono (Kd.R_tight rfl (Kd.R_mono (ok' := fun k_ => ((fun _ => True)) k_ ∧ some k_ ≠ (u3 : Value).ownBlock) (Kd.R_apart' (HO261.out) (Kd.S_typed HO_3.out) (by decide)) (fun k_ hk => ⟨trivial, hk.2⟩))) (fun _ h_ => h_))); (case aB => exact bS); (case aF => exact (fun _ _ => trivial)); (case aO => exact (by exact sT (Kd.S_mono HO_3.out (fun k_ hk => ⟨trivial, fun e_ => hk.2 e_⟩)))); (case aS => exact (below_size bS)); (case aL => have := LMc7.out; omega); intro v263 w9 ho hb hg hat; rw [← Ny262.out] at ho; have HO264 := aM (ho); replace HB := aM (hb); clear HO_3 HO261; clear ho hb hg hat))
    go_roundg k1
    case measure => have := HK1.out; omega
    case rel => exact ⟨(y262), (wrap64 (x4_1 + 1)), fS, H', ⟨by have := HK1.out; omega⟩, ⟨sS HO264⟩, ⟨bS⟩⟩
   ·obtain rfl := Option.some.inj H
    go_wp2
    go_ret
    exact ⟨_, eS, sS HO_3, bS⟩

/-! ### spec_l13Copy: function 52 -/
def spec_l13Copy.l0 : Nat → Int → Int → Int → List (List Int) → List (S49) → Int → Int → List (List Int) → List (S49) → Option (Int × Int × (List (List Int)) × (List (S49)))
 | 0, _, _, _, _, _, _, _, _, _ => none
 | k + 1, x4, x266000, x266001, x266002, x266003, x271000, x271001, x271002, x271003 => if x4 < (x266003.length : Int) then (if 0 ≤ x4 then ((spec_l07Shape.f ((rd_T49 x266003 x4).f0) ((rd_T49 x266003 x4).f1) ((rd_T49 x266003 x4).f2.f0) ((rd_T49 x266003 x4).f2.f1) ((rd_T49 x266003 x4).f2.f2) ((rd_T49 x266003 x4).f2.f3)).bind fun bt272 => (if x271003.length < 2199023255552 then (spec_l13Copy.l0 k (wrap64 (x4 + 1)) x266000 x266001 x266002 x266003 x271000 x271001 x271002 (x271003 ++ [(⟨bt272.1, bt272.2.1, (⟨bt272.2.2.1, bt272.2.2.2.1, bt272.2.2.2.2.1, bt272.2.2.2.2.2⟩ : S47)⟩ : S49)])) else (none))) else (none)) else (some (x271000, x271001, x271002, x271003))
def spec_l13Copy.f (k : Nat) (a0_0 : Int) (a0_1 : Int) (l0_2 : List (List Int)) (l0_3 : List (S49)) : Option (Int × Int × (List (List Int)) × (List (S49))) := (spec_l11Copy.f k l0_2).bind fun t267 => (spec_l13Copy.l0 k 0 a0_0 a0_1 l0_2 l0_3 a0_0 a0_1 t267 ([] : List (S49)))
def spec_l13Copy.T1 : Bool × List (List Nat × List Nat) := (true, [([], []), ([0], [0]), ([], []), ([2], [2]), ([], []), ([4], [4]), ([5], [5]), ([1, 3, 6], [1, 3, 6]), ([], []), ([8, 7, 6, 0, 1, 2, 3, 4, 5, 6, 7, 8], [7, 8])])
def spec_l13Copy.B1 : List Nat := [0, 1, 0, 4, 0, 16, 48, 127, 0, 511]
theorem spec_l13Copy.tab1 : rtab .any (opsOf Tryz.f52 1) = spec_l13Copy.T1 := by kernel_rfl
theorem spec_l13Copy.bits1 : waitsOk spec_l13Copy.T1.2 spec_l13Copy.B1 = true := by kernel_rfl
def spec_l13Copy.T5 : Bool × List (List Nat × List Nat) := (true, [([], []), ([0], [0]), ([], []), ([2], [2]), ([], []), ([3, 4], [3, 4]), ([5], [5]), ([6], [6]), ([7], [7]), ([1, 8, 7], [1, 8]), ([0, 1, 2, 3, 4, 5, 6, 7, 8, 9], []), ([10, 9, 9, 0, 1, 2, 3, 4, 5, 6, 7, 8, 9], [9, 10])])
def spec_l13Copy.B5 : List Nat := [0, 1, 0, 4, 0, 28, 60, 124, 252, 511, 1023, 2047]
theorem spec_l13Copy.tab5 : rtab .any (opsOf Tryz.f52 5) = spec_l13Copy.T5 := by kernel_rfl
theorem spec_l13Copy.bits5 : waitsOk spec_l13Copy.T5.2 spec_l13Copy.B5 = true := by kernel_rfl
theorem spec_l13Copy.calls (k : Nat) (a0_0 : Int) (a0_1 : Int) (A0_2 : Option Addr) (c0_2 : Nat) (l0_2 : List (List Int)) (A0_3 : Option Addr) (c0_3 : Nat) (l0_3 : List (S49)) (r1 : Int) (r2 : Int) (r3 : List (List Int)) (r4 : List (S49)) (w : World) (hr0_2 : Kd.C (Kd.slice 3 (Kd.int .i64)) w A0_2 l0_2.length l0_2) (hc0_2 : l0_2.length ≤ c0_2) (hr0_3 : Kd.C k49 w A0_3 l0_3.length l0_3) (hc0_3 : l0_3.length ≤ c0_3) (h : spec_l13Copy.f k a0_0 a0_1 l0_2 l0_3 = some (r1, r2, r3, r4)) :
  Calls Tryz.prog 52 #[.agg #[.int .i64 a0_0, .int .i64 a0_1, .slice A0_2 l0_2.length c0_2, .slice A0_3 l0_3.length c0_3]] w fun e w' => ∃ v2_ v3_ : Value, e = .returned (.agg #[.int .i64 r1, .int .i64 r2, v2_, v3_]) ∧ Kd.S (Kd.slice 3 (Kd.int .i64)) 54 w' w.heap.size (fun _ => True) v2_ r3 ∧ Kd.S k49 49 w' w.heap.size (fun _ => True) v3_ r4 ∧ Below w.heap.size w w' := by
 have hu30 := Tryz.underlying30
 have hu49 := Tryz.underlying49
 have HR0_2 := aM hr0_2
 have HC0_2 := aM hc0_2
 clear hr0_2 hc0_2
 have HR0_3 := aM hr0_3
 have HC0_3 := aM hc0_3
 clear hr0_3 hc0_3
 have HB := aM (Below.refl w.heap.size w)
 have H := h
 clear h
 unfold spec_l13Copy.f at H
 replace H := bN H
 obtain ⟨t267, A2, H⟩ := H
 have H' := aM H
 clear H
 go_enter Tryz.func52, Tryz.ntmps52
 try go_wp2_with (first | ((with_reducible refine gD 1 ?_); refine bxE #[.int .i64 a0_0, .int .i64 a0_1, .slice A0_2 l0_2.length c0_2, .slice A0_3 l0_3.length c0_3] 30 ?_; intro gb265 hg w3 BK265 hb; have GW265 := gE hg; have GE265 := gE hg; replace HB := hB hb; clear hb hg) | ((with_reducible refine gD 2 ?_); refine bxE #[.int .i64 0, .int .i64 0, .slice none 0 0, .slice none 0 0] 30 ?_; intro gb266 hg w4 BK266 hb; have GW266 := gE hg; have GE266 := gE hg; have NB265_266 := nL_ gb265 hg; have NB266_265 := nG_ gb265 hg; replace BK265 := kB_ gb265 hb; replace HB := hB hb; clear hb hg))
 replace BK265 := aM (blk_drew BK265.out)
 replace BK266 := aM (blk_drew BK266.out)
 replace HB := aM (below_drew1 HB.out)
 refine start_ (n := 10) (S := fun w' => w'.cell? ⟨gb265, 0, none⟩ = some (.int .i64 a0_0) ∧ w'.cell? ⟨gb265, 1, none⟩ = some (.int .i64 a0_1) ∧ w'.cell? ⟨gb265, 2, none⟩ = some (.slice A0_2 l0_2.length c0_2) ∧ w'.cell? ⟨gb265, 3, none⟩ = some (.slice A0_3 l0_3.length c0_3)) (ds := []) (mB 10 0) (by kernel_rfl) rfl rfl (cy4 BK265) (fun hHeld => ?_); refine with_tabW spec_l13Copy.tab1 spec_l13Copy.bits1 (fun HT_ HW_ => ?_)
 generalize w4.drew = w5 at BK265 BK266 HB hHeld ⊢
 refine pU 0 (some 5) (mB 10 1) ?_
 refine pU 2 (some 7) (mB 10 5) ?_
 refine pU 4 (some 9) (mB 10 21) ?_
 refine tK 1 (some 6) (mB 10 23) ?_
 refine tK 3 (some 8) (mB 10 31) ?_
 refine tK 5 (some 10) (mB 10 63) ?_
 refine join_ (σ := Value × Nat) 1 (mB 10 511) (fun s_ => [(11, s_.1), (3, .pointer (some ⟨s_.2, 0, none⟩)), (12, .agg #[.int .i64 a0_0, .int .i64 a0_1, s_.1, .slice none 0 0])]) (fun s_ w' => (w'.cell? ⟨gb265, 0, none⟩ = some (.int .i64 a0_0) ∧ w'.cell? ⟨gb265, 1, none⟩ = some (.int .i64 a0_1) ∧ w'.cell? ⟨gb265, 2, none⟩ = some (.slice A0_2 l0_2.length c0_2) ∧ w'.cell? ⟨gb265, 3, none⟩ = some (.slice A0_3 l0_3.length c0_3)) ∧ (Kd.S (Kd.slice 3 (Kd.int .i64)) 54 w' w.heap.size (fun _ => True) s_.1 t267) ∧ (w'.heap[gb265]? = some (.cells #[.int .i64 a0_0, .int .i64 a0_1, .slice A0_2 l0_2.length c0_2, .slice A0_3 l0_3.length c0_3] 30 (0, 0))) ∧ (w'.heap[gb266]? = some (.cells #[.int .i64 0, .int .i64 0, .slice none 0 0, .slice none 0 0] 30 (0, 0))) ∧ (w'.heap[s_.2]? = some (.cells #[.int .i64 0, .int .i64 0, .slice none 0 0, .slice none 0 0] 30 (0, 0))) ∧ (w.heap.size ≤ s_.2) ∧ (w.heap.size ≤ s_.2) ∧ (gb265 ≠ s_.2) ∧ (s_.2 ≠ gb265) ∧ (gb266 ≠ s_.2) ∧ (s_.2 ≠ gb266) ∧ (Below w.heap.size w w')) ?_ ?_
 rotate_left
 ·intro hCont
  refine two_ (i := 6) (j := 8) (Ni := some 11) (Nj := some 3) (mB 10 127) (mB 10 319) rfl rfl rfl rfl (two_of HT_.out (by kernel_rfl)) (by decide) (by decide) (fun K hK => ?_) (fun K hK => ?_)
  ·skip
   refine goes_ Tryz.func113 (by kernel_rfl) rfl #[.slice A0_2 l0_2.length c0_2] (by rfl) rfl rfl mA ?_
   with_reducible refine (spec_l11Copy.calls k _ _ l0_2 t267 _ ?side1 ?side2 A2.out).mono ?_
   (case side1 => exact cS (Kd.C_below HR0_2.out HB.out))
   (case side2 => exact HC0_2.out)
   rintro e w6 ⟨v268, rfl, ho0, hb⟩
   refine ⟨_, rfl, ?_⟩
   have HO269 := aM (Kd.S_lower ho0 (below_size bS))
   replace BK265 := kB_ gb265 hb
   replace BK266 := kB_ gb266 hb
   replace HB := hB hb
   (try clear hb)
   (try clear hb2)
   (try clear hk)
   (try clear hi)
   (try clear ho0)
   obtain ⟨Ao7, co7, eo7⟩ := Kd.S_slice HO269.out
   (first | subst eo7 | obtain ⟨rfl, rfl⟩ := slE eo7)
   refine hK.out _ _ (cy4 BK265) (fun hHeld => ?_)
   clear hK K
   refine norm_ (a' := ?_) ?_ ?_
   rotate_left
   ·show Act.put _ (some 11) _ = _
    simp only [Act.put, List.setIfInBounds_toArray, List.set_cons_zero, List.set_cons_succ, i64_w, i32_w]
    rfl
   refine pU 7 (some 12) (mB 10 255) ?_
   refine one_ (i := 8) (N := some 3) (mB 10 511) rfl rfl (one_of HT_.out (by kernel_rfl)) (by decide) (fun K hK => ?_)
   refine box_step ?hg (N := 3) ?hd (cs := #[.int .i64 0, .int .i64 0, .slice none 0 0, .slice none 0 0]) (t := 30) ?hr ?_; (case hd => rfl); (case hg => rfl); (case hr => first | (go_simp; done) | (go_simp; rfl))
   intro gb270 hg w8 hbox hb
   have BK270 := aM (hbox)
   have GW270 := gE hg
   have GE270 := gE hg
   have NB265_270 := nL_ gb265 hg
   have NB270_265 := nG_ gb265 hg
   have NB266_270 := nL_ gb266 hg
   have NB270_266 := nG_ gb266 hg
   replace HO269 := sB HO269 hb
   replace BK265 := kB_ gb265 hb
   replace BK266 := kB_ gb266 hb
   replace HB := hB hb
   clear hb hg
   refine hK.out _ _ (cy4 BK265) (fun hHeld => ?_)
   clear hK K
   refine norm_ (a' := ?_) ?_ ?_
   rotate_left
   ·show Act.put _ (some 3) _ = _
    simp only [Act.put, List.setIfInBounds_toArray, List.set_cons_zero, List.set_cons_succ, i64_w, i32_w]
    rfl
   exact norm_ (by simp only [putAll, Act.put, List.setIfInBounds_toArray, List.set_cons_zero, List.set_cons_succ]) (hCont (.slice Ao7 t267.length co7, gb270) _ ⟨hHeld, (sS HO269), kS, kS, kS, GW270.out, GE270.out, NB265_270.out, NB270_265.out, NB266_270.out, NB270_266.out, bS⟩)
  ·skip
   refine box_step ?hg (N := 3) ?hd (cs := #[.int .i64 0, .int .i64 0, .slice none 0 0, .slice none 0 0]) (t := 30) ?hr ?_; (case hd => rfl); (case hg => rfl); (case hr => first | (go_simp; done) | (go_simp; rfl))
   intro gb270 hg w6 hbox hb
   have BK270 := aM (hbox)
   have GW270 := gE hg
   have GE270 := gE hg
   have NB265_270 := nL_ gb265 hg
   have NB270_265 := nG_ gb265 hg
   have NB266_270 := nL_ gb266 hg
   have NB270_266 := nG_ gb266 hg
   replace BK265 := kB_ gb265 hb
   replace BK266 := kB_ gb266 hb
   replace HB := hB hb
   clear hb hg
   refine hK.out _ _ (cy4 BK265) (fun hHeld => ?_)
   clear hK K
   refine norm_ (a' := ?_) ?_ ?_
   rotate_left
   ·show Act.put _ (some 3) _ = _
    simp only [Act.put, List.setIfInBounds_toArray, List.set_cons_zero, List.set_cons_succ, i64_w, i32_w]
    rfl
   refine one_ (i := 6) (N := some 11) (mB 10 383) rfl rfl (one_of HT_.out (by kernel_rfl)) (by decide) (fun K hK => ?_)
   refine goes_ Tryz.func113 (by kernel_rfl) rfl #[.slice A0_2 l0_2.length c0_2] (by rfl) rfl rfl mA ?_
   with_reducible refine (spec_l11Copy.calls k _ _ l0_2 t267 _ ?side1 ?side2 A2.out).mono ?_
   (case side1 => exact cS (Kd.C_below HR0_2.out HB.out))
   (case side2 => exact HC0_2.out)
   rintro e w7 ⟨v268, rfl, ho0, hb⟩
   refine ⟨_, rfl, ?_⟩
   have HO269 := aM (Kd.S_lower ho0 (below_size bS))
   replace BK265 := kB_ gb265 hb
   replace BK266 := kB_ gb266 hb
   replace BK270 := kB_ gb270 hb
   replace HB := hB hb
   (try clear hb)
   (try clear hb2)
   (try clear hk)
   (try clear hi)
   (try clear ho0)
   obtain ⟨Ao8, co8, eo8⟩ := Kd.S_slice HO269.out
   (first | subst eo8 | obtain ⟨rfl, rfl⟩ := slE eo8)
   refine hK.out _ _ (cy4 BK265) (fun hHeld => ?_)
   clear hK K
   refine norm_ (a' := ?_) ?_ ?_
   rotate_left
   ·show Act.put _ (some 11) _ = _
    simp only [Act.put, List.setIfInBounds_toArray, List.set_cons_zero, List.set_cons_succ, i64_w, i32_w]
    rfl
   refine pU 7 (some 12) (mB 10 511) ?_
   exact norm_ (by simp only [putAll, Act.put, List.setIfInBounds_toArray, List.set_cons_zero, List.set_cons_succ]) (hCont (.slice Ao8 t267.length co8, gb270) _ ⟨hHeld, (sS HO269), kS, kS, kS, GW270.out, GE270.out, NB265_270.out, NB270_265.out, NB266_270.out, NB270_266.out, bS⟩)
 rintro ⟨v268, gb270⟩ w9 ⟨hS_, h0_, h1_, h2_, h3_, h4_, h5_, h6_, h7_, h8_, h9_, h10_⟩
 have HO269 : Aside0 (Kd.S (Kd.slice 3 (Kd.int .i64)) 54 w9 w.heap.size (fun _ => True) v268 t267) := ⟨h0_⟩
 have BK270 : Aside0 (w9.heap[gb270]? = some (.cells #[.int .i64 0, .int .i64 0, .slice none 0 0, .slice none 0 0] 30 (0, 0))) := ⟨h3_⟩
 have GW270 : Aside0 (w.heap.size ≤ gb270) := ⟨h4_⟩
 have GE270 : Aside0 (w.heap.size ≤ gb270) := ⟨h5_⟩
 have NB265_270 : Aside0 (gb265 ≠ gb270) := ⟨h6_⟩
 have NB270_265 : Aside0 (gb270 ≠ gb265) := ⟨h7_⟩
 have NB266_270 : Aside0 (gb266 ≠ gb270) := ⟨h8_⟩
 have NB270_266 : Aside0 (gb270 ≠ gb266) := ⟨h9_⟩
 replace BK265 : Aside0 (w9.heap[gb265]? = some (.cells #[.int .i64 a0_0, .int .i64 a0_1, .slice A0_2 l0_2.length c0_2, .slice A0_3 l0_3.length c0_3] 30 (0, 0))) := ⟨h1_⟩
 replace BK266 : Aside0 (w9.heap[gb266]? = some (.cells #[.int .i64 0, .int .i64 0, .slice none 0 0, .slice none 0 0] 30 (0, 0))) := ⟨h2_⟩
 replace HB : Aside0 (Below w.heap.size w w9) := ⟨h10_⟩
 clear h0_ h1_ h2_ h3_ h4_ h5_ h6_ h7_ h8_ h9_ h10_
 have hHeld : w9.cell? ⟨gb265, 0, none⟩ = some (.int .i64 a0_0) ∧ w9.cell? ⟨gb265, 1, none⟩ = some (.int .i64 a0_1) ∧ w9.cell? ⟨gb265, 2, none⟩ = some (.slice A0_2 l0_2.length c0_2) ∧ w9.cell? ⟨gb265, 3, none⟩ = some (.slice A0_3 l0_3.length c0_3) := hS_
 obtain ⟨Ao10, co10, eo10⟩ := Kd.S_slice HO269.out
 (first | subst eo10 | obtain ⟨rfl, rfl⟩ := slE eo10)
 refine norm_ (a' := ?_) ?_ ?_
 rotate_left
 ·simp only [putAll, Act.put, List.setIfInBounds_toArray, List.set_cons_zero, List.set_cons_succ]
  rfl
 refine one_ (i := 9) (N := none) (mB 10 1023) rfl rfl (one_of HT_.out (by kernel_rfl)) (by decide) (fun K hK => ?_)
 have hs11 := cg0 BK270
 have hfs11 := blk_frozen BK270.out 0
 have hns11_0 := NB265_270.out
 have hns11_1 := NB266_270.out
 have hms11_0 := NB270_265.out
 have hms11_1 := NB270_266.out
 have hs12 := cg1 BK270
 have hfs12 := blk_frozen BK270.out 1
 have hns12_0 := NB265_270.out
 have hns12_1 := NB266_270.out
 have hms12_0 := NB270_265.out
 have hms12_1 := NB270_266.out
 have hs13 := cg2 BK270
 have hfs13 := blk_frozen BK270.out 2
 have hns13_0 := NB265_270.out
 have hns13_1 := NB266_270.out
 have hms13_0 := NB270_265.out
 have hms13_1 := NB270_266.out
 have hs14 := cg3 BK270
 have hfs14 := blk_frozen BK270.out 3
 have hns14_0 := NB265_270.out
 have hns14_1 := NB266_270.out
 have hms14_0 := NB270_265.out
 have hms14_1 := NB270_266.out
 refine skip_ (w1 := ?_) (by rfl) rfl ?_ ?_
 rotate_left
 ·go_simp
  rfl
 refine hK.out _ _ ⟨(cF NB265_270 hHeld.1), (cF NB265_270 hHeld.2.1), (cF NB265_270 hHeld.2.2.1), (cF NB265_270 hHeld.2.2.2)⟩ (fun hHeld => ?_)
 clear hK K
 refine done_ (done_of HT_.out (by kernel_rfl)) ?_
 try go_wp2
 go_loopg [4] k (fun kq v4 w' => ∃ (x4_1 : Int) (x271003_1 : List (S49)) (u271003 : Value), v4 = .int .i64 x4_1 ∧ Aside0 (spec_l13Copy.l0 kq x4_1 a0_0 a0_1 l0_2 l0_3 a0_0 a0_1 t267 x271003_1 = some (r1, r2, r3, r4)) ∧ Aside0 (kq ≤ k) ∧ Aside0 (Kd.S (Kd.slice 3 (Kd.int .i64)) 54 w' w.heap.size (fun _ => True) (.slice Ao10 t267.length co10) t267) ∧ Aside0 (Kd.S k49 49 w' w.heap.size (fun _ => True) u271003 x271003_1) ∧ Aside0 (w'.heap[gb265]? = some (.cells #[.int .i64 a0_0, .int .i64 a0_1, (.slice A0_2 l0_2.length c0_2), (.slice A0_3 l0_3.length c0_3)] 30 (0, 0))) ∧ Aside0 (w'.heap[gb266]? = some (.cells #[.int .i64 0, .int .i64 0, (.slice none 0 0), (.slice none 0 0)] 30 (0, 0))) ∧ Aside0 (w'.heap[gb270]? = some (.cells #[.int .i64 a0_0, .int .i64 a0_1, (.slice Ao10 t267.length co10), u271003] 30 (0, 0))) ∧ Aside0 (Below w.heap.size w w'))
 case atStart => exact ⟨(0), (([] : List (S49))), (.slice none 0 0), fS, H', ⟨Nat.le_refl _⟩, ⟨by exact sT (Kd.S_mono (Kd.S_far (p := ⟨gb270, 3, none⟩) (Kd.S_far (p := ⟨gb270, 2, none⟩) (Kd.S_far (p := ⟨gb270, 1, none⟩) (Kd.S_far (p := ⟨gb270, 0, none⟩) (Kd.S_types HO269.out BK270.out (by decide)) (fun _ hk => hk.2) (.int .i64 a0_0)) (fun _ hk => hk.2) (.int .i64 a0_1)) (fun _ hk => hk.2) (.slice Ao10 t267.length co10)) (fun _ hk => hk.2) (.slice none 0 0)) (fun _ hk => trivial))⟩, ⟨by first | exact Kd.S_nil _ _ _ _ _ | exact Kd.N_nil _ _ _ _ _ | exact Kd.V_nil _ _ _ _ _ | exact Kd.Q_nil _ _ _ _ _ | exact Kd.R_nil _ _ _ _ _⟩, ⟨kS⟩, ⟨kS⟩, ⟨kS⟩, ⟨bS⟩⟩
 case round =>
  clear H'
  try clear c1
  try clear p2
  try clear c5
  try clear c11
  obtain ⟨x4_1, x271003_1, u271003, rfl, HA, HK1, HO_271002, HO_271003, BK265, BK266, BK270, HB⟩ := hrel
  cases gk with
  | zero => exact absurd HA.out (by simp [spec_l13Copy.l0])
  | succ k1 =>
   have H := HA.out
   clear HA
   simp only [spec_l13Copy.l0] at H
   rcases iD H with ⟨c15b0, H⟩ | ⟨c15b0, H⟩
   ·obtain ⟨c16b0, H⟩ := iT H
    replace H := bN H
    obtain ⟨⟨t272, t275, t276, t277, t278, t279⟩, A17, H⟩ := H
    obtain ⟨LMc18, H⟩ := iL H
    obtain ⟨y280, hy_⟩ : ∃ y_ : List (S49), y_ = (x271003_1 ++ [(⟨t272, t275, (⟨t276, t277, t278, t279⟩ : S47)⟩ : S49)]) := ⟨_, rfl⟩
    replace H : (spec_l13Copy.l0 k1 (wrap64 (x4_1 + 1)) a0_0 a0_1 l0_2 l0_3 a0_0 a0_1 t267 y280) = some (r1, r2, r3, r4) := yS
    have Ny280 := aM hy_
    clear hy_
    have H' := aM H
    clear H
    have hnb19 := NB265_266.out
    have hnc19 := NB266_265.out
    have hnb20 := NB265_270.out
    have hnc20 := NB270_265.out
    have hz21 := cz4 BK265
    try go_wp2
    replace HO_271002 := aM (Kd.S_drew HO_271002.out)
    replace HO_271003 := aM (Kd.S_drew HO_271003.out)
    replace BK265 := aM (blk_drew BK265.out)
    replace BK266 := aM (blk_drew BK266.out)
    replace BK270 := aM (blk_drew BK270.out)
    replace HB := aM (below_drew1 HB.out)
    have p271 : 0 ≤ (x4_1 : Int) := dA
    have q271 : x4_1 < (l0_3.length : Int) := dA
    obtain ⟨ad271, A271_0, c271_0, e271, hx271_0, hx271_1, hx271_2, hx271_3, hx271_4, hx271_5, hl271_0, hi271_0⟩ := at_T49 HR0_3.out x4_1 p271 q271
    have hw271_5 := hx271_5
    have hw271_4 := hx271_4
    have hw271_3 := hx271_3
    have hw271_2 := hx271_2
    have hw271_1 := hx271_1
    have hw271_0 := hx271_0
    cases e271
    replace hx271_0 := cB HB hx271_0
    replace hx271_1 := cB HB hx271_1
    replace hx271_2 := cB HB hx271_2
    replace hx271_3 := cB HB hx271_3
    replace hx271_4 := cB HB hx271_4
    replace hx271_5 := cB HB hx271_5
    have HR271_0 := aM hi271_0
    have HC271_0 := aM hl271_0
    clear hi271_0 hl271_0
    replace p271 := eq_true p271
    replace q271 := eq_true q271
    refine start_ (n := 12) (S := fun w' => w'.cell? ⟨gb270, 0, none⟩ = some (.int .i64 a0_0) ∧ w'.cell? ⟨gb270, 1, none⟩ = some (.int .i64 a0_1) ∧ w'.cell? ⟨gb270, 2, none⟩ = some (.slice Ao10 t267.length co10) ∧ w'.cell? ⟨gb270, 3, none⟩ = some (u271003) ∧ w'.cell? ⟨gb265, 0, none⟩ = some (.int .i64 a0_0) ∧ w'.cell? ⟨gb265, 1, none⟩ = some (.int .i64 a0_1) ∧ w'.cell? ⟨gb265, 2, none⟩ = some (.slice A0_2 l0_2.length c0_2) ∧ w'.cell? ⟨gb265, 3, none⟩ = some (.slice (some ad271) l0_3.length c0_3) ∧ w'.cell? (ad271.add ((x4_1).toNat * 6)) = some (.slice A271_0 ((rd_T49 l0_3 x4_1).f0).length c271_0) ∧ w'.cell? ⟨(ad271.add ((x4_1).toNat * 6)).block, (ad271.add ((x4_1).toNat * 6)).off + 1, none⟩ = some (.int .i64 ((rd_T49 l0_3 x4_1).f1)) ∧ w'.cell? ⟨(ad271.add ((x4_1).toNat * 6)).block, (ad271.add ((x4_1).toNat * 6)).off + 2, none⟩ = some (.int .i64 ((rd_T49 l0_3 x4_1).f2.f0)) ∧ w'.cell? ⟨(ad271.add ((x4_1).toNat * 6)).block, (ad271.add ((x4_1).toNat * 6)).off + 3, none⟩ = some (.int .i64 ((rd_T49 l0_3 x4_1).f2.f1)) ∧ w'.cell? ⟨(ad271.add ((x4_1).toNat * 6)).block, (ad271.add ((x4_1).toNat * 6)).off + 4, none⟩ = some (.int .i64 ((rd_T49 l0_3 x4_1).f2.f2)) ∧ w'.cell? ⟨(ad271.add ((x4_1).toNat * 6)).block, (ad271.add ((x4_1).toNat * 6)).off + 5, none⟩ = some (.int .i64 ((rd_T49 l0_3 x4_1).f2.f3))) (ds := [11]) (mB 12 0) (by kernel_rfl) rfl rfl (cx4 BK270 (cx4 BK265 ⟨(cB HB hw271_0), ⟨(cB HB hw271_1), ⟨(cB HB hw271_2), ⟨(cB HB hw271_3), ⟨(cB HB hw271_4), (cB HB hw271_5)⟩⟩⟩⟩⟩)) (fun hHeld => ?_); refine with_tabW spec_l13Copy.tab5 spec_l13Copy.bits5 (fun HT_ HW_ => ?_)
    generalize wr.drew = w22 at HO_271002 HO_271003 BK265 BK266 BK270 HB HR271_0 hx271_0 hx271_1 hx271_2 hx271_3 hx271_4 hx271_5 hHeld ⊢
    refine pU 0 (some 20) (mB 12 1) ?_
    refine pU 2 (some 22) (mB 12 5) ?_
    refine pU 4 (some 24) (mB 12 21) ?_
    refine tK 1 (some 21) (mB 12 23) ?_
    refine tK 3 (some 23) (mB 12 31) ?_
    refine pU 5 (some 25) (mB 12 63) ?_
    refine tK 6 (some 26) (mB 12 127) ?_
    refine one_ (i := 7) (N := some 27) (mB 12 255) rfl rfl (one_of HT_.out (by kernel_rfl)) (by decide) (fun K hK => ?_)
    refine goes_ Tryz.func61 (by kernel_rfl) rfl #[.agg #[.slice A271_0 ((rd_T49 l0_3 x4_1).f0).length c271_0, .int .i64 ((rd_T49 l0_3 x4_1).f1), .int .i64 ((rd_T49 l0_3 x4_1).f2.f0), .int .i64 ((rd_T49 l0_3 x4_1).f2.f1), .int .i64 ((rd_T49 l0_3 x4_1).f2.f2), .int .i64 ((rd_T49 l0_3 x4_1).f2.f3)]] (by rfl) rfl rfl mA ?_
    with_reducible refine (spec_l07Shape.calls _ _ ((rd_T49 l0_3 x4_1).f0) ((rd_T49 l0_3 x4_1).f1) ((rd_T49 l0_3 x4_1).f2.f0) ((rd_T49 l0_3 x4_1).f2.f1) ((rd_T49 l0_3 x4_1).f2.f2) ((rd_T49 l0_3 x4_1).f2.f3) t272 t275 t276 t277 t278 t279 _ ?side1 ?side2 A17.out).mono ?_
    (case side1 => exact cS (Kd.C_below HR271_0.out HB.out))
    (case side2 => exact HC271_0.out)
    rintro e w23 ⟨v273, rfl, ho0, hb⟩
    refine ⟨_, rfl, ?_⟩
    have HO274 := aM (Kd.R_lower ho0 (below_size bS))
    replace HO_271002 := sB HO_271002 hb
    replace HO_271003 := aM (Kd.S_elder' (sS HO_271003) (Kd.R_base ho0) hb)
    replace BK265 := kB_ gb265 hb
    replace BK266 := kB_ gb266 hb
    replace BK270 := kB_ gb270 hb
    replace HB := hB hb
    (try clear hb)
    (try clear hb2)
    (try clear hk)
    (try clear hi)
    (try clear ho0)
    obtain ⟨Ao25, co25, eo25⟩ := Kd.R_slice HO274.out
    (first | subst eo25 | obtain ⟨rfl, rfl⟩ := slE eo25)
    refine hK.out _ _ (cx4 BK270 (cx4 BK265 ⟨(cB HB hw271_0), ⟨(cB HB hw271_1), ⟨(cB HB hw271_2), ⟨(cB HB hw271_3), ⟨(cB HB hw271_4), (cB HB hw271_5)⟩⟩⟩⟩⟩)) (fun hHeld => ?_)
    clear hK K
    refine norm_ (a' := ?_) ?_ ?_
    rotate_left
    ·show Act.put _ (some 27) _ = _
     simp only [Act.put, List.setIfInBounds_toArray, List.set_cons_zero, List.set_cons_succ, i64_w, i32_w]
     rfl
    refine one_ (i := 8) (N := some 28) (mB 12 511) rfl rfl (one_of HT_.out (by kernel_rfl)) (by decide) (fun K hK => ?_)
    refine value_ (w1 := ?_) (v := ?_) (by rfl) rfl ?_ ?_
    rotate_left 2
    ·go_simp
     constructor
     ·rfl
     ·rfl
    refine hK.out _ _ ⟨(blk_cell (blk_alloc BK270.out _) 0).trans rfl, (blk_cell (blk_alloc BK270.out _) 1).trans rfl, (blk_cell (blk_alloc BK270.out _) 2).trans rfl, (blk_cell (blk_alloc BK270.out _) 3).trans rfl, (blk_cell (blk_alloc BK265.out _) 0).trans rfl, (blk_cell (blk_alloc BK265.out _) 1).trans rfl, (blk_cell (blk_alloc BK265.out _) 2).trans rfl, (blk_cell (blk_alloc BK265.out _) 3).trans rfl, (World.cell?_alloc_lt _ _ _ (World.block_lt_of_cell? _ _ ((cB HB hw271_0)))).trans ((cB HB hw271_0)), (World.cell?_alloc_lt _ _ _ (World.block_lt_of_cell? _ _ ((cB HB hw271_1)))).trans ((cB HB hw271_1)), (World.cell?_alloc_lt _ _ _ (World.block_lt_of_cell? _ _ ((cB HB hw271_2)))).trans ((cB HB hw271_2)), (World.cell?_alloc_lt _ _ _ (World.block_lt_of_cell? _ _ ((cB HB hw271_3)))).trans ((cB HB hw271_3)), (World.cell?_alloc_lt _ _ _ (World.block_lt_of_cell? _ _ ((cB HB hw271_4)))).trans ((cB HB hw271_4)), (World.cell?_alloc_lt _ _ _ (World.block_lt_of_cell? _ _ ((cB HB hw271_5)))).trans ((cB HB hw271_5))⟩ (fun hHeld => ?_)
    clear hK K
    refine norm_ (a' := ?_) ?_ ?_
    rotate_left
    ·show Act.put _ (some 28) _ = _
     simp only [Act.put, List.setIfInBounds_toArray, List.set_cons_zero, List.set_cons_succ, i64_w, i32_w]
     rfl
    refine one_ (i := 9) (N := some 29) (mB 12 1023) rfl rfl (one_of HT_.out (by kernel_rfl)) (by decide) (fun K hK => ?_)
    refine Kd.S_append_step k49 (w0 := w) w.heap.size (by rfl) (.tmp 21) (.tmp 28) 28 49 (.agg #[(.slice none 0 0), (.int .i64 0), (.int .i64 0), (.int .i64 0), (.int .i64 0), (.int .i64 0)]) 64 rfl Tryz.underlying28 info49 rfl (by decide) (by omega) u271003 x271003_1 (⟨t272, t275, (⟨t276, t277, t278, t279⟩ : S47)⟩ : S49) [.slice Ao25 t272.length co25, .int .i64 t275, .int .i64 t276, .int .i64 t277, .int .i64 t278, .int .i64 t279] (fun _ => True) (fun k_ => some k_ = (.slice Ao25 t272.length co25 : Value).ownBlock) rfl rfl ?aP (fun k_ hk_ => ((Kd.R_mono (ok' := fun k_ => ((fun _ => True)) k_ ∧ some k_ ≠ (u271003 : Value).ownBlock) (Kd.R_apart' (HO274.out) (Kd.S_typed HO_271003.out) (by decide)) (fun k_ hk => ⟨trivial, hk.2⟩))).1 k_ hk_.symm) ?aF ?aO ?aB ?aS ?aL ?_
    (case aP => exact k49_mkM _ _ _ (⟨t272, t275, (⟨t276, t277, t278, t279⟩ : S47)⟩ : S49) (Kd.R_mono (Kd.R_tight rfl (Kd.R_mono (ok' := fun k_ => ((fun _ => True)) k_ ∧ some k_ ≠ (u271003 : Value).ownBlock) (Kd.R_apart' (HO274.out) (Kd.S_typed HO_271003.out) (by decide)) (fun k_ hk => ⟨trivial, hk.2⟩))) (fun _ h_ => h_)))
    (case aB => exact bS)
    (case aF => exact (fun _ _ => trivial))
    (case aO => exact (by exact sT (Kd.S_mono HO_271003.out (fun k_ hk => ⟨trivial, fun e_ => hk.2 e_⟩))))
    (case aS => exact (below_size bS))
    (case aL => have := LMc18.out; omega)
    intro v281 w24 ho hb hg hat
    rw [← Ny280.out] at ho
    have HO282 := aM (ho)
    replace HO_271002 := aM (Kd.S_over' (sS HO_271002) (Kd.S_typed (sS HO_271003)) (by decide) hg)
    replace BK265 := aM (blk_grown (g := gb265) kS hg (Kd.S_ne HO_271003.out BK265.out (by decide)))
    replace BK266 := aM (blk_grown (g := gb266) kS hg (Kd.S_ne HO_271003.out BK266.out (by decide)))
    replace BK270 := aM (blk_grown (g := gb270) kS hg (Kd.S_ne HO_271003.out BK270.out (by decide)))
    replace HB := aM (hb)
    clear HO_271003 HO274
    clear ho hb hg hat
    obtain ⟨Ao26, co26, eo26⟩ := Kd.S_slice HO282.out
    (first | subst eo26 | obtain ⟨rfl, rfl⟩ := slE eo26)
    refine hK.out _ _ (cx4 BK270 (cx4 BK265 ⟨(cB HB hw271_0), ⟨(cB HB hw271_1), ⟨(cB HB hw271_2), ⟨(cB HB hw271_3), ⟨(cB HB hw271_4), (cB HB hw271_5)⟩⟩⟩⟩⟩)) (fun hHeld => ?_)
    clear hK K
    refine norm_ (a' := ?_) ?_ ?_
    rotate_left
    ·show Act.put _ (some 29) _ = _
     simp only [Act.put, List.setIfInBounds_toArray, List.set_cons_zero, List.set_cons_succ, i64_w, i32_w]
     rfl
    refine pU 10 (some 30) (mB 12 2047) ?_
    refine last_ (i := 11) (N := none) (mB 12 4095) rfl rfl (one_of HT_.out (by kernel_rfl)) (by decide) (fun K hK => ?_)
    have hs27 := cg3 BK270
    have hfs27 := blk_frozen BK270.out 3
    have hns27_0 := NB265_270.out
    have hns27_1 := NB266_270.out
    have hms27_0 := NB270_265.out
    have hms27_1 := NB270_266.out
    refine skip_ (w1 := ?_) (by rfl) rfl ?_ ?_
    rotate_left
    ·go_simp
     rfl
    refine hK.out _ _ ?_
    clear hK K
    refine done_ (done_of HT_.out (by kernel_rfl)) ?_
    try go_wp2
    go_roundg k1
    case measure => have := HK1.out; omega
    case rel => exact ⟨(wrap64 (x4_1 + 1)), (y280), (.slice Ao26 y280.length co26), fS, H', ⟨by have := HK1.out; omega⟩, ⟨by exact sT (Kd.S_mono (Kd.S_far (p := ⟨gb270, 3, none⟩) (Kd.S_types HO_271002.out BK270.out (by decide)) (fun _ hk => hk.2) (.slice Ao26 y280.length co26)) (fun _ hk => trivial))⟩, ⟨by exact sT (Kd.S_mono (Kd.S_far (p := ⟨gb270, 3, none⟩) (Kd.S_types HO282.out BK270.out (by decide)) (fun _ hk => hk.2) (.slice Ao26 y280.length co26)) (fun _ hk => trivial))⟩, ⟨kS⟩, ⟨kS⟩, ⟨kS⟩, ⟨bS⟩⟩
   ·obtain ⟨rfl, rfl, rfl, rfl⟩ := sI4 H
    have hnb28 := NB265_266.out
    have hnc28 := NB266_265.out
    have hnb29 := NB265_270.out
    have hnc29 := NB270_265.out
    have hz30 := cz4 BK265
    have hnb31 := NB270_266.out
    have hnc31 := NB266_270.out
    have hz32 := cz4 BK270
    have hz33 := cz4 BK266
    obtain ⟨Ao34, co34, eo34⟩ := Kd.S_slice HO_271003.out
    subst eo34
    go_wp2
    refine bodyPost_ret (results_cell_row rfl _ _ gb266 30 #[.int .i64 a0_0, .int .i64 a0_1, .slice Ao10 t267.length co10, .slice Ao34 x271003_1.length co34] (0, 0) _ rfl kS Tryz.underlying30 rfl (by kernel_rfl)) rfl ?_
    exact ⟨_, _, eS, by exact sT (Kd.S_mono (Kd.S_far (p := ⟨gb266, 3, none⟩) (Kd.S_far (p := ⟨gb266, 2, none⟩) (Kd.S_far (p := ⟨gb266, 1, none⟩) (Kd.S_far (p := ⟨gb266, 0, none⟩) (Kd.S_types HO_271002.out BK266.out (by decide)) (fun _ hk => hk.2) (.int .i64 a0_0)) (fun _ hk => hk.2) (.int .i64 a0_1)) (fun _ hk => hk.2) (.slice Ao10 t267.length co10)) (fun _ hk => hk.2) (.slice Ao34 x271003_1.length co34)) (fun _ hk => trivial)), by exact sT (Kd.S_mono (Kd.S_far (p := ⟨gb266, 3, none⟩) (Kd.S_far (p := ⟨gb266, 2, none⟩) (Kd.S_far (p := ⟨gb266, 1, none⟩) (Kd.S_far (p := ⟨gb266, 0, none⟩) (Kd.S_types HO_271003.out BK266.out (by decide)) (fun _ hk => hk.2) (.int .i64 a0_0)) (fun _ hk => hk.2) (.int .i64 a0_1)) (fun _ hk => hk.2) (.slice Ao10 t267.length co10)) (fun _ hk => hk.2) (.slice Ao34 x271003_1.length co34)) (fun _ hk => trivial)), bS⟩

/-! ### spec_MeetBox: function 140 -/
def spec_MeetBox.f (a0_0 : Int) (a0_1 : Int) (a0_2 : Int) (a0_3 : Int) (a1_0 : Int) (a1_1 : Int) (a1_2 : Int) (a1_3 : Int) : Option (Int × Int × Int × Int) := (spec_BoxOk.f a0_0 a0_1 a0_2 a0_3).bind fun t287 => (if t287 = true then ((spec_BoxOk.f a1_0 a1_1 a1_2 a1_3).bind fun t288 => (if t288 = true then (if (mx a0_0 a1_0) ≥ (mn a0_2 a1_2) then (some (0, 0, 0, 0)) else (if (mx a0_1 a1_1) ≥ (mn a0_3 a1_3) then (some (0, 0, 0, 0)) else (some (mx a0_0 a1_0, mx a0_1 a1_1, mn a0_2 a1_2, mn a0_3 a1_3)))) else (some (0, 0, 0, 0)))) else (some (0, 0, 0, 0)))
theorem spec_MeetBox.lf0 {p : Prop} (h : p := by
 go_enter Tryz.func140, Tryz.ntmps140
 go_wp2_with (first | ((with_reducible refine gD 2 ?_); refine bxE #[.int .i64 a0_0, .int .i64 a0_1, .int .i64 a0_2, .int .i64 a0_3] 47 ?_; intro gb283 hg w12 BK283 hb; have GW283 := gE hg; have GE283 := gE hg; replace HB := hB hb; clear hb hg) | ((with_reducible refine gD 3 ?_); refine bxE #[.int .i64 a1_0, .int .i64 a1_1, .int .i64 a1_2, .int .i64 a1_3] 47 ?_; intro gb284 hg w13 BK284 hb; have GW284 := gE hg; have GE284 := gE hg; have NB283_284 := nL_ gb283 hg; have NB284_283 := nG_ gb283 hg; replace BK283 := kB_ gb283 hb; replace HB := hB hb; clear hb hg) | ((with_reducible refine gD 4 ?_); refine bxE #[.int .i64 0, .int .i64 0, .int .i64 0, .int .i64 0] 47 ?_; intro gb285 hg w14 BK285 hb; have GW285 := gE hg; have GE285 := gE hg; have NB283_285 := nL_ gb283 hg; have NB285_283 := nG_ gb283 hg; have NB284_285 := nL_ gb284 hg; have NB285_284 := nG_ gb284 hg; replace BK283 := kB_ gb283 hb; replace BK284 := kB_ gb284 hb; replace HB := hB hb; clear hb hg; have hnb15 := NB283_284.out; have hnc15 := NB284_283.out; have hnb16 := NB283_285.out; have hnc16 := NB285_283.out; have hz17 := cz4 BK283; have hnb18 := NB284_285.out; have hnc18 := NB285_284.out; have hz19 := cz4 BK284) | ((with_reducible refine gD 5 ?_); refine bxE #[.int .i64 0, .int .i64 0, .int .i64 0, .int .i64 0] 47 ?_; intro gb286 hg w20 BK286 hb; have GW286 := gE hg; have GE286 := gE hg; have NB283_286 := nL_ gb283 hg; have NB286_283 := nG_ gb283 hg; have NB284_286 := nL_ gb284 hg; have NB286_284 := nG_ gb284 hg; have NB285_286 := nL_ gb285 hg; have NB286_285 := nG_ gb285 hg; replace BK283 := kB_ gb283 hb; replace BK284 := kB_ gb284 hb; replace BK285 := kB_ gb285 hb; replace HB := hB hb; clear hb hg; have hnb21 := NB286_283.out; have hnc21 := NB283_286.out; have hnb22 := NB286_284.out; have hnc22 := NB284_286.out; have hnb23 := NB286_285.out; have hnc23 := NB285_286.out; have hz24 := cz4 BK286; have hz25 := cz4 BK283) | ((with_reducible refine gC 171 ?_); refine cM (some 28) Tryz.func171 (spec_BoxOk.calls a0_0 a0_1 a0_2 a0_3 _ _ A7.out) ?_; rintro e w26 ⟨rfl, hb⟩; refine ⟨_, rfl, ?_⟩; replace BK283 := kB_ gb283 hb; replace BK284 := kB_ gb284 hb; replace BK285 := kB_ gb285 hb; replace BK286 := kO gb286 #[.int .i64 ji3, .int .i64 ji4, .int .i64 ji5, .int .i64 ji6] 47 hb; replace HB := hB hb; (try clear hb); have hz27 := cz4 BK284) | (go_at_call 171; (with_reducible refine (spec_BoxOk.calls a1_0 a1_1 a1_2 a1_3 _ _ A9.out).mono ?_); rintro e w28 ⟨rfl, hb⟩; replace BK283 := kB_ gb283 hb; replace BK284 := kB_ gb284 hb; replace BK285 := kB_ gb285 hb; replace BK286 := kB_ gb286 hb; replace HB := hB hb; (try clear hb); have hz29 := cz4 BK286; have hz30 := cz4 BK285))
 refine bodyPost_ret (results_cell_row rfl _ _ gb285 47 #[.int .i64 0, .int .i64 0, .int .i64 0, .int .i64 0] (0, 0) _ rfl kS Tryz.underlying47 rfl (by kernel_rfl)) rfl ?_
 exact ⟨by first | rfl | (simp [errW_none, errW_some] <;> rfl) | (simp only [← hji3, ← hji4, ← hji5, ← hji6]; first | rfl | (simp [errW_none, errW_some] <;> rfl)) | (simp [*, errW_none, errW_some] <;> rfl), bS⟩) : p := h
theorem spec_MeetBox.calls (a0_0 : Int) (a0_1 : Int) (a0_2 : Int) (a0_3 : Int) (a1_0 : Int) (a1_1 : Int) (a1_2 : Int) (a1_3 : Int) (r1 : Int) (r2 : Int) (r3 : Int) (r4 : Int) (w : World) (h : spec_MeetBox.f a0_0 a0_1 a0_2 a0_3 a1_0 a1_1 a1_2 a1_3 = some (r1, r2, r3, r4)) :
  Calls Tryz.prog 140 #[.agg #[.int .i64 a0_0, .int .i64 a0_1, .int .i64 a0_2, .int .i64 a0_3], .agg #[.int .i64 a1_0, .int .i64 a1_1, .int .i64 a1_2, .int .i64 a1_3]] w fun e w' => e = .returned (.agg #[.int .i64 r1, .int .i64 r2, .int .i64 r3, .int .i64 r4]) ∧ Below w.heap.size w w' := by
 have hu47 := Tryz.underlying47
 have HB := aM (Below.refl w.heap.size w)
 have H := h
 clear h
 unfold spec_MeetBox.f at H
 obtain ⟨ji3, hji3⟩ : ∃ j_ : Int, (mx a0_0 a1_0) = j_ := ⟨_, rfl⟩
 replace H : ((spec_BoxOk.f a0_0 a0_1 a0_2 a0_3).bind fun t287 => (if t287 = true then ((spec_BoxOk.f a1_0 a1_1 a1_2 a1_3).bind fun t288 => (if t288 = true then (if (ji3) ≥ (mn a0_2 a1_2) then (some (0, 0, 0, 0)) else (if (mx a0_1 a1_1) ≥ (mn a0_3 a1_3) then (some (0, 0, 0, 0)) else (some (ji3, mx a0_1 a1_1, mn a0_2 a1_2, mn a0_3 a1_3)))) else (some (0, 0, 0, 0)))) else (some (0, 0, 0, 0)))) = some (r1, r2, r3, r4) := by first | (rw [hji3] at H; exact H) | (simp only [hji3] at H ⊢; exact H)
 have hji3_ : (if a0_0 < a1_0 then a1_0 else a0_0) = ji3 := hji3
 obtain ⟨ji4, hji4⟩ : ∃ j_ : Int, (mx a0_1 a1_1) = j_ := ⟨_, rfl⟩
 replace H : ((spec_BoxOk.f a0_0 a0_1 a0_2 a0_3).bind fun t287 => (if t287 = true then ((spec_BoxOk.f a1_0 a1_1 a1_2 a1_3).bind fun t288 => (if t288 = true then (if (ji3) ≥ (mn a0_2 a1_2) then (some (0, 0, 0, 0)) else (if (ji4) ≥ (mn a0_3 a1_3) then (some (0, 0, 0, 0)) else (some (ji3, ji4, mn a0_2 a1_2, mn a0_3 a1_3)))) else (some (0, 0, 0, 0)))) else (some (0, 0, 0, 0)))) = some (r1, r2, r3, r4) := by first | (rw [hji4] at H; exact H) | (simp only [hji4] at H ⊢; exact H)
 have hji4_ : (if a0_1 < a1_1 then a1_1 else a0_1) = ji4 := hji4
 obtain ⟨ji5, hji5⟩ : ∃ j_ : Int, (mn a0_2 a1_2) = j_ := ⟨_, rfl⟩
 replace H : ((spec_BoxOk.f a0_0 a0_1 a0_2 a0_3).bind fun t287 => (if t287 = true then ((spec_BoxOk.f a1_0 a1_1 a1_2 a1_3).bind fun t288 => (if t288 = true then (if (ji3) ≥ (ji5) then (some (0, 0, 0, 0)) else (if (ji4) ≥ (mn a0_3 a1_3) then (some (0, 0, 0, 0)) else (some (ji3, ji4, ji5, mn a0_3 a1_3)))) else (some (0, 0, 0, 0)))) else (some (0, 0, 0, 0)))) = some (r1, r2, r3, r4) := by first | (rw [hji5] at H; exact H) | (simp only [hji5] at H ⊢; exact H)
 have hji5_ : (if a1_2 < a0_2 then a1_2 else a0_2) = ji5 := hji5
 obtain ⟨ji6, hji6⟩ : ∃ j_ : Int, (mn a0_3 a1_3) = j_ := ⟨_, rfl⟩
 replace H : ((spec_BoxOk.f a0_0 a0_1 a0_2 a0_3).bind fun t287 => (if t287 = true then ((spec_BoxOk.f a1_0 a1_1 a1_2 a1_3).bind fun t288 => (if t288 = true then (if (ji3) ≥ (ji5) then (some (0, 0, 0, 0)) else (if (ji4) ≥ (ji6) then (some (0, 0, 0, 0)) else (some (ji3, ji4, ji5, ji6)))) else (some (0, 0, 0, 0)))) else (some (0, 0, 0, 0)))) = some (r1, r2, r3, r4) := by first | (rw [hji6] at H; exact H) | (simp only [hji6] at H ⊢; exact H)
 have hji6_ : (if a1_3 < a0_3 then a1_3 else a0_3) = ji6 := hji6
 replace H := bN H
 obtain ⟨t287, A7, H⟩ := H
 by_cases c8 : t287 = true
 ·subst c8
  rw [if_pos rfl] at H
  replace H := bN H
  obtain ⟨t288, A9, H⟩ := H
  by_cases c10 : t288 = true
  ·subst c10
   rw [if_pos rfl] at H
   by_cases c11 : (ji3) ≥ (ji5)
   ·rw [if_pos c11] at H
    have c11b0 : decide ((ji5) ≤ (ji3)) = true := decide_eq_true c11
    clear c11
    obtain ⟨rfl, rfl, rfl, rfl⟩ := sI4 H
    exact spec_MeetBox.lf0
   ·rw [if_neg c11] at H
    have c11b0 : decide ((ji5) ≤ (ji3)) = false := decide_eq_false c11
    clear c11
    by_cases c31 : (ji4) ≥ (ji6)
    ·rw [if_pos c31] at H
     have c31b0 : decide ((ji6) ≤ (ji4)) = true := decide_eq_true c31
     clear c31
     obtain ⟨rfl, rfl, rfl, rfl⟩ := sI4 H
     exact spec_MeetBox.lf0
    ·rw [if_neg c31] at H
     have c31b0 : decide ((ji6) ≤ (ji4)) = false := decide_eq_false c31
     clear c31
     obtain ⟨rfl, rfl, rfl, rfl⟩ := sI4 H
     go_enter Tryz.func140, Tryz.ntmps140
     go_wp2_with (first | ((with_reducible refine gD 2 ?_); refine bxE #[.int .i64 a0_0, .int .i64 a0_1, .int .i64 a0_2, .int .i64 a0_3] 47 ?_; intro gb283 hg w51 BK283 hb; have GW283 := gE hg; have GE283 := gE hg; replace HB := hB hb; clear hb hg) | ((with_reducible refine gD 3 ?_); refine bxE #[.int .i64 a1_0, .int .i64 a1_1, .int .i64 a1_2, .int .i64 a1_3] 47 ?_; intro gb284 hg w52 BK284 hb; have GW284 := gE hg; have GE284 := gE hg; have NB283_284 := nL_ gb283 hg; have NB284_283 := nG_ gb283 hg; replace BK283 := kB_ gb283 hb; replace HB := hB hb; clear hb hg) | ((with_reducible refine gD 4 ?_); refine bxE #[.int .i64 0, .int .i64 0, .int .i64 0, .int .i64 0] 47 ?_; intro gb285 hg w53 BK285 hb; have GW285 := gE hg; have GE285 := gE hg; have NB283_285 := nL_ gb283 hg; have NB285_283 := nG_ gb283 hg; have NB284_285 := nL_ gb284 hg; have NB285_284 := nG_ gb284 hg; replace BK283 := kB_ gb283 hb; replace BK284 := kB_ gb284 hb; replace HB := hB hb; clear hb hg; have hnb54 := NB283_284.out; have hnc54 := NB284_283.out; have hnb55 := NB283_285.out; have hnc55 := NB285_283.out; have hz56 := cz4 BK283; have hnb57 := NB284_285.out; have hnc57 := NB285_284.out; have hz58 := cz4 BK284) | ((with_reducible refine gD 5 ?_); refine bxE #[.int .i64 0, .int .i64 0, .int .i64 0, .int .i64 0] 47 ?_; intro gb286 hg w59 BK286 hb; have GW286 := gE hg; have GE286 := gE hg; have NB283_286 := nL_ gb283 hg; have NB286_283 := nG_ gb283 hg; have NB284_286 := nL_ gb284 hg; have NB286_284 := nG_ gb284 hg; have NB285_286 := nL_ gb285 hg; have NB286_285 := nG_ gb285 hg; replace BK283 := kB_ gb283 hb; replace BK284 := kB_ gb284 hb; replace BK285 := kB_ gb285 hb; replace HB := hB hb; clear hb hg; have hnb60 := NB286_283.out; have hnc60 := NB283_286.out; have hnb61 := NB286_284.out; have hnc61 := NB284_286.out; have hnb62 := NB286_285.out; have hnc62 := NB285_286.out; have hz63 := cz4 BK286; have hz64 := cz4 BK283) | ((with_reducible refine gC 171 ?_); refine cM (some 28) Tryz.func171 (spec_BoxOk.calls a0_0 a0_1 a0_2 a0_3 _ _ A7.out) ?_; rintro e w65 ⟨rfl, hb⟩; refine ⟨_, rfl, ?_⟩; replace BK283 := kB_ gb283 hb; replace BK284 := kB_ gb284 hb; replace BK285 := kB_ gb285 hb; replace BK286 := kO gb286 #[.int .i64 ji3, .int .i64 ji4, .int .i64 ji5, .int .i64 ji6] 47 hb; replace HB := hB hb; (try clear hb); have hz66 := cz4 BK284) | (go_at_call 171; (with_reducible refine (spec_BoxOk.calls a1_0 a1_1 a1_2 a1_3 _ _ A9.out).mono ?_); rintro e w67 ⟨rfl, hb⟩; replace BK283 := kB_ gb283 hb; replace BK284 := kB_ gb284 hb; replace BK285 := kB_ gb285 hb; replace BK286 := kB_ gb286 hb; replace HB := hB hb; (try clear hb); have hz68 := cz4 BK286; have hz69 := cz4 BK285))
     refine bodyPost_ret (results_cell_row rfl _ _ gb285 47 #[.int .i64 ji3, .int .i64 ji4, .int .i64 ji5, .int .i64 ji6] (0, 0) _ rfl kS Tryz.underlying47 rfl (by kernel_rfl)) rfl ?_
     exact ⟨by first | rfl | (simp [errW_none, errW_some] <;> rfl) | (simp only [← hji3, ← hji4, ← hji5, ← hji6]; first | rfl | (simp [errW_none, errW_some] <;> rfl)) | (simp [*, errW_none, errW_some] <;> rfl), bS⟩
  ·obtain rfl := Bool.eq_false_iff.mpr c10
   rw [if_neg nF] at H
   obtain ⟨rfl, rfl, rfl, rfl⟩ := sI4 H
   go_enter Tryz.func140, Tryz.ntmps140
   go_wp2_with (first | ((with_reducible refine gD 2 ?_); refine bxE #[.int .i64 a0_0, .int .i64 a0_1, .int .i64 a0_2, .int .i64 a0_3] 47 ?_; intro gb283 hg w70 BK283 hb; have GW283 := gE hg; have GE283 := gE hg; replace HB := hB hb; clear hb hg) | ((with_reducible refine gD 3 ?_); refine bxE #[.int .i64 a1_0, .int .i64 a1_1, .int .i64 a1_2, .int .i64 a1_3] 47 ?_; intro gb284 hg w71 BK284 hb; have GW284 := gE hg; have GE284 := gE hg; have NB283_284 := nL_ gb283 hg; have NB284_283 := nG_ gb283 hg; replace BK283 := kB_ gb283 hb; replace HB := hB hb; clear hb hg) | ((with_reducible refine gD 4 ?_); refine bxE #[.int .i64 0, .int .i64 0, .int .i64 0, .int .i64 0] 47 ?_; intro gb285 hg w72 BK285 hb; have GW285 := gE hg; have GE285 := gE hg; have NB283_285 := nL_ gb283 hg; have NB285_283 := nG_ gb283 hg; have NB284_285 := nL_ gb284 hg; have NB285_284 := nG_ gb284 hg; replace BK283 := kB_ gb283 hb; replace BK284 := kB_ gb284 hb; replace HB := hB hb; clear hb hg; have hnb73 := NB283_284.out; have hnc73 := NB284_283.out; have hnb74 := NB283_285.out; have hnc74 := NB285_283.out; have hz75 := cz4 BK283; have hnb76 := NB284_285.out; have hnc76 := NB285_284.out; have hz77 := cz4 BK284) | ((with_reducible refine gD 5 ?_); refine bxE #[.int .i64 0, .int .i64 0, .int .i64 0, .int .i64 0] 47 ?_; intro gb286 hg w78 BK286 hb; have GW286 := gE hg; have GE286 := gE hg; have NB283_286 := nL_ gb283 hg; have NB286_283 := nG_ gb283 hg; have NB284_286 := nL_ gb284 hg; have NB286_284 := nG_ gb284 hg; have NB285_286 := nL_ gb285 hg; have NB286_285 := nG_ gb285 hg; replace BK283 := kB_ gb283 hb; replace BK284 := kB_ gb284 hb; replace BK285 := kB_ gb285 hb; replace HB := hB hb; clear hb hg; have hnb79 := NB286_283.out; have hnc79 := NB283_286.out; have hnb80 := NB286_284.out; have hnc80 := NB284_286.out; have hnb81 := NB286_285.out; have hnc81 := NB285_286.out; have hz82 := cz4 BK286; have hz83 := cz4 BK283) | ((with_reducible refine gC 171 ?_); refine cM (some 28) Tryz.func171 (spec_BoxOk.calls a0_0 a0_1 a0_2 a0_3 _ _ A7.out) ?_; rintro e w84 ⟨rfl, hb⟩; refine ⟨_, rfl, ?_⟩; replace BK283 := kB_ gb283 hb; replace BK284 := kB_ gb284 hb; replace BK285 := kB_ gb285 hb; replace BK286 := kO gb286 #[.int .i64 ji3, .int .i64 ji4, .int .i64 ji5, .int .i64 ji6] 47 hb; replace HB := hB hb; (try clear hb); have hz85 := cz4 BK284) | (go_at_call 171; (with_reducible refine (spec_BoxOk.calls a1_0 a1_1 a1_2 a1_3 _ _ A9.out).mono ?_); rintro e w86 ⟨rfl, hb⟩; replace BK283 := kB_ gb283 hb; replace BK284 := kB_ gb284 hb; replace BK285 := kB_ gb285 hb; replace BK286 := kB_ gb286 hb; replace HB := hB hb; (try clear hb); have hz87 := cz4 BK285))
   refine bodyPost_ret (results_cell_row rfl _ _ gb285 47 #[.int .i64 0, .int .i64 0, .int .i64 0, .int .i64 0] (0, 0) _ rfl kS Tryz.underlying47 rfl (by kernel_rfl)) rfl ?_
   exact ⟨by first | rfl | (simp [errW_none, errW_some] <;> rfl) | (simp only [← hji3, ← hji4, ← hji5, ← hji6]; first | rfl | (simp [errW_none, errW_some] <;> rfl)) | (simp [*, errW_none, errW_some] <;> rfl), bS⟩
 ·obtain rfl := Bool.eq_false_iff.mpr c8
  rw [if_neg nF] at H
  obtain ⟨rfl, rfl, rfl, rfl⟩ := sI4 H
  go_enter Tryz.func140, Tryz.ntmps140
  go_wp2_with (first | ((with_reducible refine gD 2 ?_); refine bxE #[.int .i64 a0_0, .int .i64 a0_1, .int .i64 a0_2, .int .i64 a0_3] 47 ?_; intro gb283 hg w88 BK283 hb; have GW283 := gE hg; have GE283 := gE hg; replace HB := hB hb; clear hb hg) | ((with_reducible refine gD 3 ?_); refine bxE #[.int .i64 a1_0, .int .i64 a1_1, .int .i64 a1_2, .int .i64 a1_3] 47 ?_; intro gb284 hg w89 BK284 hb; have GW284 := gE hg; have GE284 := gE hg; have NB283_284 := nL_ gb283 hg; have NB284_283 := nG_ gb283 hg; replace BK283 := kB_ gb283 hb; replace HB := hB hb; clear hb hg) | ((with_reducible refine gD 4 ?_); refine bxE #[.int .i64 0, .int .i64 0, .int .i64 0, .int .i64 0] 47 ?_; intro gb285 hg w90 BK285 hb; have GW285 := gE hg; have GE285 := gE hg; have NB283_285 := nL_ gb283 hg; have NB285_283 := nG_ gb283 hg; have NB284_285 := nL_ gb284 hg; have NB285_284 := nG_ gb284 hg; replace BK283 := kB_ gb283 hb; replace BK284 := kB_ gb284 hb; replace HB := hB hb; clear hb hg; have hnb91 := NB283_284.out; have hnc91 := NB284_283.out; have hnb92 := NB283_285.out; have hnc92 := NB285_283.out; have hz93 := cz4 BK283; have hnb94 := NB284_285.out; have hnc94 := NB285_284.out; have hz95 := cz4 BK284) | ((with_reducible refine gD 5 ?_); refine bxE #[.int .i64 0, .int .i64 0, .int .i64 0, .int .i64 0] 47 ?_; intro gb286 hg w96 BK286 hb; have GW286 := gE hg; have GE286 := gE hg; have NB283_286 := nL_ gb283 hg; have NB286_283 := nG_ gb283 hg; have NB284_286 := nL_ gb284 hg; have NB286_284 := nG_ gb284 hg; have NB285_286 := nL_ gb285 hg; have NB286_285 := nG_ gb285 hg; replace BK283 := kB_ gb283 hb; replace BK284 := kB_ gb284 hb; replace BK285 := kB_ gb285 hb; replace HB := hB hb; clear hb hg; have hnb97 := NB286_283.out; have hnc97 := NB283_286.out; have hnb98 := NB286_284.out; have hnc98 := NB284_286.out; have hnb99 := NB286_285.out; have hnc99 := NB285_286.out; have hz100 := cz4 BK286; have hz101 := cz4 BK283) | ((with_reducible refine gC 171 ?_); refine cM (some 28) Tryz.func171 (spec_BoxOk.calls a0_0 a0_1 a0_2 a0_3 _ _ A7.out) ?_; rintro e w102 ⟨rfl, hb⟩; refine ⟨_, rfl, ?_⟩; replace BK283 := kB_ gb283 hb; replace BK284 := kB_ gb284 hb; replace BK285 := kB_ gb285 hb; replace BK286 := kO gb286 #[.int .i64 ji3, .int .i64 ji4, .int .i64 ji5, .int .i64 ji6] 47 hb; replace HB := hB hb; (try clear hb); have hz103 := cz4 BK285))
  refine bodyPost_ret (results_cell_row rfl _ _ gb285 47 #[.int .i64 0, .int .i64 0, .int .i64 0, .int .i64 0] (0, 0) _ rfl kS Tryz.underlying47 rfl (by kernel_rfl)) rfl ?_
  exact ⟨by first | rfl | (simp [errW_none, errW_some] <;> rfl) | (simp only [← hji3, ← hji4, ← hji5, ← hji6]; first | rfl | (simp [errW_none, errW_some] <;> rfl)) | (simp [*, errW_none, errW_some] <;> rfl), bS⟩

/-! ### spec_BoxOf: function 141 -/
def spec_BoxOf.l0 : Nat → List (S151) → Int → Int → Int → Int → Int → Option (Int × Int × Int × Int)
 | 0, _, _, _, _, _, _ => none
 | k + 1, x0, x4, x291000, x291001, x291002, x291003 => if x4 < (x0.length : Int) then (if 0 ≤ x4 then ((spec_PointOk.f ((rd_T151 x0 x4).f0) ((rd_T151 x0 x4).f1)).bind fun t293 => (if t293 = true then (if x4 = 0 then (spec_BoxOf.l0 k x0 (wrap64 (x4 + 1)) ((rd_T151 x0 x4).f0) ((rd_T151 x0 x4).f1) ((rd_T151 x0 x4).f0) ((rd_T151 x0 x4).f1)) else (spec_BoxOf.l0 k x0 (wrap64 (x4 + 1)) (mn x291000 ((rd_T151 x0 x4).f0)) (mn x291001 ((rd_T151 x0 x4).f1)) (mx x291002 ((rd_T151 x0 x4).f0)) (mx x291003 ((rd_T151 x0 x4).f1)))) else (some (0, 0, 0, 0)))) else (none)) else (some (x291000, x291001, x291002, x291003))
def spec_BoxOf.f (k : Nat) (l0 : List (S151)) : Option (Int × Int × Int × Int) := spec_BoxOf.l0 k l0 0 0 0 0 0
theorem spec_BoxOf.calls (k : Nat) (A0 : Option Addr) (c0 : Nat) (l0 : List (S151)) (r1 : Int) (r2 : Int) (r3 : Int) (r4 : Int) (w : World) (hr0 : Kd.C k151 w A0 l0.length l0) (hc0 : l0.length ≤ c0) (h : spec_BoxOf.f k l0 = some (r1, r2, r3, r4)) :
  Calls Tryz.prog 141 #[.slice A0 l0.length c0] w fun e w' => e = .returned (.agg #[.int .i64 r1, .int .i64 r2, .int .i64 r3, .int .i64 r4]) ∧ Below w.heap.size w w' := by
 have hu47 := Tryz.underlying47
 have hu151 := Tryz.underlying151
 have HR0 := aM hr0
 have HC0 := aM hc0
 clear hr0 hc0
 have HB := aM (Below.refl w.heap.size w)
 have H := h
 clear h
 unfold spec_BoxOf.f at H
 have H' := aM H
 clear H
 go_enter Tryz.func141, Tryz.ntmps141
 go_wp2_with (first | ((with_reducible refine gD 2 ?_); refine bxE #[.int .i64 0, .int .i64 0, .int .i64 0, .int .i64 0] 47 ?_; intro gb289 hg w2 BK289 hb; have GW289 := gE hg; have GE289 := gE hg; replace HB := hB hb; clear hb hg) | ((with_reducible refine gD 3 ?_); refine bxE #[.int .i64 0, .int .i64 0, .int .i64 0, .int .i64 0] 47 ?_; intro gb290 hg w3 BK290 hb; have GW290 := gE hg; have GE290 := gE hg; have NB289_290 := nL_ gb289 hg; have NB290_289 := nG_ gb289 hg; replace BK289 := kB_ gb289 hb; replace HB := hB hb; clear hb hg; have hnb4 := NB290_289.out; have hnc4 := NB289_290.out; have hcz5_0 := cg0 BK290; have hcz5_1 := cg1 BK290; have hcz5_2 := cg2 BK290; have hcz5_3 := cg3 BK290; have hfz5_0 := blk_frozen BK290.out 0; have hfz5_1 := blk_frozen BK290.out 1; have hfz5_2 := blk_frozen BK290.out 2; have hfz5_3 := blk_frozen BK290.out 3))
 go_loopg [4] k (fun kq v4 w' => ∃ (x4_1 : Int) (x290000_1 : Int) (x290001_1 : Int) (x290002_1 : Int) (x290003_1 : Int) (x291000_1 : Int) (x291001_1 : Int) (x291002_1 : Int) (x291003_1 : Int), v4 = .int .i64 x4_1 ∧ Aside0 (spec_BoxOf.l0 kq l0 x4_1 x291000_1 x291001_1 x291002_1 x291003_1 = some (r1, r2, r3, r4)) ∧ Aside0 (kq ≤ k) ∧ Aside0 (w'.heap[gb289]? = some (.cells #[.int .i64 x290000_1, .int .i64 x290001_1, .int .i64 x290002_1, .int .i64 x290003_1] 47 (0, 0))) ∧ Aside0 (w'.heap[gb290]? = some (.cells #[.int .i64 x291000_1, .int .i64 x291001_1, .int .i64 x291002_1, .int .i64 x291003_1] 47 (0, 0))) ∧ Aside0 (Below w.heap.size w w'))
 case atStart => exact ⟨(0), (0), (0), (0), (0), (0), (0), (0), (0), fS, H', ⟨Nat.le_refl _⟩, ⟨kS⟩, ⟨kS⟩, ⟨bS⟩⟩
 case round =>
  clear H'
  try clear c1
  try clear p2
  try clear c4
  obtain ⟨x4_1, x290000_1, x290001_1, x290002_1, x290003_1, x291000_1, x291001_1, x291002_1, x291003_1, rfl, HA, HK1, BK289, BK290, HB⟩ := hrel
  cases gk with
  | zero => exact absurd HA.out (by simp [spec_BoxOf.l0])
  | succ k1 =>
   have H := HA.out
   clear HA
   simp only [spec_BoxOf.l0] at H
   rcases iD H with ⟨c6b0, H⟩ | ⟨c6b0, H⟩
   ·obtain ⟨c7b0, H⟩ := iT H
    replace H := bN H
    obtain ⟨t293, A8, H⟩ := H
    by_cases c9 : t293 = true
    ·subst c9
     rw [if_pos rfl] at H
     by_cases c10 : x4_1 = 0
     ·rw [if_pos c10] at H
      have c10b0 : (x4_1 == 0) = true := beq_iff_eq.mpr c10
      have c10b1 : (x4_1 != 0) = false := bne_eq_false_iff_eq.mpr c10
      clear c10
      have H' := aM H
      clear H
      have p291 : 0 ≤ (x4_1 : Int) := dA
      have q291 : x4_1 < (l0.length : Int) := dA
      obtain ⟨ad291, e291, hx291_0, hx291_1⟩ := at_T151 HR0.out x4_1 p291 q291
      cases e291
      replace hx291_0 := cB HB hx291_0
      replace hx291_1 := cB HB hx291_1
      replace p291 := eq_true p291
      replace q291 := eq_true q291
      go_wp2_with (first | ((with_reducible refine gD 5 ?_); refine bxE #[.int .i64 0, .int .i64 0] 151 ?_; intro gb292 hg w11 BK292 hb; have GW292 := gE hg; have GE292 := gE hg; have NB289_292 := nL_ gb289 hg; have NB292_289 := nG_ gb289 hg; have NB290_292 := nL_ gb290 hg; have NB292_290 := nG_ gb290 hg; replace BK289 := kB_ gb289 hb; replace BK290 := kB_ gb290 hb; replace HB := hB hb; clear hb hg; have hnb12 := NB292_289.out; have hnc12 := NB289_292.out; have hnb13 := NB292_290.out; have hnc13 := NB290_292.out; have hz14 := cz2 BK292) | ((with_reducible refine gC 175 ?_); refine cM (some 18) Tryz.func175 (spec_PointOk.calls ((rd_T151 l0 x4_1).f0) ((rd_T151 l0 x4_1).f1) _ _ A8.out) ?_; rintro e w15 ⟨rfl, hb⟩; refine ⟨_, rfl, ?_⟩; replace BK289 := kB_ gb289 hb; replace BK290 := kB_ gb290 hb; replace BK292 := kO gb292 #[.int .i64 ((rd_T151 l0 x4_1).f0), .int .i64 ((rd_T151 l0 x4_1).f1)] 151 hb; replace HB := hB hb; (try clear hb); have hz16 := cz2 BK292; have hnb17 := NB290_289.out; have hnc17 := NB289_290.out; have hz18 := cz4 BK290))
      go_roundg k1
      case measure => have := HK1.out; omega
      case rel => exact ⟨(wrap64 (x4_1 + 1)), (x290000_1), (x290001_1), (x290002_1), (x290003_1), ((rd_T151 l0 x4_1).f0), ((rd_T151 l0 x4_1).f1), ((rd_T151 l0 x4_1).f0), ((rd_T151 l0 x4_1).f1), fS, H', ⟨by have := HK1.out; omega⟩, ⟨kS⟩, ⟨by (with_reducible repeat (first | refine blk_drewN ?_ _ | refine blk_drew ?_ | refine blk_alloc ?_ _)); refine blk_put (cs := #[.int .i64 ((rd_T151 l0 x4_1).f0), .int .i64 ((rd_T151 l0 x4_1).f1), .int .i64 ((rd_T151 l0 x4_1).f0), .int .i64 ((rd_T151 l0 x4_1).f1)]) ?_ 3 _ rfl; (with_reducible repeat (first | refine blk_drewN ?_ _ | refine blk_drew ?_ | refine blk_alloc ?_ _)); refine blk_put (cs := #[.int .i64 ((rd_T151 l0 x4_1).f0), .int .i64 ((rd_T151 l0 x4_1).f1), .int .i64 ((rd_T151 l0 x4_1).f0), .int .i64 ((rd_T151 l0 x4_1).f1)]) ?_ 2 _ rfl; (with_reducible repeat (first | refine blk_drewN ?_ _ | refine blk_drew ?_ | refine blk_alloc ?_ _)); refine blk_put (cs := #[.int .i64 ((rd_T151 l0 x4_1).f0), .int .i64 ((rd_T151 l0 x4_1).f1), .int .i64 ((rd_T151 l0 x4_1).f0), .int .i64 ((rd_T151 l0 x4_1).f1)]) ?_ 1 _ rfl; (with_reducible repeat (first | refine blk_drewN ?_ _ | refine blk_drew ?_ | refine blk_alloc ?_ _)); refine blk_put (cs := #[.int .i64 ((rd_T151 l0 x4_1).f0), .int .i64 ((rd_T151 l0 x4_1).f1), .int .i64 ((rd_T151 l0 x4_1).f0), .int .i64 ((rd_T151 l0 x4_1).f1)]) ?_ 0 _ rfl; (with_reducible repeat (first | refine blk_drewN ?_ _ | refine blk_drew ?_ | refine blk_alloc ?_ _)); refine blk_put (cs := #[.int .i64 ((rd_T151 l0 x4_1).f0), .int .i64 ((rd_T151 l0 x4_1).f1), .int .i64 ((rd_T151 l0 x4_1).f0), .int .i64 x291003_1]) ?_ 3 _ rfl; (with_reducible repeat (first | refine blk_drewN ?_ _ | refine blk_drew ?_ | refine blk_alloc ?_ _)); refine blk_put (cs := #[.int .i64 ((rd_T151 l0 x4_1).f0), .int .i64 ((rd_T151 l0 x4_1).f1), .int .i64 x291002_1, .int .i64 x291003_1]) ?_ 2 _ rfl; (with_reducible repeat (first | refine blk_drewN ?_ _ | refine blk_drew ?_ | refine blk_alloc ?_ _)); refine blk_put (cs := #[.int .i64 ((rd_T151 l0 x4_1).f0), .int .i64 x291001_1, .int .i64 x291002_1, .int .i64 x291003_1]) ?_ 1 _ rfl; (with_reducible repeat (first | refine blk_drewN ?_ _ | refine blk_drew ?_ | refine blk_alloc ?_ _)); refine blk_put (cs := #[.int .i64 x291000_1, .int .i64 x291001_1, .int .i64 x291002_1, .int .i64 x291003_1]) ?_ 0 _ rfl; (with_reducible repeat (first | refine blk_drewN ?_ _ | refine blk_drew ?_ | refine blk_alloc ?_ _)); exact BK290.out⟩, ⟨bS⟩⟩
     ·rw [if_neg c10] at H
      have c10b0 : (x4_1 == 0) = false := beq_eq_false_iff_ne.mpr c10
      have c10b1 : (x4_1 != 0) = true := bne_iff_ne.mpr c10
      obtain ⟨ji19, hji19⟩ : ∃ j_ : Int, (mn x291000_1 ((rd_T151 l0 x4_1).f0)) = j_ := ⟨_, rfl⟩
      replace H : (spec_BoxOf.l0 k1 l0 (wrap64 (x4_1 + 1)) ji19 (mn x291001_1 ((rd_T151 l0 x4_1).f1)) (mx x291002_1 ((rd_T151 l0 x4_1).f0)) (mx x291003_1 ((rd_T151 l0 x4_1).f1))) = some (r1, r2, r3, r4) := by first | (rw [hji19] at H; exact H) | (simp only [hji19] at H ⊢; exact H)
      (try rw [hji19] at A8)
      have hji19_ : (if ((rd_T151 l0 x4_1).f0) < x291000_1 then ((rd_T151 l0 x4_1).f0) else x291000_1) = ji19 := hji19
      obtain ⟨ji20, hji20⟩ : ∃ j_ : Int, (mn x291001_1 ((rd_T151 l0 x4_1).f1)) = j_ := ⟨_, rfl⟩
      replace H : (spec_BoxOf.l0 k1 l0 (wrap64 (x4_1 + 1)) ji19 ji20 (mx x291002_1 ((rd_T151 l0 x4_1).f0)) (mx x291003_1 ((rd_T151 l0 x4_1).f1))) = some (r1, r2, r3, r4) := by first | (rw [hji20] at H; exact H) | (simp only [hji20] at H ⊢; exact H)
      (try rw [hji20] at A8)
      have hji20_ : (if ((rd_T151 l0 x4_1).f1) < x291001_1 then ((rd_T151 l0 x4_1).f1) else x291001_1) = ji20 := hji20
      obtain ⟨ji21, hji21⟩ : ∃ j_ : Int, (mx x291002_1 ((rd_T151 l0 x4_1).f0)) = j_ := ⟨_, rfl⟩
      replace H : (spec_BoxOf.l0 k1 l0 (wrap64 (x4_1 + 1)) ji19 ji20 ji21 (mx x291003_1 ((rd_T151 l0 x4_1).f1))) = some (r1, r2, r3, r4) := by first | (rw [hji21] at H; exact H) | (simp only [hji21] at H ⊢; exact H)
      (try rw [hji21] at A8)
      have hji21_ : (if x291002_1 < ((rd_T151 l0 x4_1).f0) then ((rd_T151 l0 x4_1).f0) else x291002_1) = ji21 := hji21
      obtain ⟨ji22, hji22⟩ : ∃ j_ : Int, (mx x291003_1 ((rd_T151 l0 x4_1).f1)) = j_ := ⟨_, rfl⟩
      replace H : (spec_BoxOf.l0 k1 l0 (wrap64 (x4_1 + 1)) ji19 ji20 ji21 ji22) = some (r1, r2, r3, r4) := by first | (rw [hji22] at H; exact H) | (simp only [hji22] at H ⊢; exact H)
      (try rw [hji22] at A8)
      have hji22_ : (if x291003_1 < ((rd_T151 l0 x4_1).f1) then ((rd_T151 l0 x4_1).f1) else x291003_1) = ji22 := hji22
      have H' := aM H
      clear H
      have p291 : 0 ≤ (x4_1 : Int) := dA
      have q291 : x4_1 < (l0.length : Int) := dA
      obtain ⟨ad291, e291, hx291_0, hx291_1⟩ := at_T151 HR0.out x4_1 p291 q291
      cases e291
      replace hx291_0 := cB HB hx291_0
      replace hx291_1 := cB HB hx291_1
      replace p291 := eq_true p291
      replace q291 := eq_true q291
      go_wp2_with (first | ((with_reducible refine gD 5 ?_); refine bxE #[.int .i64 0, .int .i64 0] 151 ?_; intro gb292 hg w23 BK292 hb; have GW292 := gE hg; have GE292 := gE hg; have NB289_292 := nL_ gb289 hg; have NB292_289 := nG_ gb289 hg; have NB290_292 := nL_ gb290 hg; have NB292_290 := nG_ gb290 hg; replace BK289 := kB_ gb289 hb; replace BK290 := kB_ gb290 hb; replace HB := hB hb; clear hb hg; have hnb24 := NB292_289.out; have hnc24 := NB289_292.out; have hnb25 := NB292_290.out; have hnc25 := NB290_292.out; have hz26 := cz2 BK292) | ((with_reducible refine gC 175 ?_); refine cM (some 18) Tryz.func175 (spec_PointOk.calls ((rd_T151 l0 x4_1).f0) ((rd_T151 l0 x4_1).f1) _ _ A8.out) ?_; rintro e w27 ⟨rfl, hb⟩; refine ⟨_, rfl, ?_⟩; replace BK289 := kB_ gb289 hb; replace BK290 := kB_ gb290 hb; replace BK292 := kO gb292 #[.int .i64 ((rd_T151 l0 x4_1).f0), .int .i64 ((rd_T151 l0 x4_1).f1)] 151 hb; replace HB := hB hb; (try clear hb); have hnb28 := NB290_289.out; have hnc28 := NB289_290.out; have hz29 := cz4 BK290; have hz30 := cz2 BK292))
      go_roundg k1
      case measure => have := HK1.out; omega
      case rel => exact ⟨(wrap64 (x4_1 + 1)), (x290000_1), (x290001_1), (x290002_1), (x290003_1), (ji19), (ji20), (ji21), (ji22), fS, H', ⟨by have := HK1.out; omega⟩, ⟨kS⟩, ⟨kS⟩, ⟨bS⟩⟩
    ·obtain rfl := Bool.eq_false_iff.mpr c9
     rw [if_neg nF] at H
     obtain ⟨rfl, rfl, rfl, rfl⟩ := sI4 H
     have p291 : 0 ≤ (x4_1 : Int) := dA
     have q291 : x4_1 < (l0.length : Int) := dA
     obtain ⟨ad291, e291, hx291_0, hx291_1⟩ := at_T151 HR0.out x4_1 p291 q291
     cases e291
     replace hx291_0 := cB HB hx291_0
     replace hx291_1 := cB HB hx291_1
     replace p291 := eq_true p291
     replace q291 := eq_true q291
     go_wp2_with (first | ((with_reducible refine gD 5 ?_); refine bxE #[.int .i64 0, .int .i64 0] 151 ?_; intro gb292 hg w31 BK292 hb; have GW292 := gE hg; have GE292 := gE hg; have NB289_292 := nL_ gb289 hg; have NB292_289 := nG_ gb289 hg; have NB290_292 := nL_ gb290 hg; have NB292_290 := nG_ gb290 hg; replace BK289 := kB_ gb289 hb; replace BK290 := kB_ gb290 hb; replace HB := hB hb; clear hb hg; have hnb32 := NB292_289.out; have hnc32 := NB289_292.out; have hnb33 := NB292_290.out; have hnc33 := NB290_292.out; have hz34 := cz2 BK292) | ((with_reducible refine gC 175 ?_); refine cM (some 18) Tryz.func175 (spec_PointOk.calls ((rd_T151 l0 x4_1).f0) ((rd_T151 l0 x4_1).f1) _ _ A8.out) ?_; rintro e w35 ⟨rfl, hb⟩; refine ⟨_, rfl, ?_⟩; replace BK289 := kB_ gb289 hb; replace BK290 := kB_ gb290 hb; replace BK292 := kO gb292 #[.int .i64 ((rd_T151 l0 x4_1).f0), .int .i64 ((rd_T151 l0 x4_1).f1)] 151 hb; replace HB := hB hb; (try clear hb); have hnb36 := NB289_290.out; have hnc36 := NB290_289.out; have hz37 := cz4 BK289))
     refine bodyPost_ret (results_cell_row rfl _ _ gb289 47 #[.int .i64 0, .int .i64 0, .int .i64 0, .int .i64 0] (0, 0) _ rfl kS Tryz.underlying47 rfl (by kernel_rfl)) rfl ?_
     exact ⟨eS, bS⟩
   ·obtain ⟨rfl, rfl, rfl, rfl⟩ := sI4 H
    have hnb38 := NB290_289.out
    have hnc38 := NB289_290.out
    have hz39 := cz4 BK290
    have hz40 := cz4 BK289
    go_wp2
    refine bodyPost_ret (results_cell_row rfl _ _ gb289 47 #[.int .i64 x291000_1, .int .i64 x291001_1, .int .i64 x291002_1, .int .i64 x291003_1] (0, 0) _ rfl kS Tryz.underlying47 rfl (by kernel_rfl)) rfl ?_
    exact ⟨eS, bS⟩

/-! ### spec_l07Full: function 158 -/
def spec_l07Full.f  : Option (Int × Int × Int × Int) := some (0, 0, 32, 32)
theorem spec_l07Full.calls  (r1 : Int) (r2 : Int) (r3 : Int) (r4 : Int) (w : World) (h : spec_l07Full.f  = some (r1, r2, r3, r4)) :
  Calls Tryz.prog 158 #[] w fun e w' => e = .returned (.agg #[.int .i64 r1, .int .i64 r2, .int .i64 r3, .int .i64 r4]) ∧ Below w.heap.size w w' := by
 have hu47 := Tryz.underlying47
 have HB := aM (Below.refl w.heap.size w)
 have H := h
 clear h
 unfold spec_l07Full.f at H
 obtain ⟨rfl, rfl, rfl, rfl⟩ := sI4 H
 go_enter Tryz.func158, Tryz.ntmps158
 go_wp2_with (first | ((with_reducible refine gD 0 ?_); refine bxE #[.int .i64 0, .int .i64 0, .int .i64 0, .int .i64 0] 47 ?_; intro gb294 hg w1 BK294 hb; have GW294 := gE hg; have GE294 := gE hg; replace HB := hB hb; clear hb hg; have hz2 := cz4 BK294))
 refine bodyPost_ret (results_cell_row rfl _ _ gb294 47 #[.int .i64 0, .int .i64 0, .int .i64 32, .int .i64 32] (0, 0) _ rfl kS Tryz.underlying47 rfl (by kernel_rfl)) rfl ?_
 exact ⟨eS, bS⟩

/-! ### spec_ObjectBox: function 121 -/
def spec_ObjectBox.f (k : Nat) (l0_0 : List (S151)) (a0_1 : Int) (a0_2 : Int) (a0_3 : Int) (a0_4 : Int) (a0_5 : Int) : Option (Int × Int × Int × Int) := (spec_ObjectOk.f k l0_0 a0_1 a0_2 a0_3 a0_4 a0_5).bind fun t297 => (if t297 = true then ((spec_BoxOf.f k l0_0).bind fun bt298 => ((spec_MeetBox.f bt298.1 bt298.2.1 bt298.2.2.1 bt298.2.2.2 a0_2 a0_3 a0_4 a0_5).bind fun bt302 => ((spec_l07Full.f).bind fun bt306 => ((spec_MeetBox.f bt302.1 bt302.2.1 bt302.2.2.1 bt302.2.2.2 bt306.1 bt306.2.1 bt306.2.2.1 bt306.2.2.2).bind fun bt310 => (some (bt310.1, bt310.2.1, bt310.2.2.1, bt310.2.2.2)))))) else (some (0, 0, 0, 0)))
def spec_ObjectBox.T3 : Bool × List (List Nat × List Nat) := (true, [([], []), ([0], [0]), ([1], [1]), ([], []), ([3], [3]), ([2, 4, 2], [2, 4]), ([5], []), ([5, 6, 6], [5, 6]), ([7, 7, 0, 1, 2, 3, 4, 5, 6, 7], [7])])
def spec_ObjectBox.B3 : List Nat := [0, 1, 3, 0, 8, 31, 63, 127, 255]
theorem spec_ObjectBox.tab3 : rtab .any (opsOf Tryz.f121 3) = spec_ObjectBox.T3 := by kernel_rfl
theorem spec_ObjectBox.bits3 : waitsOk spec_ObjectBox.T3.2 spec_ObjectBox.B3 = true := by kernel_rfl
theorem spec_ObjectBox.calls (k : Nat) (A0_0 : Option Addr) (c0_0 : Nat) (l0_0 : List (S151)) (a0_1 : Int) (a0_2 : Int) (a0_3 : Int) (a0_4 : Int) (a0_5 : Int) (r1 : Int) (r2 : Int) (r3 : Int) (r4 : Int) (w : World) (hr0_0 : Kd.C k151 w A0_0 l0_0.length l0_0) (hc0_0 : l0_0.length ≤ c0_0) (h : spec_ObjectBox.f k l0_0 a0_1 a0_2 a0_3 a0_4 a0_5 = some (r1, r2, r3, r4)) :
  Calls Tryz.prog 121 #[.agg #[.slice A0_0 l0_0.length c0_0, .int .i64 a0_1, .int .i64 a0_2, .int .i64 a0_3, .int .i64 a0_4, .int .i64 a0_5]] w fun e w' => e = .returned (.agg #[.int .i64 r1, .int .i64 r2, .int .i64 r3, .int .i64 r4]) ∧ Below w.heap.size w w' := by
 have hu49 := Tryz.underlying49
 have hu47 := Tryz.underlying47
 have HR0_0 := aM hr0_0
 have HC0_0 := aM hc0_0
 clear hr0_0 hc0_0
 have HB := aM (Below.refl w.heap.size w)
 have H := h
 clear h
 unfold spec_ObjectBox.f at H
 replace H := bN H
 obtain ⟨t297, A2, H⟩ := H
 by_cases c3 : t297 = true
 ·subst c3
  rw [if_pos rfl] at H
  replace H := bN H
  obtain ⟨⟨t298, t299, t300, t301⟩, A4, H⟩ := H
  replace H := bN H
  obtain ⟨⟨t302, t303, t304, t305⟩, A5, H⟩ := H
  replace H := bN H
  obtain ⟨⟨t306, t307, t308, t309⟩, A6, H⟩ := H
  replace H := bN H
  obtain ⟨⟨t310, t311, t312, t313⟩, A7, H⟩ := H
  obtain ⟨rfl, rfl, rfl, rfl⟩ := sI4 H
  go_enter Tryz.func121, Tryz.ntmps121
  try go_wp2_with (first | ((with_reducible refine gD 1 ?_); refine bxE #[.slice A0_0 l0_0.length c0_0, .int .i64 a0_1, .int .i64 a0_2, .int .i64 a0_3, .int .i64 a0_4, .int .i64 a0_5] 49 ?_; intro gb295 hg w8 BK295 hb; have GW295 := gE hg; have GE295 := gE hg; replace HB := hB hb; clear hb hg) | ((with_reducible refine gD 2 ?_); refine bxE #[.int .i64 0, .int .i64 0, .int .i64 0, .int .i64 0] 47 ?_; intro gb296 hg w9 BK296 hb; have GW296 := gE hg; have GE296 := gE hg; have NB295_296 := nL_ gb295 hg; have NB296_295 := nG_ gb295 hg; replace BK295 := kB_ gb295 hb; replace HB := hB hb; clear hb hg; have hnb10 := NB295_296.out; have hnc10 := NB296_295.out; have hz11 := cz6 BK295) | ((with_reducible refine gC 58 ?_); refine cM (some 4) Tryz.func58 (spec_ObjectOk.calls k _ _ l0_0 a0_1 a0_2 a0_3 a0_4 a0_5 _ _ (cC HR0_0 HB) HC0_0.out A2.out) ?_; rintro e w12 ⟨rfl, hb⟩; refine ⟨_, rfl, ?_⟩; replace BK295 := kB_ gb295 hb; replace BK296 := kB_ gb296 hb; replace HB := hB hb; (try clear hb)))
  replace BK295 := aM (blk_drew BK295.out)
  replace BK296 := aM (blk_drew BK296.out)
  replace HB := aM (below_drew1 HB.out)
  refine start_ (n := 9) (S := fun w' => w'.cell? ⟨gb295, 0, none⟩ = some (.slice A0_0 l0_0.length c0_0) ∧ w'.cell? ⟨gb295, 1, none⟩ = some (.int .i64 a0_1) ∧ w'.cell? ⟨gb295, 2, none⟩ = some (.int .i64 a0_2) ∧ w'.cell? ⟨gb295, 3, none⟩ = some (.int .i64 a0_3) ∧ w'.cell? ⟨gb295, 4, none⟩ = some (.int .i64 a0_4) ∧ w'.cell? ⟨gb295, 5, none⟩ = some (.int .i64 a0_5)) (ds := []) (mB 9 0) (by kernel_rfl) rfl rfl (cy6 BK295) (fun hHeld => ?_); refine with_tabW spec_ObjectBox.tab3 spec_ObjectBox.bits3 (fun HT_ HW_ => ?_)
  generalize w12.drew = w13 at BK295 BK296 HB hHeld ⊢
  refine pU 0 (some 7) (mB 9 1) ?_
  refine pU 3 (some 10) (mB 9 9) ?_
  refine tK 1 (some 8) (mB 9 11) ?_
  refine tK 4 (some 11) (mB 9 27) ?_
  refine one_ (i := 2) (N := some 9) (mB 9 31) rfl rfl (one_of HT_.out (by kernel_rfl)) (by decide) (fun K hK => ?_)
  refine goes_ Tryz.func141 (by kernel_rfl) rfl #[.slice A0_0 l0_0.length c0_0] (by rfl) rfl rfl mA ?_
  with_reducible refine (spec_BoxOf.calls k _ _ l0_0 t298 t299 t300 t301 _ ?side1 ?side2 A4.out).mono ?_
  (case side1 => exact cS (Kd.C_below HR0_0.out HB.out))
  (case side2 => exact HC0_0.out)
  rintro e w14 ⟨rfl, hb⟩
  refine ⟨_, rfl, ?_⟩
  replace BK295 := kB_ gb295 hb
  replace BK296 := kB_ gb296 hb
  replace HB := hB hb
  (try clear hb)
  (try clear hb2)
  (try clear hk)
  (try clear hi)
  refine hK.out _ _ (cy6 BK295) (fun hHeld => ?_)
  clear hK K
  refine norm_ (a' := ?_) ?_ ?_
  rotate_left
  ·show Act.put _ (some 9) _ = _
   simp only [Act.put, List.setIfInBounds_toArray, List.set_cons_zero, List.set_cons_succ, i64_w, i32_w]
   rfl
  refine one_ (i := 5) (N := some 12) (mB 9 63) rfl rfl (one_of HT_.out (by kernel_rfl)) (by decide) (fun K hK => ?_)
  refine goes_ Tryz.func140 (by kernel_rfl) rfl #[.agg #[.int .i64 t298, .int .i64 t299, .int .i64 t300, .int .i64 t301], .agg #[.int .i64 a0_2, .int .i64 a0_3, .int .i64 a0_4, .int .i64 a0_5]] (by rfl) rfl rfl mA ?_
  with_reducible refine (spec_MeetBox.calls t298 t299 t300 t301 a0_2 a0_3 a0_4 a0_5 t302 t303 t304 t305 _ A5.out).mono ?_
  rintro e w15 ⟨rfl, hb⟩
  refine ⟨_, rfl, ?_⟩
  replace BK295 := kB_ gb295 hb
  replace BK296 := kB_ gb296 hb
  replace HB := hB hb
  (try clear hb)
  (try clear hb2)
  (try clear hk)
  (try clear hi)
  refine hK.out _ _ (cy6 BK295) (fun hHeld => ?_)
  clear hK K
  refine norm_ (a' := ?_) ?_ ?_
  rotate_left
  ·show Act.put _ (some 12) _ = _
   simp only [Act.put, List.setIfInBounds_toArray, List.set_cons_zero, List.set_cons_succ, i64_w, i32_w]
   rfl
  refine one_ (i := 6) (N := some 13) (mB 9 127) rfl rfl (one_of HT_.out (by kernel_rfl)) (by decide) (fun K hK => ?_)
  refine goes_ Tryz.func158 (by kernel_rfl) rfl #[] (by rfl) rfl rfl mA ?_
  with_reducible refine (spec_l07Full.calls  t306 t307 t308 t309 _ A6.out).mono ?_
  rintro e w16 ⟨rfl, hb⟩
  refine ⟨_, rfl, ?_⟩
  replace BK295 := kB_ gb295 hb
  replace BK296 := kB_ gb296 hb
  replace HB := hB hb
  (try clear hb)
  (try clear hb2)
  (try clear hk)
  (try clear hi)
  refine hK.out _ _ (cy6 BK295) (fun hHeld => ?_)
  clear hK K
  refine norm_ (a' := ?_) ?_ ?_
  rotate_left
  ·show Act.put _ (some 13) _ = _
   simp only [Act.put, List.setIfInBounds_toArray, List.set_cons_zero, List.set_cons_succ, i64_w, i32_w]
   rfl
  refine one_ (i := 7) (N := some 14) (mB 9 255) rfl rfl (one_of HT_.out (by kernel_rfl)) (by decide) (fun K hK => ?_)
  refine goes_ Tryz.func140 (by kernel_rfl) rfl #[.agg #[.int .i64 t302, .int .i64 t303, .int .i64 t304, .int .i64 t305], .agg #[.int .i64 t306, .int .i64 t307, .int .i64 t308, .int .i64 t309]] (by rfl) rfl rfl mA ?_
  with_reducible refine (spec_MeetBox.calls t302 t303 t304 t305 t306 t307 t308 t309 t310 t311 t312 t313 _ A7.out).mono ?_
  rintro e w17 ⟨rfl, hb⟩
  refine ⟨_, rfl, ?_⟩
  replace BK295 := kB_ gb295 hb
  replace BK296 := kB_ gb296 hb
  replace HB := hB hb
  (try clear hb)
  (try clear hb2)
  (try clear hk)
  (try clear hi)
  refine hK.out _ _ (cy6 BK295) (fun hHeld => ?_)
  clear hK K
  refine norm_ (a' := ?_) ?_ ?_
  rotate_left
  ·show Act.put _ (some 14) _ = _
   simp only [Act.put, List.setIfInBounds_toArray, List.set_cons_zero, List.set_cons_succ, i64_w, i32_w]
   rfl
  refine one_ (i := 8) (N := none) (mB 9 511) rfl rfl (one_of HT_.out (by kernel_rfl)) (by decide) (fun K hK => ?_)
  have hs18 := cg0 BK296
  have hfs18 := blk_frozen BK296.out 0
  have hns18_0 := NB295_296.out
  have hms18_0 := NB296_295.out
  have hs19 := cg1 BK296
  have hfs19 := blk_frozen BK296.out 1
  have hns19_0 := NB295_296.out
  have hms19_0 := NB296_295.out
  have hs20 := cg2 BK296
  have hfs20 := blk_frozen BK296.out 2
  have hns20_0 := NB295_296.out
  have hms20_0 := NB296_295.out
  have hs21 := cg3 BK296
  have hfs21 := blk_frozen BK296.out 3
  have hns21_0 := NB295_296.out
  have hms21_0 := NB296_295.out
  refine skip_ (w1 := ?_) (by rfl) rfl ?_ ?_
  rotate_left
  ·go_simp
   rfl
  refine hK.out _ _ ⟨(cF NB295_296 hHeld.1), (cF NB295_296 hHeld.2.1), (cF NB295_296 hHeld.2.2.1), (cF NB295_296 hHeld.2.2.2.1), (cF NB295_296 hHeld.2.2.2.2.1), (cF NB295_296 hHeld.2.2.2.2.2)⟩ (fun hHeld => ?_)
  clear hK K
  refine done_ (done_of HT_.out (by kernel_rfl)) ?_
  try go_wp2
  refine bodyPost_ret (results_cell_row rfl _ _ gb296 47 #[.int .i64 t310, .int .i64 t311, .int .i64 t312, .int .i64 t313] (0, 0) _ rfl kS Tryz.underlying47 rfl (by kernel_rfl)) rfl ?_
  exact ⟨eS, bS⟩
 ·obtain rfl := Bool.eq_false_iff.mpr c3
  rw [if_neg nF] at H
  obtain ⟨rfl, rfl, rfl, rfl⟩ := sI4 H
  go_enter Tryz.func121, Tryz.ntmps121
  go_wp2_with (first | ((with_reducible refine gD 1 ?_); refine bxE #[.slice A0_0 l0_0.length c0_0, .int .i64 a0_1, .int .i64 a0_2, .int .i64 a0_3, .int .i64 a0_4, .int .i64 a0_5] 49 ?_; intro gb295 hg w22 BK295 hb; have GW295 := gE hg; have GE295 := gE hg; replace HB := hB hb; clear hb hg) | ((with_reducible refine gD 2 ?_); refine bxE #[.int .i64 0, .int .i64 0, .int .i64 0, .int .i64 0] 47 ?_; intro gb296 hg w23 BK296 hb; have GW296 := gE hg; have GE296 := gE hg; have NB295_296 := nL_ gb295 hg; have NB296_295 := nG_ gb295 hg; replace BK295 := kB_ gb295 hb; replace HB := hB hb; clear hb hg; have hnb24 := NB295_296.out; have hnc24 := NB296_295.out; have hz25 := cz6 BK295) | ((with_reducible refine gC 58 ?_); refine cM (some 4) Tryz.func58 (spec_ObjectOk.calls k _ _ l0_0 a0_1 a0_2 a0_3 a0_4 a0_5 _ _ (cC HR0_0 HB) HC0_0.out A2.out) ?_; rintro e w26 ⟨rfl, hb⟩; refine ⟨_, rfl, ?_⟩; replace BK295 := kB_ gb295 hb; replace BK296 := kB_ gb296 hb; replace HB := hB hb; (try clear hb); have hz27 := cz4 BK296))
  refine bodyPost_ret (results_cell_row rfl _ _ gb296 47 #[.int .i64 0, .int .i64 0, .int .i64 0, .int .i64 0] (0, 0) _ rfl kS Tryz.underlying47 rfl (by kernel_rfl)) rfl ?_
  exact ⟨eS, bS⟩

/-! ### spec_CountDots: function 122 -/
def spec_CountDots.f (a0_0 : Int) (a0_1 : Int) (a0_2 : Int) (a0_3 : Int) : Option (Int) := (spec_BoxOk.f a0_0 a0_1 a0_2 a0_3).bind fun t315 => (if t315 = true then (some (wrap64 ((wrap64 (a0_2 - a0_0)) * (wrap64 (a0_3 - a0_1))))) else (some 0))
theorem spec_CountDots.calls (a0_0 : Int) (a0_1 : Int) (a0_2 : Int) (a0_3 : Int) (r : Int) (w : World) (h : spec_CountDots.f a0_0 a0_1 a0_2 a0_3 = some r) :
  Calls Tryz.prog 122 #[.agg #[.int .i64 a0_0, .int .i64 a0_1, .int .i64 a0_2, .int .i64 a0_3]] w fun e w' => e = .returned (.int .i64 r) ∧ Below w.heap.size w w' := by
 have hu47 := Tryz.underlying47
 have HB := aM (Below.refl w.heap.size w)
 have H := h
 clear h
 unfold spec_CountDots.f at H
 replace H := bN H
 obtain ⟨t315, A2, H⟩ := H
 by_cases c3 : t315 = true
 ·subst c3
  rw [if_pos rfl] at H
  obtain rfl := Option.some.inj H
  go_enter Tryz.func122, Tryz.ntmps122
  go_wp2_with (first | ((with_reducible refine gD 1 ?_); refine bxE #[.int .i64 a0_0, .int .i64 a0_1, .int .i64 a0_2, .int .i64 a0_3] 47 ?_; intro gb314 hg w4 BK314 hb; have GW314 := gE hg; have GE314 := gE hg; replace HB := hB hb; clear hb hg; have hz5 := cz4 BK314) | ((with_reducible refine gC 171 ?_); refine cM (some 4) Tryz.func171 (spec_BoxOk.calls a0_0 a0_1 a0_2 a0_3 _ _ A2.out) ?_; rintro e w6 ⟨rfl, hb⟩; refine ⟨_, rfl, ?_⟩; replace BK314 := kB_ gb314 hb; replace HB := hB hb; (try clear hb); have hz7 := cz4 BK314))
  go_ret
  exact ⟨eS, bS⟩
 ·obtain rfl := Bool.eq_false_iff.mpr c3
  rw [if_neg nF] at H
  obtain rfl := Option.some.inj H
  go_enter Tryz.func122, Tryz.ntmps122
  go_wp2_with (first | ((with_reducible refine gD 1 ?_); refine bxE #[.int .i64 a0_0, .int .i64 a0_1, .int .i64 a0_2, .int .i64 a0_3] 47 ?_; intro gb314 hg w8 BK314 hb; have GW314 := gE hg; have GE314 := gE hg; replace HB := hB hb; clear hb hg; have hz9 := cz4 BK314) | ((with_reducible refine gC 171 ?_); refine cM (some 4) Tryz.func171 (spec_BoxOk.calls a0_0 a0_1 a0_2 a0_3 _ _ A2.out) ?_; rintro e w10 ⟨rfl, hb⟩; refine ⟨_, rfl, ?_⟩; replace BK314 := kB_ gb314 hb; replace HB := hB hb; (try clear hb)))
  go_ret
  exact ⟨eS, bS⟩

/-! ### spec_SpansOk: function 184 -/
def spec_SpansOk.l0 : Nat → List (S146) → Int → Option (Bool)
 | 0, _, _ => none
 | k + 1, x0, x3 => if x3 < (x0.length : Int) then (if 0 ≤ x3 then (if ((rd_T146 x0 x3).f0) ≥ ((rd_T146 x0 x3).f1) then (some false) else (if x3 > 0 then (if 0 ≤ (wrap64 (x3 - 1)) then (if (wrap64 (x3 - 1)) < (x0.length : Int) then (if ((rd_T146 x0 (wrap64 (x3 - 1))).f1) ≥ ((rd_T146 x0 x3).f0) then (some false) else (spec_SpansOk.l0 k x0 (wrap64 (x3 + 1)))) else (none)) else (none)) else (spec_SpansOk.l0 k x0 (wrap64 (x3 + 1))))) else (none)) else (some (decide ((x0.length : Int) ≤ 8)))
def spec_SpansOk.f (k : Nat) (l0 : List (S146)) : Option (Bool) := spec_SpansOk.l0 k l0 0
theorem spec_SpansOk.calls (k : Nat) (A0 : Option Addr) (c0 : Nat) (l0 : List (S146)) (r : Bool) (w : World) (hr0 : Kd.C k146 w A0 l0.length l0) (hc0 : l0.length ≤ c0) (h : spec_SpansOk.f k l0 = some r) :
  Calls Tryz.prog 184 #[.slice A0 l0.length c0] w fun e w' => e = .returned (.bool r) ∧ Drawn0 w w' := by
 have HR0 := aM hr0
 have HC0 := aM hc0
 clear hr0 hc0
 have H := h
 clear h
 unfold spec_SpansOk.f at H
 have H' := aM H
 clear H
 go_enter Tryz.func184, Tryz.ntmps184
 go_wp2
 repeat (go_quiet (fail); try go_wp2)
 go_loopg [3] k (fun kq v3 w' => ∃ (x3_1 : Int), v3 = .int .i64 x3_1 ∧ Aside0 (spec_SpansOk.l0 kq l0 x3_1 = some r) ∧ Aside0 (kq ≤ k) ∧ Drawn0 w w')
 case atStart => exact ⟨(0), fS, H', ⟨Nat.le_refl _⟩, dS⟩
 case round =>
  clear H'
  try clear c1
  obtain ⟨x3_1, rfl, HA, HK1, ⟨m1, rfl⟩⟩ := hrel
  cases gk with
  | zero => exact absurd HA.out (by simp [spec_SpansOk.l0])
  | succ k1 =>
   have H := HA.out
   clear HA
   simp only [spec_SpansOk.l0] at H
   rcases iD H with ⟨c2b0, H⟩ | ⟨c2b0, H⟩
   ·obtain ⟨c3b0, H⟩ := iT H
    by_cases c4 : ((rd_T146 l0 x3_1).f0) ≥ ((rd_T146 l0 x3_1).f1)
    ·rw [if_pos c4] at H
     have c4b0 : decide (((rd_T146 l0 x3_1).f1) ≤ ((rd_T146 l0 x3_1).f0)) = true := decide_eq_true c4
     clear c4
     obtain rfl := Option.some.inj H
     have p316 : 0 ≤ (x3_1 : Int) := dA
     have q316 : x3_1 < (l0.length : Int) := dA
     obtain ⟨ad316, e316, hx316_0, hx316_1⟩ := at_T146 HR0.out x3_1 p316 q316
     cases e316
     replace p316 := eq_true p316
     replace q316 := eq_true q316
     have p317 : 0 ≤ (x3_1 : Int) := dA
     have q317 : x3_1 < (l0.length : Int) := dA
     obtain ⟨ad317, e317, hx317_0, hx317_1⟩ := at_T146 HR0.out x3_1 p317 q317
     obtain rfl : ad316 = ad317 := (by injection e317)
     replace p317 := eq_true p317
     replace q317 := eq_true q317
     go_wp2
     repeat (go_quiet (fail); try go_wp2)
     go_ret
     exact ⟨fS, dS⟩
    ·rw [if_neg c4] at H
     have c4b0 : decide (((rd_T146 l0 x3_1).f1) ≤ ((rd_T146 l0 x3_1).f0)) = false := decide_eq_false c4
     clear c4
     by_cases c5 : x3_1 > 0
     ·rw [if_pos c5] at H
      have c5b0 : decide (0 < x3_1) = true := decide_eq_true c5
      clear c5
      obtain ⟨ji6, hji6⟩ : ∃ j_ : Int, (wrap64 (x3_1 - 1)) = j_ := ⟨_, rfl⟩
      replace H : (if 0 ≤ (ji6) then (if (ji6) < (l0.length : Int) then (if ((rd_T146 l0 (ji6)).f1) ≥ ((rd_T146 l0 x3_1).f0) then (some false) else (spec_SpansOk.l0 k1 l0 (wrap64 (x3_1 + 1)))) else (none)) else (none)) = some r := by first | (rw [hji6] at H; exact H) | (simp only [hji6] at H ⊢; exact H)
      have hji6w : (IntKind.i64.wrap (x3_1 - 1)) = ji6 := (i64_w _).trans hji6
      obtain ⟨c7b0, H⟩ := iT H
      obtain ⟨c8b0, H⟩ := iT H
      by_cases c9 : ((rd_T146 l0 (ji6)).f1) ≥ ((rd_T146 l0 x3_1).f0)
      ·rw [if_pos c9] at H
       have c9b0 : decide (((rd_T146 l0 x3_1).f0) ≤ ((rd_T146 l0 (ji6)).f1)) = true := decide_eq_true c9
       clear c9
       obtain rfl := Option.some.inj H
       have p316 : 0 ≤ (x3_1 : Int) := dA
       have q316 : x3_1 < (l0.length : Int) := dA
       obtain ⟨ad316, e316, hx316_0, hx316_1⟩ := at_T146 HR0.out x3_1 p316 q316
       cases e316
       replace p316 := eq_true p316
       replace q316 := eq_true q316
       have p317 : 0 ≤ (x3_1 : Int) := dA
       have q317 : x3_1 < (l0.length : Int) := dA
       obtain ⟨ad317, e317, hx317_0, hx317_1⟩ := at_T146 HR0.out x3_1 p317 q317
       obtain rfl : ad316 = ad317 := (by injection e317)
       replace p317 := eq_true p317
       replace q317 := eq_true q317
       have p318 : 0 ≤ ((ji6) : Int) := dA
       have q318 : (ji6) < (l0.length : Int) := dA
       obtain ⟨ad318, e318, hx318_0, hx318_1⟩ := at_T146 HR0.out (ji6) p318 q318
       obtain rfl : ad316 = ad318 := (by injection e318)
       replace p318 := eq_true p318
       replace q318 := eq_true q318
       have p319 : 0 ≤ (x3_1 : Int) := dA
       have q319 : x3_1 < (l0.length : Int) := dA
       obtain ⟨ad319, e319, hx319_0, hx319_1⟩ := at_T146 HR0.out x3_1 p319 q319
       obtain rfl : ad316 = ad319 := (by injection e319)
       replace p319 := eq_true p319
       replace q319 := eq_true q319
       go_wp2
       repeat (go_quiet (fail); try go_wp2)
       go_ret
       exact ⟨by first | rfl | (simp; done) | (simp only [← hji6] <;> (first | rfl | simp)) | (simp [*]; done), dS⟩
      ·rw [if_neg c9] at H
       have c9b0 : decide (((rd_T146 l0 x3_1).f0) ≤ ((rd_T146 l0 (ji6)).f1)) = false := decide_eq_false c9
       clear c9
       have H' := aM H
       clear H
       have p316 : 0 ≤ (x3_1 : Int) := dA
       have q316 : x3_1 < (l0.length : Int) := dA
       obtain ⟨ad316, e316, hx316_0, hx316_1⟩ := at_T146 HR0.out x3_1 p316 q316
       cases e316
       replace p316 := eq_true p316
       replace q316 := eq_true q316
       have p317 : 0 ≤ (x3_1 : Int) := dA
       have q317 : x3_1 < (l0.length : Int) := dA
       obtain ⟨ad317, e317, hx317_0, hx317_1⟩ := at_T146 HR0.out x3_1 p317 q317
       obtain rfl : ad316 = ad317 := (by injection e317)
       replace p317 := eq_true p317
       replace q317 := eq_true q317
       have p318 : 0 ≤ ((ji6) : Int) := dA
       have q318 : (ji6) < (l0.length : Int) := dA
       obtain ⟨ad318, e318, hx318_0, hx318_1⟩ := at_T146 HR0.out (ji6) p318 q318
       obtain rfl : ad316 = ad318 := (by injection e318)
       replace p318 := eq_true p318
       replace q318 := eq_true q318
       have p319 : 0 ≤ (x3_1 : Int) := dA
       have q319 : x3_1 < (l0.length : Int) := dA
       obtain ⟨ad319, e319, hx319_0, hx319_1⟩ := at_T146 HR0.out x3_1 p319 q319
       obtain rfl : ad316 = ad319 := (by injection e319)
       replace p319 := eq_true p319
       replace q319 := eq_true q319
       go_wp2
       repeat (go_quiet (fail); try go_wp2)
       go_roundg k1
       case measure => have := HK1.out; omega
       case rel => exact ⟨(wrap64 (x3_1 + 1)), fS, H', ⟨by have := HK1.out; omega⟩, dS⟩
     ·rw [if_neg c5] at H
      have c5b0 : decide (0 < x3_1) = false := decide_eq_false c5
      clear c5
      have H' := aM H
      clear H
      have p316 : 0 ≤ (x3_1 : Int) := dA
      have q316 : x3_1 < (l0.length : Int) := dA
      obtain ⟨ad316, e316, hx316_0, hx316_1⟩ := at_T146 HR0.out x3_1 p316 q316
      cases e316
      replace p316 := eq_true p316
      replace q316 := eq_true q316
      have p317 : 0 ≤ (x3_1 : Int) := dA
      have q317 : x3_1 < (l0.length : Int) := dA
      obtain ⟨ad317, e317, hx317_0, hx317_1⟩ := at_T146 HR0.out x3_1 p317 q317
      obtain rfl : ad316 = ad317 := (by injection e317)
      replace p317 := eq_true p317
      replace q317 := eq_true q317
      go_wp2
      repeat (go_quiet (fail); try go_wp2)
      go_roundg k1
      case measure => have := HK1.out; omega
      case rel => exact ⟨(wrap64 (x3_1 + 1)), fS, H', ⟨by have := HK1.out; omega⟩, dS⟩
   ·obtain rfl := Option.some.inj H
    go_wp2
    repeat (go_quiet (fail); try go_wp2)
    go_ret
    exact ⟨fS, dS⟩

end Go.Proofs.YtncfipboidmfbaaGreat.QFnExactAddToBand
