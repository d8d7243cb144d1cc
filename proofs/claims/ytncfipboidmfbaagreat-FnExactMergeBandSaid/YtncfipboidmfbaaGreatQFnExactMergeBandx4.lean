-- Made out of the translation by a program of this session (a changed copy of the print). Not trusted: Lean checks it.
import Derived.Test.YtncfipboidmfbaaGreatQFnExactMergeBandx0
import Derived.Test.YtncfipboidmfbaaGreatQFnExactMergeBandx3
namespace Go.Proofs.YtncfipboidmfbaaGreat.QFnExactMergeBand
open Go.RowKit Go.Proofs.YtncfipboidmfbaaGreatW.PrintWords Go.Proofs.YtncfipboidmfbaaGreatW.PrintLast Go.Proofs.YtncfipboidmfbaaGreatW.PrintMore
attribute [local go_sem] max2_int min2_int max_two min_two max_three min_three max_four min_four   -- for this text's walks alone
set_option linter.unusedVariables false
set_option linter.unusedSimpArgs false
set_option maxHeartbeats 8000000
set_option maxRecDepth 100000

/-! ### spec_PointOk: function 175 -/
def spec_PointOk.f (a0_0 : Int) (a0_1 : Int) : Option (Bool) := (spec_l02In.f a0_0).bind fun t196 => (if t196 = true then ((spec_l02In.f a0_1).bind fun t197 => (some t197)) else (some false))
theorem spec_PointOk.lf0 {p : Prop} (h : p := by
 go_enter Tryz.func175, Tryz.ntmps175
 go_wp2_with (first | ((with_reducible refine gD 1 ?_); refine bxE #[.int .i64 a0_0, .int .i64 a0_1] 151 ?_; intro gb195 hg w5 BK195 hb; have GW195 := gE hg; have GE195 := gE hg; replace HB := hB hb; clear hb hg; have hz6 := cz2 BK195) | ((with_reducible refine gC 185 ?_); refine cL (some 5) Tryz.func185 #[.int .i64 a0_0] ?_; (with_reducible refine (spec_l02In.calls a0_0 _ _ A2.out).mono ?_); rintro e w' ⟨rfl, ⟨nd, rfl⟩⟩; refine ⟨_, rfl, ?_⟩) | (go_at_call 185; (with_reducible refine (spec_l02In.calls a0_1 t197 _ A4.out).mono ?_); rintro e w' ⟨rfl, ⟨nd, rfl⟩⟩))
 go_ret
 exact ⟨eS, bS⟩) : p := h
theorem spec_PointOk.calls (a0_0 : Int) (a0_1 : Int) (r : Bool) (w : World) (h : spec_PointOk.f a0_0 a0_1 = some r) :
  Calls Tryz.prog 175 #[.agg #[.int .i64 a0_0, .int .i64 a0_1]] w fun e w' => e = .returned (.bool r) ∧ Below w.heap.size w w' := by
 have hu151 := Tryz.underlying151
 have HB := Aside0.mk (Below.refl w.heap.size w)
 have H : ((spec_l02In.f a0_0).bind fun t196 => (if t196 = true then ((spec_l02In.f a0_1).bind fun t197 => (some t197)) else (some false))) = some r := h
 clear h
 replace H := bN H
 obtain ⟨t196, A2, H⟩ := H
 by_cases c3 : t196 = true
 ·subst c3
  rw [if_pos rfl] at H
  replace H := bN H
  obtain ⟨t197, A4, H⟩ := H
  obtain rfl := Option.some.inj H
  exact spec_PointOk.lf0
 ·obtain rfl := Bool.eq_false_iff.mpr c3
  rw [if_neg nF] at H
  obtain rfl := Option.some.inj H
  exact spec_PointOk.lf0

/-! ### spec_l07Points: function 170 -/
def spec_l07Points.l0 : Nat → List (S151) → Int → Option (Bool)
 | 0, _, _ => none
 | k + 1, x0, x3 => if x3 < (x0.length : Int) then (if 0 ≤ x3 then ((spec_PointOk.f ((rd_T151 x0 x3).f0) ((rd_T151 x0 x3).f1)).bind fun t199 => (if t199 = true then (spec_l07Points.l0 k x0 (wrap64 (x3 + 1))) else (some false))) else (none)) else (some (decide ((x0.length : Int) ≤ 8)))
def spec_l07Points.f (k : Nat) (l0 : List (S151)) : Option (Bool) := spec_l07Points.l0 k l0 0
theorem spec_l07Points.calls (k : Nat) (A0 : Option Addr) (c0 : Nat) (l0 : List (S151)) (r : Bool) (w : World) (hr0 : Kd.C k151 w A0 l0.length l0) (hc0 : l0.length ≤ c0) (h : spec_l07Points.f k l0 = some r) :
  Calls Tryz.prog 170 #[.slice A0 l0.length c0] w fun e w' => e = .returned (.bool r) ∧ Below w.heap.size w w' := by
 have hu151 := Tryz.underlying151
 have HR0 := Aside0.mk hr0
 have HC0 := Aside0.mk hc0
 clear hr0 hc0
 have HB := Aside0.mk (Below.refl w.heap.size w)
 have H : (spec_l07Points.l0 k l0 0) = some r := h
 clear h
 have H' := Aside0.mk H
 clear H
 go_enter Tryz.func170, Tryz.ntmps170
 go_wp2
 go_loopg [3] k (fun kq v3 w' => ∃ (x3_1 : Int), v3 = .int .i64 x3_1 ∧ Aside0 (spec_l07Points.l0 kq l0 x3_1 = some r) ∧ Aside0 (kq ≤ k) ∧ Aside0 (Below w.heap.size w w'))
 case atStart => exact ⟨(0), fS, H', ⟨Nat.le_refl _⟩, ⟨bS⟩⟩
 case round =>
  clear H'
  try clear c1
  obtain ⟨x3_1, rfl, HA, HK1, HB⟩ := hrel
  cases gk with
  | zero => exact absurd HA.out (by simp [spec_l07Points.l0])
  | succ k1 =>
   have H := HA.out
   clear HA
   simp only [spec_l07Points.l0] at H
   rcases iD H with ⟨c2b0, H⟩ | ⟨c2b0, H⟩
   ·obtain ⟨c3b0, H⟩ := iT H
    replace H := bN H
    obtain ⟨t199, A4, H⟩ := H
    by_cases c5 : t199 = true
    ·subst c5
     rw [if_pos rfl] at H
     have H' := Aside0.mk H
     clear H
     have p198 : 0 ≤ (x3_1 : Int) := dA
     have q198 : x3_1 < (l0.length : Int) := dA
     obtain ⟨ad198, e198, hx198_0, hx198_1⟩ := at_T151 HR0.out x3_1 p198 q198
     cases e198
     replace hx198_0 := cB HB hx198_0
     replace hx198_1 := cB HB hx198_1
     replace p198 := eq_true p198
     replace q198 := eq_true q198
     go_wp2_with (first | ((with_reducible refine gC 175 ?_); refine cL (some 14) Tryz.func175 #[.agg #[.int .i64 ((rd_T151 l0 x3_1).f0), .int .i64 ((rd_T151 l0 x3_1).f1)]] ?_; (with_reducible refine (spec_PointOk.calls ((rd_T151 l0 x3_1).f0) ((rd_T151 l0 x3_1).f1) _ _ A4.out).mono ?_); rintro e w6 ⟨rfl, hb⟩; refine ⟨_, rfl, ?_⟩; replace HB := hB hb; (try clear hb); (try clear hb2); (try clear hk); (try clear hi)))
     go_roundg k1
     case measure => have := HK1.out; omega
     case rel => exact ⟨(wrap64 (x3_1 + 1)), fS, H', ⟨by have := HK1.out; omega⟩, ⟨bS⟩⟩
    ·obtain rfl := Bool.eq_false_iff.mpr c5
     rw [if_neg nF] at H
     obtain rfl := Option.some.inj H
     have p198 : 0 ≤ (x3_1 : Int) := dA
     have q198 : x3_1 < (l0.length : Int) := dA
     obtain ⟨ad198, e198, hx198_0, hx198_1⟩ := at_T151 HR0.out x3_1 p198 q198
     cases e198
     replace hx198_0 := cB HB hx198_0
     replace hx198_1 := cB HB hx198_1
     replace p198 := eq_true p198
     replace q198 := eq_true q198
     go_wp2_with (first | ((with_reducible refine gC 175 ?_); refine cL (some 14) Tryz.func175 #[.agg #[.int .i64 ((rd_T151 l0 x3_1).f0), .int .i64 ((rd_T151 l0 x3_1).f1)]] ?_; (with_reducible refine (spec_PointOk.calls ((rd_T151 l0 x3_1).f0) ((rd_T151 l0 x3_1).f1) _ _ A4.out).mono ?_); rintro e w7 ⟨rfl, hb⟩; refine ⟨_, rfl, ?_⟩; replace HB := hB hb; (try clear hb); (try clear hb2); (try clear hk); (try clear hi)))
     go_ret
     exact ⟨eS, bS⟩
   ·obtain rfl := Option.some.inj H
    go_wp2
    go_ret
    exact ⟨eS, bS⟩

/-! ### spec_BoxOk: function 171 -/
def spec_BoxOk.f (a0_0 : Int) (a0_1 : Int) (a0_2 : Int) (a0_3 : Int) : Option (Bool) := (spec_l02In.f a0_0).bind fun t201 => (if t201 = true then ((spec_l02In.f a0_1).bind fun t202 => (if t202 = true then ((spec_l02In.f a0_2).bind fun t203 => (if t203 = true then ((spec_l02In.f a0_3).bind fun t204 => (if t204 = true then (if a0_0 ≤ a0_2 then (some (decide (a0_1 ≤ a0_3))) else (some false)) else (some false))) else (some false))) else (some false))) else (some false))
theorem spec_BoxOk.lf0 {p : Prop} (h : p := by
 go_enter Tryz.func171, Tryz.ntmps171
 go_wp2_with (first | ((with_reducible refine gD 1 ?_); refine bxE #[.int .i64 a0_0, .int .i64 a0_1, .int .i64 a0_2, .int .i64 a0_3] 47 ?_; intro gb200 hg w11 BK200 hb; have GW200 := gE hg; have GE200 := gE hg; replace HB := hB hb; clear hb hg; have hz12 := cz4 BK200) | ((with_reducible refine gC 185 ?_); refine cL (some 5) Tryz.func185 #[.int .i64 a0_0] ?_; (with_reducible refine (spec_l02In.calls a0_0 _ _ A2.out).mono ?_); rintro e w' ⟨rfl, ⟨nd, rfl⟩⟩; refine ⟨_, rfl, ?_⟩) | (go_at_call 185; (with_reducible refine (spec_l02In.calls a0_1 _ _ A4.out).mono ?_); rintro e w' ⟨rfl, ⟨nd, rfl⟩⟩) | (go_at_call 185; (with_reducible refine (spec_l02In.calls a0_2 _ _ A6.out).mono ?_); rintro e w' ⟨rfl, ⟨nd, rfl⟩⟩) | (go_at_call 185; (with_reducible refine (spec_l02In.calls a0_3 _ _ A8.out).mono ?_); rintro e w' ⟨rfl, ⟨nd, rfl⟩⟩))
 go_ret
 exact ⟨eS, bS⟩) : p := h
theorem spec_BoxOk.calls (a0_0 : Int) (a0_1 : Int) (a0_2 : Int) (a0_3 : Int) (r : Bool) (w : World) (h : spec_BoxOk.f a0_0 a0_1 a0_2 a0_3 = some r) :
  Calls Tryz.prog 171 #[.agg #[.int .i64 a0_0, .int .i64 a0_1, .int .i64 a0_2, .int .i64 a0_3]] w fun e w' => e = .returned (.bool r) ∧ Below w.heap.size w w' := by
 have hu47 := Tryz.underlying47
 have HB := Aside0.mk (Below.refl w.heap.size w)
 have H : ((spec_l02In.f a0_0).bind fun t201 => (if t201 = true then ((spec_l02In.f a0_1).bind fun t202 => (if t202 = true then ((spec_l02In.f a0_2).bind fun t203 => (if t203 = true then ((spec_l02In.f a0_3).bind fun t204 => (if t204 = true then (if a0_0 ≤ a0_2 then (some (decide (a0_1 ≤ a0_3))) else (some false)) else (some false))) else (some false))) else (some false))) else (some false))) = some r := h
 clear h
 replace H := bN H
 obtain ⟨t201, A2, H⟩ := H
 by_cases c3 : t201 = true
 ·subst c3
  rw [if_pos rfl] at H
  replace H := bN H
  obtain ⟨t202, A4, H⟩ := H
  by_cases c5 : t202 = true
  ·subst c5
   rw [if_pos rfl] at H
   replace H := bN H
   obtain ⟨t203, A6, H⟩ := H
   by_cases c7 : t203 = true
   ·subst c7
    rw [if_pos rfl] at H
    replace H := bN H
    obtain ⟨t204, A8, H⟩ := H
    by_cases c9 : t204 = true
    ·subst c9
     rw [if_pos rfl] at H
     rcases iD H with ⟨c10b0, H⟩ | ⟨c10b0, H⟩
     ·obtain rfl := Option.some.inj H
      exact spec_BoxOk.lf0
     ·obtain rfl := Option.some.inj H
      exact spec_BoxOk.lf0
    ·obtain rfl := Bool.eq_false_iff.mpr c9
     rw [if_neg nF] at H
     obtain rfl := Option.some.inj H
     exact spec_BoxOk.lf0
   ·obtain rfl := Bool.eq_false_iff.mpr c7
    rw [if_neg nF] at H
    obtain rfl := Option.some.inj H
    exact spec_BoxOk.lf0
  ·obtain rfl := Bool.eq_false_iff.mpr c5
   rw [if_neg nF] at H
   obtain rfl := Option.some.inj H
   exact spec_BoxOk.lf0
 ·obtain rfl := Bool.eq_false_iff.mpr c3
  rw [if_neg nF] at H
  obtain rfl := Option.some.inj H
  exact spec_BoxOk.lf0

/-! ### spec_l07Object: function 120 -/
def spec_l07Object.f (k : Nat) (l0_0 : List (S151)) (a0_1 : Int) (a0_2 : Int) (a0_3 : Int) (a0_4 : Int) (a0_5 : Int) : Option (Bool) := if (l0_0.length : Int) ≥ 3 then ((spec_l07Points.f k l0_0).bind fun t206 => (if t206 = true then ((spec_l01In.f a0_1 0 255).bind fun t207 => (if t207 = true then ((spec_BoxOk.f a0_2 a0_3 a0_4 a0_5).bind fun t208 => (some t208)) else (some false))) else (some false))) else (some false)
theorem spec_l07Object.lf0 {p : Prop} (h : p := by
 go_enter Tryz.func120, Tryz.ntmps120
 go_wp2_with (first | ((with_reducible refine gD 1 ?_); refine bxE #[.slice A0_0 l0_0.length c0_0, .int .i64 a0_1, .int .i64 a0_2, .int .i64 a0_3, .int .i64 a0_4, .int .i64 a0_5] 49 ?_; intro gb205 hg w8 BK205 hb; have GW205 := gE hg; have GE205 := gE hg; replace HB := hB hb; clear hb hg; have hz9 := cz6 BK205) | (go_at_call 170; (with_reducible refine (spec_l07Points.calls k _ _ l0_0 _ _ (cS (Kd.C_below HR0_0.out HB.out)) HC0_0.out A3.out).mono ?_); rintro e w10 ⟨rfl, hb⟩; replace BK205 := kB (g := gb205) hb; replace HB := hB hb; (try clear hb); (try clear hb2); (try clear hk); (try clear hi); have hz11 := cz6 BK205) | (go_at_call 114; (with_reducible refine (spec_l01In.calls a0_1 0 255 _ _ A5.out).mono ?_); rintro e w' ⟨rfl, ⟨nd, rfl⟩⟩) | (go_at_call 171; (with_reducible refine (spec_BoxOk.calls a0_2 a0_3 a0_4 a0_5 t208 _ A7.out).mono ?_); rintro e w12 ⟨rfl, hb⟩; replace BK205 := kB (g := gb205) hb; replace HB := hB hb; (try clear hb); (try clear hb2); (try clear hk); (try clear hi)))
 go_ret
 exact ⟨eS, bS⟩) : p := h
theorem spec_l07Object.calls (k : Nat) (A0_0 : Option Addr) (c0_0 : Nat) (l0_0 : List (S151)) (a0_1 : Int) (a0_2 : Int) (a0_3 : Int) (a0_4 : Int) (a0_5 : Int) (r : Bool) (w : World) (hr0_0 : Kd.C k151 w A0_0 l0_0.length l0_0) (hc0_0 : l0_0.length ≤ c0_0) (h : spec_l07Object.f k l0_0 a0_1 a0_2 a0_3 a0_4 a0_5 = some r) :
  Calls Tryz.prog 120 #[.agg #[.slice A0_0 l0_0.length c0_0, .int .i64 a0_1, .int .i64 a0_2, .int .i64 a0_3, .int .i64 a0_4, .int .i64 a0_5]] w fun e w' => e = .returned (.bool r) ∧ Below w.heap.size w w' := by
 have hu49 := Tryz.underlying49
 have hu47 := Tryz.underlying47
 have HR0_0 := Aside0.mk hr0_0
 have HC0_0 := Aside0.mk hc0_0
 clear hr0_0 hc0_0
 have HB := Aside0.mk (Below.refl w.heap.size w)
 have H : (if (l0_0.length : Int) ≥ 3 then ((spec_l07Points.f k l0_0).bind fun t206 => (if t206 = true then ((spec_l01In.f a0_1 0 255).bind fun t207 => (if t207 = true then ((spec_BoxOk.f a0_2 a0_3 a0_4 a0_5).bind fun t208 => (some t208)) else (some false))) else (some false))) else (some false)) = some r := h
 clear h
 by_cases c2 : (l0_0.length : Int) ≥ 3
 ·rw [if_pos c2] at H
  have c2b0 : decide (3 ≤ (l0_0.length : Int)) = true := decide_eq_true c2
  have c2b1 : decide (3 ≤ l0_0.length) = true := decide_eq_true (by omega)
  clear c2
  replace H := bN H
  obtain ⟨t206, A3, H⟩ := H
  by_cases c4 : t206 = true
  ·subst c4
   rw [if_pos rfl] at H
   replace H := bN H
   obtain ⟨t207, A5, H⟩ := H
   by_cases c6 : t207 = true
   ·subst c6
    rw [if_pos rfl] at H
    replace H := bN H
    obtain ⟨t208, A7, H⟩ := H
    obtain rfl := Option.some.inj H
    exact spec_l07Object.lf0
   ·obtain rfl := Bool.eq_false_iff.mpr c6
    rw [if_neg nF] at H
    obtain rfl := Option.some.inj H
    exact spec_l07Object.lf0
  ·obtain rfl := Bool.eq_false_iff.mpr c4
   rw [if_neg nF] at H
   obtain rfl := Option.some.inj H
   go_enter Tryz.func120, Tryz.ntmps120
   go_wp2_with (first | ((with_reducible refine gD 1 ?_); refine bxE #[.slice A0_0 l0_0.length c0_0, .int .i64 a0_1, .int .i64 a0_2, .int .i64 a0_3, .int .i64 a0_4, .int .i64 a0_5] 49 ?_; intro gb205 hg w17 BK205 hb; have GW205 := gE hg; have GE205 := gE hg; replace HB := hB hb; clear hb hg; have hz18 := cz6 BK205) | (go_at_call 170; (with_reducible refine (spec_l07Points.calls k _ _ l0_0 _ _ (cS (Kd.C_below HR0_0.out HB.out)) HC0_0.out A3.out).mono ?_); rintro e w19 ⟨rfl, hb⟩; replace BK205 := kB (g := gb205) hb; replace HB := hB hb; (try clear hb); (try clear hb2); (try clear hk); (try clear hi)))
   go_ret
   exact ⟨eS, bS⟩
 ·rw [if_neg c2] at H
  have c2b0 : decide (3 ≤ (l0_0.length : Int)) = false := decide_eq_false c2
  have c2b1 : decide (3 ≤ l0_0.length) = false := decide_eq_false (by omega)
  clear c2
  obtain rfl := Option.some.inj H
  exact spec_l07Object.lf0

/-! ### spec_ObjectOk: function 58 -/
def spec_ObjectOk.f (k : Nat) (l0_0 : List (S151)) (a0_1 : Int) (a0_2 : Int) (a0_3 : Int) (a0_4 : Int) (a0_5 : Int) : Option (Bool) := (spec_l07Object.f k l0_0 a0_1 a0_2 a0_3 a0_4 a0_5).bind fun t210 => (some t210)
theorem spec_ObjectOk.calls (k : Nat) (A0_0 : Option Addr) (c0_0 : Nat) (l0_0 : List (S151)) (a0_1 : Int) (a0_2 : Int) (a0_3 : Int) (a0_4 : Int) (a0_5 : Int) (r : Bool) (w : World) (hr0_0 : Kd.C k151 w A0_0 l0_0.length l0_0) (hc0_0 : l0_0.length ≤ c0_0) (h : spec_ObjectOk.f k l0_0 a0_1 a0_2 a0_3 a0_4 a0_5 = some r) :
  Calls Tryz.prog 58 #[.agg #[.slice A0_0 l0_0.length c0_0, .int .i64 a0_1, .int .i64 a0_2, .int .i64 a0_3, .int .i64 a0_4, .int .i64 a0_5]] w fun e w' => e = .returned (.bool r) ∧ Below w.heap.size w w' := by
 have hu49 := Tryz.underlying49
 have HR0_0 := Aside0.mk hr0_0
 have HC0_0 := Aside0.mk hc0_0
 clear hr0_0 hc0_0
 have HB := Aside0.mk (Below.refl w.heap.size w)
 have H : ((spec_l07Object.f k l0_0 a0_1 a0_2 a0_3 a0_4 a0_5).bind fun t210 => (some t210)) = some r := h
 clear h
 replace H := bN H
 obtain ⟨t210, A2, H⟩ := H
 obtain rfl := Option.some.inj H
 go_enter Tryz.func58, Tryz.ntmps58
 go_wp2_with (first | ((with_reducible refine gD 1 ?_); refine bxE #[.slice A0_0 l0_0.length c0_0, .int .i64 a0_1, .int .i64 a0_2, .int .i64 a0_3, .int .i64 a0_4, .int .i64 a0_5] 49 ?_; intro gb209 hg w3 BK209 hb; have GW209 := gE hg; have GE209 := gE hg; replace HB := hB hb; clear hb hg; have hz4 := cz6 BK209) | ((with_reducible refine gC 120 ?_); refine cL (some 4) Tryz.func120 #[.agg #[.slice A0_0 l0_0.length c0_0, .int .i64 a0_1, .int .i64 a0_2, .int .i64 a0_3, .int .i64 a0_4, .int .i64 a0_5]] ?_; (with_reducible refine (spec_l07Object.calls k _ _ l0_0 a0_1 a0_2 a0_3 a0_4 a0_5 t210 _ (cS (Kd.C_below HR0_0.out HB.out)) HC0_0.out A2.out).mono ?_); rintro e w5 ⟨rfl, hb⟩; refine ⟨_, rfl, ?_⟩; replace BK209 := kB (g := gb209) hb; replace HB := hB hb; (try clear hb); (try clear hb2); (try clear hk); (try clear hi)))
 go_ret
 exact ⟨eS, bS⟩

/-! ### spec_BandCells: function 60 -/
def spec_BandCells.l0 : Nat → Int → Int → Int → Int → List (List Int) → List (S49) → Option (Int)
 | 0, _, _, _, _, _, _ => none
 | k + 1, x3, x4, x212000, x212001, x212002, x212003 => if x4 < (x212003.length : Int) then (if 0 ≤ x4 then (spec_BandCells.l0 k (wrap64 ((wrap64 (x3 + 2)) + (((rd_T49 x212003 x4).f0).length : Int))) (wrap64 (x4 + 1)) x212000 x212001 x212002 x212003) else (none)) else (some x3)
def spec_BandCells.f (k : Nat) (a0_0 : Int) (a0_1 : Int) (l0_2 : List (List Int)) (l0_3 : List (S49)) : Option (Int) := spec_BandCells.l0 k 0 0 a0_0 a0_1 l0_2 l0_3
theorem spec_BandCells.calls (k : Nat) (a0_0 : Int) (a0_1 : Int) (A0_2 : Option Addr) (c0_2 : Nat) (l0_2 : List (List Int)) (A0_3 : Option Addr) (c0_3 : Nat) (l0_3 : List (S49)) (r : Int) (w : World) (hr0_2 : Kd.C (Kd.slice 3 (Kd.int .i64)) w A0_2 l0_2.length l0_2) (hc0_2 : l0_2.length ≤ c0_2) (hr0_3 : Kd.C k49 w A0_3 l0_3.length l0_3) (hc0_3 : l0_3.length ≤ c0_3) (h : spec_BandCells.f k a0_0 a0_1 l0_2 l0_3 = some r) :
  Calls Tryz.prog 60 #[.agg #[.int .i64 a0_0, .int .i64 a0_1, .slice A0_2 l0_2.length c0_2, .slice A0_3 l0_3.length c0_3]] w fun e w' => e = .returned (.int .i64 r) ∧ Below w.heap.size w w' := by
 have hu30 := Tryz.underlying30
 have HR0_2 := Aside0.mk hr0_2
 have HC0_2 := Aside0.mk hc0_2
 clear hr0_2 hc0_2
 have HR0_3 := Aside0.mk hr0_3
 have HC0_3 := Aside0.mk hc0_3
 clear hr0_3 hc0_3
 have HB := Aside0.mk (Below.refl w.heap.size w)
 have H : (spec_BandCells.l0 k 0 0 a0_0 a0_1 l0_2 l0_3) = some r := h
 clear h
 have H' := Aside0.mk H
 clear H
 go_enter Tryz.func60, Tryz.ntmps60
 go_wp2_with (first | ((with_reducible refine gD 1 ?_); refine bxE #[.int .i64 a0_0, .int .i64 a0_1, .slice A0_2 l0_2.length c0_2, .slice A0_3 l0_3.length c0_3] 30 ?_; intro gb211 hg w2 BK211 hb; have GW211 := gE hg; have GE211 := gE hg; replace HB := hB hb; clear hb hg))
 go_loopg [3, 4] k (fun kq v3 v4 w' => ∃ (x3_1 : Int) (x4_1 : Int), v3 = .int .i64 x3_1 ∧ v4 = .int .i64 x4_1 ∧ Aside0 (spec_BandCells.l0 kq x3_1 x4_1 a0_0 a0_1 l0_2 l0_3 = some r) ∧ Aside0 (kq ≤ k) ∧ Aside0 (w'.heap[gb211]? = some (.cells #[.int .i64 a0_0, .int .i64 a0_1, (.slice A0_2 l0_2.length c0_2), (.slice A0_3 l0_3.length c0_3)] 30 (0, 0))) ∧ Aside0 (Below w.heap.size w w'))
 case atStart => exact ⟨(0), (0), fS, fS, H', ⟨Nat.le_refl _⟩, ⟨kS⟩, ⟨bS⟩⟩
 case round =>
  clear H'
  try clear p2
  obtain ⟨x3_1, x4_1, rfl, rfl, HA, HK1, BK211, HB⟩ := hrel
  cases gk with
  | zero => exact absurd HA.out (by simp [spec_BandCells.l0])
  | succ k1 =>
   have H := HA.out
   clear HA
   simp only [spec_BandCells.l0] at H
   rcases iD H with ⟨c3b0, H⟩ | ⟨c3b0, H⟩
   ·obtain ⟨c4b0, H⟩ := iT H
    have H' := Aside0.mk H
    clear H
    have hz5 := cz4 BK211
    have p212 : 0 ≤ (x4_1 : Int) := dA
    have q212 : x4_1 < (l0_3.length : Int) := dA
    obtain ⟨ad212, A212_0, c212_0, e212, hx212_0, hx212_1, hx212_2, hx212_3, hx212_4, hx212_5, hl212_0, hi212_0⟩ := at_T49 HR0_3.out x4_1 p212 q212
    cases e212
    replace hx212_0 := cB HB hx212_0
    replace hx212_1 := cB HB hx212_1
    replace hx212_2 := cB HB hx212_2
    replace hx212_3 := cB HB hx212_3
    replace hx212_4 := cB HB hx212_4
    replace hx212_5 := cB HB hx212_5
    have HR212_0 := Aside0.mk hi212_0
    have HC212_0 := Aside0.mk hl212_0
    clear hi212_0 hl212_0
    replace p212 := eq_true p212
    replace q212 := eq_true q212
    go_wp2
    go_roundg k1
    case measure => have := HK1.out; omega
    case rel => exact ⟨(wrap64 ((wrap64 (x3_1 + 2)) + (((rd_T49 l0_3 x4_1).f0).length : Int))), (wrap64 (x4_1 + 1)), fS, fS, H', ⟨by have := HK1.out; omega⟩, ⟨kS⟩, ⟨bS⟩⟩
   ·obtain rfl := Option.some.inj H
    have hz6 := cz4 BK211
    go_wp2
    go_ret
    exact ⟨eS, bS⟩

/-! ### spec_IsHeight: function 182 -/
def spec_IsHeight.f (a0 : Int) : Option (Bool) := if a0 = 1 then (some true) else (if a0 = 2 then (some true) else (if a0 = 4 then (some true) else (if a0 = 8 then (some true) else (if a0 = 16 then (some true) else (some (a0 == 32))))))
theorem spec_IsHeight.calls (a0 : Int) (r : Bool) (w : World) (h : spec_IsHeight.f a0 = some r) :
  Calls Tryz.prog 182 #[.int .i64 a0] w fun e w' => e = .returned (.bool r) ∧ Drawn0 w w' := by
 have H : (if a0 = 1 then (some true) else (if a0 = 2 then (some true) else (if a0 = 4 then (some true) else (if a0 = 8 then (some true) else (if a0 = 16 then (some true) else (some (a0 == 32))))))) = some r := h
 clear h
 by_cases c2 : a0 = 1
 ·rw [if_pos c2] at H
  have c2b0 : (a0 == 1) = true := beq_iff_eq.mpr c2
  have c2b1 : (a0 != 1) = false := bne_eq_false_iff_eq.mpr c2
  clear c2
  obtain rfl := Option.some.inj H
  go_enter Tryz.func182, Tryz.ntmps182
  go_wp2
  go_ret
  exact ⟨fS, dS⟩
 ·rw [if_neg c2] at H
  have c2b0 : (a0 == 1) = false := beq_eq_false_iff_ne.mpr c2
  have c2b1 : (a0 != 1) = true := bne_iff_ne.mpr c2
  by_cases c3 : a0 = 2
  ·rw [if_pos c3] at H
   have c3b0 : (a0 == 2) = true := beq_iff_eq.mpr c3
   have c3b1 : (a0 != 2) = false := bne_eq_false_iff_eq.mpr c3
   clear c3
   obtain rfl := Option.some.inj H
   go_enter Tryz.func182, Tryz.ntmps182
   go_wp2
   go_ret
   exact ⟨fS, dS⟩
  ·rw [if_neg c3] at H
   have c3b0 : (a0 == 2) = false := beq_eq_false_iff_ne.mpr c3
   have c3b1 : (a0 != 2) = true := bne_iff_ne.mpr c3
   by_cases c4 : a0 = 4
   ·rw [if_pos c4] at H
    have c4b0 : (a0 == 4) = true := beq_iff_eq.mpr c4
    have c4b1 : (a0 != 4) = false := bne_eq_false_iff_eq.mpr c4
    clear c4
    obtain rfl := Option.some.inj H
    go_enter Tryz.func182, Tryz.ntmps182
    go_wp2
    go_ret
    exact ⟨fS, dS⟩
   ·rw [if_neg c4] at H
    have c4b0 : (a0 == 4) = false := beq_eq_false_iff_ne.mpr c4
    have c4b1 : (a0 != 4) = true := bne_iff_ne.mpr c4
    by_cases c5 : a0 = 8
    ·rw [if_pos c5] at H
     have c5b0 : (a0 == 8) = true := beq_iff_eq.mpr c5
     have c5b1 : (a0 != 8) = false := bne_eq_false_iff_eq.mpr c5
     clear c5
     obtain rfl := Option.some.inj H
     go_enter Tryz.func182, Tryz.ntmps182
     go_wp2
     go_ret
     exact ⟨fS, dS⟩
    ·rw [if_neg c5] at H
     have c5b0 : (a0 == 8) = false := beq_eq_false_iff_ne.mpr c5
     have c5b1 : (a0 != 8) = true := bne_iff_ne.mpr c5
     by_cases c6 : a0 = 16
     ·rw [if_pos c6] at H
      have c6b0 : (a0 == 16) = true := beq_iff_eq.mpr c6
      have c6b1 : (a0 != 16) = false := bne_eq_false_iff_eq.mpr c6
      clear c6
      obtain rfl := Option.some.inj H
      go_enter Tryz.func182, Tryz.ntmps182
      go_wp2
      go_ret
      exact ⟨fS, dS⟩
     ·rw [if_neg c6] at H
      have c6b0 : (a0 == 16) = false := beq_eq_false_iff_ne.mpr c6
      have c6b1 : (a0 != 16) = true := bne_iff_ne.mpr c6
      obtain rfl := Option.some.inj H
      go_enter Tryz.func182, Tryz.ntmps182
      go_wp2
      go_ret
      exact ⟨fS, dS⟩

/-! ### spec_CountBands: function 162 -/
def spec_CountBands.f (a0 : Int) : Option (Int) := (spec_IsHeight.f a0).bind fun t213 => (if t213 = true then (if a0 = 0 then (none) else (some (wrap64 ((32 : Int) / a0)))) else (some 0))
theorem spec_CountBands.calls (a0 : Int) (r : Int) (w : World) (h : spec_CountBands.f a0 = some r) :
  Calls Tryz.prog 162 #[.int .i64 a0] w fun e w' => e = .returned (.int .i64 r) ∧ Drawn0 w w' := by
 have H : ((spec_IsHeight.f a0).bind fun t213 => (if t213 = true then (if a0 = 0 then (none) else (some (wrap64 ((32 : Int) / a0)))) else (some 0))) = some r := h
 clear h
 replace H := bN H
 obtain ⟨t213, A2, H⟩ := H
 by_cases c3 : t213 = true
 ·subst c3
  rw [if_pos rfl] at H
  by_cases c4 : a0 = 0
  ·rw [if_pos c4] at H
   exact absurd H (by simp)
  ·rw [if_neg c4] at H
   have c4b0 : (a0 == 0) = false := beq_eq_false_iff_ne.mpr c4
   have c4b1 : (a0 != 0) = true := bne_iff_ne.mpr c4
   obtain rfl := Option.some.inj H
   go_enter Tryz.func162, Tryz.ntmps162
   go_wp2_with (first | ((with_reducible refine gC 182 ?_); refine cL (some 4) Tryz.func182 #[.int .i64 a0] ?_; (with_reducible refine (spec_IsHeight.calls a0 _ _ A2.out).mono ?_); rintro e w' ⟨rfl, ⟨nd, rfl⟩⟩; refine ⟨_, rfl, ?_⟩))
   go_ret
   exact ⟨by first | rfl | (simp; done) | (simp [*]; done) | (simp [*, Int.tdiv_eq_ediv_of_nonneg]; done), dS⟩
 ·obtain rfl := Bool.eq_false_iff.mpr c3
  rw [if_neg nF] at H
  obtain rfl := Option.some.inj H
  go_enter Tryz.func162, Tryz.ntmps162
  go_wp2_with (first | ((with_reducible refine gC 182 ?_); refine cL (some 4) Tryz.func182 #[.int .i64 a0] ?_; (with_reducible refine (spec_IsHeight.calls a0 _ _ A2.out).mono ?_); rintro e w' ⟨rfl, ⟨nd, rfl⟩⟩; refine ⟨_, rfl, ?_⟩))
  go_ret
  exact ⟨by first | rfl | (simp; done) | (simp [*]; done) | (simp [*, Int.tdiv_eq_ediv_of_nonneg]; done), dS⟩

/-! ### spec_l12Ok: function 107 -/
def spec_l12Ok.f (a0 : Int) (a1 : Int) : Option (Bool) := (spec_CountBands.f a0).bind fun t214 => ((spec_l01In.f a1 0 (wrap64 (t214 - 1))).bind fun t215 => (some t215))
theorem spec_l12Ok.calls (a0 : Int) (a1 : Int) (r : Bool) (w : World) (h : spec_l12Ok.f a0 a1 = some r) :
  Calls Tryz.prog 107 #[.int .i64 a0, .int .i64 a1] w fun e w' => e = .returned (.bool r) ∧ Drawn0 w w' := by
 have H : ((spec_CountBands.f a0).bind fun t214 => ((spec_l01In.f a1 0 (wrap64 (t214 - 1))).bind fun t215 => (some t215))) = some r := h
 clear h
 replace H := bN H
 obtain ⟨t214, A3, H⟩ := H
 replace H := bN H
 obtain ⟨t215, A4, H⟩ := H
 obtain rfl := Option.some.inj H
 go_enter Tryz.func107, Tryz.ntmps107
 go_wp2_with (first | ((with_reducible refine gC 162 ?_); refine cL (some 7) Tryz.func162 #[.int .i64 a0] ?_; (with_reducible refine (spec_CountBands.calls a0 t214 _ A3.out).mono ?_); rintro e w' ⟨rfl, ⟨nd, rfl⟩⟩; refine ⟨_, rfl, ?_⟩) | ((with_reducible refine gC 114 ?_); refine cL (some 9) Tryz.func114 #[.int .i64 a1, .int .i64 0, .int .i64 (wrap64 (t214 - 1))] ?_; (with_reducible refine (spec_l01In.calls a1 0 (wrap64 (t214 - 1)) t215 _ A4.out).mono ?_); rintro e w' ⟨rfl, ⟨nd, rfl⟩⟩; refine ⟨_, rfl, ?_⟩))
 go_ret
 exact ⟨fS, dS⟩

/-! ### spec_l11Row: function 163 -/
def spec_l11Row.l0 : Nat → List Int → Int → Option (Bool)
 | 0, _, _ => none
 | k + 1, x0, x3 => if x3 < (x0.length : Int) then (if 0 ≤ x3 then ((spec_l01In.f (rd x0 x3) 0 255).bind fun t217 => (if t217 = true then (spec_l11Row.l0 k x0 (wrap64 (x3 + 1))) else (some false))) else (none)) else (some ((x0.length : Int) == 32))
def spec_l11Row.f (k : Nat) (l0 : List Int) : Option (Bool) := spec_l11Row.l0 k l0 0
theorem spec_l11Row.calls (k : Nat) (A0 : Option Addr) (c0 : Nat) (l0 : List Int) (r : Bool) (w : World) (hr0 : Kd.C (Kd.int .i64) w A0 l0.length l0) (hc0 : l0.length ≤ c0) (h : spec_l11Row.f k l0 = some r) :
  Calls Tryz.prog 163 #[.slice A0 l0.length c0] w fun e w' => e = .returned (.bool r) ∧ Drawn0 w w' := by
 have HR0 := Aside0.mk hr0
 have HC0 := Aside0.mk hc0
 clear hr0 hc0
 have H : (spec_l11Row.l0 k l0 0) = some r := h
 clear h
 have H' := Aside0.mk H
 clear H
 go_enter Tryz.func163, Tryz.ntmps163
 go_wp2
 go_loopg [3] k (fun kq v3 w' => ∃ (x3_1 : Int), v3 = .int .i64 x3_1 ∧ Aside0 (spec_l11Row.l0 kq l0 x3_1 = some r) ∧ Aside0 (kq ≤ k) ∧ Drawn0 w w')
 case atStart => exact ⟨(0), fS, H', ⟨Nat.le_refl _⟩, dS⟩
 case round =>
  clear H'
  try clear c1
  obtain ⟨x3_1, rfl, HA, HK1, ⟨m1, rfl⟩⟩ := hrel
  cases gk with
  | zero => exact absurd HA.out (by simp [spec_l11Row.l0])
  | succ k1 =>
   have H := HA.out
   clear HA
   simp only [spec_l11Row.l0] at H
   rcases iD H with ⟨c2b0, H⟩ | ⟨c2b0, H⟩
   ·obtain ⟨c3b0, H⟩ := iT H
    replace H := bN H
    obtain ⟨t217, A4, H⟩ := H
    by_cases c5 : t217 = true
    ·subst c5
     rw [if_pos rfl] at H
     have H' := Aside0.mk H
     clear H
     have p216 : 0 ≤ (x3_1 : Int) := dA
     have q216 : x3_1 < (l0.length : Int) := dA
     obtain ⟨ad216, e216, hx216_0⟩ := Kd.at_int HR0.out x3_1 p216 q216
     cases e216
     replace p216 := eq_true p216
     replace q216 := eq_true q216
     go_wp2_with (first | ((with_reducible refine gC 114 ?_); refine cL (some 14) Tryz.func114 #[.int .i64 (rd l0 x3_1), .int .i64 0, .int .i64 255] ?_; (with_reducible refine (spec_l01In.calls (rd l0 x3_1) 0 255 _ _ A4.out).mono ?_); rintro e w' ⟨rfl, ⟨nd, rfl⟩⟩; refine ⟨_, rfl, ?_⟩))
     go_roundg k1
     case measure => have := HK1.out; omega
     case rel => exact ⟨(wrap64 (x3_1 + 1)), fS, H', ⟨by have := HK1.out; omega⟩, dS⟩
    ·obtain rfl := Bool.eq_false_iff.mpr c5
     rw [if_neg nF] at H
     obtain rfl := Option.some.inj H
     have p216 : 0 ≤ (x3_1 : Int) := dA
     have q216 : x3_1 < (l0.length : Int) := dA
     obtain ⟨ad216, e216, hx216_0⟩ := Kd.at_int HR0.out x3_1 p216 q216
     cases e216
     replace p216 := eq_true p216
     replace q216 := eq_true q216
     go_wp2_with (first | ((with_reducible refine gC 114 ?_); refine cL (some 14) Tryz.func114 #[.int .i64 (rd l0 x3_1), .int .i64 0, .int .i64 255] ?_; (with_reducible refine (spec_l01In.calls (rd l0 x3_1) 0 255 _ _ A4.out).mono ?_); rintro e w' ⟨rfl, ⟨nd, rfl⟩⟩; refine ⟨_, rfl, ?_⟩))
     go_ret
     exact ⟨fS, dS⟩
   ·obtain rfl := Option.some.inj H
    go_wp2
    go_ret
    exact ⟨fS, dS⟩

/-! ### spec_RowsOk: function 108 -/
def spec_RowsOk.l0 : Nat → List (List Int) → Int → Option (Bool)
 | 0, _, _ => none
 | k + 1, x0, x3 => if x3 < (x0.length : Int) then (if 0 ≤ x3 then ((spec_l11Row.f k (rd_L1 x0 x3)).bind fun t219 => (if t219 = true then (spec_RowsOk.l0 k x0 (wrap64 (x3 + 1))) else (some false))) else (none)) else (some (decide ((x0.length : Int) ≤ 32)))
def spec_RowsOk.f (k : Nat) (l0 : List (List Int)) : Option (Bool) := spec_RowsOk.l0 k l0 0
theorem spec_RowsOk.calls (k : Nat) (A0 : Option Addr) (c0 : Nat) (l0 : List (List Int)) (r : Bool) (w : World) (hr0 : Kd.C (Kd.slice 3 (Kd.int .i64)) w A0 l0.length l0) (hc0 : l0.length ≤ c0) (h : spec_RowsOk.f k l0 = some r) :
  Calls Tryz.prog 108 #[.slice A0 l0.length c0] w fun e w' => e = .returned (.bool r) ∧ Drawn0 w w' := by
 have HR0 := Aside0.mk hr0
 have HC0 := Aside0.mk hc0
 clear hr0 hc0
 have H : (spec_RowsOk.l0 k l0 0) = some r := h
 clear h
 have H' := Aside0.mk H
 clear H
 go_enter Tryz.func108, Tryz.ntmps108
 go_wp2
 go_loopg [3] k (fun kq v3 w' => ∃ (x3_1 : Int), v3 = .int .i64 x3_1 ∧ Aside0 (spec_RowsOk.l0 kq l0 x3_1 = some r) ∧ Aside0 (kq ≤ k) ∧ Drawn0 w w')
 case atStart => exact ⟨(0), fS, H', ⟨Nat.le_refl _⟩, dS⟩
 case round =>
  clear H'
  try clear c1
  obtain ⟨x3_1, rfl, HA, HK1, ⟨m1, rfl⟩⟩ := hrel
  cases gk with
  | zero => exact absurd HA.out (by simp [spec_RowsOk.l0])
  | succ k1 =>
   have H := HA.out
   clear HA
   simp only [spec_RowsOk.l0] at H
   rcases iD H with ⟨c2b0, H⟩ | ⟨c2b0, H⟩
   ·obtain ⟨c3b0, H⟩ := iT H
    replace H := bN H
    obtain ⟨t219, A4, H⟩ := H
    by_cases c5 : t219 = true
    ·subst c5
     rw [if_pos rfl] at H
     have H' := Aside0.mk H
     clear H
     have p218 : 0 ≤ (x3_1 : Int) := dA
     have q218 : x3_1 < (l0.length : Int) := dA
     obtain ⟨ad218, A218_0, c218_0, e218, hx218_0, hl218_0, hi218_0⟩ := at_L1 HR0.out x3_1 p218 q218
     cases e218
     have HR218_0 := Aside0.mk hi218_0
     have HC218_0 := Aside0.mk hl218_0
     clear hi218_0 hl218_0
     replace p218 := eq_true p218
     replace q218 := eq_true q218
     go_wp2_with (first | ((with_reducible refine gC 163 ?_); refine cL (some 14) Tryz.func163 #[.slice A218_0 (rd_L1 l0 x3_1).length c218_0] ?_; (with_reducible refine (spec_l11Row.calls k1 _ _ (rd_L1 l0 x3_1) _ _ ?side1 ?side2 A4.out).mono ?_); (case side1 => repeat (first | exact HR218_0.out | (with_reducible refine Kd.C_alloc ?_ _) | (with_reducible refine Kd.C_drewN ?_ _) | (with_reducible refine Kd.C_drew ?_))); (case side2 => exact HC218_0.out); rintro e w' ⟨rfl, ⟨nd, rfl⟩⟩; refine ⟨_, rfl, ?_⟩))
     go_roundg k1
     case measure => have := HK1.out; omega
     case rel => exact ⟨(wrap64 (x3_1 + 1)), fS, H', ⟨by have := HK1.out; omega⟩, dS⟩
    ·obtain rfl := Bool.eq_false_iff.mpr c5
     rw [if_neg nF] at H
     obtain rfl := Option.some.inj H
     have p218 : 0 ≤ (x3_1 : Int) := dA
     have q218 : x3_1 < (l0.length : Int) := dA
     obtain ⟨ad218, A218_0, c218_0, e218, hx218_0, hl218_0, hi218_0⟩ := at_L1 HR0.out x3_1 p218 q218
     cases e218
     have HR218_0 := Aside0.mk hi218_0
     have HC218_0 := Aside0.mk hl218_0
     clear hi218_0 hl218_0
     replace p218 := eq_true p218
     replace q218 := eq_true q218
     go_wp2_with (first | ((with_reducible refine gC 163 ?_); refine cL (some 14) Tryz.func163 #[.slice A218_0 (rd_L1 l0 x3_1).length c218_0] ?_; (with_reducible refine (spec_l11Row.calls k1 _ _ (rd_L1 l0 x3_1) _ _ ?side1 ?side2 A4.out).mono ?_); (case side1 => repeat (first | exact HR218_0.out | (with_reducible refine Kd.C_alloc ?_ _) | (with_reducible refine Kd.C_drewN ?_ _) | (with_reducible refine Kd.C_drew ?_))); (case side2 => exact HC218_0.out); rintro e w' ⟨rfl, ⟨nd, rfl⟩⟩; refine ⟨_, rfl, ?_⟩))
     go_ret
     exact ⟨fS, dS⟩
   ·obtain rfl := Option.some.inj H
    go_wp2
    go_ret
    exact ⟨fS, dS⟩

end Go.Proofs.YtncfipboidmfbaaGreat.QFnExactMergeBand
