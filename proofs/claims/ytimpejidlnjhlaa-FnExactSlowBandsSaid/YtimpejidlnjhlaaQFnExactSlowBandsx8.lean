-- Made out of the translation by a program of this session (a changed copy of the print). Not trusted: Lean checks it.
import Derived.Test.YtimpejidlnjhlaaQFnExactSlowBandsx0
import Derived.Test.YtimpejidlnjhlaaQFnExactSlowBandsx1
import Derived.Test.YtimpejidlnjhlaaQFnExactSlowBandsx4
import Derived.Test.YtimpejidlnjhlaaQFnExactSlowBandsx5
import Derived.Test.YtimpejidlnjhlaaQFnExactSlowBandsx6
import Derived.Test.YtimpejidlnjhlaaQFnExactSlowBandsx7
namespace Go.Proofs.Ytimpejidlnjhlaa.QFnExactSlowBands
open Go.RowKit Go.Proofs.YtimpejidlnjhlaaW.PrintWords Go.Proofs.YtimpejidlnjhlaaW.PrintLast Go.Proofs.YtimpejidlnjhlaaW.PrintMore
attribute [local go_sem] max2_int min2_int max_two min_two max_three min_three max_four min_four   -- for this text's walks alone
set_option linter.unusedVariables false
set_option linter.unusedSimpArgs false
set_option maxHeartbeats 8000000
set_option maxRecDepth 100000

/-! ### spec_TouchesBand: function 118 -/
def spec_TouchesBand.f (k : Nat) (l0_0 : List (S166)) (a0_1 : Int) (a0_2 : Int) (a0_3 : Int) (a0_4 : Int) (a0_5 : Int) (a1 : Int) (a2 : Int) : Option (Bool) := (spec_ObjectBox.f k l0_0 a0_1 a0_2 a0_3 a0_4 a0_5).bind fun bt296 => ((spec_l12Ok.f a1 a2).bind fun t301 => (if t301 = true then ((spec_CountDots.f bt296.1 bt296.2.1 bt296.2.2.1 bt296.2.2.2).bind fun t302 => (if t302 > 0 then (if bt296.2.1 < (wrap64 ((wrap64 (a2 * a1)) + a1)) then (some (decide (bt296.2.2.2 > (wrap64 (a2 * a1))))) else (some false)) else (some false))) else (some false)))
theorem spec_TouchesBand.calls (k : Nat) (A0_0 : Option Addr) (c0_0 : Nat) (l0_0 : List (S166)) (a0_1 : Int) (a0_2 : Int) (a0_3 : Int) (a0_4 : Int) (a0_5 : Int) (a1 : Int) (a2 : Int) (r : Bool) (w : World) (hr0_0 : Kd.C k166 w A0_0 l0_0.length l0_0) (hc0_0 : l0_0.length ≤ c0_0) (h : spec_TouchesBand.f k l0_0 a0_1 a0_2 a0_3 a0_4 a0_5 a1 a2 = some r) :
    Calls Try.prog 118 #[.agg #[.slice A0_0 l0_0.length c0_0, .int .i64 a0_1, .int .i64 a0_2, .int .i64 a0_3, .int .i64 a0_4, .int .i64 a0_5], .int .i64 a1, .int .i64 a2] w fun e w' => e = .returned (.bool r) ∧ Below w.heap.size w w' := by
  have hu41 := Try.underlying41
  have hu39 := Try.underlying39
  have HR0_0 := Aside0.mk hr0_0
  have HC0_0 := Aside0.mk hc0_0
  clear hr0_0 hc0_0
  have HB := Aside0.mk (Below.refl w.heap.size w)
  have H : ((spec_ObjectBox.f k l0_0 a0_1 a0_2 a0_3 a0_4 a0_5).bind fun bt296 => ((spec_l12Ok.f a1 a2).bind fun t301 => (if t301 = true then ((spec_CountDots.f bt296.1 bt296.2.1 bt296.2.2.1 bt296.2.2.2).bind fun t302 => (if t302 > 0 then (if bt296.2.1 < (wrap64 ((wrap64 (a2 * a1)) + a1)) then (some (decide (bt296.2.2.2 > (wrap64 (a2 * a1))))) else (some false)) else (some false))) else (some false)))) = some r := h
  clear h
  replace H := bN H
  obtain ⟨⟨t296, t297, t298, t299⟩, A4, H⟩ := H
  replace H := bN H
  obtain ⟨t301, A5, H⟩ := H
  by_cases c6 : t301 = true
  · subst c6
    rw [if_pos rfl] at H
    replace H := bN H
    obtain ⟨t302, A7, H⟩ := H
    by_cases c8 : t302 > 0
    · rw [if_pos c8] at H
      have c8b0 : decide (0 < t302) = true := decide_eq_true c8
      clear c8
      by_cases c9 : t297 < (wrap64 ((wrap64 (a2 * a1)) + a1))
      · rw [if_pos c9] at H
        have c9b0 : decide (t297 < (wrap64 ((wrap64 (a2 * a1)) + a1))) = true := decide_eq_true c9
        clear c9
        obtain rfl := Option.some.inj H
        go_enter Try.func118, Try.ntmps118
        go_wp2_with (first | ((with_reducible refine gD 3 ?_); refine bxE #[.slice A0_0 l0_0.length c0_0, .int .i64 a0_1, .int .i64 a0_2, .int .i64 a0_3, .int .i64 a0_4, .int .i64 a0_5] 41 ?_; intro gb295 hg w10 BK295 hb; have GW295 := gE hg; have GE295 := gE hg; replace HB := hB hb; clear hb hg; have hz11 := cz6 BK295) | ((with_reducible refine gC 154 ?_); refine cL (some 9) Try.func154 #[.agg #[.slice A0_0 l0_0.length c0_0, .int .i64 a0_1, .int .i64 a0_2, .int .i64 a0_3, .int .i64 a0_4, .int .i64 a0_5]] ?_; (with_reducible refine (spec_ObjectBox.calls k _ _ l0_0 a0_1 a0_2 a0_3 a0_4 a0_5 t296 t297 t298 t299 _ ?side1 ?side2 A4.out).mono ?_); (case side1 => exact cS (Kd.C_below HR0_0.out HB.out)); (case side2 => exact HC0_0.out); rintro e w12 ⟨rfl, hb⟩; refine ⟨_, rfl, ?_⟩; replace BK295 := kB (g := gb295) hb; replace HB := hB hb; (try clear hb); (try clear hb2); (try clear hk); (try clear hi)) | ((with_reducible refine gD 7 ?_); refine bxE #[.int .i64 0, .int .i64 0, .int .i64 0, .int .i64 0] 39 ?_; intro gb300 hg w13 BK300 hb; have GW300 := gE hg; have GE300 := gE hg; have NB295_300 := nL (g := gb295) hg; have NB300_295 := nG (g := gb295) hg; replace BK295 := kB (g := gb295) hb; replace HB := hB hb; clear hb hg; have hnb14 := NB300_295.out; have hnc14 := NB295_300.out; have hz15 := cz4 BK300) | ((with_reducible refine gC 113 ?_); refine cL (some 12) Try.func113 #[.int .i64 a1, .int .i64 a2] ?_; (with_reducible refine (spec_l12Ok.calls a1 a2 _ _ A5.out).mono ?_); rintro e w' ⟨rfl, ⟨nd, rfl⟩⟩; refine ⟨_, rfl, ?_⟩) | (go_at_call 162; (with_reducible refine (spec_CountDots.calls t296 t297 t298 t299 t302 _ A7.out).mono ?_); rintro e w16 ⟨rfl, hb⟩; replace BK295 := kB (g := gb295) hb; replace BK300 := Aside0.mk (blk_below (g := gb300) (o := .cells #[.int .i64 t296, .int .i64 t297, .int .i64 t298, .int .i64 t299] 39 (0, 0)) kS hb); replace HB := hB hb; (try clear hb); (try clear hb2); (try clear hk); (try clear hi); have hz17 := cz4 BK300))
        go_ret
        exact ⟨eS, bS⟩
      · rw [if_neg c9] at H
        have c9b0 : decide (t297 < (wrap64 ((wrap64 (a2 * a1)) + a1))) = false := decide_eq_false c9
        clear c9
        obtain rfl := Option.some.inj H
        go_enter Try.func118, Try.ntmps118
        go_wp2_with (first | ((with_reducible refine gD 3 ?_); refine bxE #[.slice A0_0 l0_0.length c0_0, .int .i64 a0_1, .int .i64 a0_2, .int .i64 a0_3, .int .i64 a0_4, .int .i64 a0_5] 41 ?_; intro gb295 hg w18 BK295 hb; have GW295 := gE hg; have GE295 := gE hg; replace HB := hB hb; clear hb hg; have hz19 := cz6 BK295) | ((with_reducible refine gC 154 ?_); refine cL (some 9) Try.func154 #[.agg #[.slice A0_0 l0_0.length c0_0, .int .i64 a0_1, .int .i64 a0_2, .int .i64 a0_3, .int .i64 a0_4, .int .i64 a0_5]] ?_; (with_reducible refine (spec_ObjectBox.calls k _ _ l0_0 a0_1 a0_2 a0_3 a0_4 a0_5 t296 t297 t298 t299 _ ?side1 ?side2 A4.out).mono ?_); (case side1 => exact cS (Kd.C_below HR0_0.out HB.out)); (case side2 => exact HC0_0.out); rintro e w20 ⟨rfl, hb⟩; refine ⟨_, rfl, ?_⟩; replace BK295 := kB (g := gb295) hb; replace HB := hB hb; (try clear hb); (try clear hb2); (try clear hk); (try clear hi)) | ((with_reducible refine gD 7 ?_); refine bxE #[.int .i64 0, .int .i64 0, .int .i64 0, .int .i64 0] 39 ?_; intro gb300 hg w21 BK300 hb; have GW300 := gE hg; have GE300 := gE hg; have NB295_300 := nL (g := gb295) hg; have NB300_295 := nG (g := gb295) hg; replace BK295 := kB (g := gb295) hb; replace HB := hB hb; clear hb hg; have hnb22 := NB300_295.out; have hnc22 := NB295_300.out; have hz23 := cz4 BK300) | ((with_reducible refine gC 113 ?_); refine cL (some 12) Try.func113 #[.int .i64 a1, .int .i64 a2] ?_; (with_reducible refine (spec_l12Ok.calls a1 a2 _ _ A5.out).mono ?_); rintro e w' ⟨rfl, ⟨nd, rfl⟩⟩; refine ⟨_, rfl, ?_⟩) | (go_at_call 162; (with_reducible refine (spec_CountDots.calls t296 t297 t298 t299 t302 _ A7.out).mono ?_); rintro e w24 ⟨rfl, hb⟩; replace BK295 := kB (g := gb295) hb; replace BK300 := Aside0.mk (blk_below (g := gb300) (o := .cells #[.int .i64 t296, .int .i64 t297, .int .i64 t298, .int .i64 t299] 39 (0, 0)) kS hb); replace HB := hB hb; (try clear hb); (try clear hb2); (try clear hk); (try clear hi); have hz25 := cz4 BK300))
        go_ret
        exact ⟨eS, bS⟩
    · rw [if_neg c8] at H
      have c8b0 : decide (0 < t302) = false := decide_eq_false c8
      clear c8
      obtain rfl := Option.some.inj H
      go_enter Try.func118, Try.ntmps118
      go_wp2_with (first | ((with_reducible refine gD 3 ?_); refine bxE #[.slice A0_0 l0_0.length c0_0, .int .i64 a0_1, .int .i64 a0_2, .int .i64 a0_3, .int .i64 a0_4, .int .i64 a0_5] 41 ?_; intro gb295 hg w26 BK295 hb; have GW295 := gE hg; have GE295 := gE hg; replace HB := hB hb; clear hb hg; have hz27 := cz6 BK295) | ((with_reducible refine gC 154 ?_); refine cL (some 9) Try.func154 #[.agg #[.slice A0_0 l0_0.length c0_0, .int .i64 a0_1, .int .i64 a0_2, .int .i64 a0_3, .int .i64 a0_4, .int .i64 a0_5]] ?_; (with_reducible refine (spec_ObjectBox.calls k _ _ l0_0 a0_1 a0_2 a0_3 a0_4 a0_5 t296 t297 t298 t299 _ ?side1 ?side2 A4.out).mono ?_); (case side1 => exact cS (Kd.C_below HR0_0.out HB.out)); (case side2 => exact HC0_0.out); rintro e w28 ⟨rfl, hb⟩; refine ⟨_, rfl, ?_⟩; replace BK295 := kB (g := gb295) hb; replace HB := hB hb; (try clear hb); (try clear hb2); (try clear hk); (try clear hi)) | ((with_reducible refine gD 7 ?_); refine bxE #[.int .i64 0, .int .i64 0, .int .i64 0, .int .i64 0] 39 ?_; intro gb300 hg w29 BK300 hb; have GW300 := gE hg; have GE300 := gE hg; have NB295_300 := nL (g := gb295) hg; have NB300_295 := nG (g := gb295) hg; replace BK295 := kB (g := gb295) hb; replace HB := hB hb; clear hb hg; have hnb30 := NB300_295.out; have hnc30 := NB295_300.out; have hz31 := cz4 BK300) | ((with_reducible refine gC 113 ?_); refine cL (some 12) Try.func113 #[.int .i64 a1, .int .i64 a2] ?_; (with_reducible refine (spec_l12Ok.calls a1 a2 _ _ A5.out).mono ?_); rintro e w' ⟨rfl, ⟨nd, rfl⟩⟩; refine ⟨_, rfl, ?_⟩) | (go_at_call 162; (with_reducible refine (spec_CountDots.calls t296 t297 t298 t299 t302 _ A7.out).mono ?_); rintro e w32 ⟨rfl, hb⟩; replace BK295 := kB (g := gb295) hb; replace BK300 := Aside0.mk (blk_below (g := gb300) (o := .cells #[.int .i64 t296, .int .i64 t297, .int .i64 t298, .int .i64 t299] 39 (0, 0)) kS hb); replace HB := hB hb; (try clear hb); (try clear hb2); (try clear hk); (try clear hi)))
      go_ret
      exact ⟨eS, bS⟩
  · obtain rfl := Bool.eq_false_iff.mpr c6
    rw [if_neg nF] at H
    obtain rfl := Option.some.inj H
    go_enter Try.func118, Try.ntmps118
    go_wp2_with (first | ((with_reducible refine gD 3 ?_); refine bxE #[.slice A0_0 l0_0.length c0_0, .int .i64 a0_1, .int .i64 a0_2, .int .i64 a0_3, .int .i64 a0_4, .int .i64 a0_5] 41 ?_; intro gb295 hg w33 BK295 hb; have GW295 := gE hg; have GE295 := gE hg; replace HB := hB hb; clear hb hg; have hz34 := cz6 BK295) | ((with_reducible refine gC 154 ?_); refine cL (some 9) Try.func154 #[.agg #[.slice A0_0 l0_0.length c0_0, .int .i64 a0_1, .int .i64 a0_2, .int .i64 a0_3, .int .i64 a0_4, .int .i64 a0_5]] ?_; (with_reducible refine (spec_ObjectBox.calls k _ _ l0_0 a0_1 a0_2 a0_3 a0_4 a0_5 t296 t297 t298 t299 _ ?side1 ?side2 A4.out).mono ?_); (case side1 => exact cS (Kd.C_below HR0_0.out HB.out)); (case side2 => exact HC0_0.out); rintro e w35 ⟨rfl, hb⟩; refine ⟨_, rfl, ?_⟩; replace BK295 := kB (g := gb295) hb; replace HB := hB hb; (try clear hb); (try clear hb2); (try clear hk); (try clear hi)) | ((with_reducible refine gD 7 ?_); refine bxE #[.int .i64 0, .int .i64 0, .int .i64 0, .int .i64 0] 39 ?_; intro gb300 hg w36 BK300 hb; have GW300 := gE hg; have GE300 := gE hg; have NB295_300 := nL (g := gb295) hg; have NB300_295 := nG (g := gb295) hg; replace BK295 := kB (g := gb295) hb; replace HB := hB hb; clear hb hg; have hnb37 := NB300_295.out; have hnc37 := NB295_300.out; have hz38 := cz4 BK300) | ((with_reducible refine gC 113 ?_); refine cL (some 12) Try.func113 #[.int .i64 a1, .int .i64 a2] ?_; (with_reducible refine (spec_l12Ok.calls a1 a2 _ _ A5.out).mono ?_); rintro e w' ⟨rfl, ⟨nd, rfl⟩⟩; refine ⟨_, rfl, ?_⟩))
    go_ret
    exact ⟨eS, bS⟩

/-! ### spec_EstimateTime: function 103 -/
def spec_EstimateTime.f (k : Nat) (l0_0 : List (S166)) (a0_1 : Int) (a0_2 : Int) (a0_3 : Int) (a0_4 : Int) (a0_5 : Int) (a1 : Int) (a2 : Int) : Option (Int) := (spec_TouchesBand.f k l0_0 a0_1 a0_2 a0_3 a0_4 a0_5 a1 a2).bind fun t304 => (if t304 = true then ((spec_ObjectBox.f k l0_0 a0_1 a0_2 a0_3 a0_4 a0_5).bind fun bt305 => (some (wrap64 (2 + (wrap64 ((wrap64 ((mn bt305.2.2.2 (wrap64 ((wrap64 (a2 * a1)) + a1))) - (mx bt305.2.1 (wrap64 (a2 * a1))))) * (wrap64 ((wrap64 ((l0_0.length : Int) / 2)) + (wrap64 (Int.tdiv (wrap64 ((wrap64 (bt305.2.2.1 - bt305.1)) + 7)) 8)))))))))) else (some 0))
theorem spec_EstimateTime.calls (k : Nat) (A0_0 : Option Addr) (c0_0 : Nat) (l0_0 : List (S166)) (a0_1 : Int) (a0_2 : Int) (a0_3 : Int) (a0_4 : Int) (a0_5 : Int) (a1 : Int) (a2 : Int) (r : Int) (w : World) (hr0_0 : Kd.C k166 w A0_0 l0_0.length l0_0) (hc0_0 : l0_0.length ≤ c0_0) (h : spec_EstimateTime.f k l0_0 a0_1 a0_2 a0_3 a0_4 a0_5 a1 a2 = some r) :
    Calls Try.prog 103 #[.agg #[.slice A0_0 l0_0.length c0_0, .int .i64 a0_1, .int .i64 a0_2, .int .i64 a0_3, .int .i64 a0_4, .int .i64 a0_5], .int .i64 a1, .int .i64 a2] w fun e w' => e = .returned (.int .i64 r) ∧ Below w.heap.size w w' := by
  have hu41 := Try.underlying41
  have hu39 := Try.underlying39
  have HR0_0 := Aside0.mk hr0_0
  have HC0_0 := Aside0.mk hc0_0
  clear hr0_0 hc0_0
  have HB := Aside0.mk (Below.refl w.heap.size w)
  have H : ((spec_TouchesBand.f k l0_0 a0_1 a0_2 a0_3 a0_4 a0_5 a1 a2).bind fun t304 => (if t304 = true then ((spec_ObjectBox.f k l0_0 a0_1 a0_2 a0_3 a0_4 a0_5).bind fun bt305 => (some (wrap64 (2 + (wrap64 ((wrap64 ((mn bt305.2.2.2 (wrap64 ((wrap64 (a2 * a1)) + a1))) - (mx bt305.2.1 (wrap64 (a2 * a1))))) * (wrap64 ((wrap64 ((l0_0.length : Int) / 2)) + (wrap64 (Int.tdiv (wrap64 ((wrap64 (bt305.2.2.1 - bt305.1)) + 7)) 8)))))))))) else (some 0))) = some r := h
  clear h
  replace H := bN H
  obtain ⟨t304, A4, H⟩ := H
  by_cases c5 : t304 = true
  · subst c5
    rw [if_pos rfl] at H
    replace H := bN H
    obtain ⟨⟨t305, t306, t307, t308⟩, A6, H⟩ := H
    obtain ⟨ji7, hji7⟩ : ∃ j_ : Int, (mn t308 (wrap64 ((wrap64 (a2 * a1)) + a1))) = j_ := ⟨_, rfl⟩
    replace H : (some (wrap64 (2 + (wrap64 ((wrap64 ((ji7) - (mx t306 (wrap64 (a2 * a1))))) * (wrap64 ((wrap64 ((l0_0.length : Int) / 2)) + (wrap64 (Int.tdiv (wrap64 ((wrap64 (t307 - t305)) + 7)) 8))))))))) = some r := by first | (rw [hji7] at H; exact H) | (simp only [hji7] at H ⊢; exact H)
    (try rw [hji7] at A4)
    (try rw [hji7] at A6)
    have hji7_ : (if (wrap64 ((wrap64 (a2 * a1)) + a1)) < t308 then (wrap64 ((wrap64 (a2 * a1)) + a1)) else t308) = ji7 := hji7
    obtain ⟨ji8, hji8⟩ : ∃ j_ : Int, (mx t306 (wrap64 (a2 * a1))) = j_ := ⟨_, rfl⟩
    replace H : (some (wrap64 (2 + (wrap64 ((wrap64 ((ji7) - (ji8))) * (wrap64 ((wrap64 ((l0_0.length : Int) / 2)) + (wrap64 (Int.tdiv (wrap64 ((wrap64 (t307 - t305)) + 7)) 8))))))))) = some r := by first | (rw [hji8] at H; exact H) | (simp only [hji8] at H ⊢; exact H)
    (try rw [hji8] at A4)
    (try rw [hji8] at A6)
    have hji8_ : (if t306 < (wrap64 (a2 * a1)) then (wrap64 (a2 * a1)) else t306) = ji8 := hji8
    obtain rfl := Option.some.inj H
    go_enter Try.func103, Try.ntmps103
    go_wp2_with (first | ((with_reducible refine gD 3 ?_); refine bxE #[.slice A0_0 l0_0.length c0_0, .int .i64 a0_1, .int .i64 a0_2, .int .i64 a0_3, .int .i64 a0_4, .int .i64 a0_5] 41 ?_; intro gb303 hg w9 BK303 hb; have GW303 := gE hg; have GE303 := gE hg; replace HB := hB hb; clear hb hg; have hz10 := cz6 BK303) | ((with_reducible refine gC 118 ?_); refine cL (some 12) Try.func118 #[.agg #[.slice A0_0 l0_0.length c0_0, .int .i64 a0_1, .int .i64 a0_2, .int .i64 a0_3, .int .i64 a0_4, .int .i64 a0_5], .int .i64 a1, .int .i64 a2] ?_; (with_reducible refine (spec_TouchesBand.calls k _ _ l0_0 a0_1 a0_2 a0_3 a0_4 a0_5 a1 a2 _ _ ?side1 ?side2 A4.out).mono ?_); (case side1 => exact cS (Kd.C_below HR0_0.out HB.out)); (case side2 => exact HC0_0.out); rintro e w11 ⟨rfl, hb⟩; refine ⟨_, rfl, ?_⟩; replace BK303 := kB (g := gb303) hb; replace HB := hB hb; (try clear hb); (try clear hb2); (try clear hk); (try clear hi); have hz12 := cz6 BK303) | ((with_reducible refine gC 154 ?_); refine cL (some 15) Try.func154 #[.agg #[.slice A0_0 l0_0.length c0_0, .int .i64 a0_1, .int .i64 a0_2, .int .i64 a0_3, .int .i64 a0_4, .int .i64 a0_5]] ?_; (with_reducible refine (spec_ObjectBox.calls k _ _ l0_0 a0_1 a0_2 a0_3 a0_4 a0_5 t305 t306 t307 t308 _ ?side1 ?side2 A6.out).mono ?_); (case side1 => exact cS (Kd.C_below HR0_0.out HB.out)); (case side2 => exact HC0_0.out); rintro e w13 ⟨rfl, hb⟩; refine ⟨_, rfl, ?_⟩; replace BK303 := kB (g := gb303) hb; replace HB := hB hb; (try clear hb); (try clear hb2); (try clear hk); (try clear hi)) | ((with_reducible refine gD 7 ?_); refine bxE #[.int .i64 0, .int .i64 0, .int .i64 0, .int .i64 0] 39 ?_; intro gb309 hg w14 BK309 hb; have GW309 := gE hg; have GE309 := gE hg; have NB303_309 := nL (g := gb303) hg; have NB309_303 := nG (g := gb303) hg; replace BK303 := kB (g := gb303) hb; replace HB := hB hb; clear hb hg; have hnb15 := NB309_303.out; have hnc15 := NB303_309.out; have hz16 := cz4 BK309; have hz17 := cz6 BK303))
    go_ret
    exact ⟨by first | rfl | (simp [errW_none, errW_some] <;> rfl) | (simp only [← hji7, ← hji8]; first | rfl | (simp [errW_none, errW_some] <;> rfl)) | (simp [*, errW_none, errW_some] <;> rfl), bS⟩
  · obtain rfl := Bool.eq_false_iff.mpr c5
    rw [if_neg nF] at H
    obtain rfl := Option.some.inj H
    go_enter Try.func103, Try.ntmps103
    go_wp2_with (first | ((with_reducible refine gD 3 ?_); refine bxE #[.slice A0_0 l0_0.length c0_0, .int .i64 a0_1, .int .i64 a0_2, .int .i64 a0_3, .int .i64 a0_4, .int .i64 a0_5] 41 ?_; intro gb303 hg w18 BK303 hb; have GW303 := gE hg; have GE303 := gE hg; replace HB := hB hb; clear hb hg; have hz19 := cz6 BK303) | ((with_reducible refine gC 118 ?_); refine cL (some 12) Try.func118 #[.agg #[.slice A0_0 l0_0.length c0_0, .int .i64 a0_1, .int .i64 a0_2, .int .i64 a0_3, .int .i64 a0_4, .int .i64 a0_5], .int .i64 a1, .int .i64 a2] ?_; (with_reducible refine (spec_TouchesBand.calls k _ _ l0_0 a0_1 a0_2 a0_3 a0_4 a0_5 a1 a2 _ _ ?side1 ?side2 A4.out).mono ?_); (case side1 => exact cS (Kd.C_below HR0_0.out HB.out)); (case side2 => exact HC0_0.out); rintro e w20 ⟨rfl, hb⟩; refine ⟨_, rfl, ?_⟩; replace BK303 := kB (g := gb303) hb; replace HB := hB hb; (try clear hb); (try clear hb2); (try clear hk); (try clear hi)))
    go_ret
    exact ⟨eS, bS⟩

/-! ### spec_BandEstimate: function 37 -/
def spec_BandEstimate.l0 : Nat → List (S41) → Int → Int → Int → Int → Option (Int)
  | 0, _, _, _, _, _ => none
  | k + 1, x0, x1, x2, x7, x8 => if x8 < (x0.length : Int) then (if 0 ≤ x8 then ((spec_EstimateTime.f k ((rd_T41 x0 x8).f0) ((rd_T41 x0 x8).f1) ((rd_T41 x0 x8).f2.f0) ((rd_T41 x0 x8).f2.f1) ((rd_T41 x0 x8).f2.f2) ((rd_T41 x0 x8).f2.f3) x1 x2).bind fun t311 => (spec_BandEstimate.l0 k x0 x1 x2 (wrap64 (x7 + t311)) (wrap64 (x8 + 1)))) else (none)) else (some x7)
def spec_BandEstimate.f (k : Nat) (l0 : List (S41)) (a1 : Int) (a2 : Int) : Option (Int) := spec_BandEstimate.l0 k l0 a1 a2 0 0
theorem spec_BandEstimate.calls (k : Nat) (A0 : Option Addr) (c0 : Nat) (l0 : List (S41)) (a1 : Int) (a2 : Int) (r : Int) (w : World) (hr0 : Kd.C k41 w A0 l0.length l0) (hc0 : l0.length ≤ c0) (h : spec_BandEstimate.f k l0 a1 a2 = some r) :
    Calls Try.prog 37 #[.slice A0 l0.length c0, .int .i64 a1, .int .i64 a2] w fun e w' => e = .returned (.int .i64 r) ∧ Below w.heap.size w w' := by
  have hu41 := Try.underlying41
  have HR0 := Aside0.mk hr0
  have HC0 := Aside0.mk hc0
  clear hr0 hc0
  have HB := Aside0.mk (Below.refl w.heap.size w)
  have H : (spec_BandEstimate.l0 k l0 a1 a2 0 0) = some r := h
  clear h
  have H' := Aside0.mk H
  clear H
  go_enter Try.func37, Try.ntmps37
  go_wp2
  go_loopg [7, 8] k (fun kq v7 v8 w' => ∃ (x7_1 : Int) (x8_1 : Int), v7 = .int .i64 x7_1 ∧ v8 = .int .i64 x8_1 ∧ Aside0 (spec_BandEstimate.l0 kq l0 a1 a2 x7_1 x8_1 = some r) ∧ Aside0 (kq ≤ k) ∧ Aside0 (Below w.heap.size w w'))
  case atStart => exact ⟨(0), (0), (by first | rfl | (simp; done) | (simp [*]; done)), (by first | rfl | (simp; done) | (simp [*]; done)), H', ⟨Nat.le_refl _⟩, ⟨bS⟩⟩
  case round =>
    clear H'
    try clear p2
    try clear c3
    obtain ⟨x7_1, x8_1, rfl, rfl, HA, HK1, HB⟩ := hrel
    cases gk with
    | zero => exact absurd HA.out (by simp [spec_BandEstimate.l0])
    | succ k1 =>
      have H := HA.out
      clear HA
      simp only [spec_BandEstimate.l0] at H
      by_cases c4 : x8_1 < (l0.length : Int)
      · rw [if_pos c4] at H
        have c4b0 : decide (x8_1 < (l0.length : Int)) = true := decide_eq_true c4
        clear c4
        by_cases c5 : 0 ≤ x8_1
        · rw [if_pos c5] at H
          have c5b0 : decide (0 ≤ x8_1) = true := decide_eq_true c5
          clear c5
          replace H := bN H
          obtain ⟨t311, A6, H⟩ := H
          have H' := Aside0.mk H
          clear H
          have p310 : 0 ≤ (x8_1 : Int) := of_decide_eq_true (by first | (with_reducible assumption) | assumption)
          have q310 : x8_1 < (l0.length : Int) := of_decide_eq_true (by first | (with_reducible assumption) | assumption)
          obtain ⟨ad310, A310_0, c310_0, e310, hx310_0, hx310_1, hx310_2, hx310_3, hx310_4, hx310_5, hl310_0, hi310_0⟩ := at_T41 HR0.out x8_1 p310 q310
          cases e310
          replace hx310_0 := (HB.out.cell (World.block_lt_of_cell? w _ hx310_0)).trans hx310_0
          replace hx310_1 := (HB.out.cell (World.block_lt_of_cell? w _ hx310_1)).trans hx310_1
          replace hx310_2 := (HB.out.cell (World.block_lt_of_cell? w _ hx310_2)).trans hx310_2
          replace hx310_3 := (HB.out.cell (World.block_lt_of_cell? w _ hx310_3)).trans hx310_3
          replace hx310_4 := (HB.out.cell (World.block_lt_of_cell? w _ hx310_4)).trans hx310_4
          replace hx310_5 := (HB.out.cell (World.block_lt_of_cell? w _ hx310_5)).trans hx310_5
          have HR310_0 := Aside0.mk hi310_0
          have HC310_0 := Aside0.mk hl310_0
          clear hi310_0 hl310_0
          replace p310 := eq_true p310
          replace q310 := eq_true q310
          go_wp2_with (first | ((with_reducible refine gC 103 ?_); refine cL (some 22) Try.func103 #[.agg #[.slice A310_0 ((rd_T41 l0 x8_1).f0).length c310_0, .int .i64 ((rd_T41 l0 x8_1).f1), .int .i64 ((rd_T41 l0 x8_1).f2.f0), .int .i64 ((rd_T41 l0 x8_1).f2.f1), .int .i64 ((rd_T41 l0 x8_1).f2.f2), .int .i64 ((rd_T41 l0 x8_1).f2.f3)], .int .i64 a1, .int .i64 a2] ?_; (with_reducible refine (spec_EstimateTime.calls k1 _ _ ((rd_T41 l0 x8_1).f0) ((rd_T41 l0 x8_1).f1) ((rd_T41 l0 x8_1).f2.f0) ((rd_T41 l0 x8_1).f2.f1) ((rd_T41 l0 x8_1).f2.f2) ((rd_T41 l0 x8_1).f2.f3) a1 a2 t311 _ ?side1 ?side2 A6.out).mono ?_); (case side1 => exact cS (Kd.C_below HR310_0.out HB.out)); (case side2 => exact HC310_0.out); rintro e w7 ⟨rfl, hb⟩; refine ⟨_, rfl, ?_⟩; replace HB := hB hb; (try clear hb); (try clear hb2); (try clear hk); (try clear hi)))
          go_roundg k1
          case measure => have := HK1.out; omega
          case rel => exact ⟨(wrap64 (x7_1 + t311)), (wrap64 (x8_1 + 1)), (by first | rfl | (simp; done) | (simp [*]; done)), (by first | rfl | (simp; done) | (simp [*]; done)), H', ⟨by have := HK1.out; omega⟩, ⟨bS⟩⟩
        · rw [if_neg c5] at H
          exact absurd H (by simp)
      · rw [if_neg c4] at H
        have c4b0 : decide (x8_1 < (l0.length : Int)) = false := decide_eq_false c4
        clear c4
        obtain rfl := Option.some.inj H
        go_wp2
        go_ret
        exact ⟨eS, bS⟩

/-! ### spec_SlowBands: function 74 -/
def spec_SlowBands.l0 : Nat → List (S41) → Int → Int → List Int → Int → Option (List Int)
  | 0, _, _, _, _, _ => none
  | k + 1, x0, x1, x2, x7, x8 => (spec_CountBands.f x1).bind fun t315 => (if x8 < t315 then ((spec_BandEstimate.f k x0 x1 x8).bind fun t316 => (if t316 > x2 then (if x7.length < 17592186044416 then (spec_SlowBands.l0 k x0 x1 x2 (x7 ++ [x8]) (wrap64 (x8 + 1))) else (none)) else (spec_SlowBands.l0 k x0 x1 x2 x7 (wrap64 (x8 + 1))))) else (some x7))
def spec_SlowBands.f (k : Nat) (l0 : List (S41)) (a1 : Int) (a2 : Int) : Option (List Int) := spec_SlowBands.l0 k l0 a1 a2 (([] : List Int)) 0
theorem spec_SlowBands.calls (k : Nat) (A0 : Option Addr) (c0 : Nat) (l0 : List (S41)) (a1 : Int) (a2 : Int) (r : List Int) (w : World) (hr0 : Kd.C k41 w A0 l0.length l0) (hc0 : l0.length ≤ c0) (h : spec_SlowBands.f k l0 a1 a2 = some r) :
    Calls Try.prog 74 #[.slice A0 l0.length c0, .int .i64 a1, .int .i64 a2] w fun e w' => ∃ v0_ : Value, e = .returned (v0_) ∧ Kd.R (Kd.int .i64) 3 w' w.heap.size (fun _ => True) v0_ r ∧ Below w.heap.size w w' := by
  have HR0 := Aside0.mk hr0
  have HC0 := Aside0.mk hc0
  clear hr0 hc0
  have HB := Aside0.mk (Below.refl w.heap.size w)
  have H : (spec_SlowBands.l0 k l0 a1 a2 (([] : List Int)) 0) = some r := h
  clear h
  obtain ⟨y312, hy312⟩ : ∃ y_ : List Int, y_ = (([] : List Int)) := ⟨_, rfl⟩
  replace H : (spec_SlowBands.l0 k l0 a1 a2 y312 0) = some r := by first | (rw [hy312]; with_reducible exact H) | (have H2_ := (Option.bind_some _ _).symm.trans H; rw [hy312]; with_reducible exact H2_) | (have H2_ := (Option.bind_some _ _).symm.trans H; with_reducible exact H2_) | with_reducible exact H | (rw [hy312]; exact H) | exact H
  have Ny312 := Aside0.mk hy312
  clear hy312
  have H' := Aside0.mk H
  clear H
  go_enter Try.func74, Try.ntmps74
  go_wp2_with (first | ((with_reducible refine gate_dst (N := 9) rfl ?_); refine Kd.R_lit (Kd.int .i64) _ 3 ?hg (N := 9) ?hd (xs := ([] : List Int)) (inner := []) (ok := fun _ => True) (okp := fun _ => True) ?hr ?hp (fun _ hk => hk) trivial (Below.refl _ _) (Nat.le_refl _) (by simp) ?_; (case hd => rfl); (case hg => rfl); (case hr => first | (go_simp; done) | (go_simp; rfl)); (case hp => exact (Reps.none _ _)); intro v313 w4 ho5 hb hg_ hnew_; clear hg_ hnew_; (first | rw [← Ny312.out] at ho5 | (simp only [Int.reduceToNat] at ho5; rw [← Ny312.out] at ho5)); have HO314 := Aside0.mk (Kd.R_lower ho5 (below_size bS)); replace HB := hB hb; clear hb ho5))
  go_loopg [7, 8] k (fun kq v7 v8 w' => ∃ (x7_1 : List Int) (x8_1 : Int), v8 = .int .i64 x8_1 ∧ Aside0 (spec_SlowBands.l0 kq l0 a1 a2 x7_1 x8_1 = some r) ∧ Aside0 (kq ≤ k) ∧ Aside0 (Kd.R (Kd.int .i64) 3 w' w.heap.size (fun _ => True) v7 x7_1) ∧ Aside0 (Below w.heap.size w w'))
  case atStart => exact ⟨(y312), (0), (by first | rfl | (simp; done) | (simp [*]; done)), H', ⟨Nat.le_refl _⟩, ⟨by (with_reducible repeat (first | apply Kd.R_alloc | apply Kd.R_drewN | apply Kd.R_drew)); exact HO314.out⟩, ⟨bS⟩⟩
  case round =>
    clear H'
    try clear p2
    obtain ⟨x7_1, x8_1, rfl, HA, HK1, HO_7, HB⟩ := hrel
    cases gk with
    | zero => exact absurd HA.out (by simp [spec_SlowBands.l0])
    | succ k1 =>
      have H := HA.out
      clear HA
      simp only [spec_SlowBands.l0] at H
      replace H := bN H
      obtain ⟨t315, A6, H⟩ := H
      by_cases c7 : x8_1 < t315
      · rw [if_pos c7] at H
        have c7b0 : decide (x8_1 < t315) = true := decide_eq_true c7
        clear c7
        replace H := bN H
        obtain ⟨t316, A8, H⟩ := H
        by_cases c9 : t316 > a2
        · rw [if_pos c9] at H
          have c9b0 : decide (a2 < t316) = true := decide_eq_true c9
          clear c9
          by_cases c10 : x7_1.length < 17592186044416
          · rw [if_pos c10] at H
            have LMc10 := Aside0.mk c10
            clear c10
            obtain ⟨y317, hy317⟩ : ∃ y_ : List Int, y_ = (x7_1 ++ [x8_1]) := ⟨_, rfl⟩
            replace H : (spec_SlowBands.l0 k1 l0 a1 a2 y317 (wrap64 (x8_1 + 1))) = some r := by first | (rw [hy317]; with_reducible exact H) | (have H2_ := (Option.bind_some _ _).symm.trans H; rw [hy317]; with_reducible exact H2_) | (have H2_ := (Option.bind_some _ _).symm.trans H; with_reducible exact H2_) | with_reducible exact H | (rw [hy317]; exact H) | exact H
            have Ny317 := Aside0.mk hy317
            clear hy317
            have H' := Aside0.mk H
            clear H
            go_wp2_with (first | ((with_reducible refine gC 28 ?_); refine cL (some 12) Try.func28 #[.int .i64 a1] ?_; (with_reducible refine (spec_CountBands.calls a1 t315 _ A6.out).mono ?_); rintro e w' ⟨rfl, ⟨nd, rfl⟩⟩; refine ⟨_, rfl, ?_⟩) | ((with_reducible refine gC 37 ?_); refine cL (some 19) Try.func37 #[.slice A0 l0.length c0, .int .i64 a1, .int .i64 x8_1] ?_; (with_reducible refine (spec_BandEstimate.calls k1 _ _ l0 a1 x8_1 t316 _ ?side1 ?side2 A8.out).mono ?_); (case side1 => exact cS (Kd.C_below HR0.out bS)); (case side2 => exact HC0.out); rintro e w11 ⟨rfl, hb⟩; refine ⟨_, rfl, ?_⟩; replace HO_7 := Aside0.mk (Kd.R_below (rS HO_7) hb); replace HB := hB hb; (try clear hb); (try clear hb2); (try clear hk); (try clear hi)) | ((with_reducible refine gate_builtin (b := .append) (xs := #[.tmp 22, .tmp 24]) rfl ?_); at_builtin; refine Kd.R_append (Kd.int .i64) (w0 := w) w.heap.size rfl (.tmp 22) (.tmp 24) 22 3 (.int .i64 0) 8 rfl Try.underlying22 info3 rfl (by decide) (by omega) u7 x7_1 x8_1 [.int .i64 x8_1] (fun _ => True) (fun _ => False) rfl rfl ?aP (fun _ hk => hk.elim) ?aF ?aO ?aB ?aS ?aL ?_; (case aP => exact rfl); (case aB => exact bS); (case aF => exact (fun _ _ => trivial)); (case aO => exact (rS HO_7)); (case aS => exact (below_size bS)); (case aL => have := LMc10.out; omega); intro v318 w12 ho hb hg hat; rw [← Ny317.out] at ho; have HO319 := Aside0.mk (ho); replace HB := Aside0.mk (hb); clear HO_7; clear ho hb hg hat))
            go_roundg k1
            case measure => have := HK1.out; omega
            case rel => exact ⟨(y317), (wrap64 (x8_1 + 1)), (by first | rfl | (simp; done) | (simp [*]; done)), H', ⟨by have := HK1.out; omega⟩, ⟨by (with_reducible repeat (first | apply Kd.R_alloc | apply Kd.R_drewN | apply Kd.R_drew)); exact HO319.out⟩, ⟨bS⟩⟩
          · rw [if_neg c10] at H
            exact absurd H (by simp)
        · rw [if_neg c9] at H
          have c9b0 : decide (a2 < t316) = false := decide_eq_false c9
          clear c9
          have H' := Aside0.mk H
          clear H
          go_wp2_with (first | ((with_reducible refine gC 28 ?_); refine cL (some 12) Try.func28 #[.int .i64 a1] ?_; (with_reducible refine (spec_CountBands.calls a1 t315 _ A6.out).mono ?_); rintro e w' ⟨rfl, ⟨nd, rfl⟩⟩; refine ⟨_, rfl, ?_⟩) | ((with_reducible refine gC 37 ?_); refine cL (some 19) Try.func37 #[.slice A0 l0.length c0, .int .i64 a1, .int .i64 x8_1] ?_; (with_reducible refine (spec_BandEstimate.calls k1 _ _ l0 a1 x8_1 t316 _ ?side1 ?side2 A8.out).mono ?_); (case side1 => exact cS (Kd.C_below HR0.out bS)); (case side2 => exact HC0.out); rintro e w13 ⟨rfl, hb⟩; refine ⟨_, rfl, ?_⟩; replace HO_7 := Aside0.mk (Kd.R_below (rS HO_7) hb); replace HB := hB hb; (try clear hb); (try clear hb2); (try clear hk); (try clear hi)))
          go_roundg k1
          case measure => have := HK1.out; omega
          case rel => exact ⟨(x7_1), (wrap64 (x8_1 + 1)), (by first | rfl | (simp; done) | (simp [*]; done)), H', ⟨by have := HK1.out; omega⟩, ⟨by (with_reducible repeat (first | apply Kd.R_alloc | apply Kd.R_drewN | apply Kd.R_drew)); exact HO_7.out⟩, ⟨bS⟩⟩
      · rw [if_neg c7] at H
        have c7b0 : decide (x8_1 < t315) = false := decide_eq_false c7
        clear c7
        obtain rfl := Option.some.inj H
        go_wp2_with (first | ((with_reducible refine gC 28 ?_); refine cL (some 12) Try.func28 #[.int .i64 a1] ?_; (with_reducible refine (spec_CountBands.calls a1 t315 _ A6.out).mono ?_); rintro e w' ⟨rfl, ⟨nd, rfl⟩⟩; refine ⟨_, rfl, ?_⟩))
        go_ret
        exact ⟨_, eS, by (with_reducible repeat (first | apply Kd.R_alloc | apply Kd.R_drewN | apply Kd.R_drew)); exact HO_7.out, bS⟩

/-! ### laws_FnExactSlowBands: function 13 -/
def laws_FnExactSlowBands.f (k : Nat) (l0 : List (S91)) (a1 : Int) (a2 : Int) : Option (Bool) := (laws_szObjectS.f k l0 1048576).bind fun t320 => (if t320 < 0 then (some true) else ((laws_toObjectS.f k l0).bind fun t321 => ((spec_SlowBands.f k t321 a1 a2).bind fun t324 => ((laws_toObjectS.f k l0).bind fun t327 => ((impl_SlowBands.f k t327 a1 a2).bind fun t330 => ((laws_eqIntS.f k t330 t324).bind fun t333 => (if t333 = true then ((laws_toObjectS.f k l0).bind fun t334 => ((laws_eqObjectS.f k t327 t334).bind fun t337 => (if t337 = true then ((laws_markObjectS.f k t327 1).bind fun bt338 => (if bt338.1 < 0 then (some false) else ((laws_eqIntS.f k t330 t324).bind fun t340 => (if t340 = true then ((laws_markIntS.f k t330 1).bind fun bt341 => ((laws_heldIntS.f k bt341.2 1).bind fun t343 => (if t343 < 0 then (some false) else (if t343 = bt341.1 then ((laws_toObjectS.f k l0).bind fun t344 => ((impl_SlowBands.f k t344 a1 a2).bind fun t347 => ((laws_eqIntS.f k t347 t324).bind fun t350 => (if t350 = true then ((laws_heldIntS.f k bt341.2 1).bind fun t351 => (if t351 < 0 then (some false) else (if t351 = bt341.1 then (some true) else (some false)))) else (some false))))) else (some false))))) else (some false))))) else (some false)))) else (some false))))))))
theorem laws_FnExactSlowBands.lf0 {p : Prop} (h : p := by
  go_enter Try.func13, Try.ntmps13
  go_wp2_with (first | ((with_reducible refine gC 36 ?_); refine cL (some 17) Try.func36 #[.slice A0 l0.length c0, .int .i64 1048576] ?_; (with_reducible refine (laws_szObjectS.calls k _ _ l0 1048576 t320 _ ?side1 ?side2 A4.out).mono ?_); (case side1 => repeat (first | exact HR0.out | (with_reducible refine Kd.C_alloc ?_ _) | (with_reducible refine Kd.C_drewN ?_ _) | (with_reducible refine Kd.C_drew ?_))); (case side2 => exact HC0.out); rintro e w94 ⟨rfl, hb⟩; refine ⟨_, rfl, ?_⟩; replace HB := hB hb; (try clear hb); (try clear hb2); (try clear hk); (try clear hi)) | ((with_reducible refine gC 38 ?_); refine cL (some 21) Try.func38 #[.slice A0 l0.length c0] ?_; (with_reducible refine (laws_toObjectS.calls k _ _ l0 t321 _ ?side1 ?side2 A7.out).mono ?_); (case side1 => exact cS (Kd.C_below HR0.out HB.out)); (case side2 => exact HC0.out); rintro e w95 ⟨v322, rfl, ho0, hb⟩; refine ⟨_, rfl, ?_⟩; obtain ⟨b323, HZ323, hz323⟩ := S_born ho0; have HL323 := Aside0.mk (show w.heap.size ≤ b323 from by rw [HZ323.out]; exact (below_size bS)); have HO323 := Aside0.mk (hz323); replace HB := hB hb; (try clear hb); (try clear hb2); (try clear hk); (try clear hi); (try clear ho0); obtain ⟨Ao96, co96, eo96⟩ := Kd.S_slice HO323.out; subst eo96) | ((with_reducible refine gC 74 ?_); refine cL (some 24) Try.func74 #[.slice Ao96 t321.length co96, .int .i64 a1, .int .i64 a2] ?_; (with_reducible refine (spec_SlowBands.calls k _ _ t321 a1 a2 t324 _ ?side1 ?side2 A8.out).mono ?_); (case side1 => exact cS (Kd.S_reads' HO323.out).2.2); (case side2 => exact (Kd.S_reads' HO323.out).2.1); rintro e w97 ⟨v325, rfl, ho0, hb⟩; refine ⟨_, rfl, ?_⟩; obtain ⟨b326, HZ326, hz326⟩ := R_born ho0; have HL326 := Aside0.mk (show w.heap.size ≤ b326 from by rw [HZ326.out]; exact (below_size bS)); have HO326 := Aside0.mk (hz326); replace HO323 := Aside0.mk (S_oldB (by (with_reducible repeat (first | apply Kd.S_alloc | apply Kd.S_drewN | apply Kd.S_drew)); exact HO323.out) hb HZ326.out); replace HB := hB hb; (try clear hb); (try clear hb2); (try clear hk); (try clear hi); (try clear ho0)) | ((with_reducible refine gC 38 ?_); refine cL (some 26) Try.func38 #[.slice A0 l0.length c0] ?_; (with_reducible refine (laws_toObjectS.calls k _ _ l0 t327 _ ?side1 ?side2 A9.out).mono ?_); (case side1 => exact cS (Kd.C_below HR0.out HB.out)); (case side2 => exact HC0.out); rintro e w98 ⟨v328, rfl, ho0, hb⟩; refine ⟨_, rfl, ?_⟩; obtain ⟨b329, HZ329, hz329⟩ := S_born ho0; have HL329 := Aside0.mk (show w.heap.size ≤ b329 from by rw [HZ329.out]; exact (below_size bS)); have HO329 := Aside0.mk (hz329); replace HO323 := Aside0.mk (S_oldB (by (with_reducible repeat (first | apply Kd.S_alloc | apply Kd.S_drewN | apply Kd.S_drew)); exact HO323.out) hb HZ329.out); replace HO326 := Aside0.mk (R_oldB (rS HO326) hb HZ329.out); replace HB := hB hb; (try clear hb); (try clear hb2); (try clear hk); (try clear hi); (try clear ho0); obtain ⟨Ao99, co99, eo99⟩ := Kd.S_slice HO329.out; subst eo99) | ((with_reducible refine gC 35 ?_); refine cL (some 30) Try.func35 #[.slice Ao99 t327.length co99, .int .i64 a1, .int .i64 a2] ?_; (with_reducible refine (impl_SlowBands.calls k _ _ t327 a1 a2 t330 _ ?side1 ?side2 A10.out).mono ?_); (case side1 => exact cS (Kd.S_reads' HO329.out).2.2); (case side2 => exact (Kd.S_reads' HO329.out).2.1); rintro e w100 ⟨v331, rfl, ho0, hb⟩; refine ⟨_, rfl, ?_⟩; obtain ⟨b332, HZ332, hz332⟩ := R_born ho0; have HL332 := Aside0.mk (show w.heap.size ≤ b332 from by rw [HZ332.out]; exact (below_size bS)); have HO332 := Aside0.mk (hz332); replace HO323 := Aside0.mk (S_oldB (by (with_reducible repeat (first | apply Kd.S_alloc | apply Kd.S_drewN | apply Kd.S_drew)); exact HO323.out) hb HZ332.out); replace HO326 := Aside0.mk (R_oldB (rS HO326) hb HZ332.out); replace HO329 := Aside0.mk (S_oldB (by (with_reducible repeat (first | apply Kd.S_alloc | apply Kd.S_drewN | apply Kd.S_drew)); exact HO329.out) hb HZ332.out); replace HB := hB hb; (try clear hb); (try clear hb2); (try clear hk); (try clear hi); (try clear ho0); obtain ⟨Ao101, co101, eo101⟩ := Kd.R_slice HO332.out; subst eo101; obtain ⟨Ao102, co102, eo102⟩ := Kd.R_slice HO326.out; subst eo102) | ((with_reducible refine gC 19 ?_); refine cL (some 33) Try.func19 #[.slice Ao101 t330.length co101, .slice Ao102 t324.length co102] ?_; (with_reducible refine (laws_eqIntS.calls k _ _ t330 _ _ t324 _ _ ?side1 ?side2 ?side3 ?side4 A11.out).mono ?_); (case side1 => exact cS (Kd.R_reads' HO332.out).2.2); (case side2 => exact (Kd.R_reads' HO332.out).2.1); (case side3 => exact cS (Kd.R_reads' HO326.out).2.2); (case side4 => exact (Kd.R_reads' HO326.out).2.1); rintro e w' ⟨rfl, ⟨nd, rfl⟩⟩; refine ⟨_, rfl, ?_⟩) | ((with_reducible refine gC 38 ?_); refine cL (some 37) Try.func38 #[.slice A0 l0.length c0] ?_; (with_reducible refine (laws_toObjectS.calls k _ _ l0 t334 _ ?side1 ?side2 A13.out).mono ?_); (case side1 => exact cS (Kd.C_below HR0.out bS)); (case side2 => exact HC0.out); rintro e w103 ⟨v335, rfl, ho0, hb⟩; refine ⟨_, rfl, ?_⟩; obtain ⟨b336, HZ336, hz336⟩ := S_born ho0; have HL336 := Aside0.mk (show w.heap.size ≤ b336 from by rw [HZ336.out]; exact (below_size bS)); have HO336 := Aside0.mk (hz336); replace HO323 := Aside0.mk (S_oldB (by (with_reducible repeat (first | apply Kd.S_alloc | apply Kd.S_drewN | apply Kd.S_drew)); exact HO323.out) hb HZ336.out); replace HO326 := Aside0.mk (R_oldB (rS HO326) hb HZ336.out); replace HO329 := Aside0.mk (S_oldB (by (with_reducible repeat (first | apply Kd.S_alloc | apply Kd.S_drewN | apply Kd.S_drew)); exact HO329.out) hb HZ336.out); replace HO332 := Aside0.mk (R_oldB (rS HO332) hb HZ336.out); replace HB := hB hb; (try clear hb); (try clear hb2); (try clear hk); (try clear hi); (try clear ho0); obtain ⟨Ao104, co104, eo104⟩ := Kd.S_slice HO336.out; subst eo104) | ((with_reducible refine gC 39 ?_); refine cL (some 38) Try.func39 #[.slice Ao99 t327.length co99, .slice Ao104 t334.length co104] ?_; (with_reducible refine (laws_eqObjectS.calls k _ _ t327 _ _ t334 _ _ ?side1 ?side2 ?side3 ?side4 A14.out).mono ?_); (case side1 => exact cS (Kd.S_reads' HO329.out).2.2); (case side2 => exact (Kd.S_reads' HO329.out).2.1); (case side3 => exact cS (Kd.S_reads' HO336.out).2.2); (case side4 => exact (Kd.S_reads' HO336.out).2.1); rintro e w105 ⟨rfl, hb⟩; refine ⟨_, rfl, ?_⟩; replace HO323 := Aside0.mk (Kd.S_below (by (with_reducible repeat (first | apply Kd.S_alloc | apply Kd.S_drewN | apply Kd.S_drew)); exact HO323.out) hb); replace HO326 := Aside0.mk (Kd.R_below (rS HO326) hb); replace HO329 := Aside0.mk (Kd.S_below (by (with_reducible repeat (first | apply Kd.S_alloc | apply Kd.S_drewN | apply Kd.S_drew)); exact HO329.out) hb); replace HO332 := Aside0.mk (Kd.R_below (rS HO332) hb); replace HO336 := Aside0.mk (Kd.S_below (by (with_reducible repeat (first | apply Kd.S_alloc | apply Kd.S_drewN | apply Kd.S_drew)); exact HO336.out) hb); replace HB := hB hb; (try clear hb); (try clear hb2); (try clear hk); (try clear hi)) | ((with_reducible refine gC 68 ?_); refine cL (some 42) Try.func68 #[.slice Ao99 t327.length co99, .int .i64 1] ?_; (with_reducible refine (laws_markObjectS.calls k (fun k_ => (w.heap.size ≤ k_ ∧ ∃ q_, q_ ∈ 41 :: k41.E ∧ ∃ c_, w105.heap[k_]? = some (.cells c_ q_ (0, 0))) ∧ b329 ≤ k_ ∧ k_ < b332 ∧ k_ < b336 ∧ True) (.slice Ao99 t327.length co99) t327 1 t338 t339 w _ ?side1 ?side2 A16.out).mono ?_); (case side1 => repeat (first | (with_reducible first | exact HB.out | apply below_alloc | apply pw_below_drewN | apply below_drew1) | exact HB.out)); (case side2 => (with_reducible repeat (first | apply Kd.S_alloc | apply Kd.S_drewN | apply Kd.S_drew)); exact Kd.S_lower (Kd.S_mono (Kd.S_bound HO329.out) (fun k_ h_ => ⟨⟨Nat.le_trans HL329.out h_.2.1, h_.2.2.2⟩, h_.2.1, h_.1.1.2, h_.1.2, trivial⟩)) HL329.out); rintro e w106 ⟨rfl, hy0, hb, hkp⟩; refine ⟨_, rfl, ?_⟩; replace HO323 := Aside0.mk (Kd.S_mono (ok' := fun k_ => k_ < b326 ∧ k_ < b329 ∧ k_ < b332 ∧ k_ < b336) (Kd.S_keptB ((S_not (fun k_ => (w.heap.size ≤ k_ ∧ ∃ q_, q_ ∈ 41 :: k41.E ∧ ∃ c_, w105.heap[k_]? = some (.cells c_ q_ (0, 0))) ∧ b329 ≤ k_ ∧ k_ < b332 ∧ k_ < b336 ∧ True) HO323.out (fun k_ h_ e_ => Nat.not_le.2 (h_.1.1.1.2) e_.2.1))) hkp (fun k_ hk_ hs_ => (hk_.2) hs_)) (fun k_ hk_ => ⟨hk_.1.1.1.1.1.2, hk_.1.1.1.1.2, hk_.1.1.1.2, hk_.1.1.2⟩)); replace HO326 := Aside0.mk (Kd.R_mono (ok' := fun k_ => k_ < b329 ∧ k_ < b332 ∧ k_ < b336) (Kd.R_keptB ((R_not (fun k_ => (w.heap.size ≤ k_ ∧ ∃ q_, q_ ∈ 41 :: k41.E ∧ ∃ c_, w105.heap[k_]? = some (.cells c_ q_ (0, 0))) ∧ b329 ≤ k_ ∧ k_ < b332 ∧ k_ < b336 ∧ True) HO326.out (fun k_ h_ e_ => Nat.not_le.2 (h_.1.1.1.2) e_.2.1))) hkp (fun k_ hk_ hs_ => (hk_.2) hs_)) (fun k_ hk_ => ⟨hk_.1.1.1.1.2, hk_.1.1.1.2, hk_.1.1.2⟩)); replace HO329 := Aside0.mk (Kd.S_mono (ok' := fun _ => True) hy0 (fun _ _ => trivial)); replace HO332 := Aside0.mk (Kd.R_mono (ok' := fun k_ => k_ < b336) (Kd.R_keptB ((R_not (fun k_ => (w.heap.size ≤ k_ ∧ ∃ q_, q_ ∈ 41 :: k41.E ∧ ∃ c_, w105.heap[k_]? = some (.cells c_ q_ (0, 0))) ∧ b329 ≤ k_ ∧ k_ < b332 ∧ k_ < b336 ∧ True) HO332.out (fun k_ h_ e_ => Nat.not_lt.2 h_.2.1 (e_.2.2.1)))) hkp (fun k_ hk_ hs_ => (hk_.2) hs_)) (fun k_ hk_ => hk_.1.1.2)); replace HO336 := Aside0.mk (Kd.S_mono (ok' := fun k_ => True) (Kd.S_keptB ((S_not (fun k_ => (w.heap.size ≤ k_ ∧ ∃ q_, q_ ∈ 41 :: k41.E ∧ ∃ c_, w105.heap[k_]? = some (.cells c_ q_ (0, 0))) ∧ b329 ≤ k_ ∧ k_ < b332 ∧ k_ < b336 ∧ True) HO336.out (fun k_ h_ e_ => Nat.not_lt.2 h_.2.1 (e_.2.2.2.1)))) hkp (fun k_ hk_ hs_ => (hk_.2) hs_)) (fun k_ hk_ => trivial)); replace HB := Aside0.mk (hb); (try clear hb); (try clear hkp); (try clear hy0)) | (go_at_call 19; (with_reducible refine (laws_eqIntS.calls k _ _ t330 _ _ t324 _ _ ?side1 ?side2 ?side3 ?side4 A31.out).mono ?_); (case side1 => exact cS (Kd.R_reads' HO332.out).2.2); (case side2 => exact (Kd.R_reads' HO332.out).2.1); (case side3 => exact cS (Kd.R_reads' HO326.out).2.2); (case side4 => exact (Kd.R_reads' HO326.out).2.1); rintro e w' ⟨rfl, ⟨nd, rfl⟩⟩) | ((with_reducible refine gC 22 ?_); refine cL (some 53) Try.func22 #[.slice Ao101 t330.length co101, .int .i64 1] ?_; (with_reducible refine (laws_markIntS.calls k (fun k_ => some k_ = (.slice Ao101 t330.length co101 : Value).ownBlock) (.slice Ao101 t330.length co101) t330 1 t341 t342 w _ ?side1 ?side2 A33.out).mono ?_); (case side1 => repeat (first | (with_reducible first | exact HB.out | apply below_alloc | apply pw_below_drewN | apply below_drew1) | exact HB.out)); (case side2 => exact Kd.R_lower (Kd.R_tight rfl HO332.out) HL332.out); rintro e w107 ⟨rfl, hy0, hb, hkp⟩; refine ⟨_, rfl, ?_⟩; replace HO323 := Aside0.mk (Kd.S_mono (ok' := fun k_ => k_ < b326 ∧ k_ < b329 ∧ k_ < b332 ∧ k_ < b336) (Kd.S_keptB ((S_not (fun k_ => some k_ = (.slice Ao101 t330.length co101 : Value).ownBlock) HO323.out (fun k_ h_ e_ => Nat.not_le.2 (h_.1.2.2.1) (Kd.R_base HO332.out k_ e_.symm)))) hkp (fun k_ hk_ hs_ => (hk_.2) hs_)) (fun k_ hk_ => ⟨hk_.1.1.1, hk_.1.1.2.1, hk_.1.1.2.2.1, hk_.1.1.2.2.2⟩)); replace HO326 := Aside0.mk (Kd.R_mono (ok' := fun k_ => k_ < b329 ∧ k_ < b332 ∧ k_ < b336) (Kd.R_keptB ((R_not (fun k_ => some k_ = (.slice Ao101 t330.length co101 : Value).ownBlock) HO326.out (fun k_ h_ e_ => Nat.not_le.2 (h_.1.2.1) (Kd.R_base HO332.out k_ e_.symm)))) hkp (fun k_ hk_ hs_ => (hk_.2) hs_)) (fun k_ hk_ => ⟨hk_.1.1.1, hk_.1.1.2.1, hk_.1.1.2.2⟩)); replace HO336 := Aside0.mk (Kd.S_mono (ok' := fun k_ => True) (Kd.S_keptB ((S_not (fun k_ => some k_ = (.slice Ao101 t330.length co101 : Value).ownBlock) HO336.out (fun k_ h_ e_ => Nat.not_lt.2 h_.2.1 ((HO332.out.1 k_ e_.symm))))) hkp (fun k_ hk_ hs_ => (hk_.2) hs_)) (fun k_ hk_ => trivial)); replace HO332 := Aside0.mk (Kd.R_reok rfl hy0 (fun k_ e_ => HO332.out.1 k_ e_)); replace HB := Aside0.mk (hb); clear HO329; (try clear hb); (try clear hkp); (try clear hy0)) | ((with_reducible refine gC 23 ?_); refine goesL_ (some 56) rfl rfl Try.func23 (by kernel_rfl) rfl #[.slice Ao101 t342.length co101, .int .i64 1] rfl (by (try simp only [List.map_toArray, List.map_cons, List.map_nil]); first | done | (rw [show t342.length = t330.length from (Kd.R_reads' HO332.out).1.symm] <;> rfl) | rfl | (simp only [List.length_drop, List.length_take]; rfl)) ?_; (with_reducible refine (laws_heldIntS.calls k _ _ t342 1 t343 _ ?side1 ?side2 A34.out).mono ?_); (case side1 => exact cS (Kd.R_reads' HO332.out).2.2); (case side2 => rw [show t342.length = t330.length from (Kd.R_reads' HO332.out).1.symm]; exact (Kd.R_reads' HO332.out).2.1); rintro e w' ⟨rfl, ⟨nd, rfl⟩⟩; refine ⟨_, rfl, ?_⟩) | ((with_reducible refine gC 38 ?_); refine cL (some 63) Try.func38 #[.slice A0 l0.length c0] ?_; (with_reducible refine (laws_toObjectS.calls k _ _ l0 t344 _ ?side1 ?side2 A51.out).mono ?_); (case side1 => exact cS (Kd.C_below HR0.out bS)); (case side2 => exact HC0.out); rintro e w108 ⟨v345, rfl, ho0, hb⟩; refine ⟨_, rfl, ?_⟩; obtain ⟨b346, HZ346, hz346⟩ := S_born ho0; have HL346 := Aside0.mk (show w.heap.size ≤ b346 from by rw [HZ346.out]; exact (below_size bS)); have HO346 := Aside0.mk (hz346); replace HO323 := Aside0.mk (S_oldB (by (with_reducible repeat (first | apply Kd.S_alloc | apply Kd.S_drewN | apply Kd.S_drew)); exact HO323.out) hb HZ346.out); replace HO326 := Aside0.mk (R_oldB (rS HO326) hb HZ346.out); replace HO332 := Aside0.mk (R_oldB (rS HO332) hb HZ346.out); replace HO336 := Aside0.mk (S_oldB (by (with_reducible repeat (first | apply Kd.S_alloc | apply Kd.S_drewN | apply Kd.S_drew)); exact HO336.out) hb HZ346.out); replace HB := hB hb; (try clear hb); (try clear hb2); (try clear hk); (try clear hi); (try clear ho0); obtain ⟨Ao109, co109, eo109⟩ := Kd.S_slice HO346.out; subst eo109) | ((with_reducible refine gC 35 ?_); refine cL (some 66) Try.func35 #[.slice Ao109 t344.length co109, .int .i64 a1, .int .i64 a2] ?_; (with_reducible refine (impl_SlowBands.calls k _ _ t344 a1 a2 t347 _ ?side1 ?side2 A52.out).mono ?_); (case side1 => exact cS (Kd.S_reads' HO346.out).2.2); (case side2 => exact (Kd.S_reads' HO346.out).2.1); rintro e w110 ⟨v348, rfl, ho0, hb⟩; refine ⟨_, rfl, ?_⟩; obtain ⟨b349, HZ349, hz349⟩ := R_born ho0; have HL349 := Aside0.mk (show w.heap.size ≤ b349 from by rw [HZ349.out]; exact (below_size bS)); have HO349 := Aside0.mk (hz349); replace HO323 := Aside0.mk (S_oldB (by (with_reducible repeat (first | apply Kd.S_alloc | apply Kd.S_drewN | apply Kd.S_drew)); exact HO323.out) hb HZ349.out); replace HO326 := Aside0.mk (R_oldB (rS HO326) hb HZ349.out); replace HO332 := Aside0.mk (R_oldB (rS HO332) hb HZ349.out); replace HO336 := Aside0.mk (S_oldB (by (with_reducible repeat (first | apply Kd.S_alloc | apply Kd.S_drewN | apply Kd.S_drew)); exact HO336.out) hb HZ349.out); replace HO346 := Aside0.mk (S_oldB (by (with_reducible repeat (first | apply Kd.S_alloc | apply Kd.S_drewN | apply Kd.S_drew)); exact HO346.out) hb HZ349.out); replace HB := hB hb; (try clear hb); (try clear hb2); (try clear hk); (try clear hi); (try clear ho0); obtain ⟨Ao111, co111, eo111⟩ := Kd.R_slice HO349.out; subst eo111) | ((with_reducible refine gC 19 ?_); refine cL (some 69) Try.func19 #[.slice Ao111 t347.length co111, .slice Ao102 t324.length co102] ?_; (with_reducible refine (laws_eqIntS.calls k _ _ t347 _ _ t324 _ _ ?side1 ?side2 ?side3 ?side4 A53.out).mono ?_); (case side1 => exact cS (Kd.R_reads' HO349.out).2.2); (case side2 => exact (Kd.R_reads' HO349.out).2.1); (case side3 => exact cS (Kd.R_reads' HO326.out).2.2); (case side4 => exact (Kd.R_reads' HO326.out).2.1); rintro e w' ⟨rfl, ⟨nd, rfl⟩⟩; refine ⟨_, rfl, ?_⟩) | ((with_reducible refine gC 23 ?_); refine goesL_ (some 73) rfl rfl Try.func23 (by kernel_rfl) rfl #[.slice Ao101 t342.length co101, .int .i64 1] rfl (by (try simp only [List.map_toArray, List.map_cons, List.map_nil]); first | done | (rw [show t342.length = t330.length from (Kd.R_reads' HO332.out).1.symm] <;> rfl) | rfl | (simp only [List.length_drop, List.length_take]; rfl)) ?_; (with_reducible refine (laws_heldIntS.calls k _ _ t342 1 t351 _ ?side1 ?side2 A55.out).mono ?_); (case side1 => exact cS (Kd.R_reads' HO332.out).2.2); (case side2 => rw [show t342.length = t330.length from (Kd.R_reads' HO332.out).1.symm]; exact (Kd.R_reads' HO332.out).2.1); rintro e w' ⟨rfl, ⟨nd, rfl⟩⟩; refine ⟨_, rfl, ?_⟩))
  go_ret
  exact ⟨eS, bS⟩) : p := h
theorem laws_FnExactSlowBands.calls (k : Nat) (A0 : Option Addr) (c0 : Nat) (l0 : List (S91)) (a1 : Int) (a2 : Int) (r : Bool) (w : World) (hr0 : Kd.C k91 w A0 l0.length l0) (hc0 : l0.length ≤ c0) (h : laws_FnExactSlowBands.f k l0 a1 a2 = some r) :
    Calls Try.prog 13 #[.slice A0 l0.length c0, .int .i64 a1, .int .i64 a2] w fun e w' => e = .returned (.bool r) ∧ Below w.heap.size w w' := by
  have HR0 := Aside0.mk hr0
  have HC0 := Aside0.mk hc0
  clear hr0 hc0
  have HB := Aside0.mk (Below.refl w.heap.size w)
  have H : ((laws_szObjectS.f k l0 1048576).bind fun t320 => (if t320 < 0 then (some true) else ((laws_toObjectS.f k l0).bind fun t321 => ((spec_SlowBands.f k t321 a1 a2).bind fun t324 => ((laws_toObjectS.f k l0).bind fun t327 => ((impl_SlowBands.f k t327 a1 a2).bind fun t330 => ((laws_eqIntS.f k t330 t324).bind fun t333 => (if t333 = true then ((laws_toObjectS.f k l0).bind fun t334 => ((laws_eqObjectS.f k t327 t334).bind fun t337 => (if t337 = true then ((laws_markObjectS.f k t327 1).bind fun bt338 => (if bt338.1 < 0 then (some false) else ((laws_eqIntS.f k t330 t324).bind fun t340 => (if t340 = true then ((laws_markIntS.f k t330 1).bind fun bt341 => ((laws_heldIntS.f k bt341.2 1).bind fun t343 => (if t343 < 0 then (some false) else (if t343 = bt341.1 then ((laws_toObjectS.f k l0).bind fun t344 => ((impl_SlowBands.f k t344 a1 a2).bind fun t347 => ((laws_eqIntS.f k t347 t324).bind fun t350 => (if t350 = true then ((laws_heldIntS.f k bt341.2 1).bind fun t351 => (if t351 < 0 then (some false) else (if t351 = bt341.1 then (some true) else (some false)))) else (some false))))) else (some false))))) else (some false))))) else (some false)))) else (some false))))))))) = some r := h
  clear h
  replace H := bN H
  obtain ⟨t320, A4, H⟩ := H
  by_cases c5 : t320 < 0
  · rw [if_pos c5] at H
    have c5b0 : decide (t320 < 0) = true := decide_eq_true c5
    clear c5
    obtain rfl := Option.some.inj H
    exact laws_FnExactSlowBands.lf0
  · rw [if_neg c5] at H
    have c5b0 : decide (t320 < 0) = false := decide_eq_false c5
    clear c5
    replace H := bN H
    obtain ⟨t321, A7, H⟩ := H
    replace H := bN H
    obtain ⟨t324, A8, H⟩ := H
    replace H := bN H
    obtain ⟨t327, A9, H⟩ := H
    replace H := bN H
    obtain ⟨t330, A10, H⟩ := H
    replace H := bN H
    obtain ⟨t333, A11, H⟩ := H
    by_cases c12 : t333 = true
    · subst c12
      rw [if_pos rfl] at H
      replace H := bN H
      obtain ⟨t334, A13, H⟩ := H
      replace H := bN H
      obtain ⟨t337, A14, H⟩ := H
      by_cases c15 : t337 = true
      · subst c15
        rw [if_pos rfl] at H
        replace H := bN H
        obtain ⟨⟨t338, t339⟩, A16, H⟩ := H
        by_cases c17 : t338 < 0
        · rw [if_pos c17] at H
          have c17b0 : decide (t338 < 0) = true := decide_eq_true c17
          clear c17
          obtain rfl := Option.some.inj H
          exact laws_FnExactSlowBands.lf0
        · rw [if_neg c17] at H
          have c17b0 : decide (t338 < 0) = false := decide_eq_false c17
          clear c17
          replace H := bN H
          obtain ⟨t340, A31, H⟩ := H
          by_cases c32 : t340 = true
          · subst c32
            rw [if_pos rfl] at H
            replace H := bN H
            obtain ⟨⟨t341, t342⟩, A33, H⟩ := H
            replace H := bN H
            obtain ⟨t343, A34, H⟩ := H
            by_cases c35 : t343 < 0
            · rw [if_pos c35] at H
              have c35b0 : decide (t343 < 0) = true := decide_eq_true c35
              clear c35
              obtain rfl := Option.some.inj H
              exact laws_FnExactSlowBands.lf0
            · rw [if_neg c35] at H
              have c35b0 : decide (t343 < 0) = false := decide_eq_false c35
              clear c35
              by_cases c50 : t343 = t341
              · rw [if_pos c50] at H
                have c50b0 : (t343 == t341) = true := beq_iff_eq.mpr c50
                have c50b1 : (t343 != t341) = false := bne_eq_false_iff_eq.mpr c50
                clear c50
                replace H := bN H
                obtain ⟨t344, A51, H⟩ := H
                replace H := bN H
                obtain ⟨t347, A52, H⟩ := H
                replace H := bN H
                obtain ⟨t350, A53, H⟩ := H
                by_cases c54 : t350 = true
                · subst c54
                  rw [if_pos rfl] at H
                  replace H := bN H
                  obtain ⟨t351, A55, H⟩ := H
                  by_cases c56 : t351 < 0
                  · rw [if_pos c56] at H
                    have c56b0 : decide (t351 < 0) = true := decide_eq_true c56
                    clear c56
                    obtain rfl := Option.some.inj H
                    exact laws_FnExactSlowBands.lf0
                  · rw [if_neg c56] at H
                    have c56b0 : decide (t351 < 0) = false := decide_eq_false c56
                    clear c56
                    by_cases c75 : t351 = t341
                    · rw [if_pos c75] at H
                      have c75b0 : (t351 == t341) = true := beq_iff_eq.mpr c75
                      have c75b1 : (t351 != t341) = false := bne_eq_false_iff_eq.mpr c75
                      clear c75
                      obtain rfl := Option.some.inj H
                      exact laws_FnExactSlowBands.lf0
                    · rw [if_neg c75] at H
                      have c75b0 : (t351 == t341) = false := beq_eq_false_iff_ne.mpr c75
                      have c75b1 : (t351 != t341) = true := bne_iff_ne.mpr c75
                      obtain rfl := Option.some.inj H
                      exact laws_FnExactSlowBands.lf0
                · obtain rfl := Bool.eq_false_iff.mpr c54
                  rw [if_neg nF] at H
                  obtain rfl := Option.some.inj H
                  exact laws_FnExactSlowBands.lf0
              · rw [if_neg c50] at H
                have c50b0 : (t343 == t341) = false := beq_eq_false_iff_ne.mpr c50
                have c50b1 : (t343 != t341) = true := bne_iff_ne.mpr c50
                obtain rfl := Option.some.inj H
                exact laws_FnExactSlowBands.lf0
          · obtain rfl := Bool.eq_false_iff.mpr c32
            rw [if_neg nF] at H
            obtain rfl := Option.some.inj H
            exact laws_FnExactSlowBands.lf0
      · obtain rfl := Bool.eq_false_iff.mpr c15
        rw [if_neg nF] at H
        obtain rfl := Option.some.inj H
        exact laws_FnExactSlowBands.lf0
    · obtain rfl := Bool.eq_false_iff.mpr c12
      rw [if_neg nF] at H
      obtain rfl := Option.some.inj H
      exact laws_FnExactSlowBands.lf0

end Go.Proofs.Ytimpejidlnjhlaa.QFnExactSlowBands
