-- Made out of the translation by a program of this session (a changed copy of the print). Not trusted: Lean checks it.
import Derived.Test.YtimpejidlnjhlaaQFnExactObjectsOfBandx0
import Derived.Test.YtimpejidlnjhlaaQFnExactObjectsOfBandx5
import Derived.Test.YtimpejidlnjhlaaQFnExactObjectsOfBandx6
namespace Go.Proofs.Ytimpejidlnjhlaa.QFnExactObjectsOfBand
open Go.RowKit Go.Proofs.YtimpejidlnjhlaaW.PrintWords Go.Proofs.YtimpejidlnjhlaaW.PrintLast Go.Proofs.YtimpejidlnjhlaaW.PrintMore
attribute [local go_sem] max2_int min2_int max_two min_two max_three min_three max_four min_four   -- for this text's walks alone
set_option linter.unusedVariables false
set_option linter.unusedSimpArgs false
set_option maxHeartbeats 8000000
set_option maxRecDepth 100000

/-! ### spec_TouchesBand: function 118 -/
def spec_TouchesBand.f (k : Nat) (l0_0 : List (S166)) (a0_1 : Int) (a0_2 : Int) (a0_3 : Int) (a0_4 : Int) (a0_5 : Int) (a1 : Int) (a2 : Int) : Option (Bool) := (spec_ObjectBox.f k l0_0 a0_1 a0_2 a0_3 a0_4 a0_5).bind fun bt300 => ((spec_l12Ok.f a1 a2).bind fun t305 => (if t305 = true then ((spec_CountDots.f bt300.1 bt300.2.1 bt300.2.2.1 bt300.2.2.2).bind fun t306 => (if t306 > 0 then (if bt300.2.1 < (wrap64 ((wrap64 (a2 * a1)) + a1)) then (some (decide (bt300.2.2.2 > (wrap64 (a2 * a1))))) else (some false)) else (some false))) else (some false)))
theorem spec_TouchesBand.calls (k : Nat) (A0_0 : Option Addr) (c0_0 : Nat) (l0_0 : List (S166)) (a0_1 : Int) (a0_2 : Int) (a0_3 : Int) (a0_4 : Int) (a0_5 : Int) (a1 : Int) (a2 : Int) (r : Bool) (w : World) (hr0_0 : Kd.C k166 w A0_0 l0_0.length l0_0) (hc0_0 : l0_0.length ≤ c0_0) (h : spec_TouchesBand.f k l0_0 a0_1 a0_2 a0_3 a0_4 a0_5 a1 a2 = some r) :
    Calls Try.prog 118 #[.agg #[.slice A0_0 l0_0.length c0_0, .int .i64 a0_1, .int .i64 a0_2, .int .i64 a0_3, .int .i64 a0_4, .int .i64 a0_5], .int .i64 a1, .int .i64 a2] w fun e w' => e = .returned (.bool r) ∧ Below w.heap.size w w' := by
  have hu41 := Try.underlying41
  have hu39 := Try.underlying39
  have HR0_0 := Aside0.mk hr0_0
  have HC0_0 := Aside0.mk hc0_0
  clear hr0_0 hc0_0
  have HB := Aside0.mk (Below.refl w.heap.size w)
  have H : ((spec_ObjectBox.f k l0_0 a0_1 a0_2 a0_3 a0_4 a0_5).bind fun bt300 => ((spec_l12Ok.f a1 a2).bind fun t305 => (if t305 = true then ((spec_CountDots.f bt300.1 bt300.2.1 bt300.2.2.1 bt300.2.2.2).bind fun t306 => (if t306 > 0 then (if bt300.2.1 < (wrap64 ((wrap64 (a2 * a1)) + a1)) then (some (decide (bt300.2.2.2 > (wrap64 (a2 * a1))))) else (some false)) else (some false))) else (some false)))) = some r := h
  clear h
  replace H := bN H
  obtain ⟨⟨t300, t301, t302, t303⟩, A4, H⟩ := H
  replace H := bN H
  obtain ⟨t305, A5, H⟩ := H
  by_cases c6 : t305 = true
  · subst c6
    rw [if_pos rfl] at H
    replace H := bN H
    obtain ⟨t306, A7, H⟩ := H
    by_cases c8 : t306 > 0
    · rw [if_pos c8] at H
      have c8b0 : decide (0 < t306) = true := decide_eq_true c8
      clear c8
      by_cases c9 : t301 < (wrap64 ((wrap64 (a2 * a1)) + a1))
      · rw [if_pos c9] at H
        have c9b0 : decide (t301 < (wrap64 ((wrap64 (a2 * a1)) + a1))) = true := decide_eq_true c9
        clear c9
        obtain rfl := Option.some.inj H
        go_enter Try.func118, Try.ntmps118
        go_wp2_with (first | ((with_reducible refine gD 3 ?_); refine bxE #[.slice A0_0 l0_0.length c0_0, .int .i64 a0_1, .int .i64 a0_2, .int .i64 a0_3, .int .i64 a0_4, .int .i64 a0_5] 41 ?_; intro gb299 hg w10 BK299 hb; have GW299 := gE hg; have GE299 := gE hg; replace HB := hB hb; clear hb hg; have hz11 := cz6 BK299) | ((with_reducible refine gC 154 ?_); refine cL (some 9) Try.func154 #[.agg #[.slice A0_0 l0_0.length c0_0, .int .i64 a0_1, .int .i64 a0_2, .int .i64 a0_3, .int .i64 a0_4, .int .i64 a0_5]] ?_; (with_reducible refine (spec_ObjectBox.calls k _ _ l0_0 a0_1 a0_2 a0_3 a0_4 a0_5 t300 t301 t302 t303 _ ?side1 ?side2 A4.out).mono ?_); (case side1 => exact cS (Kd.C_below HR0_0.out HB.out)); (case side2 => exact HC0_0.out); rintro e w12 ⟨rfl, hb⟩; refine ⟨_, rfl, ?_⟩; replace BK299 := kB (g := gb299) hb; replace HB := hB hb; (try clear hb); (try clear hb2); (try clear hk); (try clear hi)) | ((with_reducible refine gD 7 ?_); refine bxE #[.int .i64 0, .int .i64 0, .int .i64 0, .int .i64 0] 39 ?_; intro gb304 hg w13 BK304 hb; have GW304 := gE hg; have GE304 := gE hg; have NB299_304 := nL (g := gb299) hg; have NB304_299 := nG (g := gb299) hg; replace BK299 := kB (g := gb299) hb; replace HB := hB hb; clear hb hg; have hnb14 := NB304_299.out; have hnc14 := NB299_304.out; have hz15 := cz4 BK304) | ((with_reducible refine gC 113 ?_); refine cL (some 12) Try.func113 #[.int .i64 a1, .int .i64 a2] ?_; (with_reducible refine (spec_l12Ok.calls a1 a2 _ _ A5.out).mono ?_); rintro e w' ⟨rfl, ⟨nd, rfl⟩⟩; refine ⟨_, rfl, ?_⟩) | (go_at_call 162; (with_reducible refine (spec_CountDots.calls t300 t301 t302 t303 t306 _ A7.out).mono ?_); rintro e w16 ⟨rfl, hb⟩; replace BK299 := kB (g := gb299) hb; replace BK304 := Aside0.mk (blk_below (g := gb304) (o := .cells #[.int .i64 t300, .int .i64 t301, .int .i64 t302, .int .i64 t303] 39 (0, 0)) kS hb); replace HB := hB hb; (try clear hb); (try clear hb2); (try clear hk); (try clear hi); have hz17 := cz4 BK304))
        go_ret
        exact ⟨eS, bS⟩
      · rw [if_neg c9] at H
        have c9b0 : decide (t301 < (wrap64 ((wrap64 (a2 * a1)) + a1))) = false := decide_eq_false c9
        clear c9
        obtain rfl := Option.some.inj H
        go_enter Try.func118, Try.ntmps118
        go_wp2_with (first | ((with_reducible refine gD 3 ?_); refine bxE #[.slice A0_0 l0_0.length c0_0, .int .i64 a0_1, .int .i64 a0_2, .int .i64 a0_3, .int .i64 a0_4, .int .i64 a0_5] 41 ?_; intro gb299 hg w18 BK299 hb; have GW299 := gE hg; have GE299 := gE hg; replace HB := hB hb; clear hb hg; have hz19 := cz6 BK299) | ((with_reducible refine gC 154 ?_); refine cL (some 9) Try.func154 #[.agg #[.slice A0_0 l0_0.length c0_0, .int .i64 a0_1, .int .i64 a0_2, .int .i64 a0_3, .int .i64 a0_4, .int .i64 a0_5]] ?_; (with_reducible refine (spec_ObjectBox.calls k _ _ l0_0 a0_1 a0_2 a0_3 a0_4 a0_5 t300 t301 t302 t303 _ ?side1 ?side2 A4.out).mono ?_); (case side1 => exact cS (Kd.C_below HR0_0.out HB.out)); (case side2 => exact HC0_0.out); rintro e w20 ⟨rfl, hb⟩; refine ⟨_, rfl, ?_⟩; replace BK299 := kB (g := gb299) hb; replace HB := hB hb; (try clear hb); (try clear hb2); (try clear hk); (try clear hi)) | ((with_reducible refine gD 7 ?_); refine bxE #[.int .i64 0, .int .i64 0, .int .i64 0, .int .i64 0] 39 ?_; intro gb304 hg w21 BK304 hb; have GW304 := gE hg; have GE304 := gE hg; have NB299_304 := nL (g := gb299) hg; have NB304_299 := nG (g := gb299) hg; replace BK299 := kB (g := gb299) hb; replace HB := hB hb; clear hb hg; have hnb22 := NB304_299.out; have hnc22 := NB299_304.out; have hz23 := cz4 BK304) | ((with_reducible refine gC 113 ?_); refine cL (some 12) Try.func113 #[.int .i64 a1, .int .i64 a2] ?_; (with_reducible refine (spec_l12Ok.calls a1 a2 _ _ A5.out).mono ?_); rintro e w' ⟨rfl, ⟨nd, rfl⟩⟩; refine ⟨_, rfl, ?_⟩) | (go_at_call 162; (with_reducible refine (spec_CountDots.calls t300 t301 t302 t303 t306 _ A7.out).mono ?_); rintro e w24 ⟨rfl, hb⟩; replace BK299 := kB (g := gb299) hb; replace BK304 := Aside0.mk (blk_below (g := gb304) (o := .cells #[.int .i64 t300, .int .i64 t301, .int .i64 t302, .int .i64 t303] 39 (0, 0)) kS hb); replace HB := hB hb; (try clear hb); (try clear hb2); (try clear hk); (try clear hi); have hz25 := cz4 BK304))
        go_ret
        exact ⟨eS, bS⟩
    · rw [if_neg c8] at H
      have c8b0 : decide (0 < t306) = false := decide_eq_false c8
      clear c8
      obtain rfl := Option.some.inj H
      go_enter Try.func118, Try.ntmps118
      go_wp2_with (first | ((with_reducible refine gD 3 ?_); refine bxE #[.slice A0_0 l0_0.length c0_0, .int .i64 a0_1, .int .i64 a0_2, .int .i64 a0_3, .int .i64 a0_4, .int .i64 a0_5] 41 ?_; intro gb299 hg w26 BK299 hb; have GW299 := gE hg; have GE299 := gE hg; replace HB := hB hb; clear hb hg; have hz27 := cz6 BK299) | ((with_reducible refine gC 154 ?_); refine cL (some 9) Try.func154 #[.agg #[.slice A0_0 l0_0.length c0_0, .int .i64 a0_1, .int .i64 a0_2, .int .i64 a0_3, .int .i64 a0_4, .int .i64 a0_5]] ?_; (with_reducible refine (spec_ObjectBox.calls k _ _ l0_0 a0_1 a0_2 a0_3 a0_4 a0_5 t300 t301 t302 t303 _ ?side1 ?side2 A4.out).mono ?_); (case side1 => exact cS (Kd.C_below HR0_0.out HB.out)); (case side2 => exact HC0_0.out); rintro e w28 ⟨rfl, hb⟩; refine ⟨_, rfl, ?_⟩; replace BK299 := kB (g := gb299) hb; replace HB := hB hb; (try clear hb); (try clear hb2); (try clear hk); (try clear hi)) | ((with_reducible refine gD 7 ?_); refine bxE #[.int .i64 0, .int .i64 0, .int .i64 0, .int .i64 0] 39 ?_; intro gb304 hg w29 BK304 hb; have GW304 := gE hg; have GE304 := gE hg; have NB299_304 := nL (g := gb299) hg; have NB304_299 := nG (g := gb299) hg; replace BK299 := kB (g := gb299) hb; replace HB := hB hb; clear hb hg; have hnb30 := NB304_299.out; have hnc30 := NB299_304.out; have hz31 := cz4 BK304) | ((with_reducible refine gC 113 ?_); refine cL (some 12) Try.func113 #[.int .i64 a1, .int .i64 a2] ?_; (with_reducible refine (spec_l12Ok.calls a1 a2 _ _ A5.out).mono ?_); rintro e w' ⟨rfl, ⟨nd, rfl⟩⟩; refine ⟨_, rfl, ?_⟩) | (go_at_call 162; (with_reducible refine (spec_CountDots.calls t300 t301 t302 t303 t306 _ A7.out).mono ?_); rintro e w32 ⟨rfl, hb⟩; replace BK299 := kB (g := gb299) hb; replace BK304 := Aside0.mk (blk_below (g := gb304) (o := .cells #[.int .i64 t300, .int .i64 t301, .int .i64 t302, .int .i64 t303] 39 (0, 0)) kS hb); replace HB := hB hb; (try clear hb); (try clear hb2); (try clear hk); (try clear hi)))
      go_ret
      exact ⟨eS, bS⟩
  · obtain rfl := Bool.eq_false_iff.mpr c6
    rw [if_neg nF] at H
    obtain rfl := Option.some.inj H
    go_enter Try.func118, Try.ntmps118
    go_wp2_with (first | ((with_reducible refine gD 3 ?_); refine bxE #[.slice A0_0 l0_0.length c0_0, .int .i64 a0_1, .int .i64 a0_2, .int .i64 a0_3, .int .i64 a0_4, .int .i64 a0_5] 41 ?_; intro gb299 hg w33 BK299 hb; have GW299 := gE hg; have GE299 := gE hg; replace HB := hB hb; clear hb hg; have hz34 := cz6 BK299) | ((with_reducible refine gC 154 ?_); refine cL (some 9) Try.func154 #[.agg #[.slice A0_0 l0_0.length c0_0, .int .i64 a0_1, .int .i64 a0_2, .int .i64 a0_3, .int .i64 a0_4, .int .i64 a0_5]] ?_; (with_reducible refine (spec_ObjectBox.calls k _ _ l0_0 a0_1 a0_2 a0_3 a0_4 a0_5 t300 t301 t302 t303 _ ?side1 ?side2 A4.out).mono ?_); (case side1 => exact cS (Kd.C_below HR0_0.out HB.out)); (case side2 => exact HC0_0.out); rintro e w35 ⟨rfl, hb⟩; refine ⟨_, rfl, ?_⟩; replace BK299 := kB (g := gb299) hb; replace HB := hB hb; (try clear hb); (try clear hb2); (try clear hk); (try clear hi)) | ((with_reducible refine gD 7 ?_); refine bxE #[.int .i64 0, .int .i64 0, .int .i64 0, .int .i64 0] 39 ?_; intro gb304 hg w36 BK304 hb; have GW304 := gE hg; have GE304 := gE hg; have NB299_304 := nL (g := gb299) hg; have NB304_299 := nG (g := gb299) hg; replace BK299 := kB (g := gb299) hb; replace HB := hB hb; clear hb hg; have hnb37 := NB304_299.out; have hnc37 := NB299_304.out; have hz38 := cz4 BK304) | ((with_reducible refine gC 113 ?_); refine cL (some 12) Try.func113 #[.int .i64 a1, .int .i64 a2] ?_; (with_reducible refine (spec_l12Ok.calls a1 a2 _ _ A5.out).mono ?_); rintro e w' ⟨rfl, ⟨nd, rfl⟩⟩; refine ⟨_, rfl, ?_⟩))
    go_ret
    exact ⟨eS, bS⟩

/-! ### spec_l07Shape: function 119 -/
def spec_l07Shape.f (l0_0 : List (S166)) (a0_1 : Int) (a0_2 : Int) (a0_3 : Int) (a0_4 : Int) (a0_5 : Int) : Option ((List (S166)) × Int × Int × Int × Int × Int) := (some (([] : List (S166)) : List (S166))).bind fun y309 => (if y309.length + l0_0.length < 8796093022208 then (some ((y309 ++ l0_0), a0_1, a0_2, a0_3, a0_4, a0_5)) else (none))
def spec_l07Shape.T1 : Bool × List (List Nat × List Nat) := (true, [([], []), ([], []), ([1], [1]), ([0, 2], [0, 2]), ([], []), ([4], [4]), ([], []), ([6], [6]), ([3, 5, 7], [3, 5, 7]), ([8, 3, 0, 1, 2, 3, 4, 5, 6, 7, 8], [8])])
def spec_l07Shape.B1 : List Nat := [0, 0, 2, 7, 0, 16, 0, 64, 255, 511]
theorem spec_l07Shape.tab1 : rtab .any (opsOf Try.f119 1) = spec_l07Shape.T1 := by kernel_rfl
theorem spec_l07Shape.bits1 : waitsOk spec_l07Shape.T1.2 spec_l07Shape.B1 = true := by kernel_rfl
theorem spec_l07Shape.calls (A0_0 : Option Addr) (c0_0 : Nat) (l0_0 : List (S166)) (a0_1 : Int) (a0_2 : Int) (a0_3 : Int) (a0_4 : Int) (a0_5 : Int) (r1 : List (S166)) (r2 : Int) (r3 : Int) (r4 : Int) (r5 : Int) (r6 : Int) (w : World) (hr0_0 : Kd.C k166 w A0_0 l0_0.length l0_0) (hc0_0 : l0_0.length ≤ c0_0) (h : spec_l07Shape.f l0_0 a0_1 a0_2 a0_3 a0_4 a0_5 = some (r1, r2, r3, r4, r5, r6)) :
    Calls Try.prog 119 #[.agg #[.slice A0_0 l0_0.length c0_0, .int .i64 a0_1, .int .i64 a0_2, .int .i64 a0_3, .int .i64 a0_4, .int .i64 a0_5]] w fun e w' => ∃ v0_ : Value, e = .returned (.agg #[v0_, .int .i64 r2, .int .i64 r3, .int .i64 r4, .int .i64 r5, .int .i64 r6]) ∧ Kd.R k166 166 w' w.heap.size (fun _ => True) v0_ r1 ∧ Below w.heap.size w w' := by
  have hu41 := Try.underlying41
  have hu39 := Try.underlying39
  have HR0_0 := Aside0.mk hr0_0
  have HC0_0 := Aside0.mk hc0_0
  clear hr0_0 hc0_0
  have HB := Aside0.mk (Below.refl w.heap.size w)
  have H : ((some (([] : List (S166)) : List (S166))).bind fun y309 => (if y309.length + l0_0.length < 8796093022208 then (some ((y309 ++ l0_0), a0_1, a0_2, a0_3, a0_4, a0_5)) else (none))) = some (r1, r2, r3, r4, r5, r6) := h
  clear h
  obtain ⟨y309, hy309⟩ : ∃ y_ : List (S166), y_ = (([] : List (S166))) := ⟨_, rfl⟩
  replace H : (if y309.length + l0_0.length < 8796093022208 then (some ((y309 ++ l0_0), a0_1, a0_2, a0_3, a0_4, a0_5)) else (none)) = some (r1, r2, r3, r4, r5, r6) := by first | (rw [hy309]; with_reducible exact H) | (have H2_ := (Option.bind_some _ _).symm.trans H; rw [hy309]; with_reducible exact H2_) | (have H2_ := (Option.bind_some _ _).symm.trans H; with_reducible exact H2_) | with_reducible exact H | (rw [hy309]; exact H) | exact H
  have Ny309 := Aside0.mk hy309
  clear hy309
  by_cases c2 : y309.length + l0_0.length < 8796093022208
  · rw [if_pos c2] at H
    have LMc2 := Aside0.mk c2
    clear c2
    obtain ⟨y312, hy312⟩ : ∃ y_ : List (S166), y_ = (y309 ++ l0_0) := ⟨_, rfl⟩
    replace H : (some (y312, a0_1, a0_2, a0_3, a0_4, a0_5)) = some (r1, r2, r3, r4, r5, r6) := by first | (rw [hy312]; with_reducible exact H) | (have H2_ := (Option.bind_some _ _).symm.trans H; rw [hy312]; with_reducible exact H2_) | (have H2_ := (Option.bind_some _ _).symm.trans H; with_reducible exact H2_) | with_reducible exact H | (rw [hy312]; exact H) | exact H
    have Ny312 := Aside0.mk hy312
    clear hy312
    simp only [Option.some.injEq, Prod.mk.injEq] at H
    obtain ⟨rfl, rfl, rfl, rfl, rfl, rfl⟩ := H
    go_enter Try.func119, Try.ntmps119
    try go_wp2_with (first | ((with_reducible refine gD 1 ?_); refine bxE #[.slice A0_0 l0_0.length c0_0, .int .i64 a0_1, .int .i64 a0_2, .int .i64 a0_3, .int .i64 a0_4, .int .i64 a0_5] 41 ?_; intro gb307 hg w3 BK307 hb; have GW307 := gE hg; have GE307 := gE hg; replace HB := hB hb; clear hb hg) | ((with_reducible refine gD 2 ?_); refine bxE #[.slice none 0 0, .int .i64 0, .int .i64 0, .int .i64 0, .int .i64 0, .int .i64 0] 41 ?_; intro gb308 hg w4 BK308 hb; have GW308 := gE hg; have GE308 := gE hg; have NB307_308 := nL (g := gb307) hg; have NB308_307 := nG (g := gb307) hg; replace BK307 := kB (g := gb307) hb; replace HB := hB hb; clear hb hg))
    replace BK307 := Aside0.mk (blk_drew BK307.out)
    replace BK308 := Aside0.mk (blk_drew BK308.out)
    replace HB := Aside0.mk (below_drew1 HB.out)
    refine start_ (n := 10) (S := fun w' => w'.cell? ⟨gb307, 0, none⟩ = some (.slice A0_0 l0_0.length c0_0) ∧ w'.cell? ⟨gb307, 1, none⟩ = some (.int .i64 a0_1) ∧ w'.cell? ⟨gb307, 2, none⟩ = some (.int .i64 a0_2) ∧ w'.cell? ⟨gb307, 3, none⟩ = some (.int .i64 a0_3) ∧ w'.cell? ⟨gb307, 4, none⟩ = some (.int .i64 a0_4) ∧ w'.cell? ⟨gb307, 5, none⟩ = some (.int .i64 a0_5)) (ds := []) #[false, false, false, false, false, false, false, false, false, false] (by kernel_rfl) rfl rfl ⟨(blk_cell BK307.out 0).trans rfl, (blk_cell BK307.out 1).trans rfl, (blk_cell BK307.out 2).trans rfl, (blk_cell BK307.out 3).trans rfl, (blk_cell BK307.out 4).trans rfl, (blk_cell BK307.out 5).trans rfl⟩ (fun hHeld => ?_); refine with_tabW spec_l07Shape.tab1 spec_l07Shape.bits1 (fun HT_ HW_ => ?_)
    generalize w4.drew = w5 at BK307 BK308 HB hHeld ⊢
    refine pure_ (i := 1) (N := some 4) (v := ?_) (a' := ?_) #[false, true, false, false, false, false, false, false, false, false] rfl rfl (any_of HT_.out (by kernel_rfl)) (fun _ _ _ h => h) (Or.inl ⟨by rfl, ?_⟩) ?_ ?_
    rotate_left
    · intro w'
      go_simp
      with_reducible rfl
    rotate_left
    · simp only [Act.put, List.setIfInBounds_toArray, List.set_cons_zero, List.set_cons_succ, i64_w, i32_w]
      rfl
    refine pure_ (i := 4) (N := some 7) (v := ?_) (a' := ?_) #[false, true, false, false, true, false, false, false, false, false] rfl rfl (any_of HT_.out (by kernel_rfl)) (fun _ _ _ h => h) (Or.inl ⟨by rfl, ?_⟩) ?_ ?_
    rotate_left
    · intro w'
      go_simp
      with_reducible rfl
    rotate_left
    · simp only [Act.put, List.setIfInBounds_toArray, List.set_cons_zero, List.set_cons_succ, i64_w, i32_w]
      rfl
    refine pure_ (i := 6) (N := some 9) (v := ?_) (a' := ?_) #[false, true, false, false, true, false, true, false, false, false] rfl rfl (any_of HT_.out (by kernel_rfl)) (fun _ _ _ h => h) (Or.inl ⟨by rfl, ?_⟩) ?_ ?_
    rotate_left
    · intro w'
      go_simp
      with_reducible rfl
    rotate_left
    · simp only [Act.put, List.setIfInBounds_toArray, List.set_cons_zero, List.set_cons_succ, i64_w, i32_w]
      rfl
    refine take_ (i := 2) (N := some 5) (v := ?_) (a' := ?_) #[false, true, true, false, true, false, true, false, false, false] rfl rfl (take_ofW HT_.out HW_.out (by kernel_rfl)) (fun _ _ _ h => h) (Or.inl ⟨by rfl, ?_⟩) hHeld ?_ ?_
    rotate_left
    · rintro w' ⟨s0, s1, s2, s3, s4, s5⟩
      go_simp
      with_reducible rfl
    rotate_left
    · simp only [Act.put, List.setIfInBounds_toArray, List.set_cons_zero, List.set_cons_succ, i64_w, i32_w]
      rfl
    refine take_ (i := 5) (N := some 8) (v := ?_) (a' := ?_) #[false, true, true, false, true, true, true, false, false, false] rfl rfl (take_ofW HT_.out HW_.out (by kernel_rfl)) (fun _ _ _ h => h) (Or.inl ⟨by rfl, ?_⟩) hHeld ?_ ?_
    rotate_left
    · rintro w' ⟨s0, s1, s2, s3, s4, s5⟩
      go_simp
      with_reducible rfl
    rotate_left
    · simp only [Act.put, List.setIfInBounds_toArray, List.set_cons_zero, List.set_cons_succ, i64_w, i32_w]
      rfl
    refine take_ (i := 7) (N := some 10) (v := ?_) (a' := ?_) #[false, true, true, false, true, true, true, true, false, false] rfl rfl (take_ofW HT_.out HW_.out (by kernel_rfl)) (fun _ _ _ h => h) (Or.inl ⟨by rfl, ?_⟩) hHeld ?_ ?_
    rotate_left
    · rintro w' ⟨s0, s1, s2, s3, s4, s5⟩
      go_simp
      with_reducible rfl
    rotate_left
    · simp only [Act.put, List.setIfInBounds_toArray, List.set_cons_zero, List.set_cons_succ, i64_w, i32_w]
      rfl
    refine one_ (i := 0) (N := some 3) #[true, true, true, false, true, true, true, true, false, false] rfl rfl (one_of HT_.out (by kernel_rfl)) (by decide) (fun K hK => ?_)
    refine Kd.R_lit_step k166 _ 166 ?hg (N := 3) ?hd (xs := ([] : List (S166))) (inner := []) (ok := fun _ => True) (okp := fun _ => True) ?hr ?hp (fun _ hk => hk) trivial (Below.refl _ _) (Nat.le_refl _) (by simp) ?_; (case hd => rfl); (case hg => rfl); (case hr => first | (go_simp; done) | (go_simp; rfl)); (case hp => exact (Reps.none _ _))
    intro v310 w6 ho7 hb hg_ hnew_
    clear hg_ hnew_
    (first | rw [← Ny309.out] at ho7 | (simp only [Int.reduceToNat] at ho7; rw [← Ny309.out] at ho7))
    have HO311 := Aside0.mk (Kd.R_lower ho7 (below_size bS))
    replace BK307 := kB (g := gb307) hb
    replace BK308 := kB (g := gb308) hb
    replace HB := hB hb
    clear hb ho7
    refine hK.out _ _ ⟨(blk_cell BK307.out 0).trans rfl, (blk_cell BK307.out 1).trans rfl, (blk_cell BK307.out 2).trans rfl, (blk_cell BK307.out 3).trans rfl, (blk_cell BK307.out 4).trans rfl, (blk_cell BK307.out 5).trans rfl⟩ (fun hHeld => ?_)
    clear hK K
    refine norm_ (a' := ?_) ?_ ?_
    rotate_left
    · show Act.put _ (some 3) _ = _
      simp only [Act.put, List.setIfInBounds_toArray, List.set_cons_zero, List.set_cons_succ, i64_w, i32_w]
      rfl
    refine one_ (i := 3) (N := some 6) #[true, true, true, true, true, true, true, true, false, false] rfl rfl (one_of HT_.out (by kernel_rfl)) (by decide) (fun K hK => ?_)
    refine Kd.R_append_rows_step k166 (w0 := w) w.heap.size (by rfl) (.tmp 3) (.tmp 5) 37 166 (.agg #[(.int .i64 0), (.int .i64 0)]) 16 rfl Try.underlying37 info166 rfl (by decide) (by omega) v310 y309 l0_0 _ _ _ (fun _ => True) (fun _ => False) rfl rfl ?aO ?aR (fun _ _ h => h) (fun _ h => h.elim) ?aF ?aB ?aS ?aL ?_
    (case aR => exact cS (Kd.C_below HR0_0.out HB.out))
    (case aB => exact bS)
    (case aF => exact (fun _ _ => trivial))
    (case aO => exact (rS HO311))
    (case aS => exact (below_size bS))
    (case aL => have := LMc2.out; omega)
    intro v313 w8 ho hb hg hat
    rw [← Ny312.out] at ho
    have HO314 := Aside0.mk (ho)
    replace BK307 := Aside0.mk (blk_grown (g := gb307) kS hg (Kd.R_ne HO311.out BK307.out (by decide)))
    replace BK308 := Aside0.mk (blk_grown (g := gb308) kS hg (Kd.R_ne HO311.out BK308.out (by decide)))
    replace HB := Aside0.mk (hb)
    clear HO311
    clear ho hb hg hat
    obtain ⟨Ao9, co9, eo9⟩ := Kd.R_slice HO314.out
    (first | subst eo9 | (injection eo9 with f1_ f2_ f3_; have f4_ := f1_.symm; have f5_ := f3_.symm; clear f1_ f2_ f3_; subst f4_; subst f5_))
    refine hK.out _ _ ⟨(blk_cell BK307.out 0).trans rfl, (blk_cell BK307.out 1).trans rfl, (blk_cell BK307.out 2).trans rfl, (blk_cell BK307.out 3).trans rfl, (blk_cell BK307.out 4).trans rfl, (blk_cell BK307.out 5).trans rfl⟩ (fun hHeld => ?_)
    clear hK K
    refine norm_ (a' := ?_) ?_ ?_
    rotate_left
    · show Act.put _ (some 6) _ = _
      simp only [Act.put, List.setIfInBounds_toArray, List.set_cons_zero, List.set_cons_succ, i64_w, i32_w]
      rfl
    refine pure_ (i := 8) (N := some 11) (v := ?_) (a' := ?_) #[true, true, true, true, true, true, true, true, true, false] rfl rfl (any_of HT_.out (by kernel_rfl)) (fun _ _ _ h => h) (Or.inl ⟨by rfl, ?_⟩) ?_ ?_
    rotate_left
    · intro w'
      go_simp
      with_reducible rfl
    rotate_left
    · simp only [Act.put, List.setIfInBounds_toArray, List.set_cons_zero, List.set_cons_succ, i64_w, i32_w]
      rfl
    refine one_ (i := 9) (N := none) #[true, true, true, true, true, true, true, true, true, true] rfl rfl (one_of HT_.out (by kernel_rfl)) (by decide) (fun K hK => ?_)
    have hs10 : w8.cell? ⟨gb308, 0, none⟩ = some (.slice none 0 0) := (blk_cell BK308.out 0).trans rfl
    have hfs10 := blk_frozen BK308.out 0
    have hns10_0 := NB307_308.out
    have hms10_0 := NB308_307.out
    have hs11 : w8.cell? ⟨gb308, 1, none⟩ = some (.int .i64 0) := (blk_cell BK308.out 1).trans rfl
    have hfs11 := blk_frozen BK308.out 1
    have hns11_0 := NB307_308.out
    have hms11_0 := NB308_307.out
    have hs12 : w8.cell? ⟨gb308, 2, none⟩ = some (.int .i64 0) := (blk_cell BK308.out 2).trans rfl
    have hfs12 := blk_frozen BK308.out 2
    have hns12_0 := NB307_308.out
    have hms12_0 := NB308_307.out
    have hs13 : w8.cell? ⟨gb308, 3, none⟩ = some (.int .i64 0) := (blk_cell BK308.out 3).trans rfl
    have hfs13 := blk_frozen BK308.out 3
    have hns13_0 := NB307_308.out
    have hms13_0 := NB308_307.out
    have hs14 : w8.cell? ⟨gb308, 4, none⟩ = some (.int .i64 0) := (blk_cell BK308.out 4).trans rfl
    have hfs14 := blk_frozen BK308.out 4
    have hns14_0 := NB307_308.out
    have hms14_0 := NB308_307.out
    have hs15 : w8.cell? ⟨gb308, 5, none⟩ = some (.int .i64 0) := (blk_cell BK308.out 5).trans rfl
    have hfs15 := blk_frozen BK308.out 5
    have hns15_0 := NB307_308.out
    have hms15_0 := NB308_307.out
    refine skip_ (w1 := ?_) (by rfl) rfl ?_ ?_
    rotate_left
    · go_simp
      rfl
    refine hK.out _ _ ⟨((cell_far (p := ⟨gb308, _, none⟩) NB307_308.out _).trans (((cell_far (p := ⟨gb308, _, none⟩) NB307_308.out _).trans (((cell_far (p := ⟨gb308, _, none⟩) NB307_308.out _).trans (((cell_far (p := ⟨gb308, _, none⟩) NB307_308.out _).trans (((cell_far (p := ⟨gb308, _, none⟩) NB307_308.out _).trans (((cell_far (p := ⟨gb308, _, none⟩) NB307_308.out _).trans (hHeld.1)))))))))))), ((cell_far (p := ⟨gb308, _, none⟩) NB307_308.out _).trans (((cell_far (p := ⟨gb308, _, none⟩) NB307_308.out _).trans (((cell_far (p := ⟨gb308, _, none⟩) NB307_308.out _).trans (((cell_far (p := ⟨gb308, _, none⟩) NB307_308.out _).trans (((cell_far (p := ⟨gb308, _, none⟩) NB307_308.out _).trans (((cell_far (p := ⟨gb308, _, none⟩) NB307_308.out _).trans (hHeld.2.1)))))))))))), ((cell_far (p := ⟨gb308, _, none⟩) NB307_308.out _).trans (((cell_far (p := ⟨gb308, _, none⟩) NB307_308.out _).trans (((cell_far (p := ⟨gb308, _, none⟩) NB307_308.out _).trans (((cell_far (p := ⟨gb308, _, none⟩) NB307_308.out _).trans (((cell_far (p := ⟨gb308, _, none⟩) NB307_308.out _).trans (((cell_far (p := ⟨gb308, _, none⟩) NB307_308.out _).trans (hHeld.2.2.1)))))))))))), ((cell_far (p := ⟨gb308, _, none⟩) NB307_308.out _).trans (((cell_far (p := ⟨gb308, _, none⟩) NB307_308.out _).trans (((cell_far (p := ⟨gb308, _, none⟩) NB307_308.out _).trans (((cell_far (p := ⟨gb308, _, none⟩) NB307_308.out _).trans (((cell_far (p := ⟨gb308, _, none⟩) NB307_308.out _).trans (((cell_far (p := ⟨gb308, _, none⟩) NB307_308.out _).trans (hHeld.2.2.2.1)))))))))))), ((cell_far (p := ⟨gb308, _, none⟩) NB307_308.out _).trans (((cell_far (p := ⟨gb308, _, none⟩) NB307_308.out _).trans (((cell_far (p := ⟨gb308, _, none⟩) NB307_308.out _).trans (((cell_far (p := ⟨gb308, _, none⟩) NB307_308.out _).trans (((cell_far (p := ⟨gb308, _, none⟩) NB307_308.out _).trans (((cell_far (p := ⟨gb308, _, none⟩) NB307_308.out _).trans (hHeld.2.2.2.2.1)))))))))))), ((cell_far (p := ⟨gb308, _, none⟩) NB307_308.out _).trans (((cell_far (p := ⟨gb308, _, none⟩) NB307_308.out _).trans (((cell_far (p := ⟨gb308, _, none⟩) NB307_308.out _).trans (((cell_far (p := ⟨gb308, _, none⟩) NB307_308.out _).trans (((cell_far (p := ⟨gb308, _, none⟩) NB307_308.out _).trans (((cell_far (p := ⟨gb308, _, none⟩) NB307_308.out _).trans (hHeld.2.2.2.2.2))))))))))))⟩ (fun hHeld => ?_)
    clear hK K
    refine done_ (done_of HT_.out (by kernel_rfl)) ?_
    try go_wp2
    refine bodyPost_ret (results_cell_row rfl _ _ gb308 41 #[.slice Ao9 y312.length co9, .int .i64 a0_1, .int .i64 a0_2, .int .i64 a0_3, .int .i64 a0_4, .int .i64 a0_5] (0, 0) _ rfl kS Try.underlying41 rfl (by kernel_rfl)) rfl ?_
    exact ⟨_, eS, by (with_reducible repeat (first | apply Kd.R_alloc | apply Kd.R_drewN | apply Kd.R_drew)); exact Kd.R_mono (Kd.R_far (p := ⟨gb308, 5, none⟩) (Kd.R_far (p := ⟨gb308, 4, none⟩) (Kd.R_far (p := ⟨gb308, 3, none⟩) (Kd.R_far (p := ⟨gb308, 2, none⟩) (Kd.R_far (p := ⟨gb308, 1, none⟩) (Kd.R_far (p := ⟨gb308, 0, none⟩) (Kd.R_types HO314.out BK308.out (by decide)) (fun _ hk => hk.2) (.slice Ao9 y312.length co9)) (fun _ hk => hk.2) (.int .i64 a0_1)) (fun _ hk => hk.2) (.int .i64 a0_2)) (fun _ hk => hk.2) (.int .i64 a0_3)) (fun _ hk => hk.2) (.int .i64 a0_4)) (fun _ hk => hk.2) (.int .i64 a0_5)) (fun _ hk => trivial), bS⟩
  · rw [if_neg c2] at H
    exact absurd H (by simp)

/-! ### spec_ObjectsOfBand: function 67 -/
def spec_ObjectsOfBand.l0 : Nat → List (S41) → Int → Int → List (S41) → Int → Option ((List (S41)))
  | 0, _, _, _, _, _ => none
  | k + 1, x0, x1, x2, x7, x8 => if x8 < (x0.length : Int) then (if 0 ≤ x8 then ((spec_TouchesBand.f k ((rd_T41 x0 x8).f0) ((rd_T41 x0 x8).f1) ((rd_T41 x0 x8).f2.f0) ((rd_T41 x0 x8).f2.f1) ((rd_T41 x0 x8).f2.f2) ((rd_T41 x0 x8).f2.f3) x1 x2).bind fun t319 => (if t319 = true then ((spec_l07Shape.f ((rd_T41 x0 x8).f0) ((rd_T41 x0 x8).f1) ((rd_T41 x0 x8).f2.f0) ((rd_T41 x0 x8).f2.f1) ((rd_T41 x0 x8).f2.f2) ((rd_T41 x0 x8).f2.f3)).bind fun bt321 => (if x7.length < 2199023255552 then (spec_ObjectsOfBand.l0 k x0 x1 x2 (x7 ++ [(⟨bt321.1, bt321.2.1, (⟨bt321.2.2.1, bt321.2.2.2.1, bt321.2.2.2.2.1, bt321.2.2.2.2.2⟩ : S39)⟩ : S41)]) (wrap64 (x8 + 1))) else (none))) else (spec_ObjectsOfBand.l0 k x0 x1 x2 x7 (wrap64 (x8 + 1))))) else (none)) else (some x7)
def spec_ObjectsOfBand.f (k : Nat) (l0 : List (S41)) (a1 : Int) (a2 : Int) : Option ((List (S41))) := spec_ObjectsOfBand.l0 k l0 a1 a2 (([] : List (S41))) 0
theorem spec_ObjectsOfBand.calls (k : Nat) (A0 : Option Addr) (c0 : Nat) (l0 : List (S41)) (a1 : Int) (a2 : Int) (r : List (S41)) (w : World) (hr0 : Kd.C k41 w A0 l0.length l0) (hc0 : l0.length ≤ c0) (h : spec_ObjectsOfBand.f k l0 a1 a2 = some r) :
    Calls Try.prog 67 #[.slice A0 l0.length c0, .int .i64 a1, .int .i64 a2] w fun e w' => ∃ v0_ : Value, e = .returned (v0_) ∧ Kd.S k41 41 w' w.heap.size (fun _ => True) v0_ r ∧ Below w.heap.size w w' := by
  have hu41 := Try.underlying41
  have HR0 := Aside0.mk hr0
  have HC0 := Aside0.mk hc0
  clear hr0 hc0
  have HB := Aside0.mk (Below.refl w.heap.size w)
  have H : (spec_ObjectsOfBand.l0 k l0 a1 a2 (([] : List (S41))) 0) = some r := h
  clear h
  obtain ⟨y315, hy315⟩ : ∃ y_ : List (S41), y_ = (([] : List (S41))) := ⟨_, rfl⟩
  replace H : (spec_ObjectsOfBand.l0 k l0 a1 a2 y315 0) = some r := by first | (rw [hy315]; with_reducible exact H) | (have H2_ := (Option.bind_some _ _).symm.trans H; rw [hy315]; with_reducible exact H2_) | (have H2_ := (Option.bind_some _ _).symm.trans H; with_reducible exact H2_) | with_reducible exact H | (rw [hy315]; exact H) | exact H
  have Ny315 := Aside0.mk hy315
  clear hy315
  have H' := Aside0.mk H
  clear H
  go_enter Try.func67, Try.ntmps67
  go_wp2_with (first | ((with_reducible refine gate_dst (N := 9) rfl ?_); refine Kd.S_lit k41 _ 41 ?hg (N := 9) ?hd (xs := ([] : List (S41))) (inner := []) (ok := fun _ => True) (okp := fun _ => True) ?hr ?hp (fun _ hk => hk) trivial (Below.refl _ _) (Nat.le_refl _) (by simp) ?_; (case hd => rfl); (case hg => rfl); (case hr => first | (go_simp; done) | (go_simp; rfl)); (case hp => exact (Reps.none _ _)); intro v316 w4 ho5 hb hg_ hnew_; clear hg_ hnew_; (first | rw [← Ny315.out] at ho5 | (simp only [Int.reduceToNat] at ho5; rw [← Ny315.out] at ho5)); have HO317 := Aside0.mk (Kd.S_lower ho5 (below_size bS)); replace HB := hB hb; clear hb ho5))
  go_loopg [7, 8] k (fun kq v7 v8 w' => ∃ (x7_1 : List (S41)) (x8_1 : Int), v8 = .int .i64 x8_1 ∧ Aside0 (spec_ObjectsOfBand.l0 kq l0 a1 a2 x7_1 x8_1 = some r) ∧ Aside0 (kq ≤ k) ∧ Aside0 (Kd.S k41 41 w' w.heap.size (fun _ => True) v7 x7_1) ∧ Aside0 (Below w.heap.size w w'))
  case atStart => exact ⟨(y315), (0), (by first | rfl | (simp; done) | (simp [*]; done)), H', ⟨Nat.le_refl _⟩, ⟨by (with_reducible repeat (first | apply Kd.S_alloc | apply Kd.S_drewN | apply Kd.S_drew)); exact HO317.out⟩, ⟨bS⟩⟩
  case round =>
    clear H'
    try clear p2
    obtain ⟨x7_1, x8_1, rfl, HA, HK1, HO_7, HB⟩ := hrel
    cases gk with
    | zero => exact absurd HA.out (by simp [spec_ObjectsOfBand.l0])
    | succ k1 =>
      have H := HA.out
      clear HA
      simp only [spec_ObjectsOfBand.l0] at H
      by_cases c6 : x8_1 < (l0.length : Int)
      · rw [if_pos c6] at H
        have c6b0 : decide (x8_1 < (l0.length : Int)) = true := decide_eq_true c6
        clear c6
        by_cases c7 : 0 ≤ x8_1
        · rw [if_pos c7] at H
          have c7b0 : decide (0 ≤ x8_1) = true := decide_eq_true c7
          clear c7
          replace H := bN H
          obtain ⟨t319, A8, H⟩ := H
          by_cases c9 : t319 = true
          · subst c9
            rw [if_pos rfl] at H
            replace H := bN H
            obtain ⟨⟨t321, t324, t325, t326, t327, t328⟩, A10, H⟩ := H
            by_cases c11 : x7_1.length < 2199023255552
            · rw [if_pos c11] at H
              have LMc11 := Aside0.mk c11
              clear c11
              obtain ⟨y329, hy329⟩ : ∃ y_ : List (S41), y_ = (x7_1 ++ [(⟨t321, t324, (⟨t325, t326, t327, t328⟩ : S39)⟩ : S41)]) := ⟨_, rfl⟩
              replace H : (spec_ObjectsOfBand.l0 k1 l0 a1 a2 y329 (wrap64 (x8_1 + 1))) = some r := by first | (rw [hy329]; with_reducible exact H) | (have H2_ := (Option.bind_some _ _).symm.trans H; rw [hy329]; with_reducible exact H2_) | (have H2_ := (Option.bind_some _ _).symm.trans H; with_reducible exact H2_) | with_reducible exact H | (rw [hy329]; exact H) | exact H
              have Ny329 := Aside0.mk hy329
              clear hy329
              have H' := Aside0.mk H
              clear H
              have p318 : 0 ≤ (x8_1 : Int) := of_decide_eq_true (by first | (with_reducible assumption) | assumption)
              have q318 : x8_1 < (l0.length : Int) := of_decide_eq_true (by first | (with_reducible assumption) | assumption)
              obtain ⟨ad318, A318_0, c318_0, e318, hx318_0, hx318_1, hx318_2, hx318_3, hx318_4, hx318_5, hl318_0, hi318_0⟩ := at_T41 HR0.out x8_1 p318 q318
              cases e318
              replace hx318_0 := (HB.out.cell (World.block_lt_of_cell? w _ hx318_0)).trans hx318_0
              replace hx318_1 := (HB.out.cell (World.block_lt_of_cell? w _ hx318_1)).trans hx318_1
              replace hx318_2 := (HB.out.cell (World.block_lt_of_cell? w _ hx318_2)).trans hx318_2
              replace hx318_3 := (HB.out.cell (World.block_lt_of_cell? w _ hx318_3)).trans hx318_3
              replace hx318_4 := (HB.out.cell (World.block_lt_of_cell? w _ hx318_4)).trans hx318_4
              replace hx318_5 := (HB.out.cell (World.block_lt_of_cell? w _ hx318_5)).trans hx318_5
              have HR318_0 := Aside0.mk hi318_0
              have HC318_0 := Aside0.mk hl318_0
              clear hi318_0 hl318_0
              replace p318 := eq_true p318
              replace q318 := eq_true q318
              go_wp2_with (first | ((with_reducible refine gC 118 ?_); refine cL (some 22) Try.func118 #[.agg #[.slice A318_0 ((rd_T41 l0 x8_1).f0).length c318_0, .int .i64 ((rd_T41 l0 x8_1).f1), .int .i64 ((rd_T41 l0 x8_1).f2.f0), .int .i64 ((rd_T41 l0 x8_1).f2.f1), .int .i64 ((rd_T41 l0 x8_1).f2.f2), .int .i64 ((rd_T41 l0 x8_1).f2.f3)], .int .i64 a1, .int .i64 a2] ?_; (with_reducible refine (spec_TouchesBand.calls k1 _ _ ((rd_T41 l0 x8_1).f0) ((rd_T41 l0 x8_1).f1) ((rd_T41 l0 x8_1).f2.f0) ((rd_T41 l0 x8_1).f2.f1) ((rd_T41 l0 x8_1).f2.f2) ((rd_T41 l0 x8_1).f2.f3) a1 a2 _ _ ?side1 ?side2 A8.out).mono ?_); (case side1 => exact cS (Kd.C_below HR318_0.out HB.out)); (case side2 => exact HC318_0.out); rintro e w12 ⟨rfl, hb⟩; refine ⟨_, rfl, ?_⟩; replace HO_7 := Aside0.mk (Kd.S_below (by (with_reducible repeat (first | apply Kd.S_alloc | apply Kd.S_drewN | apply Kd.S_drew)); exact HO_7.out) hb); replace HB := hB hb; (try clear hb); (try clear hb2); (try clear hk); (try clear hi); have p320 : 0 ≤ (x8_1 : Int) := of_decide_eq_true (by first | (with_reducible assumption) | assumption); have q320 : x8_1 < (l0.length : Int) := of_decide_eq_true (by first | (with_reducible assumption) | assumption); obtain ⟨ad320, A320_0, c320_0, e320, hx320_0, hx320_1, hx320_2, hx320_3, hx320_4, hx320_5, hl320_0, hi320_0⟩ := at_T41 HR0.out x8_1 p320 q320; obtain rfl : ad318 = ad320 := (by injection e320); replace hx320_0 := (HB.out.cell (World.block_lt_of_cell? w _ hx320_0)).trans hx320_0; replace hx320_1 := (HB.out.cell (World.block_lt_of_cell? w _ hx320_1)).trans hx320_1; replace hx320_2 := (HB.out.cell (World.block_lt_of_cell? w _ hx320_2)).trans hx320_2; replace hx320_3 := (HB.out.cell (World.block_lt_of_cell? w _ hx320_3)).trans hx320_3; replace hx320_4 := (HB.out.cell (World.block_lt_of_cell? w _ hx320_4)).trans hx320_4; replace hx320_5 := (HB.out.cell (World.block_lt_of_cell? w _ hx320_5)).trans hx320_5; have HR320_0 := Aside0.mk hi320_0; have HC320_0 := Aside0.mk hl320_0; clear hi320_0 hl320_0; replace p320 := eq_true p320; replace q320 := eq_true q320) | ((with_reducible refine gC 119 ?_); refine cL (some 28) Try.func119 #[.agg #[.slice A320_0 ((rd_T41 l0 x8_1).f0).length c320_0, .int .i64 ((rd_T41 l0 x8_1).f1), .int .i64 ((rd_T41 l0 x8_1).f2.f0), .int .i64 ((rd_T41 l0 x8_1).f2.f1), .int .i64 ((rd_T41 l0 x8_1).f2.f2), .int .i64 ((rd_T41 l0 x8_1).f2.f3)]] ?_; (with_reducible refine (spec_l07Shape.calls _ _ ((rd_T41 l0 x8_1).f0) ((rd_T41 l0 x8_1).f1) ((rd_T41 l0 x8_1).f2.f0) ((rd_T41 l0 x8_1).f2.f1) ((rd_T41 l0 x8_1).f2.f2) ((rd_T41 l0 x8_1).f2.f3) t321 t324 t325 t326 t327 t328 _ ?side1 ?side2 A10.out).mono ?_); (case side1 => exact cS (Kd.C_below HR320_0.out HB.out)); (case side2 => exact HC320_0.out); rintro e w13 ⟨v322, rfl, ho0, hb⟩; refine ⟨_, rfl, ?_⟩; have HO323 := Aside0.mk (Kd.R_lower ho0 (below_size bS)); replace HO_7 := Aside0.mk (Kd.S_elder' (by (with_reducible repeat (first | apply Kd.S_alloc | apply Kd.S_drewN | apply Kd.S_drew)); exact HO_7.out) (Kd.R_base ho0) hb); replace HB := hB hb; (try clear hb); (try clear hb2); (try clear hk); (try clear hi); (try clear ho0); obtain ⟨Ao15, co15, eo15⟩ := Kd.R_slice HO323.out; subst eo15) | ((with_reducible refine gate_builtin (b := .append) (xs := #[.tmp 23, .tmp 29]) rfl ?_); at_builtin; refine Kd.S_append k41 (w0 := w) w.heap.size rfl (.tmp 23) (.tmp 29) 44 41 (.agg #[(.slice none 0 0), (.int .i64 0), (.int .i64 0), (.int .i64 0), (.int .i64 0), (.int .i64 0)]) 64 rfl Try.underlying44 info41 rfl (by decide) (by omega) u7 x7_1 (⟨t321, t324, (⟨t325, t326, t327, t328⟩ : S39)⟩ : S41) [.slice Ao15 t321.length co15, .int .i64 t324, .int .i64 t325, .int .i64 t326, .int .i64 t327, .int .i64 t328] (fun _ => True) (fun k_ => some k_ = (.slice Ao15 t321.length co15 : Value).ownBlock) rfl rfl ?aP (fun k_ hk_ => ((Kd.R_mono (ok' := fun k_ => ((fun _ => True)) k_ ∧ some k_ ≠ (u7 : Value).ownBlock) (Kd.R_apart' (HO323.out) (Kd.S_typed HO_7.out) (by decide)) (fun k_ hk => ⟨trivial, hk.2⟩))).1 k_ hk_.symm) ?aF ?aO ?aB ?aS ?aL ?_; (case aP => exact k41_mkM _ _ _ (⟨t321, t324, (⟨t325, t326, t327, t328⟩ : S39)⟩ : S41) (Kd.R_mono (Kd.R_tight rfl (Kd.R_mono (ok' := fun k_ => ((fun _ => True)) k_ ∧ some k_ ≠ (u7 : Value).ownBlock) (Kd.R_apart' (HO323.out) (Kd.S_typed HO_7.out) (by decide)) (fun k_ hk => ⟨trivial, hk.2⟩))) (fun _ h_ => h_))); (case aB => exact bS); (case aF => exact (fun _ _ => trivial)); (case aO => exact (by (with_reducible repeat (first | apply Kd.S_alloc | apply Kd.S_drewN | apply Kd.S_drew)); exact Kd.S_mono HO_7.out (fun k_ hk => ⟨trivial, fun e_ => hk.2 e_⟩))); (case aS => exact (below_size bS)); (case aL => have := LMc11.out; omega); intro v330 w14 ho hb hg hat; rw [← Ny329.out] at ho; have HO331 := Aside0.mk (ho); replace HB := Aside0.mk (hb); clear HO_7 HO323; clear ho hb hg hat))
              go_roundg k1
              case measure => have := HK1.out; omega
              case rel => exact ⟨(y329), (wrap64 (x8_1 + 1)), (by first | rfl | (simp; done) | (simp [*]; done)), H', ⟨by have := HK1.out; omega⟩, ⟨by (with_reducible repeat (first | apply Kd.S_alloc | apply Kd.S_drewN | apply Kd.S_drew)); exact HO331.out⟩, ⟨bS⟩⟩
            · rw [if_neg c11] at H
              exact absurd H (by simp)
          · obtain rfl := Bool.eq_false_iff.mpr c9
            rw [if_neg nF] at H
            have H' := Aside0.mk H
            clear H
            have p318 : 0 ≤ (x8_1 : Int) := of_decide_eq_true (by first | (with_reducible assumption) | assumption)
            have q318 : x8_1 < (l0.length : Int) := of_decide_eq_true (by first | (with_reducible assumption) | assumption)
            obtain ⟨ad318, A318_0, c318_0, e318, hx318_0, hx318_1, hx318_2, hx318_3, hx318_4, hx318_5, hl318_0, hi318_0⟩ := at_T41 HR0.out x8_1 p318 q318
            cases e318
            replace hx318_0 := (HB.out.cell (World.block_lt_of_cell? w _ hx318_0)).trans hx318_0
            replace hx318_1 := (HB.out.cell (World.block_lt_of_cell? w _ hx318_1)).trans hx318_1
            replace hx318_2 := (HB.out.cell (World.block_lt_of_cell? w _ hx318_2)).trans hx318_2
            replace hx318_3 := (HB.out.cell (World.block_lt_of_cell? w _ hx318_3)).trans hx318_3
            replace hx318_4 := (HB.out.cell (World.block_lt_of_cell? w _ hx318_4)).trans hx318_4
            replace hx318_5 := (HB.out.cell (World.block_lt_of_cell? w _ hx318_5)).trans hx318_5
            have HR318_0 := Aside0.mk hi318_0
            have HC318_0 := Aside0.mk hl318_0
            clear hi318_0 hl318_0
            replace p318 := eq_true p318
            replace q318 := eq_true q318
            go_wp2_with (first | ((with_reducible refine gC 118 ?_); refine cL (some 22) Try.func118 #[.agg #[.slice A318_0 ((rd_T41 l0 x8_1).f0).length c318_0, .int .i64 ((rd_T41 l0 x8_1).f1), .int .i64 ((rd_T41 l0 x8_1).f2.f0), .int .i64 ((rd_T41 l0 x8_1).f2.f1), .int .i64 ((rd_T41 l0 x8_1).f2.f2), .int .i64 ((rd_T41 l0 x8_1).f2.f3)], .int .i64 a1, .int .i64 a2] ?_; (with_reducible refine (spec_TouchesBand.calls k1 _ _ ((rd_T41 l0 x8_1).f0) ((rd_T41 l0 x8_1).f1) ((rd_T41 l0 x8_1).f2.f0) ((rd_T41 l0 x8_1).f2.f1) ((rd_T41 l0 x8_1).f2.f2) ((rd_T41 l0 x8_1).f2.f3) a1 a2 _ _ ?side1 ?side2 A8.out).mono ?_); (case side1 => exact cS (Kd.C_below HR318_0.out HB.out)); (case side2 => exact HC318_0.out); rintro e w16 ⟨rfl, hb⟩; refine ⟨_, rfl, ?_⟩; replace HO_7 := Aside0.mk (Kd.S_below (by (with_reducible repeat (first | apply Kd.S_alloc | apply Kd.S_drewN | apply Kd.S_drew)); exact HO_7.out) hb); replace HB := hB hb; (try clear hb); (try clear hb2); (try clear hk); (try clear hi)))
            go_roundg k1
            case measure => have := HK1.out; omega
            case rel => exact ⟨(x7_1), (wrap64 (x8_1 + 1)), (by first | rfl | (simp; done) | (simp [*]; done)), H', ⟨by have := HK1.out; omega⟩, ⟨by (with_reducible repeat (first | apply Kd.S_alloc | apply Kd.S_drewN | apply Kd.S_drew)); exact HO_7.out⟩, ⟨bS⟩⟩
        · rw [if_neg c7] at H
          exact absurd H (by simp)
      · rw [if_neg c6] at H
        have c6b0 : decide (x8_1 < (l0.length : Int)) = false := decide_eq_false c6
        clear c6
        obtain rfl := Option.some.inj H
        go_wp2
        go_ret
        exact ⟨_, eS, by (with_reducible repeat (first | apply Kd.S_alloc | apply Kd.S_drewN | apply Kd.S_drew)); exact HO_7.out, bS⟩

/-! ### laws_markPointS: function 120 -/
def laws_markPointS.l0 : Nat → List (S166) → Int → Int → Option (Int × (List (S166)))
  | 0, _, _, _ => none
  | k + 1, x0, x1, x5 => if x5 < (x0.length : Int) then (if 0 ≤ x5 then ((some (x0.set (x5 : Int).toNat (⟨x1, (rd_T166 x0 x5).f1⟩ : S166) : List (S166))).bind fun y332 => (laws_markPointS.l0 k (y332.set (x5 : Int).toNat (⟨(rd_T166 y332 x5).f0, wrap64 (x1 + 1)⟩ : S166)) (wrap64 ((wrap64 (x1 + 1)) + 1)) (wrap64 (x5 + 1)))) else (none)) else (some (x1, x0))
def laws_markPointS.f (k : Nat) (l0 : List (S166)) (a1 : Int) : Option (Int × (List (S166))) := laws_markPointS.l0 k l0 a1 0
theorem laws_markPointS.calls (k : Nat) (P0_ : Nat → Prop) (u9000_ : Value) (l0 : List (S166)) (a1 : Int) (r1 : Int) (r2 : List (S166)) (w0 w : World) (hB : Below w0.heap.size w0 w) (ho0 : Kd.R k166 166 w w0.heap.size P0_ u9000_ l0) (h : laws_markPointS.f k l0 a1 = some (r1, r2)) :
    Calls Try.prog 120 #[u9000_, .int .i64 a1] w fun e w' => e = .returned (.int .i64 r1) ∧ Kd.R k166 166 w' w0.heap.size (fun k_ => (P0_ k_ ∨ w.heap.size ≤ k_)) u9000_ r2 ∧ Below w0.heap.size w0 w' ∧ Kept w w' (fun k_ => P0_ k_) := by
  have HO0 := Aside0.mk (show Kd.R k166 166 w w0.heap.size (fun k_ => (P0_ k_ ∨ w.heap.size ≤ k_)) u9000_ l0 from Kd.R_mono ho0 (fun k_ hk => (.inl hk)))
  have HK := Aside0.mk (Kept.refl w (fun k_ => P0_ k_))
  have HW0 := Aside0.mk hB.size
  have HB := Aside0.mk hB
  clear hB
  have H : (laws_markPointS.l0 k l0 a1 0) = some (r1, r2) := h
  clear h
  have H' := Aside0.mk H
  clear H
  go_enter Try.func120, Try.ntmps120
  go_wp2
  go_loopg [1, 5] k (fun kq v1 v5 w' => ∃ (x0_1 : List (S166)) (x1_1 : Int) (x5_1 : Int), v1 = .int .i64 x1_1 ∧ v5 = .int .i64 x5_1 ∧ Aside0 (laws_markPointS.l0 kq x0_1 x1_1 x5_1 = some (r1, r2)) ∧ Aside0 (kq ≤ k) ∧ Aside0 (Kd.R k166 166 w' w0.heap.size (fun k_ => (P0_ k_ ∨ w.heap.size ≤ k_)) u9000_ x0_1) ∧ Aside0 (Kept w w' (fun k_ => P0_ k_)) ∧ Aside0 (Below w0.heap.size w0 w'))
  case atStart => exact ⟨(l0), (a1), (0), (by first | rfl | (simp; done) | (simp [*]; done)), (by first | rfl | (simp; done) | (simp [*]; done)), H', ⟨Nat.le_refl _⟩, ⟨by (with_reducible repeat (first | apply Kd.R_alloc | apply Kd.R_drewN | apply Kd.R_drew)); exact HO0.out⟩, ⟨by repeat (first | (with_reducible first | exact HK.out | apply Kept.alloc | apply Kept.drewN | apply Kept.drew) | exact HK.out)⟩, ⟨bS⟩⟩
  case round =>
    clear H'
    try clear c1
    try clear p2
    obtain ⟨x0_1, x1_1, x5_1, rfl, rfl, HA, HK1, HO_0, HK, HB⟩ := hrel
    cases gk with
    | zero => exact absurd HA.out (by simp [laws_markPointS.l0])
    | succ k1 =>
      have H := HA.out
      clear HA
      simp only [laws_markPointS.l0] at H
      by_cases c3 : x5_1 < (x0_1.length : Int)
      · rw [if_pos c3] at H
        have c3b0 : decide (x5_1 < (x0_1.length : Int)) = true := decide_eq_true c3
        clear c3
        by_cases c4 : 0 ≤ x5_1
        · rw [if_pos c4] at H
          have c4b0 : decide (0 ≤ x5_1) = true := decide_eq_true c4
          clear c4
          obtain ⟨y332, hy332⟩ : ∃ y_ : List (S166), y_ = (x0_1.set (x5_1 : Int).toNat (⟨x1_1, (rd_T166 x0_1 x5_1).f1⟩ : S166)) := ⟨_, rfl⟩
          replace H : (laws_markPointS.l0 k1 (y332.set (x5_1 : Int).toNat (⟨(rd_T166 y332 x5_1).f0, wrap64 (x1_1 + 1)⟩ : S166)) (wrap64 ((wrap64 (x1_1 + 1)) + 1)) (wrap64 (x5_1 + 1))) = some (r1, r2) := by first | (rw [hy332]; with_reducible exact H) | (have H2_ := (Option.bind_some _ _).symm.trans H; rw [hy332]; with_reducible exact H2_) | (have H2_ := (Option.bind_some _ _).symm.trans H; with_reducible exact H2_) | with_reducible exact H | (rw [hy332]; exact H) | exact H
          have Ny332 := Aside0.mk hy332
          clear hy332
          obtain ⟨y333, hy333⟩ : ∃ y_ : List (S166), y_ = (y332.set (x5_1 : Int).toNat (⟨(rd_T166 y332 x5_1).f0, wrap64 (x1_1 + 1)⟩ : S166)) := ⟨_, rfl⟩
          replace H : (laws_markPointS.l0 k1 y333 (wrap64 ((wrap64 (x1_1 + 1)) + 1)) (wrap64 (x5_1 + 1))) = some (r1, r2) := by first | (rw [hy333]; with_reducible exact H) | (have H2_ := (Option.bind_some _ _).symm.trans H; rw [hy333]; with_reducible exact H2_) | (have H2_ := (Option.bind_some _ _).symm.trans H; with_reducible exact H2_) | with_reducible exact H | (rw [hy333]; exact H) | exact H
          have Ny333 := Aside0.mk hy333
          clear hy333
          have H' := Aside0.mk H
          clear H
          obtain ⟨Ao7, co7, eo7⟩ := Kd.R_slice HO_0.out
          subst eo7
          have p5 : 0 ≤ (x5_1 : Int) := of_decide_eq_true (by first | (with_reducible assumption) | assumption)
          have q5 : (x5_1 : Int) < ((x0_1.length : Int) : Int) := of_decide_eq_true (by first | (with_reducible assumption) | assumption)
          obtain ⟨go5, co5, eo5, gb5, gl5, cl5, HG5⟩ := Kd.R_form HO_0.out (by omega)
          (first | cases eo5 | (injection eo5 with ea_ en_ ec_; (first | subst ea_ | (injection ea_ with ea_; subst ea_)); subst ec_; clear en_))
          have GB5 := Aside0.mk gb5
          have GG5 := Aside0.mk HG5
          clear gb5 gl5 HG5
          have HMgo5 := Aside0.mk (show (P0_ go5 ∨ w.heap.size ≤ go5) from (HO_0.out.1 _ rfl))
          obtain ⟨ce5, hcl5, hM5, hcc5, hfr5⟩ := Kd.R_elem HO_0.out z166 (x5_1 : Int) p5 q5
          obtain rfl := k166_openM hM5
          have hx5_0 : wr.cell? ⟨go5, (x5_1 : Int).toNat * 2, none⟩ = some (.int .i64 ((rd_T166 x0_1 x5_1).f0)) := hcc5 0 _ rfl
          have hx5_1 : wr.cell? ⟨go5, (x5_1 : Int).toNat * 2 + 1, none⟩ = some (.int .i64 ((rd_T166 x0_1 x5_1).f1)) := hcc5 1 _ rfl
          have hf5_0 : wr.frozen? ⟨go5, (x5_1 : Int).toNat * 2, none⟩ = false := hfr5 0
          have hf5_1 : wr.frozen? ⟨go5, (x5_1 : Int).toNat * 2 + 1, none⟩ = false := hfr5 1
          (try clear hM5); clear hcl5 hcc5 hfr5
          replace p5 := eq_true p5
          replace q5 := eq_true q5
          have HX8 := Aside0.mk (show Kd.R k166 166 wr w0.heap.size (fun k_ => (P0_ k_ ∨ w.heap.size ≤ k_)) (.slice (some ⟨go5, 0, none⟩) x0_1.length co7) x0_1 from (rS HO_0))
          obtain ⟨ce8, hcl8, hM8, hcc8, hfr8⟩ := Kd.R_elem HX8.out z166 (x5_1 : Int) (of_decide_eq_true (by first | (with_reducible assumption) | assumption)) (by have h_ : (x5_1 : Int) < ((x0_1.length : Int) : Int) := of_decide_eq_true (by first | (with_reducible assumption) | assumption); first | exact h_ | (have e_ := (Kd.R_reads' HO_0.out).1; omega) | simpa using h_)
          obtain rfl := k166_openM hM8
          have HP8 := Kd.R_seg HX8.out (x5_1 : Int) (of_decide_eq_true (by first | (with_reducible assumption) | assumption)) (by have h_ : (x5_1 : Int) < ((x0_1.length : Int) : Int) := of_decide_eq_true (by first | (with_reducible assumption) | assumption); first | exact h_ | (have e_ := (Kd.R_reads' HO_0.out).1; omega) | simpa using h_) (seg := [.int .i64 x1_1]) (j := 0) hcl8 hcc8 (show 1 ≤ 2 from by decide) (x' := (⟨x1_1, (rd_T166 x0_1 x5_1).f1⟩ : S166)) (k166_mkM _ _ _ (⟨x1_1, (rd_T166 x0_1 x5_1).f1⟩ : S166) ) (fun _ hk => hk)
          have hx8_0 := hcc8 0 _ rfl
          (try simp only [show (k166).sz = 2 from rfl, Nat.mul_one, Nat.add_zero] at hx8_0)
          have hf8_0 := hfr8 0
          (try simp only [show (k166).sz = 2 from rfl, Nat.mul_one, Nat.add_zero] at hf8_0)
          (try clear hM8); clear hcl8 hcc8 hfr8
          go_wp2_with (first | ((with_reducible refine gate_store (t := 3) (p := 16) rfl ?_); refine store_event (t := 3) (p := 16) (v := ?vo_w9) (w1 := (wr.setCell ⟨go5, (x5_1 : Int).toNat * 2, none⟩ (.int .i64 x1_1))) ?hg ?ho ?hn ?hr ?_; (case ho => rfl); (case hg => rfl); (case hn => rfl); (case hr => first | (go_simp; done) | (go_simp; rfl)); intro w9 hw; have hg : wr.grownBy w9 (some go5) := (by rw [hw]; exact HP8.2); have hp_ : Kd.R k166 166 w9 w0.heap.size (fun k_ => (P0_ k_ ∨ w.heap.size ≤ k_)) (.slice (some ⟨go5, 0, none⟩) x0_1.length co7) y332 := (by rw [hw, Ny332.out]; exact HP8.1); clear HP8; replace HB := Aside0.mk ((by rw [hw]; exact below_set (HB.out) GB5.out : Below w0.heap.size w0 w9)); replace HK := Aside0.mk (Kept.of_grown (S := (fun k_ => P0_ k_)) hg (by repeat (first | (with_reducible first | exact HK.out | apply Kept.alloc | apply Kept.drewN | apply Kept.drew) | exact HK.out)) (fun k_ e_ => (HO_0.out.1 k_ e_))); replace HO_0 := Aside0.mk (hp_); clear hg hw hp_; have p6 : 0 ≤ (x5_1 : Int) := of_decide_eq_true (by first | (with_reducible assumption) | assumption); have q6 : (x5_1 : Int) < ((x0_1.length : Int) : Int) := of_decide_eq_true (by first | (with_reducible assumption) | assumption); obtain ⟨ce6, hcl6, hM6, hcc6, hfr6⟩ := Kd.R_elem HO_0.out z166 (x5_1 : Int) p6 q6; obtain rfl := k166_openM hM6; have hx6_0 : w9.cell? ⟨go5, (x5_1 : Int).toNat * 2, none⟩ = some (.int .i64 ((rd_T166 y332 x5_1).f0)) := hcc6 0 _ rfl; have hx6_1 : w9.cell? ⟨go5, (x5_1 : Int).toNat * 2 + 1, none⟩ = some (.int .i64 ((rd_T166 y332 x5_1).f1)) := hcc6 1 _ rfl; have hf6_0 : w9.frozen? ⟨go5, (x5_1 : Int).toNat * 2, none⟩ = false := hfr6 0; have hf6_1 : w9.frozen? ⟨go5, (x5_1 : Int).toNat * 2 + 1, none⟩ = false := hfr6 1; (try clear hM6); clear hcl6 hcc6 hfr6; replace p6 := eq_true p6; replace q6 := eq_true q6; have HX10 := Aside0.mk (show Kd.R k166 166 w9 w0.heap.size (fun k_ => (P0_ k_ ∨ w.heap.size ≤ k_)) (.slice (some ⟨go5, 0, none⟩) x0_1.length co7) y332 from (rS HO_0)); obtain ⟨ce10, hcl10, hM10, hcc10, hfr10⟩ := Kd.R_elem HX10.out z166 (x5_1 : Int) (of_decide_eq_true (by first | (with_reducible assumption) | assumption)) (by have h_ : (x5_1 : Int) < ((x0_1.length : Int) : Int) := of_decide_eq_true (by first | (with_reducible assumption) | assumption); first | exact h_ | (have e_ := (Kd.R_reads' HO_0.out).1; omega) | simpa using h_); obtain rfl := k166_openM hM10; have HP10 := Kd.R_seg HX10.out (x5_1 : Int) (of_decide_eq_true (by first | (with_reducible assumption) | assumption)) (by have h_ : (x5_1 : Int) < ((x0_1.length : Int) : Int) := of_decide_eq_true (by first | (with_reducible assumption) | assumption); first | exact h_ | (have e_ := (Kd.R_reads' HO_0.out).1; omega) | simpa using h_) (seg := [.int .i64 (wrap64 (x1_1 + 1))]) (j := 1) hcl10 hcc10 (show 2 ≤ 2 from by decide) (x' := (⟨(rd_T166 y332 x5_1).f0, wrap64 (x1_1 + 1)⟩ : S166)) (k166_mkM _ _ _ (⟨(rd_T166 y332 x5_1).f0, wrap64 (x1_1 + 1)⟩ : S166) ) (fun _ hk => hk); have hx10_1 := hcc10 1 _ rfl; (try simp only [show (k166).sz = 2 from rfl, Nat.mul_one, Nat.add_zero] at hx10_1); have hf10_1 := hfr10 1; (try simp only [show (k166).sz = 2 from rfl, Nat.mul_one, Nat.add_zero] at hf10_1); (try clear hM10); clear hcl10 hcc10 hfr10) | ((with_reducible refine gate_store (t := 3) (p := 23) rfl ?_); refine store_event (t := 3) (p := 23) (v := ?vo_w11) (w1 := (w9.setCell ⟨go5, (x5_1 : Int).toNat * 2 + 1, none⟩ (.int .i64 (wrap64 (x1_1 + 1))))) ?hg ?ho ?hn ?hr ?_; (case ho => rfl); (case hg => rfl); (case hn => rfl); (case hr => first | (go_simp; done) | (go_simp; rfl)); intro w11 hw; have hg : w9.grownBy w11 (some go5) := (by rw [hw]; exact HP10.2); have hp_ : Kd.R k166 166 w11 w0.heap.size (fun k_ => (P0_ k_ ∨ w.heap.size ≤ k_)) (.slice (some ⟨go5, 0, none⟩) x0_1.length co7) y333 := (by rw [hw, Ny333.out]; exact HP10.1); clear HP10; replace HB := Aside0.mk ((by rw [hw]; exact below_set (HB.out) GB5.out : Below w0.heap.size w0 w11)); replace HK := Aside0.mk (Kept.of_grown (S := (fun k_ => P0_ k_)) hg (by repeat (first | (with_reducible first | exact HK.out | apply Kept.alloc | apply Kept.drewN | apply Kept.drew) | exact HK.out)) (fun k_ e_ => (HO_0.out.1 k_ e_))); replace HO_0 := Aside0.mk (hp_); clear hg hw hp_))
          go_roundg k1
          case measure => have := HK1.out; omega
          case rel => exact ⟨(y333), (wrap64 ((wrap64 (x1_1 + 1)) + 1)), (wrap64 (x5_1 + 1)), (by first | rfl | (simp; done) | (simp [*]; done)), (by first | rfl | (simp; done) | (simp [*]; done)), H', ⟨by have := HK1.out; omega⟩, ⟨by (with_reducible repeat (first | apply Kd.R_alloc | apply Kd.R_drewN | apply Kd.R_drew)); exact HO_0.out⟩, ⟨by repeat (first | (with_reducible first | exact HK.out | apply Kept.alloc | apply Kept.drewN | apply Kept.drew) | exact HK.out)⟩, ⟨bS⟩⟩
        · rw [if_neg c4] at H
          exact absurd H (by simp)
      · rw [if_neg c3] at H
        have c3b0 : decide (x5_1 < (x0_1.length : Int)) = false := decide_eq_false c3
        clear c3
        simp only [Option.some.injEq, Prod.mk.injEq] at H
        obtain ⟨rfl, rfl⟩ := H
        obtain ⟨Ao12, co12, eo12⟩ := Kd.R_slice HO_0.out
        subst eo12
        go_wp2
        go_ret
        exact ⟨eS, by (with_reducible repeat (first | apply Kd.R_alloc | apply Kd.R_drewN | apply Kd.R_drew)); exact HO_0.out, bS, by repeat (first | (with_reducible first | exact HK.out | apply Kept.alloc | apply Kept.drewN | apply Kept.drew) | exact HK.out)⟩

/-! ### laws_markObjectS: function 68 -/
def laws_markObjectS.l0 : Nat → List S41 → Int → Int → Option (Int × (List S41))
  | 0, _, _, _ => none
  | k + 1, x0, x1, x5 => if x5 < (x0.length : Int) then (if 0 ≤ x5 then ((laws_markPointS.f k (x0.getD x5.toNat z41).f0 (x1)).bind fun bt => (laws_markObjectS.l0 k (x0.set (x5 : Int).toNat (⟨bt.2, bt.1, (⟨wrap64 (bt.1 + 1), wrap64 ((wrap64 (bt.1 + 1)) + 1), wrap64 ((wrap64 ((wrap64 (bt.1 + 1)) + 1)) + 1), wrap64 ((wrap64 ((wrap64 ((wrap64 (bt.1 + 1)) + 1)) + 1)) + 1)⟩ : S39)⟩ : S41)) (wrap64 ((wrap64 ((wrap64 ((wrap64 ((wrap64 (bt.1 + 1)) + 1)) + 1)) + 1)) + 1)) (wrap64 (x5 + 1)))) else (none)) else (some (x1, x0))
def laws_markObjectS.f (k : Nat) (l0 : List S41) (a1 : Int) : Option (Int × (List S41)) := laws_markObjectS.l0 k l0 a1 0
theorem laws_markObjectS.calls (k : Nat) (P0_ : Nat → Prop) (u9000_ : Value) (l0 : List S41) (a1 : Int) (r1 : Int) (r2 : List S41) (w0 w : World) (hB : Below w0.heap.size w0 w) (ho0 : Kd.S k41 41 w w0.heap.size P0_ u9000_ l0) (h : laws_markObjectS.f k l0 a1 = some (r1, r2)) :
    Calls Try.prog 68 #[u9000_, .int .i64 a1] w fun e w' => e = .returned (.int .i64 r1) ∧ Kd.S k41 41 w' w0.heap.size (fun k_ => (P0_ k_ ∨ w.heap.size ≤ k_)) u9000_ r2 ∧ Below w0.heap.size w0 w' ∧ Kept w w' (fun k_ => P0_ k_) := by
  have HO0 := Aside0.mk (show Kd.S k41 41 w w0.heap.size (fun k_ => (P0_ k_ ∨ w.heap.size ≤ k_)) u9000_ l0 from Kd.S_mono ho0 (fun k_ hk => (.inl hk)))
  have HK := Aside0.mk (Kept.refl w (fun k_ => P0_ k_))
  have HB := Aside0.mk hB
  clear hB ho0
  have H' := Aside0.mk (show laws_markObjectS.l0 k l0 a1 0 = some (r1, r2) from h)
  clear h
  have hu41 := Try.underlying41
  have hu39 := Try.underlying39
  go_enter Try.func68, Try.ntmps68
  go_wp2
  go_loopg [1, 5] k (fun kq v1 v5 w' => ∃ (x0_1 : List S41) (x1_1 : Int) (x5_1 : Int), v1 = .int .i64 x1_1 ∧ v5 = .int .i64 x5_1 ∧ Aside0 (laws_markObjectS.l0 kq x0_1 x1_1 x5_1 = some (r1, r2)) ∧ Aside0 (kq ≤ k) ∧ Aside0 (Kd.S k41 41 w' w0.heap.size (fun k_ => (P0_ k_ ∨ w.heap.size ≤ k_)) u9000_ x0_1) ∧ Aside0 (Kept w w' (fun k_ => P0_ k_)) ∧ Aside0 (Below w0.heap.size w0 w'))
  case atStart => exact ⟨(l0), (a1), (0), rfl, rfl, H', ⟨Nat.le_refl _⟩, HO0, HK, HB⟩
  case round =>
    clear H' HO0
    obtain ⟨x0_1, x1_1, x5_1, rfl, rfl, HA, HK1, HO_0, HK, HB⟩ := hrel
    cases gk with
    | zero => exact absurd HA.out (by simp [laws_markObjectS.l0])
    | succ k1 =>
      have H := HA.out
      clear HA
      simp only [laws_markObjectS.l0] at H
      by_cases c3 : x5_1 < (x0_1.length : Int)
      · rw [if_pos c3] at H
        have c3b0 : decide (x5_1 < (x0_1.length : Int)) = true := decide_eq_true c3
        by_cases c4 : 0 ≤ x5_1
        · rw [if_pos c4] at H
          replace H := bN H
          obtain ⟨⟨t1, t2⟩, A5, H⟩ := H
          have H' := Aside0.mk H
          clear H
          have HG := Aside0.mk (show ∀ k_, u9000_.ownBlock = some k_ → (P0_ k_ ∨ w.heap.size ≤ k_) from (Kd.S_R HO_0.out).1)
          obtain ⟨go5, co5, rfl, gb5, gl5, _⟩ := Kd.S_form HO_0.out (by omega)
          replace HG := Aside0.mk (HG.out go5 rfl)
          obtain ⟨oki, c, _, hM, _, _, hoki, hH⟩ := Kd.S_elem HO_0.out z41 x5_1 c4 c3
          obtain ⟨v0, rfl, hR⟩ := k41_openM hM
          obtain ⟨Ai, ci, rfl⟩ := Kd.R_slice hR
          clear hM
          generalize hxi : (x0_1.getD x5_1.toNat z41).f0 = xi at A5 hR hH
          clear hxi
          generalize (x0_1.getD x5_1.toNat z41).f1 = y1 at hH
          generalize (x0_1.getD x5_1.toNat z41).f2.f0 = y2 at hH
          generalize (x0_1.getD x5_1.toNat z41).f2.f1 = y3 at hH
          generalize (x0_1.getD x5_1.toNat z41).f2.f2 = y4 at hH
          generalize (x0_1.getD x5_1.toNat z41).f2.f3 = y5 at hH
          have HH : Aside0 (Kd.H k41 41 wr w0.heap.size (fun k_ => (P0_ k_ ∨ w.heap.size ≤ k_)) (.slice (some ⟨go5, 0, none⟩) x0_1.length co5) x0_1 x5_1 oki [.slice Ai xi.length ci, .int .i64 y1, .int .i64 y2, .int .i64 y3, .int .i64 y4, .int .i64 y5]) := ⟨hH⟩
          have HR := Aside0.mk hR
          have HI := Aside0.mk hoki
          have HF := Aside0.mk (fun k_ (h_ : oki k_) => (hoki k_ h_).2)
          have GB := Aside0.mk gb5
          have P5 := Aside0.mk c4
          have Q5 := Aside0.mk c3
          clear hoki hH hR HO_0 gb5 gl5
          have p5 := eq_true c4
          have q5 := eq_true c3
          clear c3 c4
          have hs : wr.cell? ⟨go5, (x5_1 : Int).toNat * 6, none⟩ = some (.slice Ai xi.length ci) := (H_cells HH.out P5.out Q5.out).1 0 _ rfl; have hf : wr.frozen? ⟨go5, (x5_1 : Int).toNat * 6, none⟩ = false := (H_cells HH.out P5.out Q5.out).2 0
          go_wp2_with (first | ((with_reducible refine gC 120 ?_); refine cL (some 18) Try.func120 #[.slice Ai xi.length ci, .int .i64 (x1_1)] ?_; (with_reducible refine (laws_markPointS.calls k1 oki _ xi (x1_1) t1 t2 w0 _ HB.out HR.out A5.out).mono ?_); rintro e wz0 ⟨rfl, hi, hb, hkp⟩; refine ⟨_, rfl, ?_⟩; (try clear hs hf); have HN := fun k_ (h_ : wr.heap.size ≤ k_) => (Or.inr (Nat.le_trans HK.out.1 h_) : P0_ k_ ∨ w.heap.size ≤ k_); have GL := H_lt HH.out P5.out Q5.out; replace HF : Aside0 (∀ k_, (oki k_ ∨ wr.heap.size ≤ k_) → k_ ≠ go5) := ⟨fun k_ h_ => h_.elim (HF.out k_) (fun h2 e_ => by omega)⟩; replace HH : Aside0 (Kd.H k41 41 wz0 w0.heap.size (fun k_ => (P0_ k_ ∨ w.heap.size ≤ k_)) (.slice (some ⟨go5, 0, none⟩) x0_1.length co5) x0_1 x5_1 (fun k_ => oki k_ ∨ wr.heap.size ≤ k_) [.slice Ai xi.length ci, .int .i64 y1, .int .i64 y2, .int .i64 y3, .int .i64 y4, .int .i64 y5]) := ⟨H_lent HH.out hkp HN⟩; replace HR := Aside0.mk hi; replace HK := Aside0.mk (Kept.then_ HK.out hkp (fun k_ hk => (HI.out k_ hk).1)); replace HB := Aside0.mk hb; clear hi hb hkp HN GL; have hs : wz0.cell? ⟨go5, (x5_1 : Int).toNat * 6 + 1, none⟩ = some (.int .i64 y1) := (H_cells HH.out P5.out Q5.out).1 1 _ rfl; have hf : wz0.frozen? ⟨go5, (x5_1 : Int).toNat * 6 + 1, none⟩ = false := (H_cells HH.out P5.out Q5.out).2 1) | ((with_reducible refine gate_store (t := 3) (p := 23) rfl ?_); refine store_event (t := 3) (p := 23) (v := ?vo_wz1) (w1 := (wz0.setCell ⟨go5, (x5_1 : Int).toNat * 6 + 1, none⟩ (.int .i64 (t1)))) ?hg ?ho ?hn ?hr ?_; (case ho => rfl); (case hg => rfl); (case hn => rfl); (case hr => first | (go_simp; done) | (go_simp; rfl)); intro wz1 hw; have h_ := H_put HH.out P5.out Q5.out 1 (by decide) rfl (.int .i64 (t1)) rfl; replace HH : Aside0 (Kd.H k41 41 wz1 w0.heap.size (fun k_ => (P0_ k_ ∨ w.heap.size ≤ k_)) (.slice (some ⟨go5, 0, none⟩) x0_1.length co5) x0_1 x5_1 (fun k_ => oki k_ ∨ wr.heap.size ≤ k_) [.slice Ai xi.length ci, .int .i64 (t1), .int .i64 y2, .int .i64 y3, .int .i64 y4, .int .i64 y5]) := ⟨by rw [hw]; exact h_.1⟩; replace HR : Aside0 (Kd.R k166 166 wz1 w0.heap.size (fun k_ => oki k_ ∨ wr.heap.size ≤ k_) (.slice Ai xi.length ci) t2) := ⟨by rw [hw]; exact Kd.R_far HR.out HF.out _⟩; replace HK : Aside0 (Kept w wz1 (fun k_ => P0_ k_)) := ⟨by rw [hw]; exact Kept.setCell HK.out HG.out _⟩; replace HB : Aside0 (Below w0.heap.size w0 wz1) := ⟨by rw [hw]; exact below_set HB.out GB.out⟩; clear h_ hw hs hf; have hs : wz1.cell? ⟨go5, (x5_1 : Int).toNat * 6 + 2, none⟩ = some (.int .i64 y2) := (H_cells HH.out P5.out Q5.out).1 2 _ rfl; have hf : wz1.frozen? ⟨go5, (x5_1 : Int).toNat * 6 + 2, none⟩ = false := (H_cells HH.out P5.out Q5.out).2 2) | ((with_reducible refine gate_store (t := 3) (p := 31) rfl ?_); refine store_event (t := 3) (p := 31) (v := ?vo_wz2) (w1 := (wz1.setCell ⟨go5, (x5_1 : Int).toNat * 6 + 2, none⟩ (.int .i64 (wrap64 (t1 + 1))))) ?hg ?ho ?hn ?hr ?_; (case ho => rfl); (case hg => rfl); (case hn => rfl); (case hr => first | (go_simp; done) | (go_simp; rfl)); intro wz2 hw; have h_ := H_put HH.out P5.out Q5.out 2 (by decide) rfl (.int .i64 (wrap64 (t1 + 1))) rfl; replace HH : Aside0 (Kd.H k41 41 wz2 w0.heap.size (fun k_ => (P0_ k_ ∨ w.heap.size ≤ k_)) (.slice (some ⟨go5, 0, none⟩) x0_1.length co5) x0_1 x5_1 (fun k_ => oki k_ ∨ wr.heap.size ≤ k_) [.slice Ai xi.length ci, .int .i64 (t1), .int .i64 (wrap64 (t1 + 1)), .int .i64 y3, .int .i64 y4, .int .i64 y5]) := ⟨by rw [hw]; exact h_.1⟩; replace HR : Aside0 (Kd.R k166 166 wz2 w0.heap.size (fun k_ => oki k_ ∨ wr.heap.size ≤ k_) (.slice Ai xi.length ci) t2) := ⟨by rw [hw]; exact Kd.R_far HR.out HF.out _⟩; replace HK : Aside0 (Kept w wz2 (fun k_ => P0_ k_)) := ⟨by rw [hw]; exact Kept.setCell HK.out HG.out _⟩; replace HB : Aside0 (Below w0.heap.size w0 wz2) := ⟨by rw [hw]; exact below_set HB.out GB.out⟩; clear h_ hw hs hf; have hs : wz2.cell? ⟨go5, (x5_1 : Int).toNat * 6 + 3, none⟩ = some (.int .i64 y3) := (H_cells HH.out P5.out Q5.out).1 3 _ rfl; have hf : wz2.frozen? ⟨go5, (x5_1 : Int).toNat * 6 + 3, none⟩ = false := (H_cells HH.out P5.out Q5.out).2 3) | ((with_reducible refine gate_store (t := 3) (p := 39) rfl ?_); refine store_event (t := 3) (p := 39) (v := ?vo_wz3) (w1 := (wz2.setCell ⟨go5, (x5_1 : Int).toNat * 6 + 3, none⟩ (.int .i64 (wrap64 ((wrap64 (t1 + 1)) + 1))))) ?hg ?ho ?hn ?hr ?_; (case ho => rfl); (case hg => rfl); (case hn => rfl); (case hr => first | (go_simp; done) | (go_simp; rfl)); intro wz3 hw; have h_ := H_put HH.out P5.out Q5.out 3 (by decide) rfl (.int .i64 (wrap64 ((wrap64 (t1 + 1)) + 1))) rfl; replace HH : Aside0 (Kd.H k41 41 wz3 w0.heap.size (fun k_ => (P0_ k_ ∨ w.heap.size ≤ k_)) (.slice (some ⟨go5, 0, none⟩) x0_1.length co5) x0_1 x5_1 (fun k_ => oki k_ ∨ wr.heap.size ≤ k_) [.slice Ai xi.length ci, .int .i64 (t1), .int .i64 (wrap64 (t1 + 1)), .int .i64 (wrap64 ((wrap64 (t1 + 1)) + 1)), .int .i64 y4, .int .i64 y5]) := ⟨by rw [hw]; exact h_.1⟩; replace HR : Aside0 (Kd.R k166 166 wz3 w0.heap.size (fun k_ => oki k_ ∨ wr.heap.size ≤ k_) (.slice Ai xi.length ci) t2) := ⟨by rw [hw]; exact Kd.R_far HR.out HF.out _⟩; replace HK : Aside0 (Kept w wz3 (fun k_ => P0_ k_)) := ⟨by rw [hw]; exact Kept.setCell HK.out HG.out _⟩; replace HB : Aside0 (Below w0.heap.size w0 wz3) := ⟨by rw [hw]; exact below_set HB.out GB.out⟩; clear h_ hw hs hf; have hs : wz3.cell? ⟨go5, (x5_1 : Int).toNat * 6 + 4, none⟩ = some (.int .i64 y4) := (H_cells HH.out P5.out Q5.out).1 4 _ rfl; have hf : wz3.frozen? ⟨go5, (x5_1 : Int).toNat * 6 + 4, none⟩ = false := (H_cells HH.out P5.out Q5.out).2 4) | ((with_reducible refine gate_store (t := 3) (p := 47) rfl ?_); refine store_event (t := 3) (p := 47) (v := ?vo_wz4) (w1 := (wz3.setCell ⟨go5, (x5_1 : Int).toNat * 6 + 4, none⟩ (.int .i64 (wrap64 ((wrap64 ((wrap64 (t1 + 1)) + 1)) + 1))))) ?hg ?ho ?hn ?hr ?_; (case ho => rfl); (case hg => rfl); (case hn => rfl); (case hr => first | (go_simp; done) | (go_simp; rfl)); intro wz4 hw; have h_ := H_put HH.out P5.out Q5.out 4 (by decide) rfl (.int .i64 (wrap64 ((wrap64 ((wrap64 (t1 + 1)) + 1)) + 1))) rfl; replace HH : Aside0 (Kd.H k41 41 wz4 w0.heap.size (fun k_ => (P0_ k_ ∨ w.heap.size ≤ k_)) (.slice (some ⟨go5, 0, none⟩) x0_1.length co5) x0_1 x5_1 (fun k_ => oki k_ ∨ wr.heap.size ≤ k_) [.slice Ai xi.length ci, .int .i64 (t1), .int .i64 (wrap64 (t1 + 1)), .int .i64 (wrap64 ((wrap64 (t1 + 1)) + 1)), .int .i64 (wrap64 ((wrap64 ((wrap64 (t1 + 1)) + 1)) + 1)), .int .i64 y5]) := ⟨by rw [hw]; exact h_.1⟩; replace HR : Aside0 (Kd.R k166 166 wz4 w0.heap.size (fun k_ => oki k_ ∨ wr.heap.size ≤ k_) (.slice Ai xi.length ci) t2) := ⟨by rw [hw]; exact Kd.R_far HR.out HF.out _⟩; replace HK : Aside0 (Kept w wz4 (fun k_ => P0_ k_)) := ⟨by rw [hw]; exact Kept.setCell HK.out HG.out _⟩; replace HB : Aside0 (Below w0.heap.size w0 wz4) := ⟨by rw [hw]; exact below_set HB.out GB.out⟩; clear h_ hw hs hf; have hs : wz4.cell? ⟨go5, (x5_1 : Int).toNat * 6 + 5, none⟩ = some (.int .i64 y5) := (H_cells HH.out P5.out Q5.out).1 5 _ rfl; have hf : wz4.frozen? ⟨go5, (x5_1 : Int).toNat * 6 + 5, none⟩ = false := (H_cells HH.out P5.out Q5.out).2 5) | ((with_reducible refine gate_store (t := 3) (p := 55) rfl ?_); refine store_event (t := 3) (p := 55) (v := ?vo_wz5) (w1 := (wz4.setCell ⟨go5, (x5_1 : Int).toNat * 6 + 5, none⟩ (.int .i64 (wrap64 ((wrap64 ((wrap64 ((wrap64 (t1 + 1)) + 1)) + 1)) + 1))))) ?hg ?ho ?hn ?hr ?_; (case ho => rfl); (case hg => rfl); (case hn => rfl); (case hr => first | (go_simp; done) | (go_simp; rfl)); intro wz5 hw; have h_ := H_put HH.out P5.out Q5.out 5 (by decide) rfl (.int .i64 (wrap64 ((wrap64 ((wrap64 ((wrap64 (t1 + 1)) + 1)) + 1)) + 1))) rfl; replace HH : Aside0 (Kd.H k41 41 wz5 w0.heap.size (fun k_ => (P0_ k_ ∨ w.heap.size ≤ k_)) (.slice (some ⟨go5, 0, none⟩) x0_1.length co5) x0_1 x5_1 (fun k_ => oki k_ ∨ wr.heap.size ≤ k_) [.slice Ai xi.length ci, .int .i64 (t1), .int .i64 (wrap64 (t1 + 1)), .int .i64 (wrap64 ((wrap64 (t1 + 1)) + 1)), .int .i64 (wrap64 ((wrap64 ((wrap64 (t1 + 1)) + 1)) + 1)), .int .i64 (wrap64 ((wrap64 ((wrap64 ((wrap64 (t1 + 1)) + 1)) + 1)) + 1))]) := ⟨by rw [hw]; exact h_.1⟩; replace HR : Aside0 (Kd.R k166 166 wz5 w0.heap.size (fun k_ => oki k_ ∨ wr.heap.size ≤ k_) (.slice Ai xi.length ci) t2) := ⟨by rw [hw]; exact Kd.R_far HR.out HF.out _⟩; replace HK : Aside0 (Kept w wz5 (fun k_ => P0_ k_)) := ⟨by rw [hw]; exact Kept.setCell HK.out HG.out _⟩; replace HB : Aside0 (Below w0.heap.size w0 wz5) := ⟨by rw [hw]; exact below_set HB.out GB.out⟩; clear h_ hw hs hf))
          go_roundg k1
          case measure => have := HK1.out; omega
          case rel => exact ⟨x0_1.set (x5_1 : Int).toNat (⟨t2, t1, (⟨wrap64 (t1 + 1), wrap64 ((wrap64 (t1 + 1)) + 1), wrap64 ((wrap64 ((wrap64 (t1 + 1)) + 1)) + 1), wrap64 ((wrap64 ((wrap64 ((wrap64 (t1 + 1)) + 1)) + 1)) + 1)⟩ : S39)⟩ : S41), (wrap64 ((wrap64 ((wrap64 ((wrap64 ((wrap64 (t1 + 1)) + 1)) + 1)) + 1)) + 1)), wrap64 (x5_1 + 1), (by first | rfl | (simp; done) | (simp [*]; done)), (by first | rfl | (simp; done) | (simp [*]; done)), H', ⟨by have := HK1.out; omega⟩, ⟨Kd.H_back HH.out (k41_mkM _ _ _ ((⟨t2, t1, (⟨wrap64 (t1 + 1), wrap64 ((wrap64 (t1 + 1)) + 1), wrap64 ((wrap64 ((wrap64 (t1 + 1)) + 1)) + 1), wrap64 ((wrap64 ((wrap64 ((wrap64 (t1 + 1)) + 1)) + 1)) + 1)⟩ : S39)⟩ : S41) : S41) HR.out) (fun _ hk => hk)⟩, HK, HB⟩
        · rw [if_neg c4] at H
          exact absurd H (by simp)
      · rw [if_neg c3] at H
        have c3b0 : decide (x5_1 < (x0_1.length : Int)) = false := decide_eq_false c3
        clear c3
        simp only [Option.some.injEq, Prod.mk.injEq] at H
        obtain ⟨rfl, rfl⟩ := H
        obtain ⟨Ao9, co9, eo9⟩ := Kd.S_slice HO_0.out
        subst eo9
        go_wp2
        go_ret
        exact ⟨eS, HO_0.out, HB.out, HK.out⟩


/-! ### laws_heldPointS: function 121 -/
def laws_heldPointS.l0 : Nat → List (S166) → Int → Int → Option (Int)
  | 0, _, _, _ => none
  | k + 1, x0, x1, x5 => if x5 < (x0.length : Int) then (if 0 ≤ x5 then (if ((rd_T166 x0 x5).f0) = x1 then (if ((rd_T166 x0 x5).f1) = (wrap64 (x1 + 1)) then (laws_heldPointS.l0 k x0 (wrap64 ((wrap64 (x1 + 1)) + 1)) (wrap64 (x5 + 1))) else (some (-1))) else (some (-1))) else (none)) else (some x1)
def laws_heldPointS.f (k : Nat) (l0 : List (S166)) (a1 : Int) : Option (Int) := laws_heldPointS.l0 k l0 a1 0
theorem laws_heldPointS.calls (k : Nat) (A0 : Option Addr) (c0 : Nat) (l0 : List (S166)) (a1 : Int) (r : Int) (w : World) (hr0 : Kd.C k166 w A0 l0.length l0) (hc0 : l0.length ≤ c0) (h : laws_heldPointS.f k l0 a1 = some r) :
    Calls Try.prog 121 #[.slice A0 l0.length c0, .int .i64 a1] w fun e w' => e = .returned (.int .i64 r) ∧ Drawn0 w w' := by
  have HR0 := Aside0.mk hr0
  have HC0 := Aside0.mk hc0
  clear hr0 hc0
  have H : (laws_heldPointS.l0 k l0 a1 0) = some r := h
  clear h
  have H' := Aside0.mk H
  clear H
  go_enter Try.func121, Try.ntmps121
  go_wp2
  go_loopg [1, 5] k (fun kq v1 v5 w' => ∃ (x1_1 : Int) (x5_1 : Int), v1 = .int .i64 x1_1 ∧ v5 = .int .i64 x5_1 ∧ Aside0 (laws_heldPointS.l0 kq l0 x1_1 x5_1 = some r) ∧ Aside0 (kq ≤ k) ∧ Drawn0 w w')
  case atStart => exact ⟨(a1), (0), (by first | rfl | (simp; done) | (simp [*]; done)), (by first | rfl | (simp; done) | (simp [*]; done)), H', ⟨Nat.le_refl _⟩, by repeat (first | exact Drawn0.refl _ | apply Drawn0.step)⟩
  case round =>
    clear H'
    try clear c1
    try clear p2
    obtain ⟨x1_1, x5_1, rfl, rfl, HA, HK1, ⟨m1, rfl⟩⟩ := hrel
    cases gk with
    | zero => exact absurd HA.out (by simp [laws_heldPointS.l0])
    | succ k1 =>
      have H := HA.out
      clear HA
      simp only [laws_heldPointS.l0] at H
      by_cases c3 : x5_1 < (l0.length : Int)
      · rw [if_pos c3] at H
        have c3b0 : decide (x5_1 < (l0.length : Int)) = true := decide_eq_true c3
        clear c3
        by_cases c4 : 0 ≤ x5_1
        · rw [if_pos c4] at H
          have c4b0 : decide (0 ≤ x5_1) = true := decide_eq_true c4
          clear c4
          by_cases c5 : ((rd_T166 l0 x5_1).f0) = x1_1
          · rw [if_pos c5] at H
            have c5b0 : (((rd_T166 l0 x5_1).f0) == x1_1) = true := beq_iff_eq.mpr c5
            have c5b1 : (((rd_T166 l0 x5_1).f0) != x1_1) = false := bne_eq_false_iff_eq.mpr c5
            clear c5
            by_cases c6 : ((rd_T166 l0 x5_1).f1) = (wrap64 (x1_1 + 1))
            · rw [if_pos c6] at H
              have c6b0 : (((rd_T166 l0 x5_1).f1) == (wrap64 (x1_1 + 1))) = true := beq_iff_eq.mpr c6
              have c6b1 : (((rd_T166 l0 x5_1).f1) != (wrap64 (x1_1 + 1))) = false := bne_eq_false_iff_eq.mpr c6
              clear c6
              have H' := Aside0.mk H
              clear H
              have p334 : 0 ≤ (x5_1 : Int) := of_decide_eq_true (by first | (with_reducible assumption) | assumption)
              have q334 : x5_1 < (l0.length : Int) := of_decide_eq_true (by first | (with_reducible assumption) | assumption)
              obtain ⟨ad334, e334, hx334_0, hx334_1⟩ := at_T166 HR0.out x5_1 p334 q334
              cases e334
              replace p334 := eq_true p334
              replace q334 := eq_true q334
              have p335 : 0 ≤ (x5_1 : Int) := of_decide_eq_true (by first | (with_reducible assumption) | assumption)
              have q335 : x5_1 < (l0.length : Int) := of_decide_eq_true (by first | (with_reducible assumption) | assumption)
              obtain ⟨ad335, e335, hx335_0, hx335_1⟩ := at_T166 HR0.out x5_1 p335 q335
              obtain rfl : ad334 = ad335 := (by injection e335)
              replace p335 := eq_true p335
              replace q335 := eq_true q335
              go_wp2
              go_roundg k1
              case measure => have := HK1.out; omega
              case rel => exact ⟨(wrap64 ((wrap64 (x1_1 + 1)) + 1)), (wrap64 (x5_1 + 1)), (by first | rfl | (simp; done) | (simp [*]; done)), (by first | rfl | (simp; done) | (simp [*]; done)), H', ⟨by have := HK1.out; omega⟩, by repeat (first | exact Drawn0.refl _ | apply Drawn0.step)⟩
            · rw [if_neg c6] at H
              have c6b0 : (((rd_T166 l0 x5_1).f1) == (wrap64 (x1_1 + 1))) = false := beq_eq_false_iff_ne.mpr c6
              have c6b1 : (((rd_T166 l0 x5_1).f1) != (wrap64 (x1_1 + 1))) = true := bne_iff_ne.mpr c6
              obtain rfl := Option.some.inj H
              have p334 : 0 ≤ (x5_1 : Int) := of_decide_eq_true (by first | (with_reducible assumption) | assumption)
              have q334 : x5_1 < (l0.length : Int) := of_decide_eq_true (by first | (with_reducible assumption) | assumption)
              obtain ⟨ad334, e334, hx334_0, hx334_1⟩ := at_T166 HR0.out x5_1 p334 q334
              cases e334
              replace p334 := eq_true p334
              replace q334 := eq_true q334
              have p335 : 0 ≤ (x5_1 : Int) := of_decide_eq_true (by first | (with_reducible assumption) | assumption)
              have q335 : x5_1 < (l0.length : Int) := of_decide_eq_true (by first | (with_reducible assumption) | assumption)
              obtain ⟨ad335, e335, hx335_0, hx335_1⟩ := at_T166 HR0.out x5_1 p335 q335
              obtain rfl : ad334 = ad335 := (by injection e335)
              replace p335 := eq_true p335
              replace q335 := eq_true q335
              go_wp2
              go_ret
              exact ⟨by first | rfl | (simp; done) | (simp [*]; done), by repeat (first | exact Drawn0.refl _ | apply Drawn0.step)⟩
          · rw [if_neg c5] at H
            have c5b0 : (((rd_T166 l0 x5_1).f0) == x1_1) = false := beq_eq_false_iff_ne.mpr c5
            have c5b1 : (((rd_T166 l0 x5_1).f0) != x1_1) = true := bne_iff_ne.mpr c5
            obtain rfl := Option.some.inj H
            have p334 : 0 ≤ (x5_1 : Int) := of_decide_eq_true (by first | (with_reducible assumption) | assumption)
            have q334 : x5_1 < (l0.length : Int) := of_decide_eq_true (by first | (with_reducible assumption) | assumption)
            obtain ⟨ad334, e334, hx334_0, hx334_1⟩ := at_T166 HR0.out x5_1 p334 q334
            cases e334
            replace p334 := eq_true p334
            replace q334 := eq_true q334
            go_wp2
            go_ret
            exact ⟨by first | rfl | (simp; done) | (simp [*]; done), by repeat (first | exact Drawn0.refl _ | apply Drawn0.step)⟩
        · rw [if_neg c4] at H
          exact absurd H (by simp)
      · rw [if_neg c3] at H
        have c3b0 : decide (x5_1 < (l0.length : Int)) = false := decide_eq_false c3
        clear c3
        obtain rfl := Option.some.inj H
        go_wp2
        go_ret
        exact ⟨by first | rfl | (simp; done) | (simp [*]; done), by repeat (first | exact Drawn0.refl _ | apply Drawn0.step)⟩

/-! ### laws_heldObjectS: function 69 -/
def laws_heldObjectS.l0 : Nat → List (S41) → Int → Int → Option (Int)
  | 0, _, _, _ => none
  | k + 1, x0, x1, x5 => if x5 < (x0.length : Int) then (if 0 ≤ x5 then ((laws_heldPointS.f k ((rd_T41 x0 x5).f0) x1).bind fun t337 => (if t337 < 0 then (some (-1)) else (if ((rd_T41 x0 x5).f1) = t337 then (if ((rd_T41 x0 x5).f2.f0) = (wrap64 (t337 + 1)) then (if ((rd_T41 x0 x5).f2.f1) = (wrap64 ((wrap64 (t337 + 1)) + 1)) then (if ((rd_T41 x0 x5).f2.f2) = (wrap64 ((wrap64 ((wrap64 (t337 + 1)) + 1)) + 1)) then (if ((rd_T41 x0 x5).f2.f3) = (wrap64 ((wrap64 ((wrap64 ((wrap64 (t337 + 1)) + 1)) + 1)) + 1)) then (laws_heldObjectS.l0 k x0 (wrap64 ((wrap64 ((wrap64 ((wrap64 ((wrap64 (t337 + 1)) + 1)) + 1)) + 1)) + 1)) (wrap64 (x5 + 1))) else (some (-1))) else (some (-1))) else (some (-1))) else (some (-1))) else (some (-1))))) else (none)) else (some x1)
def laws_heldObjectS.f (k : Nat) (l0 : List (S41)) (a1 : Int) : Option (Int) := laws_heldObjectS.l0 k l0 a1 0
theorem laws_heldObjectS.calls (k : Nat) (A0 : Option Addr) (c0 : Nat) (l0 : List (S41)) (a1 : Int) (r : Int) (w : World) (hr0 : Kd.C k41 w A0 l0.length l0) (hc0 : l0.length ≤ c0) (h : laws_heldObjectS.f k l0 a1 = some r) :
    Calls Try.prog 69 #[.slice A0 l0.length c0, .int .i64 a1] w fun e w' => e = .returned (.int .i64 r) ∧ Drawn0 w w' := by
  have HR0 := Aside0.mk hr0
  have HC0 := Aside0.mk hc0
  clear hr0 hc0
  have H : (laws_heldObjectS.l0 k l0 a1 0) = some r := h
  clear h
  have H' := Aside0.mk H
  clear H
  go_enter Try.func69, Try.ntmps69
  go_wp2
  go_loopg [1, 5] k (fun kq v1 v5 w' => ∃ (x1_1 : Int) (x5_1 : Int), v1 = .int .i64 x1_1 ∧ v5 = .int .i64 x5_1 ∧ Aside0 (laws_heldObjectS.l0 kq l0 x1_1 x5_1 = some r) ∧ Aside0 (kq ≤ k) ∧ Drawn0 w w')
  case atStart => exact ⟨(a1), (0), (by first | rfl | (simp; done) | (simp [*]; done)), (by first | rfl | (simp; done) | (simp [*]; done)), H', ⟨Nat.le_refl _⟩, by repeat (first | exact Drawn0.refl _ | apply Drawn0.step)⟩
  case round =>
    clear H'
    try clear p2
    obtain ⟨x1_1, x5_1, rfl, rfl, HA, HK1, ⟨m1, rfl⟩⟩ := hrel
    cases gk with
    | zero => exact absurd HA.out (by simp [laws_heldObjectS.l0])
    | succ k1 =>
      have H := HA.out
      clear HA
      simp only [laws_heldObjectS.l0] at H
      by_cases c3 : x5_1 < (l0.length : Int)
      · rw [if_pos c3] at H
        have c3b0 : decide (x5_1 < (l0.length : Int)) = true := decide_eq_true c3
        clear c3
        by_cases c4 : 0 ≤ x5_1
        · rw [if_pos c4] at H
          have c4b0 : decide (0 ≤ x5_1) = true := decide_eq_true c4
          clear c4
          replace H := bN H
          obtain ⟨t337, A5, H⟩ := H
          by_cases c6 : t337 < 0
          · rw [if_pos c6] at H
            have c6b0 : decide (t337 < 0) = true := decide_eq_true c6
            clear c6
            obtain rfl := Option.some.inj H
            have p336 : 0 ≤ (x5_1 : Int) := of_decide_eq_true (by first | (with_reducible assumption) | assumption)
            have q336 : x5_1 < (l0.length : Int) := of_decide_eq_true (by first | (with_reducible assumption) | assumption)
            obtain ⟨ad336, A336_0, c336_0, e336, hx336_0, hx336_1, hx336_2, hx336_3, hx336_4, hx336_5, hl336_0, hi336_0⟩ := at_T41 HR0.out x5_1 p336 q336
            cases e336
            have HR336_0 := Aside0.mk hi336_0
            have HC336_0 := Aside0.mk hl336_0
            clear hi336_0 hl336_0
            replace p336 := eq_true p336
            replace q336 := eq_true q336
            go_wp2_with (first | ((with_reducible refine gC 121 ?_); refine cL (some 18) Try.func121 #[.slice A336_0 ((rd_T41 l0 x5_1).f0).length c336_0, .int .i64 x1_1] ?_; (with_reducible refine (laws_heldPointS.calls k1 _ _ ((rd_T41 l0 x5_1).f0) x1_1 t337 _ ?side1 ?side2 A5.out).mono ?_); (case side1 => repeat (first | exact HR336_0.out | (with_reducible refine Kd.C_alloc ?_ _) | (with_reducible refine Kd.C_drewN ?_ _) | (with_reducible refine Kd.C_drew ?_))); (case side2 => exact HC336_0.out); rintro e w' ⟨rfl, ⟨nd, rfl⟩⟩; refine ⟨_, rfl, ?_⟩))
            go_ret
            exact ⟨by first | rfl | (simp; done) | (simp [*]; done), by repeat (first | exact Drawn0.refl _ | apply Drawn0.step)⟩
          · rw [if_neg c6] at H
            have c6b0 : decide (t337 < 0) = false := decide_eq_false c6
            clear c6
            by_cases c7 : ((rd_T41 l0 x5_1).f1) = t337
            · rw [if_pos c7] at H
              have c7b0 : (((rd_T41 l0 x5_1).f1) == t337) = true := beq_iff_eq.mpr c7
              have c7b1 : (((rd_T41 l0 x5_1).f1) != t337) = false := bne_eq_false_iff_eq.mpr c7
              clear c7
              by_cases c8 : ((rd_T41 l0 x5_1).f2.f0) = (wrap64 (t337 + 1))
              · rw [if_pos c8] at H
                have c8b0 : (((rd_T41 l0 x5_1).f2.f0) == (wrap64 (t337 + 1))) = true := beq_iff_eq.mpr c8
                have c8b1 : (((rd_T41 l0 x5_1).f2.f0) != (wrap64 (t337 + 1))) = false := bne_eq_false_iff_eq.mpr c8
                clear c8
                by_cases c9 : ((rd_T41 l0 x5_1).f2.f1) = (wrap64 ((wrap64 (t337 + 1)) + 1))
                · rw [if_pos c9] at H
                  have c9b0 : (((rd_T41 l0 x5_1).f2.f1) == (wrap64 ((wrap64 (t337 + 1)) + 1))) = true := beq_iff_eq.mpr c9
                  have c9b1 : (((rd_T41 l0 x5_1).f2.f1) != (wrap64 ((wrap64 (t337 + 1)) + 1))) = false := bne_eq_false_iff_eq.mpr c9
                  clear c9
                  by_cases c10 : ((rd_T41 l0 x5_1).f2.f2) = (wrap64 ((wrap64 ((wrap64 (t337 + 1)) + 1)) + 1))
                  · rw [if_pos c10] at H
                    have c10b0 : (((rd_T41 l0 x5_1).f2.f2) == (wrap64 ((wrap64 ((wrap64 (t337 + 1)) + 1)) + 1))) = true := beq_iff_eq.mpr c10
                    have c10b1 : (((rd_T41 l0 x5_1).f2.f2) != (wrap64 ((wrap64 ((wrap64 (t337 + 1)) + 1)) + 1))) = false := bne_eq_false_iff_eq.mpr c10
                    clear c10
                    by_cases c11 : ((rd_T41 l0 x5_1).f2.f3) = (wrap64 ((wrap64 ((wrap64 ((wrap64 (t337 + 1)) + 1)) + 1)) + 1))
                    · rw [if_pos c11] at H
                      have c11b0 : (((rd_T41 l0 x5_1).f2.f3) == (wrap64 ((wrap64 ((wrap64 ((wrap64 (t337 + 1)) + 1)) + 1)) + 1))) = true := beq_iff_eq.mpr c11
                      have c11b1 : (((rd_T41 l0 x5_1).f2.f3) != (wrap64 ((wrap64 ((wrap64 ((wrap64 (t337 + 1)) + 1)) + 1)) + 1))) = false := bne_eq_false_iff_eq.mpr c11
                      clear c11
                      have H' := Aside0.mk H
                      clear H
                      have p336 : 0 ≤ (x5_1 : Int) := of_decide_eq_true (by first | (with_reducible assumption) | assumption)
                      have q336 : x5_1 < (l0.length : Int) := of_decide_eq_true (by first | (with_reducible assumption) | assumption)
                      obtain ⟨ad336, A336_0, c336_0, e336, hx336_0, hx336_1, hx336_2, hx336_3, hx336_4, hx336_5, hl336_0, hi336_0⟩ := at_T41 HR0.out x5_1 p336 q336
                      cases e336
                      have HR336_0 := Aside0.mk hi336_0
                      have HC336_0 := Aside0.mk hl336_0
                      clear hi336_0 hl336_0
                      replace p336 := eq_true p336
                      replace q336 := eq_true q336
                      go_wp2_with (first | ((with_reducible refine gC 121 ?_); refine cL (some 18) Try.func121 #[.slice A336_0 ((rd_T41 l0 x5_1).f0).length c336_0, .int .i64 x1_1] ?_; (with_reducible refine (laws_heldPointS.calls k1 _ _ ((rd_T41 l0 x5_1).f0) x1_1 t337 _ ?side1 ?side2 A5.out).mono ?_); (case side1 => repeat (first | exact HR336_0.out | (with_reducible refine Kd.C_alloc ?_ _) | (with_reducible refine Kd.C_drewN ?_ _) | (with_reducible refine Kd.C_drew ?_))); (case side2 => exact HC336_0.out); rintro e w' ⟨rfl, ⟨nd, rfl⟩⟩; refine ⟨_, rfl, ?_⟩; have p338 : 0 ≤ (x5_1 : Int) := of_decide_eq_true (by first | (with_reducible assumption) | assumption); have q338 : x5_1 < (l0.length : Int) := of_decide_eq_true (by first | (with_reducible assumption) | assumption); obtain ⟨ad338, A338_0, c338_0, e338, hx338_0, hx338_1, hx338_2, hx338_3, hx338_4, hx338_5, hl338_0, hi338_0⟩ := at_T41 HR0.out x5_1 p338 q338; obtain rfl : ad336 = ad338 := (by injection e338); have HR338_0 := Aside0.mk hi338_0; have HC338_0 := Aside0.mk hl338_0; clear hi338_0 hl338_0; replace p338 := eq_true p338; replace q338 := eq_true q338; have ea_ := Option.some.inj (hx336_0.symm.trans hx338_0); injection ea_ with ea_ en_ ec_; subst ea_; subst ec_; clear en_; have p339 : 0 ≤ (x5_1 : Int) := of_decide_eq_true (by first | (with_reducible assumption) | assumption); have q339 : x5_1 < (l0.length : Int) := of_decide_eq_true (by first | (with_reducible assumption) | assumption); obtain ⟨ad339, A339_0, c339_0, e339, hx339_0, hx339_1, hx339_2, hx339_3, hx339_4, hx339_5, hl339_0, hi339_0⟩ := at_T41 HR0.out x5_1 p339 q339; obtain rfl : ad336 = ad339 := (by injection e339); have HR339_0 := Aside0.mk hi339_0; have HC339_0 := Aside0.mk hl339_0; clear hi339_0 hl339_0; replace p339 := eq_true p339; replace q339 := eq_true q339; have ea_ := Option.some.inj (hx336_0.symm.trans hx339_0); injection ea_ with ea_ en_ ec_; subst ea_; subst ec_; clear en_; have p340 : 0 ≤ (x5_1 : Int) := of_decide_eq_true (by first | (with_reducible assumption) | assumption); have q340 : x5_1 < (l0.length : Int) := of_decide_eq_true (by first | (with_reducible assumption) | assumption); obtain ⟨ad340, A340_0, c340_0, e340, hx340_0, hx340_1, hx340_2, hx340_3, hx340_4, hx340_5, hl340_0, hi340_0⟩ := at_T41 HR0.out x5_1 p340 q340; obtain rfl : ad336 = ad340 := (by injection e340); have HR340_0 := Aside0.mk hi340_0; have HC340_0 := Aside0.mk hl340_0; clear hi340_0 hl340_0; replace p340 := eq_true p340; replace q340 := eq_true q340; have ea_ := Option.some.inj (hx336_0.symm.trans hx340_0); injection ea_ with ea_ en_ ec_; subst ea_; subst ec_; clear en_; have p341 : 0 ≤ (x5_1 : Int) := of_decide_eq_true (by first | (with_reducible assumption) | assumption); have q341 : x5_1 < (l0.length : Int) := of_decide_eq_true (by first | (with_reducible assumption) | assumption); obtain ⟨ad341, A341_0, c341_0, e341, hx341_0, hx341_1, hx341_2, hx341_3, hx341_4, hx341_5, hl341_0, hi341_0⟩ := at_T41 HR0.out x5_1 p341 q341; obtain rfl : ad336 = ad341 := (by injection e341); have HR341_0 := Aside0.mk hi341_0; have HC341_0 := Aside0.mk hl341_0; clear hi341_0 hl341_0; replace p341 := eq_true p341; replace q341 := eq_true q341; have ea_ := Option.some.inj (hx336_0.symm.trans hx341_0); injection ea_ with ea_ en_ ec_; subst ea_; subst ec_; clear en_; have p342 : 0 ≤ (x5_1 : Int) := of_decide_eq_true (by first | (with_reducible assumption) | assumption); have q342 : x5_1 < (l0.length : Int) := of_decide_eq_true (by first | (with_reducible assumption) | assumption); obtain ⟨ad342, A342_0, c342_0, e342, hx342_0, hx342_1, hx342_2, hx342_3, hx342_4, hx342_5, hl342_0, hi342_0⟩ := at_T41 HR0.out x5_1 p342 q342; obtain rfl : ad336 = ad342 := (by injection e342); have HR342_0 := Aside0.mk hi342_0; have HC342_0 := Aside0.mk hl342_0; clear hi342_0 hl342_0; replace p342 := eq_true p342; replace q342 := eq_true q342; have ea_ := Option.some.inj (hx336_0.symm.trans hx342_0); injection ea_ with ea_ en_ ec_; subst ea_; subst ec_; clear en_))
                      go_roundg k1
                      case measure => have := HK1.out; omega
                      case rel => exact ⟨(wrap64 ((wrap64 ((wrap64 ((wrap64 ((wrap64 (t337 + 1)) + 1)) + 1)) + 1)) + 1)), (wrap64 (x5_1 + 1)), (by first | rfl | (simp; done) | (simp [*]; done)), (by first | rfl | (simp; done) | (simp [*]; done)), H', ⟨by have := HK1.out; omega⟩, by repeat (first | exact Drawn0.refl _ | apply Drawn0.step)⟩
                    · rw [if_neg c11] at H
                      have c11b0 : (((rd_T41 l0 x5_1).f2.f3) == (wrap64 ((wrap64 ((wrap64 ((wrap64 (t337 + 1)) + 1)) + 1)) + 1))) = false := beq_eq_false_iff_ne.mpr c11
                      have c11b1 : (((rd_T41 l0 x5_1).f2.f3) != (wrap64 ((wrap64 ((wrap64 ((wrap64 (t337 + 1)) + 1)) + 1)) + 1))) = true := bne_iff_ne.mpr c11
                      obtain rfl := Option.some.inj H
                      have p336 : 0 ≤ (x5_1 : Int) := of_decide_eq_true (by first | (with_reducible assumption) | assumption)
                      have q336 : x5_1 < (l0.length : Int) := of_decide_eq_true (by first | (with_reducible assumption) | assumption)
                      obtain ⟨ad336, A336_0, c336_0, e336, hx336_0, hx336_1, hx336_2, hx336_3, hx336_4, hx336_5, hl336_0, hi336_0⟩ := at_T41 HR0.out x5_1 p336 q336
                      cases e336
                      have HR336_0 := Aside0.mk hi336_0
                      have HC336_0 := Aside0.mk hl336_0
                      clear hi336_0 hl336_0
                      replace p336 := eq_true p336
                      replace q336 := eq_true q336
                      go_wp2_with (first | ((with_reducible refine gC 121 ?_); refine cL (some 18) Try.func121 #[.slice A336_0 ((rd_T41 l0 x5_1).f0).length c336_0, .int .i64 x1_1] ?_; (with_reducible refine (laws_heldPointS.calls k1 _ _ ((rd_T41 l0 x5_1).f0) x1_1 t337 _ ?side1 ?side2 A5.out).mono ?_); (case side1 => repeat (first | exact HR336_0.out | (with_reducible refine Kd.C_alloc ?_ _) | (with_reducible refine Kd.C_drewN ?_ _) | (with_reducible refine Kd.C_drew ?_))); (case side2 => exact HC336_0.out); rintro e w' ⟨rfl, ⟨nd, rfl⟩⟩; refine ⟨_, rfl, ?_⟩; have p338 : 0 ≤ (x5_1 : Int) := of_decide_eq_true (by first | (with_reducible assumption) | assumption); have q338 : x5_1 < (l0.length : Int) := of_decide_eq_true (by first | (with_reducible assumption) | assumption); obtain ⟨ad338, A338_0, c338_0, e338, hx338_0, hx338_1, hx338_2, hx338_3, hx338_4, hx338_5, hl338_0, hi338_0⟩ := at_T41 HR0.out x5_1 p338 q338; obtain rfl : ad336 = ad338 := (by injection e338); have HR338_0 := Aside0.mk hi338_0; have HC338_0 := Aside0.mk hl338_0; clear hi338_0 hl338_0; replace p338 := eq_true p338; replace q338 := eq_true q338; have ea_ := Option.some.inj (hx336_0.symm.trans hx338_0); injection ea_ with ea_ en_ ec_; subst ea_; subst ec_; clear en_; have p339 : 0 ≤ (x5_1 : Int) := of_decide_eq_true (by first | (with_reducible assumption) | assumption); have q339 : x5_1 < (l0.length : Int) := of_decide_eq_true (by first | (with_reducible assumption) | assumption); obtain ⟨ad339, A339_0, c339_0, e339, hx339_0, hx339_1, hx339_2, hx339_3, hx339_4, hx339_5, hl339_0, hi339_0⟩ := at_T41 HR0.out x5_1 p339 q339; obtain rfl : ad336 = ad339 := (by injection e339); have HR339_0 := Aside0.mk hi339_0; have HC339_0 := Aside0.mk hl339_0; clear hi339_0 hl339_0; replace p339 := eq_true p339; replace q339 := eq_true q339; have ea_ := Option.some.inj (hx336_0.symm.trans hx339_0); injection ea_ with ea_ en_ ec_; subst ea_; subst ec_; clear en_; have p340 : 0 ≤ (x5_1 : Int) := of_decide_eq_true (by first | (with_reducible assumption) | assumption); have q340 : x5_1 < (l0.length : Int) := of_decide_eq_true (by first | (with_reducible assumption) | assumption); obtain ⟨ad340, A340_0, c340_0, e340, hx340_0, hx340_1, hx340_2, hx340_3, hx340_4, hx340_5, hl340_0, hi340_0⟩ := at_T41 HR0.out x5_1 p340 q340; obtain rfl : ad336 = ad340 := (by injection e340); have HR340_0 := Aside0.mk hi340_0; have HC340_0 := Aside0.mk hl340_0; clear hi340_0 hl340_0; replace p340 := eq_true p340; replace q340 := eq_true q340; have ea_ := Option.some.inj (hx336_0.symm.trans hx340_0); injection ea_ with ea_ en_ ec_; subst ea_; subst ec_; clear en_; have p341 : 0 ≤ (x5_1 : Int) := of_decide_eq_true (by first | (with_reducible assumption) | assumption); have q341 : x5_1 < (l0.length : Int) := of_decide_eq_true (by first | (with_reducible assumption) | assumption); obtain ⟨ad341, A341_0, c341_0, e341, hx341_0, hx341_1, hx341_2, hx341_3, hx341_4, hx341_5, hl341_0, hi341_0⟩ := at_T41 HR0.out x5_1 p341 q341; obtain rfl : ad336 = ad341 := (by injection e341); have HR341_0 := Aside0.mk hi341_0; have HC341_0 := Aside0.mk hl341_0; clear hi341_0 hl341_0; replace p341 := eq_true p341; replace q341 := eq_true q341; have ea_ := Option.some.inj (hx336_0.symm.trans hx341_0); injection ea_ with ea_ en_ ec_; subst ea_; subst ec_; clear en_; have p342 : 0 ≤ (x5_1 : Int) := of_decide_eq_true (by first | (with_reducible assumption) | assumption); have q342 : x5_1 < (l0.length : Int) := of_decide_eq_true (by first | (with_reducible assumption) | assumption); obtain ⟨ad342, A342_0, c342_0, e342, hx342_0, hx342_1, hx342_2, hx342_3, hx342_4, hx342_5, hl342_0, hi342_0⟩ := at_T41 HR0.out x5_1 p342 q342; obtain rfl : ad336 = ad342 := (by injection e342); have HR342_0 := Aside0.mk hi342_0; have HC342_0 := Aside0.mk hl342_0; clear hi342_0 hl342_0; replace p342 := eq_true p342; replace q342 := eq_true q342; have ea_ := Option.some.inj (hx336_0.symm.trans hx342_0); injection ea_ with ea_ en_ ec_; subst ea_; subst ec_; clear en_))
                      go_ret
                      exact ⟨by first | rfl | (simp; done) | (simp [*]; done), by repeat (first | exact Drawn0.refl _ | apply Drawn0.step)⟩
                  · rw [if_neg c10] at H
                    have c10b0 : (((rd_T41 l0 x5_1).f2.f2) == (wrap64 ((wrap64 ((wrap64 (t337 + 1)) + 1)) + 1))) = false := beq_eq_false_iff_ne.mpr c10
                    have c10b1 : (((rd_T41 l0 x5_1).f2.f2) != (wrap64 ((wrap64 ((wrap64 (t337 + 1)) + 1)) + 1))) = true := bne_iff_ne.mpr c10
                    obtain rfl := Option.some.inj H
                    have p336 : 0 ≤ (x5_1 : Int) := of_decide_eq_true (by first | (with_reducible assumption) | assumption)
                    have q336 : x5_1 < (l0.length : Int) := of_decide_eq_true (by first | (with_reducible assumption) | assumption)
                    obtain ⟨ad336, A336_0, c336_0, e336, hx336_0, hx336_1, hx336_2, hx336_3, hx336_4, hx336_5, hl336_0, hi336_0⟩ := at_T41 HR0.out x5_1 p336 q336
                    cases e336
                    have HR336_0 := Aside0.mk hi336_0
                    have HC336_0 := Aside0.mk hl336_0
                    clear hi336_0 hl336_0
                    replace p336 := eq_true p336
                    replace q336 := eq_true q336
                    go_wp2_with (first | ((with_reducible refine gC 121 ?_); refine cL (some 18) Try.func121 #[.slice A336_0 ((rd_T41 l0 x5_1).f0).length c336_0, .int .i64 x1_1] ?_; (with_reducible refine (laws_heldPointS.calls k1 _ _ ((rd_T41 l0 x5_1).f0) x1_1 t337 _ ?side1 ?side2 A5.out).mono ?_); (case side1 => repeat (first | exact HR336_0.out | (with_reducible refine Kd.C_alloc ?_ _) | (with_reducible refine Kd.C_drewN ?_ _) | (with_reducible refine Kd.C_drew ?_))); (case side2 => exact HC336_0.out); rintro e w' ⟨rfl, ⟨nd, rfl⟩⟩; refine ⟨_, rfl, ?_⟩; have p338 : 0 ≤ (x5_1 : Int) := of_decide_eq_true (by first | (with_reducible assumption) | assumption); have q338 : x5_1 < (l0.length : Int) := of_decide_eq_true (by first | (with_reducible assumption) | assumption); obtain ⟨ad338, A338_0, c338_0, e338, hx338_0, hx338_1, hx338_2, hx338_3, hx338_4, hx338_5, hl338_0, hi338_0⟩ := at_T41 HR0.out x5_1 p338 q338; obtain rfl : ad336 = ad338 := (by injection e338); have HR338_0 := Aside0.mk hi338_0; have HC338_0 := Aside0.mk hl338_0; clear hi338_0 hl338_0; replace p338 := eq_true p338; replace q338 := eq_true q338; have ea_ := Option.some.inj (hx336_0.symm.trans hx338_0); injection ea_ with ea_ en_ ec_; subst ea_; subst ec_; clear en_; have p339 : 0 ≤ (x5_1 : Int) := of_decide_eq_true (by first | (with_reducible assumption) | assumption); have q339 : x5_1 < (l0.length : Int) := of_decide_eq_true (by first | (with_reducible assumption) | assumption); obtain ⟨ad339, A339_0, c339_0, e339, hx339_0, hx339_1, hx339_2, hx339_3, hx339_4, hx339_5, hl339_0, hi339_0⟩ := at_T41 HR0.out x5_1 p339 q339; obtain rfl : ad336 = ad339 := (by injection e339); have HR339_0 := Aside0.mk hi339_0; have HC339_0 := Aside0.mk hl339_0; clear hi339_0 hl339_0; replace p339 := eq_true p339; replace q339 := eq_true q339; have ea_ := Option.some.inj (hx336_0.symm.trans hx339_0); injection ea_ with ea_ en_ ec_; subst ea_; subst ec_; clear en_; have p340 : 0 ≤ (x5_1 : Int) := of_decide_eq_true (by first | (with_reducible assumption) | assumption); have q340 : x5_1 < (l0.length : Int) := of_decide_eq_true (by first | (with_reducible assumption) | assumption); obtain ⟨ad340, A340_0, c340_0, e340, hx340_0, hx340_1, hx340_2, hx340_3, hx340_4, hx340_5, hl340_0, hi340_0⟩ := at_T41 HR0.out x5_1 p340 q340; obtain rfl : ad336 = ad340 := (by injection e340); have HR340_0 := Aside0.mk hi340_0; have HC340_0 := Aside0.mk hl340_0; clear hi340_0 hl340_0; replace p340 := eq_true p340; replace q340 := eq_true q340; have ea_ := Option.some.inj (hx336_0.symm.trans hx340_0); injection ea_ with ea_ en_ ec_; subst ea_; subst ec_; clear en_; have p341 : 0 ≤ (x5_1 : Int) := of_decide_eq_true (by first | (with_reducible assumption) | assumption); have q341 : x5_1 < (l0.length : Int) := of_decide_eq_true (by first | (with_reducible assumption) | assumption); obtain ⟨ad341, A341_0, c341_0, e341, hx341_0, hx341_1, hx341_2, hx341_3, hx341_4, hx341_5, hl341_0, hi341_0⟩ := at_T41 HR0.out x5_1 p341 q341; obtain rfl : ad336 = ad341 := (by injection e341); have HR341_0 := Aside0.mk hi341_0; have HC341_0 := Aside0.mk hl341_0; clear hi341_0 hl341_0; replace p341 := eq_true p341; replace q341 := eq_true q341; have ea_ := Option.some.inj (hx336_0.symm.trans hx341_0); injection ea_ with ea_ en_ ec_; subst ea_; subst ec_; clear en_))
                    go_ret
                    exact ⟨by first | rfl | (simp; done) | (simp [*]; done), by repeat (first | exact Drawn0.refl _ | apply Drawn0.step)⟩
                · rw [if_neg c9] at H
                  have c9b0 : (((rd_T41 l0 x5_1).f2.f1) == (wrap64 ((wrap64 (t337 + 1)) + 1))) = false := beq_eq_false_iff_ne.mpr c9
                  have c9b1 : (((rd_T41 l0 x5_1).f2.f1) != (wrap64 ((wrap64 (t337 + 1)) + 1))) = true := bne_iff_ne.mpr c9
                  obtain rfl := Option.some.inj H
                  have p336 : 0 ≤ (x5_1 : Int) := of_decide_eq_true (by first | (with_reducible assumption) | assumption)
                  have q336 : x5_1 < (l0.length : Int) := of_decide_eq_true (by first | (with_reducible assumption) | assumption)
                  obtain ⟨ad336, A336_0, c336_0, e336, hx336_0, hx336_1, hx336_2, hx336_3, hx336_4, hx336_5, hl336_0, hi336_0⟩ := at_T41 HR0.out x5_1 p336 q336
                  cases e336
                  have HR336_0 := Aside0.mk hi336_0
                  have HC336_0 := Aside0.mk hl336_0
                  clear hi336_0 hl336_0
                  replace p336 := eq_true p336
                  replace q336 := eq_true q336
                  go_wp2_with (first | ((with_reducible refine gC 121 ?_); refine cL (some 18) Try.func121 #[.slice A336_0 ((rd_T41 l0 x5_1).f0).length c336_0, .int .i64 x1_1] ?_; (with_reducible refine (laws_heldPointS.calls k1 _ _ ((rd_T41 l0 x5_1).f0) x1_1 t337 _ ?side1 ?side2 A5.out).mono ?_); (case side1 => repeat (first | exact HR336_0.out | (with_reducible refine Kd.C_alloc ?_ _) | (with_reducible refine Kd.C_drewN ?_ _) | (with_reducible refine Kd.C_drew ?_))); (case side2 => exact HC336_0.out); rintro e w' ⟨rfl, ⟨nd, rfl⟩⟩; refine ⟨_, rfl, ?_⟩; have p338 : 0 ≤ (x5_1 : Int) := of_decide_eq_true (by first | (with_reducible assumption) | assumption); have q338 : x5_1 < (l0.length : Int) := of_decide_eq_true (by first | (with_reducible assumption) | assumption); obtain ⟨ad338, A338_0, c338_0, e338, hx338_0, hx338_1, hx338_2, hx338_3, hx338_4, hx338_5, hl338_0, hi338_0⟩ := at_T41 HR0.out x5_1 p338 q338; obtain rfl : ad336 = ad338 := (by injection e338); have HR338_0 := Aside0.mk hi338_0; have HC338_0 := Aside0.mk hl338_0; clear hi338_0 hl338_0; replace p338 := eq_true p338; replace q338 := eq_true q338; have ea_ := Option.some.inj (hx336_0.symm.trans hx338_0); injection ea_ with ea_ en_ ec_; subst ea_; subst ec_; clear en_; have p339 : 0 ≤ (x5_1 : Int) := of_decide_eq_true (by first | (with_reducible assumption) | assumption); have q339 : x5_1 < (l0.length : Int) := of_decide_eq_true (by first | (with_reducible assumption) | assumption); obtain ⟨ad339, A339_0, c339_0, e339, hx339_0, hx339_1, hx339_2, hx339_3, hx339_4, hx339_5, hl339_0, hi339_0⟩ := at_T41 HR0.out x5_1 p339 q339; obtain rfl : ad336 = ad339 := (by injection e339); have HR339_0 := Aside0.mk hi339_0; have HC339_0 := Aside0.mk hl339_0; clear hi339_0 hl339_0; replace p339 := eq_true p339; replace q339 := eq_true q339; have ea_ := Option.some.inj (hx336_0.symm.trans hx339_0); injection ea_ with ea_ en_ ec_; subst ea_; subst ec_; clear en_; have p340 : 0 ≤ (x5_1 : Int) := of_decide_eq_true (by first | (with_reducible assumption) | assumption); have q340 : x5_1 < (l0.length : Int) := of_decide_eq_true (by first | (with_reducible assumption) | assumption); obtain ⟨ad340, A340_0, c340_0, e340, hx340_0, hx340_1, hx340_2, hx340_3, hx340_4, hx340_5, hl340_0, hi340_0⟩ := at_T41 HR0.out x5_1 p340 q340; obtain rfl : ad336 = ad340 := (by injection e340); have HR340_0 := Aside0.mk hi340_0; have HC340_0 := Aside0.mk hl340_0; clear hi340_0 hl340_0; replace p340 := eq_true p340; replace q340 := eq_true q340; have ea_ := Option.some.inj (hx336_0.symm.trans hx340_0); injection ea_ with ea_ en_ ec_; subst ea_; subst ec_; clear en_))
                  go_ret
                  exact ⟨by first | rfl | (simp; done) | (simp [*]; done), by repeat (first | exact Drawn0.refl _ | apply Drawn0.step)⟩
              · rw [if_neg c8] at H
                have c8b0 : (((rd_T41 l0 x5_1).f2.f0) == (wrap64 (t337 + 1))) = false := beq_eq_false_iff_ne.mpr c8
                have c8b1 : (((rd_T41 l0 x5_1).f2.f0) != (wrap64 (t337 + 1))) = true := bne_iff_ne.mpr c8
                obtain rfl := Option.some.inj H
                have p336 : 0 ≤ (x5_1 : Int) := of_decide_eq_true (by first | (with_reducible assumption) | assumption)
                have q336 : x5_1 < (l0.length : Int) := of_decide_eq_true (by first | (with_reducible assumption) | assumption)
                obtain ⟨ad336, A336_0, c336_0, e336, hx336_0, hx336_1, hx336_2, hx336_3, hx336_4, hx336_5, hl336_0, hi336_0⟩ := at_T41 HR0.out x5_1 p336 q336
                cases e336
                have HR336_0 := Aside0.mk hi336_0
                have HC336_0 := Aside0.mk hl336_0
                clear hi336_0 hl336_0
                replace p336 := eq_true p336
                replace q336 := eq_true q336
                go_wp2_with (first | ((with_reducible refine gC 121 ?_); refine cL (some 18) Try.func121 #[.slice A336_0 ((rd_T41 l0 x5_1).f0).length c336_0, .int .i64 x1_1] ?_; (with_reducible refine (laws_heldPointS.calls k1 _ _ ((rd_T41 l0 x5_1).f0) x1_1 t337 _ ?side1 ?side2 A5.out).mono ?_); (case side1 => repeat (first | exact HR336_0.out | (with_reducible refine Kd.C_alloc ?_ _) | (with_reducible refine Kd.C_drewN ?_ _) | (with_reducible refine Kd.C_drew ?_))); (case side2 => exact HC336_0.out); rintro e w' ⟨rfl, ⟨nd, rfl⟩⟩; refine ⟨_, rfl, ?_⟩; have p338 : 0 ≤ (x5_1 : Int) := of_decide_eq_true (by first | (with_reducible assumption) | assumption); have q338 : x5_1 < (l0.length : Int) := of_decide_eq_true (by first | (with_reducible assumption) | assumption); obtain ⟨ad338, A338_0, c338_0, e338, hx338_0, hx338_1, hx338_2, hx338_3, hx338_4, hx338_5, hl338_0, hi338_0⟩ := at_T41 HR0.out x5_1 p338 q338; obtain rfl : ad336 = ad338 := (by injection e338); have HR338_0 := Aside0.mk hi338_0; have HC338_0 := Aside0.mk hl338_0; clear hi338_0 hl338_0; replace p338 := eq_true p338; replace q338 := eq_true q338; have ea_ := Option.some.inj (hx336_0.symm.trans hx338_0); injection ea_ with ea_ en_ ec_; subst ea_; subst ec_; clear en_; have p339 : 0 ≤ (x5_1 : Int) := of_decide_eq_true (by first | (with_reducible assumption) | assumption); have q339 : x5_1 < (l0.length : Int) := of_decide_eq_true (by first | (with_reducible assumption) | assumption); obtain ⟨ad339, A339_0, c339_0, e339, hx339_0, hx339_1, hx339_2, hx339_3, hx339_4, hx339_5, hl339_0, hi339_0⟩ := at_T41 HR0.out x5_1 p339 q339; obtain rfl : ad336 = ad339 := (by injection e339); have HR339_0 := Aside0.mk hi339_0; have HC339_0 := Aside0.mk hl339_0; clear hi339_0 hl339_0; replace p339 := eq_true p339; replace q339 := eq_true q339; have ea_ := Option.some.inj (hx336_0.symm.trans hx339_0); injection ea_ with ea_ en_ ec_; subst ea_; subst ec_; clear en_))
                go_ret
                exact ⟨by first | rfl | (simp; done) | (simp [*]; done), by repeat (first | exact Drawn0.refl _ | apply Drawn0.step)⟩
            · rw [if_neg c7] at H
              have c7b0 : (((rd_T41 l0 x5_1).f1) == t337) = false := beq_eq_false_iff_ne.mpr c7
              have c7b1 : (((rd_T41 l0 x5_1).f1) != t337) = true := bne_iff_ne.mpr c7
              obtain rfl := Option.some.inj H
              have p336 : 0 ≤ (x5_1 : Int) := of_decide_eq_true (by first | (with_reducible assumption) | assumption)
              have q336 : x5_1 < (l0.length : Int) := of_decide_eq_true (by first | (with_reducible assumption) | assumption)
              obtain ⟨ad336, A336_0, c336_0, e336, hx336_0, hx336_1, hx336_2, hx336_3, hx336_4, hx336_5, hl336_0, hi336_0⟩ := at_T41 HR0.out x5_1 p336 q336
              cases e336
              have HR336_0 := Aside0.mk hi336_0
              have HC336_0 := Aside0.mk hl336_0
              clear hi336_0 hl336_0
              replace p336 := eq_true p336
              replace q336 := eq_true q336
              go_wp2_with (first | ((with_reducible refine gC 121 ?_); refine cL (some 18) Try.func121 #[.slice A336_0 ((rd_T41 l0 x5_1).f0).length c336_0, .int .i64 x1_1] ?_; (with_reducible refine (laws_heldPointS.calls k1 _ _ ((rd_T41 l0 x5_1).f0) x1_1 t337 _ ?side1 ?side2 A5.out).mono ?_); (case side1 => repeat (first | exact HR336_0.out | (with_reducible refine Kd.C_alloc ?_ _) | (with_reducible refine Kd.C_drewN ?_ _) | (with_reducible refine Kd.C_drew ?_))); (case side2 => exact HC336_0.out); rintro e w' ⟨rfl, ⟨nd, rfl⟩⟩; refine ⟨_, rfl, ?_⟩; have p338 : 0 ≤ (x5_1 : Int) := of_decide_eq_true (by first | (with_reducible assumption) | assumption); have q338 : x5_1 < (l0.length : Int) := of_decide_eq_true (by first | (with_reducible assumption) | assumption); obtain ⟨ad338, A338_0, c338_0, e338, hx338_0, hx338_1, hx338_2, hx338_3, hx338_4, hx338_5, hl338_0, hi338_0⟩ := at_T41 HR0.out x5_1 p338 q338; obtain rfl : ad336 = ad338 := (by injection e338); have HR338_0 := Aside0.mk hi338_0; have HC338_0 := Aside0.mk hl338_0; clear hi338_0 hl338_0; replace p338 := eq_true p338; replace q338 := eq_true q338; have ea_ := Option.some.inj (hx336_0.symm.trans hx338_0); injection ea_ with ea_ en_ ec_; subst ea_; subst ec_; clear en_))
              go_ret
              exact ⟨by first | rfl | (simp; done) | (simp [*]; done), by repeat (first | exact Drawn0.refl _ | apply Drawn0.step)⟩
        · rw [if_neg c4] at H
          exact absurd H (by simp)
      · rw [if_neg c3] at H
        have c3b0 : decide (x5_1 < (l0.length : Int)) = false := decide_eq_false c3
        clear c3
        obtain rfl := Option.some.inj H
        go_wp2
        go_ret
        exact ⟨by first | rfl | (simp; done) | (simp [*]; done), by repeat (first | exact Drawn0.refl _ | apply Drawn0.step)⟩

end Go.Proofs.Ytimpejidlnjhlaa.QFnExactObjectsOfBand
