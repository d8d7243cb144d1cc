-- Made out of the translation by a program of this session (a changed copy of the print). Not trusted: Lean checks it.
import Derived.Test.YtigodjcnkgebaaaQFnExactPaintAllx0
import Derived.Test.YtigodjcnkgebaaaQFnExactPaintAllx9
namespace Go.Proofs.Ytigodjcnkgebaaa.QFnExactPaintAll
open Go.RowKit Go.Proofs.YtigodjcnkgebaaaW.PrintWords Go.Proofs.YtigodjcnkgebaaaW.PrintLast Go.Proofs.YtigodjcnkgebaaaW.PrintMore
attribute [local go_sem] max2_int min2_int max_two min_two max_three min_three max_four min_four   -- for this text's walks alone
set_option linter.unusedVariables false
set_option linter.unusedSimpArgs false
set_option maxHeartbeats 8000000
set_option maxRecDepth 100000

/-! ### spec_l07Object: function 160 -/
def spec_l07Object.f (k : Nat) (l0_0 : List (S171)) (a0_1 : Int) (a0_2 : Int) (a0_3 : Int) (a0_4 : Int) (a0_5 : Int) : Option (Bool) := if (l0_0.length : Int) ≥ 3 then ((spec_l07Points.f k l0_0).bind fun t305 => (if t305 = true then ((spec_l01In.f a0_1 0 255).bind fun t306 => (if t306 = true then ((spec_BoxOk.f a0_2 a0_3 a0_4 a0_5).bind fun t307 => (some t307)) else (some false))) else (some false))) else (some false)
theorem spec_l07Object.calls (k : Nat) (A0_0 : Option Addr) (c0_0 : Nat) (l0_0 : List (S171)) (a0_1 : Int) (a0_2 : Int) (a0_3 : Int) (a0_4 : Int) (a0_5 : Int) (r : Bool) (w : World) (hr0_0 : Kd.C k171 w A0_0 l0_0.length l0_0) (hc0_0 : l0_0.length ≤ c0_0) (h : spec_l07Object.f k l0_0 a0_1 a0_2 a0_3 a0_4 a0_5 = some r) :
    Calls Try.prog 160 #[.agg #[.slice A0_0 l0_0.length c0_0, .int .i64 a0_1, .int .i64 a0_2, .int .i64 a0_3, .int .i64 a0_4, .int .i64 a0_5]] w fun e w' => e = .returned (.bool r) ∧ Below w.heap.size w w' := by
  have hu45 := Try.underlying45
  have hu43 := Try.underlying43
  have HR0_0 := Aside0.mk hr0_0
  have HC0_0 := Aside0.mk hc0_0
  clear hr0_0 hc0_0
  have HB := Aside0.mk (Below.refl w.heap.size w)
  have H : (if (l0_0.length : Int) ≥ 3 then ((spec_l07Points.f k l0_0).bind fun t305 => (if t305 = true then ((spec_l01In.f a0_1 0 255).bind fun t306 => (if t306 = true then ((spec_BoxOk.f a0_2 a0_3 a0_4 a0_5).bind fun t307 => (some t307)) else (some false))) else (some false))) else (some false)) = some r := h
  clear h
  by_cases c2 : (l0_0.length : Int) ≥ 3
  · rw [if_pos c2] at H
    have c2b0 : decide (3 ≤ (l0_0.length : Int)) = true := decide_eq_true c2
    have c2b1 : decide (3 ≤ l0_0.length) = true := decide_eq_true (by omega)
    clear c2
    replace H := bN H
    obtain ⟨t305, A3, H⟩ := H
    by_cases c4 : t305 = true
    · subst c4
      rw [if_pos rfl] at H
      replace H := bN H
      obtain ⟨t306, A5, H⟩ := H
      by_cases c6 : t306 = true
      · subst c6
        rw [if_pos rfl] at H
        replace H := bN H
        obtain ⟨t307, A7, H⟩ := H
        obtain rfl := Option.some.inj H
        go_enter Try.func160, Try.ntmps160
        go_wp2_with (first | ((with_reducible refine gD 1 ?_); refine bxE #[.slice A0_0 l0_0.length c0_0, .int .i64 a0_1, .int .i64 a0_2, .int .i64 a0_3, .int .i64 a0_4, .int .i64 a0_5] 45 ?_; intro gb304 hg w8 BK304 hb; have GW304 := gE hg; have GE304 := gE hg; replace HB := hB hb; clear hb hg; have hz9 := cz6 BK304) | (go_at_call 147; (with_reducible refine (spec_l07Points.calls k _ _ l0_0 _ _ ?side1 ?side2 A3.out).mono ?_); (case side1 => exact cS (Kd.C_below HR0_0.out HB.out)); (case side2 => exact HC0_0.out); rintro e w10 ⟨rfl, hb⟩; replace BK304 := kB (g := gb304) hb; replace HB := hB hb; (try clear hb); (try clear hb2); (try clear hk); (try clear hi); have hz11 := cz6 BK304) | (go_at_call 123; (with_reducible refine (spec_l01In.calls a0_1 0 255 _ _ A5.out).mono ?_); rintro e w' ⟨rfl, ⟨nd, rfl⟩⟩) | (go_at_call 145; (with_reducible refine (spec_BoxOk.calls a0_2 a0_3 a0_4 a0_5 t307 _ A7.out).mono ?_); rintro e w12 ⟨rfl, hb⟩; replace BK304 := kB (g := gb304) hb; replace HB := hB hb; (try clear hb); (try clear hb2); (try clear hk); (try clear hi)))
        go_ret
        exact ⟨eS, bS⟩
      · obtain rfl := Bool.eq_false_iff.mpr c6
        rw [if_neg nF] at H
        obtain rfl := Option.some.inj H
        go_enter Try.func160, Try.ntmps160
        go_wp2_with (first | ((with_reducible refine gD 1 ?_); refine bxE #[.slice A0_0 l0_0.length c0_0, .int .i64 a0_1, .int .i64 a0_2, .int .i64 a0_3, .int .i64 a0_4, .int .i64 a0_5] 45 ?_; intro gb304 hg w13 BK304 hb; have GW304 := gE hg; have GE304 := gE hg; replace HB := hB hb; clear hb hg; have hz14 := cz6 BK304) | (go_at_call 147; (with_reducible refine (spec_l07Points.calls k _ _ l0_0 _ _ ?side1 ?side2 A3.out).mono ?_); (case side1 => exact cS (Kd.C_below HR0_0.out HB.out)); (case side2 => exact HC0_0.out); rintro e w15 ⟨rfl, hb⟩; replace BK304 := kB (g := gb304) hb; replace HB := hB hb; (try clear hb); (try clear hb2); (try clear hk); (try clear hi); have hz16 := cz6 BK304) | (go_at_call 123; (with_reducible refine (spec_l01In.calls a0_1 0 255 _ _ A5.out).mono ?_); rintro e w' ⟨rfl, ⟨nd, rfl⟩⟩))
        go_ret
        exact ⟨eS, bS⟩
    · obtain rfl := Bool.eq_false_iff.mpr c4
      rw [if_neg nF] at H
      obtain rfl := Option.some.inj H
      go_enter Try.func160, Try.ntmps160
      go_wp2_with (first | ((with_reducible refine gD 1 ?_); refine bxE #[.slice A0_0 l0_0.length c0_0, .int .i64 a0_1, .int .i64 a0_2, .int .i64 a0_3, .int .i64 a0_4, .int .i64 a0_5] 45 ?_; intro gb304 hg w17 BK304 hb; have GW304 := gE hg; have GE304 := gE hg; replace HB := hB hb; clear hb hg; have hz18 := cz6 BK304) | (go_at_call 147; (with_reducible refine (spec_l07Points.calls k _ _ l0_0 _ _ ?side1 ?side2 A3.out).mono ?_); (case side1 => exact cS (Kd.C_below HR0_0.out HB.out)); (case side2 => exact HC0_0.out); rintro e w19 ⟨rfl, hb⟩; replace BK304 := kB (g := gb304) hb; replace HB := hB hb; (try clear hb); (try clear hb2); (try clear hk); (try clear hi)))
      go_ret
      exact ⟨eS, bS⟩
  · rw [if_neg c2] at H
    have c2b0 : decide (3 ≤ (l0_0.length : Int)) = false := decide_eq_false c2
    have c2b1 : decide (3 ≤ l0_0.length) = false := decide_eq_false (by omega)
    clear c2
    obtain rfl := Option.some.inj H
    go_enter Try.func160, Try.ntmps160
    go_wp2_with (first | ((with_reducible refine gD 1 ?_); refine bxE #[.slice A0_0 l0_0.length c0_0, .int .i64 a0_1, .int .i64 a0_2, .int .i64 a0_3, .int .i64 a0_4, .int .i64 a0_5] 45 ?_; intro gb304 hg w20 BK304 hb; have GW304 := gE hg; have GE304 := gE hg; replace HB := hB hb; clear hb hg; have hz21 := cz6 BK304))
    go_ret
    exact ⟨eS, bS⟩

/-! ### spec_ObjectOk: function 95 -/
def spec_ObjectOk.f (k : Nat) (l0_0 : List (S171)) (a0_1 : Int) (a0_2 : Int) (a0_3 : Int) (a0_4 : Int) (a0_5 : Int) : Option (Bool) := (spec_l07Object.f k l0_0 a0_1 a0_2 a0_3 a0_4 a0_5).bind fun t309 => (some t309)
theorem spec_ObjectOk.calls (k : Nat) (A0_0 : Option Addr) (c0_0 : Nat) (l0_0 : List (S171)) (a0_1 : Int) (a0_2 : Int) (a0_3 : Int) (a0_4 : Int) (a0_5 : Int) (r : Bool) (w : World) (hr0_0 : Kd.C k171 w A0_0 l0_0.length l0_0) (hc0_0 : l0_0.length ≤ c0_0) (h : spec_ObjectOk.f k l0_0 a0_1 a0_2 a0_3 a0_4 a0_5 = some r) :
    Calls Try.prog 95 #[.agg #[.slice A0_0 l0_0.length c0_0, .int .i64 a0_1, .int .i64 a0_2, .int .i64 a0_3, .int .i64 a0_4, .int .i64 a0_5]] w fun e w' => e = .returned (.bool r) ∧ Below w.heap.size w w' := by
  have hu45 := Try.underlying45
  have HR0_0 := Aside0.mk hr0_0
  have HC0_0 := Aside0.mk hc0_0
  clear hr0_0 hc0_0
  have HB := Aside0.mk (Below.refl w.heap.size w)
  have H : ((spec_l07Object.f k l0_0 a0_1 a0_2 a0_3 a0_4 a0_5).bind fun t309 => (some t309)) = some r := h
  clear h
  replace H := bN H
  obtain ⟨t309, A2, H⟩ := H
  obtain rfl := Option.some.inj H
  go_enter Try.func95, Try.ntmps95
  go_wp2_with (first | ((with_reducible refine gD 1 ?_); refine bxE #[.slice A0_0 l0_0.length c0_0, .int .i64 a0_1, .int .i64 a0_2, .int .i64 a0_3, .int .i64 a0_4, .int .i64 a0_5] 45 ?_; intro gb308 hg w3 BK308 hb; have GW308 := gE hg; have GE308 := gE hg; replace HB := hB hb; clear hb hg; have hz4 := cz6 BK308) | ((with_reducible refine gC 160 ?_); refine cL (some 4) Try.func160 #[.agg #[.slice A0_0 l0_0.length c0_0, .int .i64 a0_1, .int .i64 a0_2, .int .i64 a0_3, .int .i64 a0_4, .int .i64 a0_5]] ?_; (with_reducible refine (spec_l07Object.calls k _ _ l0_0 a0_1 a0_2 a0_3 a0_4 a0_5 t309 _ ?side1 ?side2 A2.out).mono ?_); (case side1 => exact cS (Kd.C_below HR0_0.out HB.out)); (case side2 => exact HC0_0.out); rintro e w5 ⟨rfl, hb⟩; refine ⟨_, rfl, ?_⟩; replace BK308 := kB (g := gb308) hb; replace HB := hB hb; (try clear hb); (try clear hb2); (try clear hk); (try clear hi)))
  go_ret
  exact ⟨eS, bS⟩

/-! ### spec_MeetBox: function 142 -/
def spec_MeetBox.f (a0_0 : Int) (a0_1 : Int) (a0_2 : Int) (a0_3 : Int) (a1_0 : Int) (a1_1 : Int) (a1_2 : Int) (a1_3 : Int) : Option (Int × Int × Int × Int) := (spec_BoxOk.f a0_0 a0_1 a0_2 a0_3).bind fun t314 => (if t314 = true then ((spec_BoxOk.f a1_0 a1_1 a1_2 a1_3).bind fun t315 => (if t315 = true then (if (mx a0_0 a1_0) ≥ (mn a0_2 a1_2) then (some (0, 0, 0, 0)) else (if (mx a0_1 a1_1) ≥ (mn a0_3 a1_3) then (some (0, 0, 0, 0)) else (some (mx a0_0 a1_0, mx a0_1 a1_1, mn a0_2 a1_2, mn a0_3 a1_3)))) else (some (0, 0, 0, 0)))) else (some (0, 0, 0, 0)))
theorem spec_MeetBox.calls (a0_0 : Int) (a0_1 : Int) (a0_2 : Int) (a0_3 : Int) (a1_0 : Int) (a1_1 : Int) (a1_2 : Int) (a1_3 : Int) (r1 : Int) (r2 : Int) (r3 : Int) (r4 : Int) (w : World) (h : spec_MeetBox.f a0_0 a0_1 a0_2 a0_3 a1_0 a1_1 a1_2 a1_3 = some (r1, r2, r3, r4)) :
    Calls Try.prog 142 #[.agg #[.int .i64 a0_0, .int .i64 a0_1, .int .i64 a0_2, .int .i64 a0_3], .agg #[.int .i64 a1_0, .int .i64 a1_1, .int .i64 a1_2, .int .i64 a1_3]] w fun e w' => e = .returned (.agg #[.int .i64 r1, .int .i64 r2, .int .i64 r3, .int .i64 r4]) ∧ Below w.heap.size w w' := by
  have hu43 := Try.underlying43
  have HB := Aside0.mk (Below.refl w.heap.size w)
  have H : ((spec_BoxOk.f a0_0 a0_1 a0_2 a0_3).bind fun t314 => (if t314 = true then ((spec_BoxOk.f a1_0 a1_1 a1_2 a1_3).bind fun t315 => (if t315 = true then (if (mx a0_0 a1_0) ≥ (mn a0_2 a1_2) then (some (0, 0, 0, 0)) else (if (mx a0_1 a1_1) ≥ (mn a0_3 a1_3) then (some (0, 0, 0, 0)) else (some (mx a0_0 a1_0, mx a0_1 a1_1, mn a0_2 a1_2, mn a0_3 a1_3)))) else (some (0, 0, 0, 0)))) else (some (0, 0, 0, 0)))) = some (r1, r2, r3, r4) := h
  clear h
  obtain ⟨ji3, hji3⟩ : ∃ j_ : Int, (mx a0_0 a1_0) = j_ := ⟨_, rfl⟩
  replace H : ((spec_BoxOk.f a0_0 a0_1 a0_2 a0_3).bind fun t314 => (if t314 = true then ((spec_BoxOk.f a1_0 a1_1 a1_2 a1_3).bind fun t315 => (if t315 = true then (if (ji3) ≥ (mn a0_2 a1_2) then (some (0, 0, 0, 0)) else (if (mx a0_1 a1_1) ≥ (mn a0_3 a1_3) then (some (0, 0, 0, 0)) else (some (ji3, mx a0_1 a1_1, mn a0_2 a1_2, mn a0_3 a1_3)))) else (some (0, 0, 0, 0)))) else (some (0, 0, 0, 0)))) = some (r1, r2, r3, r4) := by first | (rw [hji3] at H; exact H) | (simp only [hji3] at H ⊢; exact H)
  have hji3_ : (if a0_0 < a1_0 then a1_0 else a0_0) = ji3 := hji3
  obtain ⟨ji4, hji4⟩ : ∃ j_ : Int, (mx a0_1 a1_1) = j_ := ⟨_, rfl⟩
  replace H : ((spec_BoxOk.f a0_0 a0_1 a0_2 a0_3).bind fun t314 => (if t314 = true then ((spec_BoxOk.f a1_0 a1_1 a1_2 a1_3).bind fun t315 => (if t315 = true then (if (ji3) ≥ (mn a0_2 a1_2) then (some (0, 0, 0, 0)) else (if (ji4) ≥ (mn a0_3 a1_3) then (some (0, 0, 0, 0)) else (some (ji3, ji4, mn a0_2 a1_2, mn a0_3 a1_3)))) else (some (0, 0, 0, 0)))) else (some (0, 0, 0, 0)))) = some (r1, r2, r3, r4) := by first | (rw [hji4] at H; exact H) | (simp only [hji4] at H ⊢; exact H)
  have hji4_ : (if a0_1 < a1_1 then a1_1 else a0_1) = ji4 := hji4
  obtain ⟨ji5, hji5⟩ : ∃ j_ : Int, (mn a0_2 a1_2) = j_ := ⟨_, rfl⟩
  replace H : ((spec_BoxOk.f a0_0 a0_1 a0_2 a0_3).bind fun t314 => (if t314 = true then ((spec_BoxOk.f a1_0 a1_1 a1_2 a1_3).bind fun t315 => (if t315 = true then (if (ji3) ≥ (ji5) then (some (0, 0, 0, 0)) else (if (ji4) ≥ (mn a0_3 a1_3) then (some (0, 0, 0, 0)) else (some (ji3, ji4, ji5, mn a0_3 a1_3)))) else (some (0, 0, 0, 0)))) else (some (0, 0, 0, 0)))) = some (r1, r2, r3, r4) := by first | (rw [hji5] at H; exact H) | (simp only [hji5] at H ⊢; exact H)
  have hji5_ : (if a1_2 < a0_2 then a1_2 else a0_2) = ji5 := hji5
  obtain ⟨ji6, hji6⟩ : ∃ j_ : Int, (mn a0_3 a1_3) = j_ := ⟨_, rfl⟩
  replace H : ((spec_BoxOk.f a0_0 a0_1 a0_2 a0_3).bind fun t314 => (if t314 = true then ((spec_BoxOk.f a1_0 a1_1 a1_2 a1_3).bind fun t315 => (if t315 = true then (if (ji3) ≥ (ji5) then (some (0, 0, 0, 0)) else (if (ji4) ≥ (ji6) then (some (0, 0, 0, 0)) else (some (ji3, ji4, ji5, ji6)))) else (some (0, 0, 0, 0)))) else (some (0, 0, 0, 0)))) = some (r1, r2, r3, r4) := by first | (rw [hji6] at H; exact H) | (simp only [hji6] at H ⊢; exact H)
  have hji6_ : (if a1_3 < a0_3 then a1_3 else a0_3) = ji6 := hji6
  replace H := bN H
  obtain ⟨t314, A7, H⟩ := H
  by_cases c8 : t314 = true
  · subst c8
    rw [if_pos rfl] at H
    replace H := bN H
    obtain ⟨t315, A9, H⟩ := H
    by_cases c10 : t315 = true
    · subst c10
      rw [if_pos rfl] at H
      by_cases c11 : (ji3) ≥ (ji5)
      · rw [if_pos c11] at H
        have c11b0 : decide ((ji5) ≤ (ji3)) = true := decide_eq_true c11
        clear c11
        simp only [Option.some.injEq, Prod.mk.injEq] at H
        obtain ⟨rfl, rfl, rfl, rfl⟩ := H
        go_enter Try.func142, Try.ntmps142
        go_wp2_with (first | ((with_reducible refine gD 2 ?_); refine bxE #[.int .i64 a0_0, .int .i64 a0_1, .int .i64 a0_2, .int .i64 a0_3] 43 ?_; intro gb310 hg w12 BK310 hb; have GW310 := gE hg; have GE310 := gE hg; replace HB := hB hb; clear hb hg) | ((with_reducible refine gD 3 ?_); refine bxE #[.int .i64 a1_0, .int .i64 a1_1, .int .i64 a1_2, .int .i64 a1_3] 43 ?_; intro gb311 hg w13 BK311 hb; have GW311 := gE hg; have GE311 := gE hg; have NB310_311 := nL (g := gb310) hg; have NB311_310 := nG (g := gb310) hg; replace BK310 := kB (g := gb310) hb; replace HB := hB hb; clear hb hg) | ((with_reducible refine gD 4 ?_); refine bxE #[.int .i64 0, .int .i64 0, .int .i64 0, .int .i64 0] 43 ?_; intro gb312 hg w14 BK312 hb; have GW312 := gE hg; have GE312 := gE hg; have NB310_312 := nL (g := gb310) hg; have NB312_310 := nG (g := gb310) hg; have NB311_312 := nL (g := gb311) hg; have NB312_311 := nG (g := gb311) hg; replace BK310 := kB (g := gb310) hb; replace BK311 := kB (g := gb311) hb; replace HB := hB hb; clear hb hg; have hnb15 := NB310_311.out; have hnc15 := NB311_310.out; have hnb16 := NB310_312.out; have hnc16 := NB312_310.out; have hz17 := cz4 BK310; have hnb18 := NB311_312.out; have hnc18 := NB312_311.out; have hz19 := cz4 BK311) | ((with_reducible refine gD 5 ?_); refine bxE #[.int .i64 0, .int .i64 0, .int .i64 0, .int .i64 0] 43 ?_; intro gb313 hg w20 BK313 hb; have GW313 := gE hg; have GE313 := gE hg; have NB310_313 := nL (g := gb310) hg; have NB313_310 := nG (g := gb310) hg; have NB311_313 := nL (g := gb311) hg; have NB313_311 := nG (g := gb311) hg; have NB312_313 := nL (g := gb312) hg; have NB313_312 := nG (g := gb312) hg; replace BK310 := kB (g := gb310) hb; replace BK311 := kB (g := gb311) hb; replace BK312 := kB (g := gb312) hb; replace HB := hB hb; clear hb hg; have hnb21 := NB313_310.out; have hnc21 := NB310_313.out; have hnb22 := NB313_311.out; have hnc22 := NB311_313.out; have hnb23 := NB313_312.out; have hnc23 := NB312_313.out; have hz24 := cz4 BK313; have hz25 := cz4 BK310) | ((with_reducible refine gC 145 ?_); refine cL (some 28) Try.func145 #[.agg #[.int .i64 a0_0, .int .i64 a0_1, .int .i64 a0_2, .int .i64 a0_3]] ?_; (with_reducible refine (spec_BoxOk.calls a0_0 a0_1 a0_2 a0_3 _ _ A7.out).mono ?_); rintro e w26 ⟨rfl, hb⟩; refine ⟨_, rfl, ?_⟩; replace BK310 := kB (g := gb310) hb; replace BK311 := kB (g := gb311) hb; replace BK312 := kB (g := gb312) hb; replace BK313 := Aside0.mk (blk_below (g := gb313) (o := .cells #[.int .i64 ji3, .int .i64 ji4, .int .i64 ji5, .int .i64 ji6] 43 (0, 0)) kS hb); replace HB := hB hb; (try clear hb); (try clear hb2); (try clear hk); (try clear hi); have hz27 := cz4 BK311) | (go_at_call 145; (with_reducible refine (spec_BoxOk.calls a1_0 a1_1 a1_2 a1_3 _ _ A9.out).mono ?_); rintro e w28 ⟨rfl, hb⟩; replace BK310 := kB (g := gb310) hb; replace BK311 := kB (g := gb311) hb; replace BK312 := kB (g := gb312) hb; replace BK313 := kB (g := gb313) hb; replace HB := hB hb; (try clear hb); (try clear hb2); (try clear hk); (try clear hi); have hz29 := cz4 BK313; have hz30 := cz4 BK312))
        refine bodyPost_ret (results_cell_row rfl _ _ gb312 43 #[.int .i64 0, .int .i64 0, .int .i64 0, .int .i64 0] (0, 0) _ rfl kS Try.underlying43 rfl (by kernel_rfl)) rfl ?_
        exact ⟨by first | rfl | (simp [errW_none, errW_some] <;> rfl) | (simp only [← hji3, ← hji4, ← hji5, ← hji6]; first | rfl | (simp [errW_none, errW_some] <;> rfl)) | (simp [*, errW_none, errW_some] <;> rfl), bS⟩
      · rw [if_neg c11] at H
        have c11b0 : decide ((ji5) ≤ (ji3)) = false := decide_eq_false c11
        clear c11
        by_cases c31 : (ji4) ≥ (ji6)
        · rw [if_pos c31] at H
          have c31b0 : decide ((ji6) ≤ (ji4)) = true := decide_eq_true c31
          clear c31
          simp only [Option.some.injEq, Prod.mk.injEq] at H
          obtain ⟨rfl, rfl, rfl, rfl⟩ := H
          go_enter Try.func142, Try.ntmps142
          go_wp2_with (first | ((with_reducible refine gD 2 ?_); refine bxE #[.int .i64 a0_0, .int .i64 a0_1, .int .i64 a0_2, .int .i64 a0_3] 43 ?_; intro gb310 hg w32 BK310 hb; have GW310 := gE hg; have GE310 := gE hg; replace HB := hB hb; clear hb hg) | ((with_reducible refine gD 3 ?_); refine bxE #[.int .i64 a1_0, .int .i64 a1_1, .int .i64 a1_2, .int .i64 a1_3] 43 ?_; intro gb311 hg w33 BK311 hb; have GW311 := gE hg; have GE311 := gE hg; have NB310_311 := nL (g := gb310) hg; have NB311_310 := nG (g := gb310) hg; replace BK310 := kB (g := gb310) hb; replace HB := hB hb; clear hb hg) | ((with_reducible refine gD 4 ?_); refine bxE #[.int .i64 0, .int .i64 0, .int .i64 0, .int .i64 0] 43 ?_; intro gb312 hg w34 BK312 hb; have GW312 := gE hg; have GE312 := gE hg; have NB310_312 := nL (g := gb310) hg; have NB312_310 := nG (g := gb310) hg; have NB311_312 := nL (g := gb311) hg; have NB312_311 := nG (g := gb311) hg; replace BK310 := kB (g := gb310) hb; replace BK311 := kB (g := gb311) hb; replace HB := hB hb; clear hb hg; have hnb35 := NB310_311.out; have hnc35 := NB311_310.out; have hnb36 := NB310_312.out; have hnc36 := NB312_310.out; have hz37 := cz4 BK310; have hnb38 := NB311_312.out; have hnc38 := NB312_311.out; have hz39 := cz4 BK311) | ((with_reducible refine gD 5 ?_); refine bxE #[.int .i64 0, .int .i64 0, .int .i64 0, .int .i64 0] 43 ?_; intro gb313 hg w40 BK313 hb; have GW313 := gE hg; have GE313 := gE hg; have NB310_313 := nL (g := gb310) hg; have NB313_310 := nG (g := gb310) hg; have NB311_313 := nL (g := gb311) hg; have NB313_311 := nG (g := gb311) hg; have NB312_313 := nL (g := gb312) hg; have NB313_312 := nG (g := gb312) hg; replace BK310 := kB (g := gb310) hb; replace BK311 := kB (g := gb311) hb; replace BK312 := kB (g := gb312) hb; replace HB := hB hb; clear hb hg; have hnb41 := NB313_310.out; have hnc41 := NB310_313.out; have hnb42 := NB313_311.out; have hnc42 := NB311_313.out; have hnb43 := NB313_312.out; have hnc43 := NB312_313.out; have hz44 := cz4 BK313; have hz45 := cz4 BK310) | ((with_reducible refine gC 145 ?_); refine cL (some 28) Try.func145 #[.agg #[.int .i64 a0_0, .int .i64 a0_1, .int .i64 a0_2, .int .i64 a0_3]] ?_; (with_reducible refine (spec_BoxOk.calls a0_0 a0_1 a0_2 a0_3 _ _ A7.out).mono ?_); rintro e w46 ⟨rfl, hb⟩; refine ⟨_, rfl, ?_⟩; replace BK310 := kB (g := gb310) hb; replace BK311 := kB (g := gb311) hb; replace BK312 := kB (g := gb312) hb; replace BK313 := Aside0.mk (blk_below (g := gb313) (o := .cells #[.int .i64 ji3, .int .i64 ji4, .int .i64 ji5, .int .i64 ji6] 43 (0, 0)) kS hb); replace HB := hB hb; (try clear hb); (try clear hb2); (try clear hk); (try clear hi); have hz47 := cz4 BK311) | (go_at_call 145; (with_reducible refine (spec_BoxOk.calls a1_0 a1_1 a1_2 a1_3 _ _ A9.out).mono ?_); rintro e w48 ⟨rfl, hb⟩; replace BK310 := kB (g := gb310) hb; replace BK311 := kB (g := gb311) hb; replace BK312 := kB (g := gb312) hb; replace BK313 := kB (g := gb313) hb; replace HB := hB hb; (try clear hb); (try clear hb2); (try clear hk); (try clear hi); have hz49 := cz4 BK313; have hz50 := cz4 BK312))
          refine bodyPost_ret (results_cell_row rfl _ _ gb312 43 #[.int .i64 0, .int .i64 0, .int .i64 0, .int .i64 0] (0, 0) _ rfl kS Try.underlying43 rfl (by kernel_rfl)) rfl ?_
          exact ⟨by first | rfl | (simp [errW_none, errW_some] <;> rfl) | (simp only [← hji3, ← hji4, ← hji5, ← hji6]; first | rfl | (simp [errW_none, errW_some] <;> rfl)) | (simp [*, errW_none, errW_some] <;> rfl), bS⟩
        · rw [if_neg c31] at H
          have c31b0 : decide ((ji6) ≤ (ji4)) = false := decide_eq_false c31
          clear c31
          simp only [Option.some.injEq, Prod.mk.injEq] at H
          obtain ⟨rfl, rfl, rfl, rfl⟩ := H
          go_enter Try.func142, Try.ntmps142
          go_wp2_with (first | ((with_reducible refine gD 2 ?_); refine bxE #[.int .i64 a0_0, .int .i64 a0_1, .int .i64 a0_2, .int .i64 a0_3] 43 ?_; intro gb310 hg w51 BK310 hb; have GW310 := gE hg; have GE310 := gE hg; replace HB := hB hb; clear hb hg) | ((with_reducible refine gD 3 ?_); refine bxE #[.int .i64 a1_0, .int .i64 a1_1, .int .i64 a1_2, .int .i64 a1_3] 43 ?_; intro gb311 hg w52 BK311 hb; have GW311 := gE hg; have GE311 := gE hg; have NB310_311 := nL (g := gb310) hg; have NB311_310 := nG (g := gb310) hg; replace BK310 := kB (g := gb310) hb; replace HB := hB hb; clear hb hg) | ((with_reducible refine gD 4 ?_); refine bxE #[.int .i64 0, .int .i64 0, .int .i64 0, .int .i64 0] 43 ?_; intro gb312 hg w53 BK312 hb; have GW312 := gE hg; have GE312 := gE hg; have NB310_312 := nL (g := gb310) hg; have NB312_310 := nG (g := gb310) hg; have NB311_312 := nL (g := gb311) hg; have NB312_311 := nG (g := gb311) hg; replace BK310 := kB (g := gb310) hb; replace BK311 := kB (g := gb311) hb; replace HB := hB hb; clear hb hg; have hnb54 := NB310_311.out; have hnc54 := NB311_310.out; have hnb55 := NB310_312.out; have hnc55 := NB312_310.out; have hz56 := cz4 BK310; have hnb57 := NB311_312.out; have hnc57 := NB312_311.out; have hz58 := cz4 BK311) | ((with_reducible refine gD 5 ?_); refine bxE #[.int .i64 0, .int .i64 0, .int .i64 0, .int .i64 0] 43 ?_; intro gb313 hg w59 BK313 hb; have GW313 := gE hg; have GE313 := gE hg; have NB310_313 := nL (g := gb310) hg; have NB313_310 := nG (g := gb310) hg; have NB311_313 := nL (g := gb311) hg; have NB313_311 := nG (g := gb311) hg; have NB312_313 := nL (g := gb312) hg; have NB313_312 := nG (g := gb312) hg; replace BK310 := kB (g := gb310) hb; replace BK311 := kB (g := gb311) hb; replace BK312 := kB (g := gb312) hb; replace HB := hB hb; clear hb hg; have hnb60 := NB313_310.out; have hnc60 := NB310_313.out; have hnb61 := NB313_311.out; have hnc61 := NB311_313.out; have hnb62 := NB313_312.out; have hnc62 := NB312_313.out; have hz63 := cz4 BK313; have hz64 := cz4 BK310) | ((with_reducible refine gC 145 ?_); refine cL (some 28) Try.func145 #[.agg #[.int .i64 a0_0, .int .i64 a0_1, .int .i64 a0_2, .int .i64 a0_3]] ?_; (with_reducible refine (spec_BoxOk.calls a0_0 a0_1 a0_2 a0_3 _ _ A7.out).mono ?_); rintro e w65 ⟨rfl, hb⟩; refine ⟨_, rfl, ?_⟩; replace BK310 := kB (g := gb310) hb; replace BK311 := kB (g := gb311) hb; replace BK312 := kB (g := gb312) hb; replace BK313 := Aside0.mk (blk_below (g := gb313) (o := .cells #[.int .i64 ji3, .int .i64 ji4, .int .i64 ji5, .int .i64 ji6] 43 (0, 0)) kS hb); replace HB := hB hb; (try clear hb); (try clear hb2); (try clear hk); (try clear hi); have hz66 := cz4 BK311) | (go_at_call 145; (with_reducible refine (spec_BoxOk.calls a1_0 a1_1 a1_2 a1_3 _ _ A9.out).mono ?_); rintro e w67 ⟨rfl, hb⟩; replace BK310 := kB (g := gb310) hb; replace BK311 := kB (g := gb311) hb; replace BK312 := kB (g := gb312) hb; replace BK313 := kB (g := gb313) hb; replace HB := hB hb; (try clear hb); (try clear hb2); (try clear hk); (try clear hi); have hz68 := cz4 BK313; have hz69 := cz4 BK312))
          refine bodyPost_ret (results_cell_row rfl _ _ gb312 43 #[.int .i64 ji3, .int .i64 ji4, .int .i64 ji5, .int .i64 ji6] (0, 0) _ rfl kS Try.underlying43 rfl (by kernel_rfl)) rfl ?_
          exact ⟨by first | rfl | (simp [errW_none, errW_some] <;> rfl) | (simp only [← hji3, ← hji4, ← hji5, ← hji6]; first | rfl | (simp [errW_none, errW_some] <;> rfl)) | (simp [*, errW_none, errW_some] <;> rfl), bS⟩
    · obtain rfl := Bool.eq_false_iff.mpr c10
      rw [if_neg nF] at H
      simp only [Option.some.injEq, Prod.mk.injEq] at H
      obtain ⟨rfl, rfl, rfl, rfl⟩ := H
      go_enter Try.func142, Try.ntmps142
      go_wp2_with (first | ((with_reducible refine gD 2 ?_); refine bxE #[.int .i64 a0_0, .int .i64 a0_1, .int .i64 a0_2, .int .i64 a0_3] 43 ?_; intro gb310 hg w70 BK310 hb; have GW310 := gE hg; have GE310 := gE hg; replace HB := hB hb; clear hb hg) | ((with_reducible refine gD 3 ?_); refine bxE #[.int .i64 a1_0, .int .i64 a1_1, .int .i64 a1_2, .int .i64 a1_3] 43 ?_; intro gb311 hg w71 BK311 hb; have GW311 := gE hg; have GE311 := gE hg; have NB310_311 := nL (g := gb310) hg; have NB311_310 := nG (g := gb310) hg; replace BK310 := kB (g := gb310) hb; replace HB := hB hb; clear hb hg) | ((with_reducible refine gD 4 ?_); refine bxE #[.int .i64 0, .int .i64 0, .int .i64 0, .int .i64 0] 43 ?_; intro gb312 hg w72 BK312 hb; have GW312 := gE hg; have GE312 := gE hg; have NB310_312 := nL (g := gb310) hg; have NB312_310 := nG (g := gb310) hg; have NB311_312 := nL (g := gb311) hg; have NB312_311 := nG (g := gb311) hg; replace BK310 := kB (g := gb310) hb; replace BK311 := kB (g := gb311) hb; replace HB := hB hb; clear hb hg; have hnb73 := NB310_311.out; have hnc73 := NB311_310.out; have hnb74 := NB310_312.out; have hnc74 := NB312_310.out; have hz75 := cz4 BK310; have hnb76 := NB311_312.out; have hnc76 := NB312_311.out; have hz77 := cz4 BK311) | ((with_reducible refine gD 5 ?_); refine bxE #[.int .i64 0, .int .i64 0, .int .i64 0, .int .i64 0] 43 ?_; intro gb313 hg w78 BK313 hb; have GW313 := gE hg; have GE313 := gE hg; have NB310_313 := nL (g := gb310) hg; have NB313_310 := nG (g := gb310) hg; have NB311_313 := nL (g := gb311) hg; have NB313_311 := nG (g := gb311) hg; have NB312_313 := nL (g := gb312) hg; have NB313_312 := nG (g := gb312) hg; replace BK310 := kB (g := gb310) hb; replace BK311 := kB (g := gb311) hb; replace BK312 := kB (g := gb312) hb; replace HB := hB hb; clear hb hg; have hnb79 := NB313_310.out; have hnc79 := NB310_313.out; have hnb80 := NB313_311.out; have hnc80 := NB311_313.out; have hnb81 := NB313_312.out; have hnc81 := NB312_313.out; have hz82 := cz4 BK313; have hz83 := cz4 BK310) | ((with_reducible refine gC 145 ?_); refine cL (some 28) Try.func145 #[.agg #[.int .i64 a0_0, .int .i64 a0_1, .int .i64 a0_2, .int .i64 a0_3]] ?_; (with_reducible refine (spec_BoxOk.calls a0_0 a0_1 a0_2 a0_3 _ _ A7.out).mono ?_); rintro e w84 ⟨rfl, hb⟩; refine ⟨_, rfl, ?_⟩; replace BK310 := kB (g := gb310) hb; replace BK311 := kB (g := gb311) hb; replace BK312 := kB (g := gb312) hb; replace BK313 := Aside0.mk (blk_below (g := gb313) (o := .cells #[.int .i64 ji3, .int .i64 ji4, .int .i64 ji5, .int .i64 ji6] 43 (0, 0)) kS hb); replace HB := hB hb; (try clear hb); (try clear hb2); (try clear hk); (try clear hi); have hz85 := cz4 BK311) | (go_at_call 145; (with_reducible refine (spec_BoxOk.calls a1_0 a1_1 a1_2 a1_3 _ _ A9.out).mono ?_); rintro e w86 ⟨rfl, hb⟩; replace BK310 := kB (g := gb310) hb; replace BK311 := kB (g := gb311) hb; replace BK312 := kB (g := gb312) hb; replace BK313 := kB (g := gb313) hb; replace HB := hB hb; (try clear hb); (try clear hb2); (try clear hk); (try clear hi); have hz87 := cz4 BK312))
      refine bodyPost_ret (results_cell_row rfl _ _ gb312 43 #[.int .i64 0, .int .i64 0, .int .i64 0, .int .i64 0] (0, 0) _ rfl kS Try.underlying43 rfl (by kernel_rfl)) rfl ?_
      exact ⟨by first | rfl | (simp [errW_none, errW_some] <;> rfl) | (simp only [← hji3, ← hji4, ← hji5, ← hji6]; first | rfl | (simp [errW_none, errW_some] <;> rfl)) | (simp [*, errW_none, errW_some] <;> rfl), bS⟩
  · obtain rfl := Bool.eq_false_iff.mpr c8
    rw [if_neg nF] at H
    simp only [Option.some.injEq, Prod.mk.injEq] at H
    obtain ⟨rfl, rfl, rfl, rfl⟩ := H
    go_enter Try.func142, Try.ntmps142
    go_wp2_with (first | ((with_reducible refine gD 2 ?_); refine bxE #[.int .i64 a0_0, .int .i64 a0_1, .int .i64 a0_2, .int .i64 a0_3] 43 ?_; intro gb310 hg w88 BK310 hb; have GW310 := gE hg; have GE310 := gE hg; replace HB := hB hb; clear hb hg) | ((with_reducible refine gD 3 ?_); refine bxE #[.int .i64 a1_0, .int .i64 a1_1, .int .i64 a1_2, .int .i64 a1_3] 43 ?_; intro gb311 hg w89 BK311 hb; have GW311 := gE hg; have GE311 := gE hg; have NB310_311 := nL (g := gb310) hg; have NB311_310 := nG (g := gb310) hg; replace BK310 := kB (g := gb310) hb; replace HB := hB hb; clear hb hg) | ((with_reducible refine gD 4 ?_); refine bxE #[.int .i64 0, .int .i64 0, .int .i64 0, .int .i64 0] 43 ?_; intro gb312 hg w90 BK312 hb; have GW312 := gE hg; have GE312 := gE hg; have NB310_312 := nL (g := gb310) hg; have NB312_310 := nG (g := gb310) hg; have NB311_312 := nL (g := gb311) hg; have NB312_311 := nG (g := gb311) hg; replace BK310 := kB (g := gb310) hb; replace BK311 := kB (g := gb311) hb; replace HB := hB hb; clear hb hg; have hnb91 := NB310_311.out; have hnc91 := NB311_310.out; have hnb92 := NB310_312.out; have hnc92 := NB312_310.out; have hz93 := cz4 BK310; have hnb94 := NB311_312.out; have hnc94 := NB312_311.out; have hz95 := cz4 BK311) | ((with_reducible refine gD 5 ?_); refine bxE #[.int .i64 0, .int .i64 0, .int .i64 0, .int .i64 0] 43 ?_; intro gb313 hg w96 BK313 hb; have GW313 := gE hg; have GE313 := gE hg; have NB310_313 := nL (g := gb310) hg; have NB313_310 := nG (g := gb310) hg; have NB311_313 := nL (g := gb311) hg; have NB313_311 := nG (g := gb311) hg; have NB312_313 := nL (g := gb312) hg; have NB313_312 := nG (g := gb312) hg; replace BK310 := kB (g := gb310) hb; replace BK311 := kB (g := gb311) hb; replace BK312 := kB (g := gb312) hb; replace HB := hB hb; clear hb hg; have hnb97 := NB313_310.out; have hnc97 := NB310_313.out; have hnb98 := NB313_311.out; have hnc98 := NB311_313.out; have hnb99 := NB313_312.out; have hnc99 := NB312_313.out; have hz100 := cz4 BK313; have hz101 := cz4 BK310) | ((with_reducible refine gC 145 ?_); refine cL (some 28) Try.func145 #[.agg #[.int .i64 a0_0, .int .i64 a0_1, .int .i64 a0_2, .int .i64 a0_3]] ?_; (with_reducible refine (spec_BoxOk.calls a0_0 a0_1 a0_2 a0_3 _ _ A7.out).mono ?_); rintro e w102 ⟨rfl, hb⟩; refine ⟨_, rfl, ?_⟩; replace BK310 := kB (g := gb310) hb; replace BK311 := kB (g := gb311) hb; replace BK312 := kB (g := gb312) hb; replace BK313 := Aside0.mk (blk_below (g := gb313) (o := .cells #[.int .i64 ji3, .int .i64 ji4, .int .i64 ji5, .int .i64 ji6] 43 (0, 0)) kS hb); replace HB := hB hb; (try clear hb); (try clear hb2); (try clear hk); (try clear hi); have hz103 := cz4 BK312))
    refine bodyPost_ret (results_cell_row rfl _ _ gb312 43 #[.int .i64 0, .int .i64 0, .int .i64 0, .int .i64 0] (0, 0) _ rfl kS Try.underlying43 rfl (by kernel_rfl)) rfl ?_
    exact ⟨by first | rfl | (simp [errW_none, errW_some] <;> rfl) | (simp only [← hji3, ← hji4, ← hji5, ← hji6]; first | rfl | (simp [errW_none, errW_some] <;> rfl)) | (simp [*, errW_none, errW_some] <;> rfl), bS⟩

/-! ### spec_BoxOf: function 143 -/
def spec_BoxOf.l0 : Nat → List (S171) → Int → Int → Int → Int → Int → Option (Int × Int × Int × Int)
  | 0, _, _, _, _, _, _ => none
  | k + 1, x0, x4, x318000, x318001, x318002, x318003 => if x4 < (x0.length : Int) then (if 0 ≤ x4 then ((spec_PointOk.f ((rd_T171 x0 x4).f0) ((rd_T171 x0 x4).f1)).bind fun t320 => (if t320 = true then (if x4 = 0 then (spec_BoxOf.l0 k x0 (wrap64 (x4 + 1)) ((rd_T171 x0 x4).f0) ((rd_T171 x0 x4).f1) ((rd_T171 x0 x4).f0) ((rd_T171 x0 x4).f1)) else (spec_BoxOf.l0 k x0 (wrap64 (x4 + 1)) (mn x318000 ((rd_T171 x0 x4).f0)) (mn x318001 ((rd_T171 x0 x4).f1)) (mx x318002 ((rd_T171 x0 x4).f0)) (mx x318003 ((rd_T171 x0 x4).f1)))) else (some (0, 0, 0, 0)))) else (none)) else (some (x318000, x318001, x318002, x318003))
def spec_BoxOf.f (k : Nat) (l0 : List (S171)) : Option (Int × Int × Int × Int) := spec_BoxOf.l0 k l0 0 0 0 0 0
theorem spec_BoxOf.calls (k : Nat) (A0 : Option Addr) (c0 : Nat) (l0 : List (S171)) (r1 : Int) (r2 : Int) (r3 : Int) (r4 : Int) (w : World) (hr0 : Kd.C k171 w A0 l0.length l0) (hc0 : l0.length ≤ c0) (h : spec_BoxOf.f k l0 = some (r1, r2, r3, r4)) :
    Calls Try.prog 143 #[.slice A0 l0.length c0] w fun e w' => e = .returned (.agg #[.int .i64 r1, .int .i64 r2, .int .i64 r3, .int .i64 r4]) ∧ Below w.heap.size w w' := by
  have hu43 := Try.underlying43
  have hu171 := Try.underlying171
  have HR0 := Aside0.mk hr0
  have HC0 := Aside0.mk hc0
  clear hr0 hc0
  have HB := Aside0.mk (Below.refl w.heap.size w)
  have H : (spec_BoxOf.l0 k l0 0 0 0 0 0) = some (r1, r2, r3, r4) := h
  clear h
  have H' := Aside0.mk H
  clear H
  go_enter Try.func143, Try.ntmps143
  go_wp2_with (first | ((with_reducible refine gD 2 ?_); refine bxE #[.int .i64 0, .int .i64 0, .int .i64 0, .int .i64 0] 43 ?_; intro gb316 hg w2 BK316 hb; have GW316 := gE hg; have GE316 := gE hg; replace HB := hB hb; clear hb hg) | ((with_reducible refine gD 3 ?_); refine bxE #[.int .i64 0, .int .i64 0, .int .i64 0, .int .i64 0] 43 ?_; intro gb317 hg w3 BK317 hb; have GW317 := gE hg; have GE317 := gE hg; have NB316_317 := nL (g := gb316) hg; have NB317_316 := nG (g := gb316) hg; replace BK316 := kB (g := gb316) hb; replace HB := hB hb; clear hb hg; have hnb4 := NB317_316.out; have hnc4 := NB316_317.out; have hcz5_0 : w3.cell? ⟨gb317, 0, none⟩ = some (.int .i64 0) := (blk_cell BK317.out 0).trans rfl; have hcz5_1 : w3.cell? ⟨gb317, 1, none⟩ = some (.int .i64 0) := (blk_cell BK317.out 1).trans rfl; have hcz5_2 : w3.cell? ⟨gb317, 2, none⟩ = some (.int .i64 0) := (blk_cell BK317.out 2).trans rfl; have hcz5_3 : w3.cell? ⟨gb317, 3, none⟩ = some (.int .i64 0) := (blk_cell BK317.out 3).trans rfl; have hfz5_0 := blk_frozen BK317.out 0; have hfz5_1 := blk_frozen BK317.out 1; have hfz5_2 := blk_frozen BK317.out 2; have hfz5_3 := blk_frozen BK317.out 3))
  go_loopg [4] k (fun kq v4 w' => ∃ (x4_1 : Int) (x317000_1 : Int) (x317001_1 : Int) (x317002_1 : Int) (x317003_1 : Int) (x318000_1 : Int) (x318001_1 : Int) (x318002_1 : Int) (x318003_1 : Int), v4 = .int .i64 x4_1 ∧ Aside0 (spec_BoxOf.l0 kq l0 x4_1 x318000_1 x318001_1 x318002_1 x318003_1 = some (r1, r2, r3, r4)) ∧ Aside0 (kq ≤ k) ∧ Aside0 (w'.heap[gb316]? = some (.cells #[.int .i64 x317000_1, .int .i64 x317001_1, .int .i64 x317002_1, .int .i64 x317003_1] 43 (0, 0))) ∧ Aside0 (w'.heap[gb317]? = some (.cells #[.int .i64 x318000_1, .int .i64 x318001_1, .int .i64 x318002_1, .int .i64 x318003_1] 43 (0, 0))) ∧ Aside0 (Below w.heap.size w w'))
  case atStart => exact ⟨(0), (0), (0), (0), (0), (0), (0), (0), (0), (by first | rfl | (simp; done) | (simp [*]; done)), H', ⟨Nat.le_refl _⟩, ⟨kS⟩, ⟨kS⟩, ⟨bS⟩⟩
  case round =>
    clear H'
    try clear c1
    try clear p2
    try clear c4
    try clear hcz5_0
    try clear hcz5_1
    try clear hcz5_2
    try clear hcz5_3
    try clear hfz5_0
    try clear hfz5_1
    try clear hfz5_2
    try clear hfz5_3
    obtain ⟨x4_1, x317000_1, x317001_1, x317002_1, x317003_1, x318000_1, x318001_1, x318002_1, x318003_1, rfl, HA, HK1, BK316, BK317, HB⟩ := hrel
    cases gk with
    | zero => exact absurd HA.out (by simp [spec_BoxOf.l0])
    | succ k1 =>
      have H := HA.out
      clear HA
      simp only [spec_BoxOf.l0] at H
      by_cases c6 : x4_1 < (l0.length : Int)
      · rw [if_pos c6] at H
        have c6b0 : decide (x4_1 < (l0.length : Int)) = true := decide_eq_true c6
        clear c6
        by_cases c7 : 0 ≤ x4_1
        · rw [if_pos c7] at H
          have c7b0 : decide (0 ≤ x4_1) = true := decide_eq_true c7
          clear c7
          replace H := bN H
          obtain ⟨t320, A8, H⟩ := H
          by_cases c9 : t320 = true
          · subst c9
            rw [if_pos rfl] at H
            by_cases c10 : x4_1 = 0
            · rw [if_pos c10] at H
              have c10b0 : (x4_1 == 0) = true := beq_iff_eq.mpr c10
              have c10b1 : (x4_1 != 0) = false := bne_eq_false_iff_eq.mpr c10
              clear c10
              have H' := Aside0.mk H
              clear H
              have p318 : 0 ≤ (x4_1 : Int) := of_decide_eq_true (by first | (with_reducible assumption) | assumption)
              have q318 : x4_1 < (l0.length : Int) := of_decide_eq_true (by first | (with_reducible assumption) | assumption)
              obtain ⟨ad318, e318, hx318_0, hx318_1⟩ := at_T171 HR0.out x4_1 p318 q318
              cases e318
              replace hx318_0 := (HB.out.cell (World.block_lt_of_cell? w _ hx318_0)).trans hx318_0
              replace hx318_1 := (HB.out.cell (World.block_lt_of_cell? w _ hx318_1)).trans hx318_1
              replace p318 := eq_true p318
              replace q318 := eq_true q318
              go_wp2_with (first | ((with_reducible refine gD 5 ?_); refine bxE #[.int .i64 0, .int .i64 0] 171 ?_; intro gb319 hg w11 BK319 hb; have GW319 := gE hg; have GE319 := gE hg; have NB316_319 := nL (g := gb316) hg; have NB319_316 := nG (g := gb316) hg; have NB317_319 := nL (g := gb317) hg; have NB319_317 := nG (g := gb317) hg; replace BK316 := kB (g := gb316) hb; replace BK317 := kB (g := gb317) hb; replace HB := hB hb; clear hb hg; have hnb12 := NB319_316.out; have hnc12 := NB316_319.out; have hnb13 := NB319_317.out; have hnc13 := NB317_319.out; have hz14 := cz2 BK319) | ((with_reducible refine gC 186 ?_); refine cL (some 18) Try.func186 #[.agg #[.int .i64 ((rd_T171 l0 x4_1).f0), .int .i64 ((rd_T171 l0 x4_1).f1)]] ?_; (with_reducible refine (spec_PointOk.calls ((rd_T171 l0 x4_1).f0) ((rd_T171 l0 x4_1).f1) _ _ A8.out).mono ?_); rintro e w15 ⟨rfl, hb⟩; refine ⟨_, rfl, ?_⟩; replace BK316 := kB (g := gb316) hb; replace BK317 := kB (g := gb317) hb; replace BK319 := Aside0.mk (blk_below (g := gb319) (o := .cells #[.int .i64 ((rd_T171 l0 x4_1).f0), .int .i64 ((rd_T171 l0 x4_1).f1)] 171 (0, 0)) kS hb); replace HB := hB hb; (try clear hb); (try clear hb2); (try clear hk); (try clear hi); have hz16 := cz2 BK319; have hnb17 := NB317_316.out; have hnc17 := NB316_317.out; have hz18 := cz4 BK317))
              go_roundg k1
              case measure => have := HK1.out; omega
              case rel => exact ⟨(wrap64 (x4_1 + 1)), (x317000_1), (x317001_1), (x317002_1), (x317003_1), ((rd_T171 l0 x4_1).f0), ((rd_T171 l0 x4_1).f1), ((rd_T171 l0 x4_1).f0), ((rd_T171 l0 x4_1).f1), (by first | rfl | (simp; done) | (simp [*]; done)), H', ⟨by have := HK1.out; omega⟩, ⟨kS⟩, ⟨kS⟩, ⟨bS⟩⟩
            · rw [if_neg c10] at H
              have c10b0 : (x4_1 == 0) = false := beq_eq_false_iff_ne.mpr c10
              have c10b1 : (x4_1 != 0) = true := bne_iff_ne.mpr c10
              obtain ⟨ji19, hji19⟩ : ∃ j_ : Int, (mn x318000_1 ((rd_T171 l0 x4_1).f0)) = j_ := ⟨_, rfl⟩
              replace H : (spec_BoxOf.l0 k1 l0 (wrap64 (x4_1 + 1)) ji19 (mn x318001_1 ((rd_T171 l0 x4_1).f1)) (mx x318002_1 ((rd_T171 l0 x4_1).f0)) (mx x318003_1 ((rd_T171 l0 x4_1).f1))) = some (r1, r2, r3, r4) := by first | (rw [hji19] at H; exact H) | (simp only [hji19] at H ⊢; exact H)
              (try rw [hji19] at A8)
              have hji19_ : (if ((rd_T171 l0 x4_1).f0) < x318000_1 then ((rd_T171 l0 x4_1).f0) else x318000_1) = ji19 := hji19
              obtain ⟨ji20, hji20⟩ : ∃ j_ : Int, (mn x318001_1 ((rd_T171 l0 x4_1).f1)) = j_ := ⟨_, rfl⟩
              replace H : (spec_BoxOf.l0 k1 l0 (wrap64 (x4_1 + 1)) ji19 ji20 (mx x318002_1 ((rd_T171 l0 x4_1).f0)) (mx x318003_1 ((rd_T171 l0 x4_1).f1))) = some (r1, r2, r3, r4) := by first | (rw [hji20] at H; exact H) | (simp only [hji20] at H ⊢; exact H)
              (try rw [hji20] at A8)
              have hji20_ : (if ((rd_T171 l0 x4_1).f1) < x318001_1 then ((rd_T171 l0 x4_1).f1) else x318001_1) = ji20 := hji20
              obtain ⟨ji21, hji21⟩ : ∃ j_ : Int, (mx x318002_1 ((rd_T171 l0 x4_1).f0)) = j_ := ⟨_, rfl⟩
              replace H : (spec_BoxOf.l0 k1 l0 (wrap64 (x4_1 + 1)) ji19 ji20 ji21 (mx x318003_1 ((rd_T171 l0 x4_1).f1))) = some (r1, r2, r3, r4) := by first | (rw [hji21] at H; exact H) | (simp only [hji21] at H ⊢; exact H)
              (try rw [hji21] at A8)
              have hji21_ : (if x318002_1 < ((rd_T171 l0 x4_1).f0) then ((rd_T171 l0 x4_1).f0) else x318002_1) = ji21 := hji21
              obtain ⟨ji22, hji22⟩ : ∃ j_ : Int, (mx x318003_1 ((rd_T171 l0 x4_1).f1)) = j_ := ⟨_, rfl⟩
              replace H : (spec_BoxOf.l0 k1 l0 (wrap64 (x4_1 + 1)) ji19 ji20 ji21 ji22) = some (r1, r2, r3, r4) := by first | (rw [hji22] at H; exact H) | (simp only [hji22] at H ⊢; exact H)
              (try rw [hji22] at A8)
              have hji22_ : (if x318003_1 < ((rd_T171 l0 x4_1).f1) then ((rd_T171 l0 x4_1).f1) else x318003_1) = ji22 := hji22
              have H' := Aside0.mk H
              clear H
              have p318 : 0 ≤ (x4_1 : Int) := of_decide_eq_true (by first | (with_reducible assumption) | assumption)
              have q318 : x4_1 < (l0.length : Int) := of_decide_eq_true (by first | (with_reducible assumption) | assumption)
              obtain ⟨ad318, e318, hx318_0, hx318_1⟩ := at_T171 HR0.out x4_1 p318 q318
              cases e318
              replace hx318_0 := (HB.out.cell (World.block_lt_of_cell? w _ hx318_0)).trans hx318_0
              replace hx318_1 := (HB.out.cell (World.block_lt_of_cell? w _ hx318_1)).trans hx318_1
              replace p318 := eq_true p318
              replace q318 := eq_true q318
              go_wp2_with (first | ((with_reducible refine gD 5 ?_); refine bxE #[.int .i64 0, .int .i64 0] 171 ?_; intro gb319 hg w23 BK319 hb; have GW319 := gE hg; have GE319 := gE hg; have NB316_319 := nL (g := gb316) hg; have NB319_316 := nG (g := gb316) hg; have NB317_319 := nL (g := gb317) hg; have NB319_317 := nG (g := gb317) hg; replace BK316 := kB (g := gb316) hb; replace BK317 := kB (g := gb317) hb; replace HB := hB hb; clear hb hg; have hnb24 := NB319_316.out; have hnc24 := NB316_319.out; have hnb25 := NB319_317.out; have hnc25 := NB317_319.out; have hz26 := cz2 BK319) | ((with_reducible refine gC 186 ?_); refine cL (some 18) Try.func186 #[.agg #[.int .i64 ((rd_T171 l0 x4_1).f0), .int .i64 ((rd_T171 l0 x4_1).f1)]] ?_; (with_reducible refine (spec_PointOk.calls ((rd_T171 l0 x4_1).f0) ((rd_T171 l0 x4_1).f1) _ _ A8.out).mono ?_); rintro e w27 ⟨rfl, hb⟩; refine ⟨_, rfl, ?_⟩; replace BK316 := kB (g := gb316) hb; replace BK317 := kB (g := gb317) hb; replace BK319 := Aside0.mk (blk_below (g := gb319) (o := .cells #[.int .i64 ((rd_T171 l0 x4_1).f0), .int .i64 ((rd_T171 l0 x4_1).f1)] 171 (0, 0)) kS hb); replace HB := hB hb; (try clear hb); (try clear hb2); (try clear hk); (try clear hi); have hnb28 := NB317_316.out; have hnc28 := NB316_317.out; have hz29 := cz4 BK317; have hz30 := cz2 BK319))
              go_roundg k1
              case measure => have := HK1.out; omega
              case rel => exact ⟨(wrap64 (x4_1 + 1)), (x317000_1), (x317001_1), (x317002_1), (x317003_1), (ji19), (ji20), (ji21), (ji22), (by first | rfl | (simp; done) | (simp [*]; done)), H', ⟨by have := HK1.out; omega⟩, ⟨kS⟩, ⟨kS⟩, ⟨bS⟩⟩
          · obtain rfl := Bool.eq_false_iff.mpr c9
            rw [if_neg nF] at H
            simp only [Option.some.injEq, Prod.mk.injEq] at H
            obtain ⟨rfl, rfl, rfl, rfl⟩ := H
            have p318 : 0 ≤ (x4_1 : Int) := of_decide_eq_true (by first | (with_reducible assumption) | assumption)
            have q318 : x4_1 < (l0.length : Int) := of_decide_eq_true (by first | (with_reducible assumption) | assumption)
            obtain ⟨ad318, e318, hx318_0, hx318_1⟩ := at_T171 HR0.out x4_1 p318 q318
            cases e318
            replace hx318_0 := (HB.out.cell (World.block_lt_of_cell? w _ hx318_0)).trans hx318_0
            replace hx318_1 := (HB.out.cell (World.block_lt_of_cell? w _ hx318_1)).trans hx318_1
            replace p318 := eq_true p318
            replace q318 := eq_true q318
            go_wp2_with (first | ((with_reducible refine gD 5 ?_); refine bxE #[.int .i64 0, .int .i64 0] 171 ?_; intro gb319 hg w31 BK319 hb; have GW319 := gE hg; have GE319 := gE hg; have NB316_319 := nL (g := gb316) hg; have NB319_316 := nG (g := gb316) hg; have NB317_319 := nL (g := gb317) hg; have NB319_317 := nG (g := gb317) hg; replace BK316 := kB (g := gb316) hb; replace BK317 := kB (g := gb317) hb; replace HB := hB hb; clear hb hg; have hnb32 := NB319_316.out; have hnc32 := NB316_319.out; have hnb33 := NB319_317.out; have hnc33 := NB317_319.out; have hz34 := cz2 BK319) | ((with_reducible refine gC 186 ?_); refine cL (some 18) Try.func186 #[.agg #[.int .i64 ((rd_T171 l0 x4_1).f0), .int .i64 ((rd_T171 l0 x4_1).f1)]] ?_; (with_reducible refine (spec_PointOk.calls ((rd_T171 l0 x4_1).f0) ((rd_T171 l0 x4_1).f1) _ _ A8.out).mono ?_); rintro e w35 ⟨rfl, hb⟩; refine ⟨_, rfl, ?_⟩; replace BK316 := kB (g := gb316) hb; replace BK317 := kB (g := gb317) hb; replace BK319 := Aside0.mk (blk_below (g := gb319) (o := .cells #[.int .i64 ((rd_T171 l0 x4_1).f0), .int .i64 ((rd_T171 l0 x4_1).f1)] 171 (0, 0)) kS hb); replace HB := hB hb; (try clear hb); (try clear hb2); (try clear hk); (try clear hi); have hnb36 := NB316_317.out; have hnc36 := NB317_316.out; have hz37 := cz4 BK316))
            refine bodyPost_ret (results_cell_row rfl _ _ gb316 43 #[.int .i64 0, .int .i64 0, .int .i64 0, .int .i64 0] (0, 0) _ rfl kS Try.underlying43 rfl (by kernel_rfl)) rfl ?_
            exact ⟨eS, bS⟩
        · rw [if_neg c7] at H
          exact absurd H (by simp)
      · rw [if_neg c6] at H
        have c6b0 : decide (x4_1 < (l0.length : Int)) = false := decide_eq_false c6
        clear c6
        simp only [Option.some.injEq, Prod.mk.injEq] at H
        obtain ⟨rfl, rfl, rfl, rfl⟩ := H
        have hnb38 := NB317_316.out
        have hnc38 := NB316_317.out
        have hz39 := cz4 BK317
        have hz40 := cz4 BK316
        go_wp2
        refine bodyPost_ret (results_cell_row rfl _ _ gb316 43 #[.int .i64 x318000_1, .int .i64 x318001_1, .int .i64 x318002_1, .int .i64 x318003_1] (0, 0) _ rfl kS Try.underlying43 rfl (by kernel_rfl)) rfl ?_
        exact ⟨eS, bS⟩

/-! ### spec_l07Full: function 144 -/
def spec_l07Full.f  : Option (Int × Int × Int × Int) := some (0, 0, 32, 32)
theorem spec_l07Full.calls  (r1 : Int) (r2 : Int) (r3 : Int) (r4 : Int) (w : World) (h : spec_l07Full.f  = some (r1, r2, r3, r4)) :
    Calls Try.prog 144 #[] w fun e w' => e = .returned (.agg #[.int .i64 r1, .int .i64 r2, .int .i64 r3, .int .i64 r4]) ∧ Below w.heap.size w w' := by
  have hu43 := Try.underlying43
  have HB := Aside0.mk (Below.refl w.heap.size w)
  have H : (some (0, 0, 32, 32)) = some (r1, r2, r3, r4) := h
  clear h
  simp only [Option.some.injEq, Prod.mk.injEq] at H
  obtain ⟨rfl, rfl, rfl, rfl⟩ := H
  go_enter Try.func144, Try.ntmps144
  go_wp2_with (first | ((with_reducible refine gD 0 ?_); refine bxE #[.int .i64 0, .int .i64 0, .int .i64 0, .int .i64 0] 43 ?_; intro gb321 hg w1 BK321 hb; have GW321 := gE hg; have GE321 := gE hg; replace HB := hB hb; clear hb hg; have hz2 := cz4 BK321))
  refine bodyPost_ret (results_cell_row rfl _ _ gb321 43 #[.int .i64 0, .int .i64 0, .int .i64 32, .int .i64 32] (0, 0) _ rfl kS Try.underlying43 rfl (by kernel_rfl)) rfl ?_
  exact ⟨eS, bS⟩

/-! ### spec_ObjectBox: function 81 -/
def spec_ObjectBox.f (k : Nat) (l0_0 : List (S171)) (a0_1 : Int) (a0_2 : Int) (a0_3 : Int) (a0_4 : Int) (a0_5 : Int) : Option (Int × Int × Int × Int) := (spec_ObjectOk.f k l0_0 a0_1 a0_2 a0_3 a0_4 a0_5).bind fun t324 => (if t324 = true then ((spec_BoxOf.f k l0_0).bind fun bt325 => ((spec_MeetBox.f bt325.1 bt325.2.1 bt325.2.2.1 bt325.2.2.2 a0_2 a0_3 a0_4 a0_5).bind fun bt329 => ((spec_l07Full.f).bind fun bt333 => ((spec_MeetBox.f bt329.1 bt329.2.1 bt329.2.2.1 bt329.2.2.2 bt333.1 bt333.2.1 bt333.2.2.1 bt333.2.2.2).bind fun bt337 => (some (bt337.1, bt337.2.1, bt337.2.2.1, bt337.2.2.2)))))) else (some (0, 0, 0, 0)))
def spec_ObjectBox.T3 : Bool × List (List Nat × List Nat) := (true, [([], []), ([0], [0]), ([1], [1]), ([], []), ([3], [3]), ([2, 4, 2], [2, 4]), ([5], []), ([5, 6, 6], [5, 6]), ([7, 7, 0, 1, 2, 3, 4, 5, 6, 7], [7])])
def spec_ObjectBox.B3 : List Nat := [0, 1, 3, 0, 8, 31, 63, 127, 255]
theorem spec_ObjectBox.tab3 : rtab .any (opsOf Try.f81 3) = spec_ObjectBox.T3 := by kernel_rfl
theorem spec_ObjectBox.bits3 : waitsOk spec_ObjectBox.T3.2 spec_ObjectBox.B3 = true := by kernel_rfl
theorem spec_ObjectBox.calls (k : Nat) (A0_0 : Option Addr) (c0_0 : Nat) (l0_0 : List (S171)) (a0_1 : Int) (a0_2 : Int) (a0_3 : Int) (a0_4 : Int) (a0_5 : Int) (r1 : Int) (r2 : Int) (r3 : Int) (r4 : Int) (w : World) (hr0_0 : Kd.C k171 w A0_0 l0_0.length l0_0) (hc0_0 : l0_0.length ≤ c0_0) (h : spec_ObjectBox.f k l0_0 a0_1 a0_2 a0_3 a0_4 a0_5 = some (r1, r2, r3, r4)) :
    Calls Try.prog 81 #[.agg #[.slice A0_0 l0_0.length c0_0, .int .i64 a0_1, .int .i64 a0_2, .int .i64 a0_3, .int .i64 a0_4, .int .i64 a0_5]] w fun e w' => e = .returned (.agg #[.int .i64 r1, .int .i64 r2, .int .i64 r3, .int .i64 r4]) ∧ Below w.heap.size w w' := by
  have hu45 := Try.underlying45
  have hu43 := Try.underlying43
  have HR0_0 := Aside0.mk hr0_0
  have HC0_0 := Aside0.mk hc0_0
  clear hr0_0 hc0_0
  have HB := Aside0.mk (Below.refl w.heap.size w)
  have H : ((spec_ObjectOk.f k l0_0 a0_1 a0_2 a0_3 a0_4 a0_5).bind fun t324 => (if t324 = true then ((spec_BoxOf.f k l0_0).bind fun bt325 => ((spec_MeetBox.f bt325.1 bt325.2.1 bt325.2.2.1 bt325.2.2.2 a0_2 a0_3 a0_4 a0_5).bind fun bt329 => ((spec_l07Full.f).bind fun bt333 => ((spec_MeetBox.f bt329.1 bt329.2.1 bt329.2.2.1 bt329.2.2.2 bt333.1 bt333.2.1 bt333.2.2.1 bt333.2.2.2).bind fun bt337 => (some (bt337.1, bt337.2.1, bt337.2.2.1, bt337.2.2.2)))))) else (some (0, 0, 0, 0)))) = some (r1, r2, r3, r4) := h
  clear h
  replace H := bN H
  obtain ⟨t324, A2, H⟩ := H
  by_cases c3 : t324 = true
  · subst c3
    rw [if_pos rfl] at H
    replace H := bN H
    obtain ⟨⟨t325, t326, t327, t328⟩, A4, H⟩ := H
    replace H := bN H
    obtain ⟨⟨t329, t330, t331, t332⟩, A5, H⟩ := H
    replace H := bN H
    obtain ⟨⟨t333, t334, t335, t336⟩, A6, H⟩ := H
    replace H := bN H
    obtain ⟨⟨t337, t338, t339, t340⟩, A7, H⟩ := H
    simp only [Option.some.injEq, Prod.mk.injEq] at H
    obtain ⟨rfl, rfl, rfl, rfl⟩ := H
    go_enter Try.func81, Try.ntmps81
    try go_wp2_with (first | ((with_reducible refine gD 1 ?_); refine bxE #[.slice A0_0 l0_0.length c0_0, .int .i64 a0_1, .int .i64 a0_2, .int .i64 a0_3, .int .i64 a0_4, .int .i64 a0_5] 45 ?_; intro gb322 hg w8 BK322 hb; have GW322 := gE hg; have GE322 := gE hg; replace HB := hB hb; clear hb hg) | ((with_reducible refine gD 2 ?_); refine bxE #[.int .i64 0, .int .i64 0, .int .i64 0, .int .i64 0] 43 ?_; intro gb323 hg w9 BK323 hb; have GW323 := gE hg; have GE323 := gE hg; have NB322_323 := nL (g := gb322) hg; have NB323_322 := nG (g := gb322) hg; replace BK322 := kB (g := gb322) hb; replace HB := hB hb; clear hb hg; have hnb10 := NB322_323.out; have hnc10 := NB323_322.out; have hz11 := cz6 BK322) | ((with_reducible refine gC 95 ?_); refine cL (some 4) Try.func95 #[.agg #[.slice A0_0 l0_0.length c0_0, .int .i64 a0_1, .int .i64 a0_2, .int .i64 a0_3, .int .i64 a0_4, .int .i64 a0_5]] ?_; (with_reducible refine (spec_ObjectOk.calls k _ _ l0_0 a0_1 a0_2 a0_3 a0_4 a0_5 _ _ ?side1 ?side2 A2.out).mono ?_); (case side1 => exact cS (Kd.C_below HR0_0.out HB.out)); (case side2 => exact HC0_0.out); rintro e w12 ⟨rfl, hb⟩; refine ⟨_, rfl, ?_⟩; replace BK322 := kB (g := gb322) hb; replace BK323 := kB (g := gb323) hb; replace HB := hB hb; (try clear hb); (try clear hb2); (try clear hk); (try clear hi)))
    replace BK322 := Aside0.mk (blk_drew BK322.out)
    replace BK323 := Aside0.mk (blk_drew BK323.out)
    replace HB := Aside0.mk (below_drew1 HB.out)
    refine start_ (n := 9) (S := fun w' => w'.cell? ⟨gb322, 0, none⟩ = some (.slice A0_0 l0_0.length c0_0) ∧ w'.cell? ⟨gb322, 1, none⟩ = some (.int .i64 a0_1) ∧ w'.cell? ⟨gb322, 2, none⟩ = some (.int .i64 a0_2) ∧ w'.cell? ⟨gb322, 3, none⟩ = some (.int .i64 a0_3) ∧ w'.cell? ⟨gb322, 4, none⟩ = some (.int .i64 a0_4) ∧ w'.cell? ⟨gb322, 5, none⟩ = some (.int .i64 a0_5)) (ds := []) #[false, false, false, false, false, false, false, false, false] (by kernel_rfl) rfl rfl ⟨(blk_cell BK322.out 0).trans rfl, (blk_cell BK322.out 1).trans rfl, (blk_cell BK322.out 2).trans rfl, (blk_cell BK322.out 3).trans rfl, (blk_cell BK322.out 4).trans rfl, (blk_cell BK322.out 5).trans rfl⟩ (fun hHeld => ?_); refine with_tabW spec_ObjectBox.tab3 spec_ObjectBox.bits3 (fun HT_ HW_ => ?_)
    generalize w12.drew = w13 at BK322 BK323 HB hHeld ⊢
    refine pure_ (i := 0) (N := some 7) (v := ?_) (a' := ?_) #[true, false, false, false, false, false, false, false, false] rfl rfl (any_of HT_.out (by kernel_rfl)) (fun _ _ _ h => h) (Or.inl ⟨by rfl, ?_⟩) ?_ ?_
    rotate_left
    · intro w'
      go_simp
      with_reducible rfl
    rotate_left
    · simp only [Act.put, List.setIfInBounds_toArray, List.set_cons_zero, List.set_cons_succ, i64_w, i32_w]
      rfl
    refine pure_ (i := 3) (N := some 10) (v := ?_) (a' := ?_) #[true, false, false, true, false, false, false, false, false] rfl rfl (any_of HT_.out (by kernel_rfl)) (fun _ _ _ h => h) (Or.inl ⟨by rfl, ?_⟩) ?_ ?_
    rotate_left
    · intro w'
      go_simp
      with_reducible rfl
    rotate_left
    · simp only [Act.put, List.setIfInBounds_toArray, List.set_cons_zero, List.set_cons_succ, i64_w, i32_w]
      rfl
    refine take_ (i := 1) (N := some 8) (v := ?_) (a' := ?_) #[true, true, false, true, false, false, false, false, false] rfl rfl (take_ofW HT_.out HW_.out (by kernel_rfl)) (fun _ _ _ h => h) (Or.inl ⟨by rfl, ?_⟩) hHeld ?_ ?_
    rotate_left
    · rintro w' ⟨s0, s1, s2, s3, s4, s5⟩
      go_simp
      with_reducible rfl
    rotate_left
    · simp only [Act.put, List.setIfInBounds_toArray, List.set_cons_zero, List.set_cons_succ, i64_w, i32_w]
      rfl
    refine take_ (i := 4) (N := some 11) (v := ?_) (a' := ?_) #[true, true, false, true, true, false, false, false, false] rfl rfl (take_ofW HT_.out HW_.out (by kernel_rfl)) (fun _ _ _ h => h) (Or.inl ⟨by rfl, ?_⟩) hHeld ?_ ?_
    rotate_left
    · rintro w' ⟨s0, s1, s2, s3, s4, s5⟩
      go_simp
      with_reducible rfl
    rotate_left
    · simp only [Act.put, List.setIfInBounds_toArray, List.set_cons_zero, List.set_cons_succ, i64_w, i32_w]
      rfl
    refine one_ (i := 2) (N := some 9) #[true, true, true, true, true, false, false, false, false] rfl rfl (one_of HT_.out (by kernel_rfl)) (by decide) (fun K hK => ?_)
    refine goes_ Try.func143 (by kernel_rfl) rfl #[.slice A0_0 l0_0.length c0_0] (by rfl) rfl rfl (by (try simp only [List.map_toArray, List.map_cons, List.map_nil]); first | done | rfl | (simp only [List.length_drop, List.length_take]; rfl)) ?_
    with_reducible refine (spec_BoxOf.calls k _ _ l0_0 t325 t326 t327 t328 _ ?side1 ?side2 A4.out).mono ?_
    (case side1 => exact cS (Kd.C_below HR0_0.out HB.out))
    (case side2 => exact HC0_0.out)
    rintro e w14 ⟨rfl, hb⟩
    refine ⟨_, rfl, ?_⟩
    replace BK322 := kB (g := gb322) hb
    replace BK323 := kB (g := gb323) hb
    replace HB := hB hb
    (try clear hb)
    (try clear hb2)
    (try clear hk)
    (try clear hi)
    refine hK.out _ _ ⟨(blk_cell BK322.out 0).trans rfl, (blk_cell BK322.out 1).trans rfl, (blk_cell BK322.out 2).trans rfl, (blk_cell BK322.out 3).trans rfl, (blk_cell BK322.out 4).trans rfl, (blk_cell BK322.out 5).trans rfl⟩ (fun hHeld => ?_)
    clear hK K
    refine norm_ (a' := ?_) ?_ ?_
    rotate_left
    · show Act.put _ (some 9) _ = _
      simp only [Act.put, List.setIfInBounds_toArray, List.set_cons_zero, List.set_cons_succ, i64_w, i32_w]
      rfl
    refine one_ (i := 5) (N := some 12) #[true, true, true, true, true, true, false, false, false] rfl rfl (one_of HT_.out (by kernel_rfl)) (by decide) (fun K hK => ?_)
    refine goes_ Try.func142 (by kernel_rfl) rfl #[.agg #[.int .i64 t325, .int .i64 t326, .int .i64 t327, .int .i64 t328], .agg #[.int .i64 a0_2, .int .i64 a0_3, .int .i64 a0_4, .int .i64 a0_5]] (by rfl) rfl rfl (by (try simp only [List.map_toArray, List.map_cons, List.map_nil]); first | done | rfl | (simp only [List.length_drop, List.length_take]; rfl)) ?_
    with_reducible refine (spec_MeetBox.calls t325 t326 t327 t328 a0_2 a0_3 a0_4 a0_5 t329 t330 t331 t332 _ A5.out).mono ?_
    rintro e w15 ⟨rfl, hb⟩
    refine ⟨_, rfl, ?_⟩
    replace BK322 := kB (g := gb322) hb
    replace BK323 := kB (g := gb323) hb
    replace HB := hB hb
    (try clear hb)
    (try clear hb2)
    (try clear hk)
    (try clear hi)
    refine hK.out _ _ ⟨(blk_cell BK322.out 0).trans rfl, (blk_cell BK322.out 1).trans rfl, (blk_cell BK322.out 2).trans rfl, (blk_cell BK322.out 3).trans rfl, (blk_cell BK322.out 4).trans rfl, (blk_cell BK322.out 5).trans rfl⟩ (fun hHeld => ?_)
    clear hK K
    refine norm_ (a' := ?_) ?_ ?_
    rotate_left
    · show Act.put _ (some 12) _ = _
      simp only [Act.put, List.setIfInBounds_toArray, List.set_cons_zero, List.set_cons_succ, i64_w, i32_w]
      rfl
    refine one_ (i := 6) (N := some 13) #[true, true, true, true, true, true, true, false, false] rfl rfl (one_of HT_.out (by kernel_rfl)) (by decide) (fun K hK => ?_)
    refine goes_ Try.func144 (by kernel_rfl) rfl #[] (by rfl) rfl rfl (by (try simp only [List.map_toArray, List.map_cons, List.map_nil]); first | done | rfl | (simp only [List.length_drop, List.length_take]; rfl)) ?_
    with_reducible refine (spec_l07Full.calls  t333 t334 t335 t336 _ A6.out).mono ?_
    rintro e w16 ⟨rfl, hb⟩
    refine ⟨_, rfl, ?_⟩
    replace BK322 := kB (g := gb322) hb
    replace BK323 := kB (g := gb323) hb
    replace HB := hB hb
    (try clear hb)
    (try clear hb2)
    (try clear hk)
    (try clear hi)
    refine hK.out _ _ ⟨(blk_cell BK322.out 0).trans rfl, (blk_cell BK322.out 1).trans rfl, (blk_cell BK322.out 2).trans rfl, (blk_cell BK322.out 3).trans rfl, (blk_cell BK322.out 4).trans rfl, (blk_cell BK322.out 5).trans rfl⟩ (fun hHeld => ?_)
    clear hK K
    refine norm_ (a' := ?_) ?_ ?_
    rotate_left
    · show Act.put _ (some 13) _ = _
      simp only [Act.put, List.setIfInBounds_toArray, List.set_cons_zero, List.set_cons_succ, i64_w, i32_w]
      rfl
    refine one_ (i := 7) (N := some 14) #[true, true, true, true, true, true, true, true, false] rfl rfl (one_of HT_.out (by kernel_rfl)) (by decide) (fun K hK => ?_)
    refine goes_ Try.func142 (by kernel_rfl) rfl #[.agg #[.int .i64 t329, .int .i64 t330, .int .i64 t331, .int .i64 t332], .agg #[.int .i64 t333, .int .i64 t334, .int .i64 t335, .int .i64 t336]] (by rfl) rfl rfl (by (try simp only [List.map_toArray, List.map_cons, List.map_nil]); first | done | rfl | (simp only [List.length_drop, List.length_take]; rfl)) ?_
    with_reducible refine (spec_MeetBox.calls t329 t330 t331 t332 t333 t334 t335 t336 t337 t338 t339 t340 _ A7.out).mono ?_
    rintro e w17 ⟨rfl, hb⟩
    refine ⟨_, rfl, ?_⟩
    replace BK322 := kB (g := gb322) hb
    replace BK323 := kB (g := gb323) hb
    replace HB := hB hb
    (try clear hb)
    (try clear hb2)
    (try clear hk)
    (try clear hi)
    refine hK.out _ _ ⟨(blk_cell BK322.out 0).trans rfl, (blk_cell BK322.out 1).trans rfl, (blk_cell BK322.out 2).trans rfl, (blk_cell BK322.out 3).trans rfl, (blk_cell BK322.out 4).trans rfl, (blk_cell BK322.out 5).trans rfl⟩ (fun hHeld => ?_)
    clear hK K
    refine norm_ (a' := ?_) ?_ ?_
    rotate_left
    · show Act.put _ (some 14) _ = _
      simp only [Act.put, List.setIfInBounds_toArray, List.set_cons_zero, List.set_cons_succ, i64_w, i32_w]
      rfl
    refine one_ (i := 8) (N := none) #[true, true, true, true, true, true, true, true, true] rfl rfl (one_of HT_.out (by kernel_rfl)) (by decide) (fun K hK => ?_)
    have hs18 : w17.cell? ⟨gb323, 0, none⟩ = some (.int .i64 0) := (blk_cell BK323.out 0).trans rfl
    have hfs18 := blk_frozen BK323.out 0
    have hns18_0 := NB322_323.out
    have hms18_0 := NB323_322.out
    have hs19 : w17.cell? ⟨gb323, 1, none⟩ = some (.int .i64 0) := (blk_cell BK323.out 1).trans rfl
    have hfs19 := blk_frozen BK323.out 1
    have hns19_0 := NB322_323.out
    have hms19_0 := NB323_322.out
    have hs20 : w17.cell? ⟨gb323, 2, none⟩ = some (.int .i64 0) := (blk_cell BK323.out 2).trans rfl
    have hfs20 := blk_frozen BK323.out 2
    have hns20_0 := NB322_323.out
    have hms20_0 := NB323_322.out
    have hs21 : w17.cell? ⟨gb323, 3, none⟩ = some (.int .i64 0) := (blk_cell BK323.out 3).trans rfl
    have hfs21 := blk_frozen BK323.out 3
    have hns21_0 := NB322_323.out
    have hms21_0 := NB323_322.out
    refine skip_ (w1 := ?_) (by rfl) rfl ?_ ?_
    rotate_left
    · go_simp
      rfl
    refine hK.out _ _ ⟨((cell_far (p := ⟨gb323, _, none⟩) NB322_323.out _).trans (((cell_far (p := ⟨gb323, _, none⟩) NB322_323.out _).trans (((cell_far (p := ⟨gb323, _, none⟩) NB322_323.out _).trans (((cell_far (p := ⟨gb323, _, none⟩) NB322_323.out _).trans (hHeld.1)))))))), ((cell_far (p := ⟨gb323, _, none⟩) NB322_323.out _).trans (((cell_far (p := ⟨gb323, _, none⟩) NB322_323.out _).trans (((cell_far (p := ⟨gb323, _, none⟩) NB322_323.out _).trans (((cell_far (p := ⟨gb323, _, none⟩) NB322_323.out _).trans (hHeld.2.1)))))))), ((cell_far (p := ⟨gb323, _, none⟩) NB322_323.out _).trans (((cell_far (p := ⟨gb323, _, none⟩) NB322_323.out _).trans (((cell_far (p := ⟨gb323, _, none⟩) NB322_323.out _).trans (((cell_far (p := ⟨gb323, _, none⟩) NB322_323.out _).trans (hHeld.2.2.1)))))))), ((cell_far (p := ⟨gb323, _, none⟩) NB322_323.out _).trans (((cell_far (p := ⟨gb323, _, none⟩) NB322_323.out _).trans (((cell_far (p := ⟨gb323, _, none⟩) NB322_323.out _).trans (((cell_far (p := ⟨gb323, _, none⟩) NB322_323.out _).trans (hHeld.2.2.2.1)))))))), ((cell_far (p := ⟨gb323, _, none⟩) NB322_323.out _).trans (((cell_far (p := ⟨gb323, _, none⟩) NB322_323.out _).trans (((cell_far (p := ⟨gb323, _, none⟩) NB322_323.out _).trans (((cell_far (p := ⟨gb323, _, none⟩) NB322_323.out _).trans (hHeld.2.2.2.2.1)))))))), ((cell_far (p := ⟨gb323, _, none⟩) NB322_323.out _).trans (((cell_far (p := ⟨gb323, _, none⟩) NB322_323.out _).trans (((cell_far (p := ⟨gb323, _, none⟩) NB322_323.out _).trans (((cell_far (p := ⟨gb323, _, none⟩) NB322_323.out _).trans (hHeld.2.2.2.2.2))))))))⟩ (fun hHeld => ?_)
    clear hK K
    refine done_ (done_of HT_.out (by kernel_rfl)) ?_
    try go_wp2
    refine bodyPost_ret (results_cell_row rfl _ _ gb323 43 #[.int .i64 t337, .int .i64 t338, .int .i64 t339, .int .i64 t340] (0, 0) _ rfl kS Try.underlying43 rfl (by kernel_rfl)) rfl ?_
    exact ⟨eS, bS⟩
  · obtain rfl := Bool.eq_false_iff.mpr c3
    rw [if_neg nF] at H
    simp only [Option.some.injEq, Prod.mk.injEq] at H
    obtain ⟨rfl, rfl, rfl, rfl⟩ := H
    go_enter Try.func81, Try.ntmps81
    go_wp2_with (first | ((with_reducible refine gD 1 ?_); refine bxE #[.slice A0_0 l0_0.length c0_0, .int .i64 a0_1, .int .i64 a0_2, .int .i64 a0_3, .int .i64 a0_4, .int .i64 a0_5] 45 ?_; intro gb322 hg w22 BK322 hb; have GW322 := gE hg; have GE322 := gE hg; replace HB := hB hb; clear hb hg) | ((with_reducible refine gD 2 ?_); refine bxE #[.int .i64 0, .int .i64 0, .int .i64 0, .int .i64 0] 43 ?_; intro gb323 hg w23 BK323 hb; have GW323 := gE hg; have GE323 := gE hg; have NB322_323 := nL (g := gb322) hg; have NB323_322 := nG (g := gb322) hg; replace BK322 := kB (g := gb322) hb; replace HB := hB hb; clear hb hg; have hnb24 := NB322_323.out; have hnc24 := NB323_322.out; have hz25 := cz6 BK322) | ((with_reducible refine gC 95 ?_); refine cL (some 4) Try.func95 #[.agg #[.slice A0_0 l0_0.length c0_0, .int .i64 a0_1, .int .i64 a0_2, .int .i64 a0_3, .int .i64 a0_4, .int .i64 a0_5]] ?_; (with_reducible refine (spec_ObjectOk.calls k _ _ l0_0 a0_1 a0_2 a0_3 a0_4 a0_5 _ _ ?side1 ?side2 A2.out).mono ?_); (case side1 => exact cS (Kd.C_below HR0_0.out HB.out)); (case side2 => exact HC0_0.out); rintro e w26 ⟨rfl, hb⟩; refine ⟨_, rfl, ?_⟩; replace BK322 := kB (g := gb322) hb; replace BK323 := kB (g := gb323) hb; replace HB := hB hb; (try clear hb); (try clear hb2); (try clear hk); (try clear hi); have hz27 := cz4 BK323))
    refine bodyPost_ret (results_cell_row rfl _ _ gb323 43 #[.int .i64 0, .int .i64 0, .int .i64 0, .int .i64 0] (0, 0) _ rfl kS Try.underlying43 rfl (by kernel_rfl)) rfl ?_
    exact ⟨eS, bS⟩

/-! ### spec_CountDots: function 82 -/
def spec_CountDots.f (a0_0 : Int) (a0_1 : Int) (a0_2 : Int) (a0_3 : Int) : Option (Int) := (spec_BoxOk.f a0_0 a0_1 a0_2 a0_3).bind fun t342 => (if t342 = true then (some (wrap64 ((wrap64 (a0_2 - a0_0)) * (wrap64 (a0_3 - a0_1))))) else (some 0))
theorem spec_CountDots.calls (a0_0 : Int) (a0_1 : Int) (a0_2 : Int) (a0_3 : Int) (r : Int) (w : World) (h : spec_CountDots.f a0_0 a0_1 a0_2 a0_3 = some r) :
    Calls Try.prog 82 #[.agg #[.int .i64 a0_0, .int .i64 a0_1, .int .i64 a0_2, .int .i64 a0_3]] w fun e w' => e = .returned (.int .i64 r) ∧ Below w.heap.size w w' := by
  have hu43 := Try.underlying43
  have HB := Aside0.mk (Below.refl w.heap.size w)
  have H : ((spec_BoxOk.f a0_0 a0_1 a0_2 a0_3).bind fun t342 => (if t342 = true then (some (wrap64 ((wrap64 (a0_2 - a0_0)) * (wrap64 (a0_3 - a0_1))))) else (some 0))) = some r := h
  clear h
  replace H := bN H
  obtain ⟨t342, A2, H⟩ := H
  by_cases c3 : t342 = true
  · subst c3
    rw [if_pos rfl] at H
    obtain rfl := Option.some.inj H
    go_enter Try.func82, Try.ntmps82
    go_wp2_with (first | ((with_reducible refine gD 1 ?_); refine bxE #[.int .i64 a0_0, .int .i64 a0_1, .int .i64 a0_2, .int .i64 a0_3] 43 ?_; intro gb341 hg w4 BK341 hb; have GW341 := gE hg; have GE341 := gE hg; replace HB := hB hb; clear hb hg; have hz5 := cz4 BK341) | ((with_reducible refine gC 145 ?_); refine cL (some 4) Try.func145 #[.agg #[.int .i64 a0_0, .int .i64 a0_1, .int .i64 a0_2, .int .i64 a0_3]] ?_; (with_reducible refine (spec_BoxOk.calls a0_0 a0_1 a0_2 a0_3 _ _ A2.out).mono ?_); rintro e w6 ⟨rfl, hb⟩; refine ⟨_, rfl, ?_⟩; replace BK341 := kB (g := gb341) hb; replace HB := hB hb; (try clear hb); (try clear hb2); (try clear hk); (try clear hi); have hz7 := cz4 BK341))
    go_ret
    exact ⟨eS, bS⟩
  · obtain rfl := Bool.eq_false_iff.mpr c3
    rw [if_neg nF] at H
    obtain rfl := Option.some.inj H
    go_enter Try.func82, Try.ntmps82
    go_wp2_with (first | ((with_reducible refine gD 1 ?_); refine bxE #[.int .i64 a0_0, .int .i64 a0_1, .int .i64 a0_2, .int .i64 a0_3] 43 ?_; intro gb341 hg w8 BK341 hb; have GW341 := gE hg; have GE341 := gE hg; replace HB := hB hb; clear hb hg; have hz9 := cz4 BK341) | ((with_reducible refine gC 145 ?_); refine cL (some 4) Try.func145 #[.agg #[.int .i64 a0_0, .int .i64 a0_1, .int .i64 a0_2, .int .i64 a0_3]] ?_; (with_reducible refine (spec_BoxOk.calls a0_0 a0_1 a0_2 a0_3 _ _ A2.out).mono ?_); rintro e w10 ⟨rfl, hb⟩; refine ⟨_, rfl, ?_⟩; replace BK341 := kB (g := gb341) hb; replace HB := hB hb; (try clear hb); (try clear hb2); (try clear hk); (try clear hi)))
    go_ret
    exact ⟨eS, bS⟩

/-! ### spec_SpansOk: function 146 -/
def spec_SpansOk.l0 : Nat → List (S124) → Int → Option (Bool)
  | 0, _, _ => none
  | k + 1, x0, x3 => if x3 < (x0.length : Int) then (if 0 ≤ x3 then (if ((rd_T124 x0 x3).f0) ≥ ((rd_T124 x0 x3).f1) then (some false) else (if x3 > 0 then (if 0 ≤ (wrap64 (x3 - 1)) then (if (wrap64 (x3 - 1)) < (x0.length : Int) then (if ((rd_T124 x0 (wrap64 (x3 - 1))).f1) ≥ ((rd_T124 x0 x3).f0) then (some false) else (spec_SpansOk.l0 k x0 (wrap64 (x3 + 1)))) else (none)) else (none)) else (spec_SpansOk.l0 k x0 (wrap64 (x3 + 1))))) else (none)) else (some (decide ((x0.length : Int) ≤ 8)))
def spec_SpansOk.f (k : Nat) (l0 : List (S124)) : Option (Bool) := spec_SpansOk.l0 k l0 0
theorem spec_SpansOk.calls (k : Nat) (A0 : Option Addr) (c0 : Nat) (l0 : List (S124)) (r : Bool) (w : World) (hr0 : Kd.C k124 w A0 l0.length l0) (hc0 : l0.length ≤ c0) (h : spec_SpansOk.f k l0 = some r) :
    Calls Try.prog 146 #[.slice A0 l0.length c0] w fun e w' => e = .returned (.bool r) ∧ Drawn0 w w' := by
  have HR0 := Aside0.mk hr0
  have HC0 := Aside0.mk hc0
  clear hr0 hc0
  have H : (spec_SpansOk.l0 k l0 0) = some r := h
  clear h
  have H' := Aside0.mk H
  clear H
  go_enter Try.func146, Try.ntmps146
  go_wp2
  repeat (go_quiet (fail); try go_wp2)
  go_loopg [3] k (fun kq v3 w' => ∃ (x3_1 : Int), v3 = .int .i64 x3_1 ∧ Aside0 (spec_SpansOk.l0 kq l0 x3_1 = some r) ∧ Aside0 (kq ≤ k) ∧ Drawn0 w w')
  case atStart => exact ⟨(0), (by first | rfl | (simp; done) | (simp [*]; done)), H', ⟨Nat.le_refl _⟩, by repeat (first | exact Drawn0.refl _ | apply Drawn0.step)⟩
  case round =>
    clear H'
    try clear c1
    obtain ⟨x3_1, rfl, HA, HK1, ⟨m1, rfl⟩⟩ := hrel
    cases gk with
    | zero => exact absurd HA.out (by simp [spec_SpansOk.l0])
    | succ k1 =>
      have H := HA.out
      clear HA
      simp only [spec_SpansOk.l0] at H
      by_cases c2 : x3_1 < (l0.length : Int)
      · rw [if_pos c2] at H
        have c2b0 : decide (x3_1 < (l0.length : Int)) = true := decide_eq_true c2
        clear c2
        by_cases c3 : 0 ≤ x3_1
        · rw [if_pos c3] at H
          have c3b0 : decide (0 ≤ x3_1) = true := decide_eq_true c3
          clear c3
          by_cases c4 : ((rd_T124 l0 x3_1).f0) ≥ ((rd_T124 l0 x3_1).f1)
          · rw [if_pos c4] at H
            have c4b0 : decide (((rd_T124 l0 x3_1).f1) ≤ ((rd_T124 l0 x3_1).f0)) = true := decide_eq_true c4
            clear c4
            obtain rfl := Option.some.inj H
            have p343 : 0 ≤ (x3_1 : Int) := of_decide_eq_true (by first | (with_reducible assumption) | assumption)
            have q343 : x3_1 < (l0.length : Int) := of_decide_eq_true (by first | (with_reducible assumption) | assumption)
            obtain ⟨ad343, e343, hx343_0, hx343_1⟩ := at_T124 HR0.out x3_1 p343 q343
            cases e343
            replace p343 := eq_true p343
            replace q343 := eq_true q343
            have p344 : 0 ≤ (x3_1 : Int) := of_decide_eq_true (by first | (with_reducible assumption) | assumption)
            have q344 : x3_1 < (l0.length : Int) := of_decide_eq_true (by first | (with_reducible assumption) | assumption)
            obtain ⟨ad344, e344, hx344_0, hx344_1⟩ := at_T124 HR0.out x3_1 p344 q344
            obtain rfl : ad343 = ad344 := (by injection e344)
            replace p344 := eq_true p344
            replace q344 := eq_true q344
            go_wp2
            repeat (go_quiet (fail); try go_wp2)
            go_ret
            exact ⟨by first | rfl | (simp; done) | (simp [*]; done), by repeat (first | exact Drawn0.refl _ | apply Drawn0.step)⟩
          · rw [if_neg c4] at H
            have c4b0 : decide (((rd_T124 l0 x3_1).f1) ≤ ((rd_T124 l0 x3_1).f0)) = false := decide_eq_false c4
            clear c4
            by_cases c5 : x3_1 > 0
            · rw [if_pos c5] at H
              have c5b0 : decide (0 < x3_1) = true := decide_eq_true c5
              clear c5
              obtain ⟨ji6, hji6⟩ : ∃ j_ : Int, (wrap64 (x3_1 - 1)) = j_ := ⟨_, rfl⟩
              replace H : (if 0 ≤ (ji6) then (if (ji6) < (l0.length : Int) then (if ((rd_T124 l0 (ji6)).f1) ≥ ((rd_T124 l0 x3_1).f0) then (some false) else (spec_SpansOk.l0 k1 l0 (wrap64 (x3_1 + 1)))) else (none)) else (none)) = some r := by first | (rw [hji6] at H; exact H) | (simp only [hji6] at H ⊢; exact H)
              have hji6w : (IntKind.i64.wrap (x3_1 - 1)) = ji6 := (i64_w _).trans hji6
              by_cases c7 : 0 ≤ (ji6)
              · rw [if_pos c7] at H
                have c7b0 : decide (0 ≤ (ji6)) = true := decide_eq_true c7
                clear c7
                by_cases c8 : (ji6) < (l0.length : Int)
                · rw [if_pos c8] at H
                  have c8b0 : decide ((ji6) < (l0.length : Int)) = true := decide_eq_true c8
                  clear c8
                  by_cases c9 : ((rd_T124 l0 (ji6)).f1) ≥ ((rd_T124 l0 x3_1).f0)
                  · rw [if_pos c9] at H
                    have c9b0 : decide (((rd_T124 l0 x3_1).f0) ≤ ((rd_T124 l0 (ji6)).f1)) = true := decide_eq_true c9
                    clear c9
                    obtain rfl := Option.some.inj H
                    have p343 : 0 ≤ (x3_1 : Int) := of_decide_eq_true (by first | (with_reducible assumption) | assumption)
                    have q343 : x3_1 < (l0.length : Int) := of_decide_eq_true (by first | (with_reducible assumption) | assumption)
                    obtain ⟨ad343, e343, hx343_0, hx343_1⟩ := at_T124 HR0.out x3_1 p343 q343
                    cases e343
                    replace p343 := eq_true p343
                    replace q343 := eq_true q343
                    have p344 : 0 ≤ (x3_1 : Int) := of_decide_eq_true (by first | (with_reducible assumption) | assumption)
                    have q344 : x3_1 < (l0.length : Int) := of_decide_eq_true (by first | (with_reducible assumption) | assumption)
                    obtain ⟨ad344, e344, hx344_0, hx344_1⟩ := at_T124 HR0.out x3_1 p344 q344
                    obtain rfl : ad343 = ad344 := (by injection e344)
                    replace p344 := eq_true p344
                    replace q344 := eq_true q344
                    have p345 : 0 ≤ ((ji6) : Int) := of_decide_eq_true (by first | (with_reducible assumption) | assumption)
                    have q345 : (ji6) < (l0.length : Int) := of_decide_eq_true (by first | (with_reducible assumption) | assumption)
                    obtain ⟨ad345, e345, hx345_0, hx345_1⟩ := at_T124 HR0.out (ji6) p345 q345
                    obtain rfl : ad343 = ad345 := (by injection e345)
                    replace p345 := eq_true p345
                    replace q345 := eq_true q345
                    have p346 : 0 ≤ (x3_1 : Int) := of_decide_eq_true (by first | (with_reducible assumption) | assumption)
                    have q346 : x3_1 < (l0.length : Int) := of_decide_eq_true (by first | (with_reducible assumption) | assumption)
                    obtain ⟨ad346, e346, hx346_0, hx346_1⟩ := at_T124 HR0.out x3_1 p346 q346
                    obtain rfl : ad343 = ad346 := (by injection e346)
                    replace p346 := eq_true p346
                    replace q346 := eq_true q346
                    go_wp2
                    repeat (go_quiet (fail); try go_wp2)
                    go_ret
                    exact ⟨by first | rfl | (simp; done) | (simp only [← hji6] <;> (first | rfl | simp)) | (simp [*]; done), by repeat (first | exact Drawn0.refl _ | apply Drawn0.step)⟩
                  · rw [if_neg c9] at H
                    have c9b0 : decide (((rd_T124 l0 x3_1).f0) ≤ ((rd_T124 l0 (ji6)).f1)) = false := decide_eq_false c9
                    clear c9
                    have H' := Aside0.mk H
                    clear H
                    have p343 : 0 ≤ (x3_1 : Int) := of_decide_eq_true (by first | (with_reducible assumption) | assumption)
                    have q343 : x3_1 < (l0.length : Int) := of_decide_eq_true (by first | (with_reducible assumption) | assumption)
                    obtain ⟨ad343, e343, hx343_0, hx343_1⟩ := at_T124 HR0.out x3_1 p343 q343
                    cases e343
                    replace p343 := eq_true p343
                    replace q343 := eq_true q343
                    have p344 : 0 ≤ (x3_1 : Int) := of_decide_eq_true (by first | (with_reducible assumption) | assumption)
                    have q344 : x3_1 < (l0.length : Int) := of_decide_eq_true (by first | (with_reducible assumption) | assumption)
                    obtain ⟨ad344, e344, hx344_0, hx344_1⟩ := at_T124 HR0.out x3_1 p344 q344
                    obtain rfl : ad343 = ad344 := (by injection e344)
                    replace p344 := eq_true p344
                    replace q344 := eq_true q344
                    have p345 : 0 ≤ ((ji6) : Int) := of_decide_eq_true (by first | (with_reducible assumption) | assumption)
                    have q345 : (ji6) < (l0.length : Int) := of_decide_eq_true (by first | (with_reducible assumption) | assumption)
                    obtain ⟨ad345, e345, hx345_0, hx345_1⟩ := at_T124 HR0.out (ji6) p345 q345
                    obtain rfl : ad343 = ad345 := (by injection e345)
                    replace p345 := eq_true p345
                    replace q345 := eq_true q345
                    have p346 : 0 ≤ (x3_1 : Int) := of_decide_eq_true (by first | (with_reducible assumption) | assumption)
                    have q346 : x3_1 < (l0.length : Int) := of_decide_eq_true (by first | (with_reducible assumption) | assumption)
                    obtain ⟨ad346, e346, hx346_0, hx346_1⟩ := at_T124 HR0.out x3_1 p346 q346
                    obtain rfl : ad343 = ad346 := (by injection e346)
                    replace p346 := eq_true p346
                    replace q346 := eq_true q346
                    go_wp2
                    repeat (go_quiet (fail); try go_wp2)
                    go_roundg k1
                    case measure => have := HK1.out; omega
                    case rel => exact ⟨(wrap64 (x3_1 + 1)), (by first | rfl | (simp; done) | (simp [*]; done)), H', ⟨by have := HK1.out; omega⟩, by repeat (first | exact Drawn0.refl _ | apply Drawn0.step)⟩
                · rw [if_neg c8] at H
                  exact absurd H (by simp)
              · rw [if_neg c7] at H
                exact absurd H (by simp)
            · rw [if_neg c5] at H
              have c5b0 : decide (0 < x3_1) = false := decide_eq_false c5
              clear c5
              have H' := Aside0.mk H
              clear H
              have p343 : 0 ≤ (x3_1 : Int) := of_decide_eq_true (by first | (with_reducible assumption) | assumption)
              have q343 : x3_1 < (l0.length : Int) := of_decide_eq_true (by first | (with_reducible assumption) | assumption)
              obtain ⟨ad343, e343, hx343_0, hx343_1⟩ := at_T124 HR0.out x3_1 p343 q343
              cases e343
              replace p343 := eq_true p343
              replace q343 := eq_true q343
              have p344 : 0 ≤ (x3_1 : Int) := of_decide_eq_true (by first | (with_reducible assumption) | assumption)
              have q344 : x3_1 < (l0.length : Int) := of_decide_eq_true (by first | (with_reducible assumption) | assumption)
              obtain ⟨ad344, e344, hx344_0, hx344_1⟩ := at_T124 HR0.out x3_1 p344 q344
              obtain rfl : ad343 = ad344 := (by injection e344)
              replace p344 := eq_true p344
              replace q344 := eq_true q344
              go_wp2
              repeat (go_quiet (fail); try go_wp2)
              go_roundg k1
              case measure => have := HK1.out; omega
              case rel => exact ⟨(wrap64 (x3_1 + 1)), (by first | rfl | (simp; done) | (simp [*]; done)), H', ⟨by have := HK1.out; omega⟩, by repeat (first | exact Drawn0.refl _ | apply Drawn0.step)⟩
        · rw [if_neg c3] at H
          exact absurd H (by simp)
      · rw [if_neg c2] at H
        have c2b0 : decide (x3_1 < (l0.length : Int)) = false := decide_eq_false c2
        clear c2
        obtain rfl := Option.some.inj H
        go_wp2
        repeat (go_quiet (fail); try go_wp2)
        go_ret
        exact ⟨by first | rfl | (simp; done) | (simp [*]; done), by repeat (first | exact Drawn0.refl _ | apply Drawn0.step)⟩

end Go.Proofs.Ytigodjcnkgebaaa.QFnExactPaintAll
