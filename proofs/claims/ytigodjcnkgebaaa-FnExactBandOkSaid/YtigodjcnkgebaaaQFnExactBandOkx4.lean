-- Made out of the translation by a program of this session (a changed copy of the print). Not trusted: Lean checks it.
import Derived.Test.YtigodjcnkgebaaaQFnExactBandOkx0
import Derived.Test.YtigodjcnkgebaaaQFnExactBandOkx3
namespace Go.Proofs.Ytigodjcnkgebaaa.QFnExactBandOk
open Go.RowKit Go.Proofs.YtigodjcnkgebaaaW.PrintWords Go.Proofs.YtigodjcnkgebaaaW.PrintLast Go.Proofs.YtigodjcnkgebaaaW.PrintMore
attribute [local go_sem] max2_int min2_int max_two min_two max_three min_three max_four min_four   -- for this text's walks alone
set_option linter.unusedVariables false
set_option linter.unusedSimpArgs false
set_option maxHeartbeats 8000000
set_option maxRecDepth 100000

/-! ### impl_BoxOk: function 152 -/
def impl_BoxOk.f (a0_0 : Int) (a0_1 : Int) (a0_2 : Int) (a0_3 : Int) : Option (Bool) := (impl_coordOk.f a0_0).bind fun t232 => (if t232 = true then ((impl_coordOk.f a0_1).bind fun t233 => (if t233 = true then ((impl_coordOk.f a0_2).bind fun t234 => (if t234 = true then ((impl_coordOk.f a0_3).bind fun t235 => (if t235 = true then (if a0_0 ≤ a0_2 then (some (decide (a0_1 ≤ a0_3))) else (some false)) else (some false))) else (some false))) else (some false))) else (some false))
theorem impl_BoxOk.calls (a0_0 : Int) (a0_1 : Int) (a0_2 : Int) (a0_3 : Int) (r : Bool) (w : World) (h : impl_BoxOk.f a0_0 a0_1 a0_2 a0_3 = some r) :
    Calls Try.prog 152 #[.agg #[.int .i64 a0_0, .int .i64 a0_1, .int .i64 a0_2, .int .i64 a0_3]] w fun e w' => e = .returned (.bool r) ∧ Below w.heap.size w w' := by
  have hu43 := Try.underlying43
  have HB := Aside0.mk (Below.refl w.heap.size w)
  have H : ((impl_coordOk.f a0_0).bind fun t232 => (if t232 = true then ((impl_coordOk.f a0_1).bind fun t233 => (if t233 = true then ((impl_coordOk.f a0_2).bind fun t234 => (if t234 = true then ((impl_coordOk.f a0_3).bind fun t235 => (if t235 = true then (if a0_0 ≤ a0_2 then (some (decide (a0_1 ≤ a0_3))) else (some false)) else (some false))) else (some false))) else (some false))) else (some false))) = some r := h
  clear h
  replace H := bN H
  obtain ⟨t232, A2, H⟩ := H
  by_cases c3 : t232 = true
  · subst c3
    rw [if_pos rfl] at H
    replace H := bN H
    obtain ⟨t233, A4, H⟩ := H
    by_cases c5 : t233 = true
    · subst c5
      rw [if_pos rfl] at H
      replace H := bN H
      obtain ⟨t234, A6, H⟩ := H
      by_cases c7 : t234 = true
      · subst c7
        rw [if_pos rfl] at H
        replace H := bN H
        obtain ⟨t235, A8, H⟩ := H
        by_cases c9 : t235 = true
        · subst c9
          rw [if_pos rfl] at H
          by_cases c10 : a0_0 ≤ a0_2
          · rw [if_pos c10] at H
            have c10b0 : decide (a0_0 ≤ a0_2) = true := decide_eq_true c10
            clear c10
            obtain rfl := Option.some.inj H
            go_enter Try.func152, Try.ntmps152
            go_wp2_with (first | ((with_reducible refine gD 1 ?_); refine bxE #[.int .i64 a0_0, .int .i64 a0_1, .int .i64 a0_2, .int .i64 a0_3] 43 ?_; intro gb231 hg w11 BK231 hb; have GW231 := gE hg; have GE231 := gE hg; replace HB := hB hb; clear hb hg; have hz12 := cz4 BK231) | ((with_reducible refine gC 157 ?_); refine cL (some 5) Try.func157 #[.int .i64 a0_0] ?_; (with_reducible refine (impl_coordOk.calls a0_0 _ _ A2.out).mono ?_); rintro e w' ⟨rfl, ⟨nd, rfl⟩⟩; refine ⟨_, rfl, ?_⟩) | (go_at_call 157; (with_reducible refine (impl_coordOk.calls a0_1 _ _ A4.out).mono ?_); rintro e w' ⟨rfl, ⟨nd, rfl⟩⟩) | (go_at_call 157; (with_reducible refine (impl_coordOk.calls a0_2 _ _ A6.out).mono ?_); rintro e w' ⟨rfl, ⟨nd, rfl⟩⟩) | (go_at_call 157; (with_reducible refine (impl_coordOk.calls a0_3 _ _ A8.out).mono ?_); rintro e w' ⟨rfl, ⟨nd, rfl⟩⟩))
            go_ret
            exact ⟨eS, bS⟩
          · rw [if_neg c10] at H
            have c10b0 : decide (a0_0 ≤ a0_2) = false := decide_eq_false c10
            clear c10
            obtain rfl := Option.some.inj H
            go_enter Try.func152, Try.ntmps152
            go_wp2_with (first | ((with_reducible refine gD 1 ?_); refine bxE #[.int .i64 a0_0, .int .i64 a0_1, .int .i64 a0_2, .int .i64 a0_3] 43 ?_; intro gb231 hg w13 BK231 hb; have GW231 := gE hg; have GE231 := gE hg; replace HB := hB hb; clear hb hg; have hz14 := cz4 BK231) | ((with_reducible refine gC 157 ?_); refine cL (some 5) Try.func157 #[.int .i64 a0_0] ?_; (with_reducible refine (impl_coordOk.calls a0_0 _ _ A2.out).mono ?_); rintro e w' ⟨rfl, ⟨nd, rfl⟩⟩; refine ⟨_, rfl, ?_⟩) | (go_at_call 157; (with_reducible refine (impl_coordOk.calls a0_1 _ _ A4.out).mono ?_); rintro e w' ⟨rfl, ⟨nd, rfl⟩⟩) | (go_at_call 157; (with_reducible refine (impl_coordOk.calls a0_2 _ _ A6.out).mono ?_); rintro e w' ⟨rfl, ⟨nd, rfl⟩⟩) | (go_at_call 157; (with_reducible refine (impl_coordOk.calls a0_3 _ _ A8.out).mono ?_); rintro e w' ⟨rfl, ⟨nd, rfl⟩⟩))
            go_ret
            exact ⟨eS, bS⟩
        · obtain rfl := Bool.eq_false_iff.mpr c9
          rw [if_neg nF] at H
          obtain rfl := Option.some.inj H
          go_enter Try.func152, Try.ntmps152
          go_wp2_with (first | ((with_reducible refine gD 1 ?_); refine bxE #[.int .i64 a0_0, .int .i64 a0_1, .int .i64 a0_2, .int .i64 a0_3] 43 ?_; intro gb231 hg w15 BK231 hb; have GW231 := gE hg; have GE231 := gE hg; replace HB := hB hb; clear hb hg; have hz16 := cz4 BK231) | ((with_reducible refine gC 157 ?_); refine cL (some 5) Try.func157 #[.int .i64 a0_0] ?_; (with_reducible refine (impl_coordOk.calls a0_0 _ _ A2.out).mono ?_); rintro e w' ⟨rfl, ⟨nd, rfl⟩⟩; refine ⟨_, rfl, ?_⟩) | (go_at_call 157; (with_reducible refine (impl_coordOk.calls a0_1 _ _ A4.out).mono ?_); rintro e w' ⟨rfl, ⟨nd, rfl⟩⟩) | (go_at_call 157; (with_reducible refine (impl_coordOk.calls a0_2 _ _ A6.out).mono ?_); rintro e w' ⟨rfl, ⟨nd, rfl⟩⟩) | (go_at_call 157; (with_reducible refine (impl_coordOk.calls a0_3 _ _ A8.out).mono ?_); rintro e w' ⟨rfl, ⟨nd, rfl⟩⟩))
          go_ret
          exact ⟨eS, bS⟩
      · obtain rfl := Bool.eq_false_iff.mpr c7
        rw [if_neg nF] at H
        obtain rfl := Option.some.inj H
        go_enter Try.func152, Try.ntmps152
        go_wp2_with (first | ((with_reducible refine gD 1 ?_); refine bxE #[.int .i64 a0_0, .int .i64 a0_1, .int .i64 a0_2, .int .i64 a0_3] 43 ?_; intro gb231 hg w17 BK231 hb; have GW231 := gE hg; have GE231 := gE hg; replace HB := hB hb; clear hb hg; have hz18 := cz4 BK231) | ((with_reducible refine gC 157 ?_); refine cL (some 5) Try.func157 #[.int .i64 a0_0] ?_; (with_reducible refine (impl_coordOk.calls a0_0 _ _ A2.out).mono ?_); rintro e w' ⟨rfl, ⟨nd, rfl⟩⟩; refine ⟨_, rfl, ?_⟩) | (go_at_call 157; (with_reducible refine (impl_coordOk.calls a0_1 _ _ A4.out).mono ?_); rintro e w' ⟨rfl, ⟨nd, rfl⟩⟩) | (go_at_call 157; (with_reducible refine (impl_coordOk.calls a0_2 _ _ A6.out).mono ?_); rintro e w' ⟨rfl, ⟨nd, rfl⟩⟩))
        go_ret
        exact ⟨eS, bS⟩
    · obtain rfl := Bool.eq_false_iff.mpr c5
      rw [if_neg nF] at H
      obtain rfl := Option.some.inj H
      go_enter Try.func152, Try.ntmps152
      go_wp2_with (first | ((with_reducible refine gD 1 ?_); refine bxE #[.int .i64 a0_0, .int .i64 a0_1, .int .i64 a0_2, .int .i64 a0_3] 43 ?_; intro gb231 hg w19 BK231 hb; have GW231 := gE hg; have GE231 := gE hg; replace HB := hB hb; clear hb hg; have hz20 := cz4 BK231) | ((with_reducible refine gC 157 ?_); refine cL (some 5) Try.func157 #[.int .i64 a0_0] ?_; (with_reducible refine (impl_coordOk.calls a0_0 _ _ A2.out).mono ?_); rintro e w' ⟨rfl, ⟨nd, rfl⟩⟩; refine ⟨_, rfl, ?_⟩) | (go_at_call 157; (with_reducible refine (impl_coordOk.calls a0_1 _ _ A4.out).mono ?_); rintro e w' ⟨rfl, ⟨nd, rfl⟩⟩))
      go_ret
      exact ⟨eS, bS⟩
  · obtain rfl := Bool.eq_false_iff.mpr c3
    rw [if_neg nF] at H
    obtain rfl := Option.some.inj H
    go_enter Try.func152, Try.ntmps152
    go_wp2_with (first | ((with_reducible refine gD 1 ?_); refine bxE #[.int .i64 a0_0, .int .i64 a0_1, .int .i64 a0_2, .int .i64 a0_3] 43 ?_; intro gb231 hg w21 BK231 hb; have GW231 := gE hg; have GE231 := gE hg; replace HB := hB hb; clear hb hg; have hz22 := cz4 BK231) | ((with_reducible refine gC 157 ?_); refine cL (some 5) Try.func157 #[.int .i64 a0_0] ?_; (with_reducible refine (impl_coordOk.calls a0_0 _ _ A2.out).mono ?_); rintro e w' ⟨rfl, ⟨nd, rfl⟩⟩; refine ⟨_, rfl, ?_⟩))
    go_ret
    exact ⟨eS, bS⟩

/-! ### impl_ObjectOk: function 87 -/
def impl_ObjectOk.f (k : Nat) (l0_0 : List (S171)) (a0_1 : Int) (a0_2 : Int) (a0_3 : Int) (a0_4 : Int) (a0_5 : Int) : Option (Bool) := (impl_within.f (l0_0.length : Int) 3 8).bind fun t237 => (if t237 = true then ((impl_pointsOk.f k l0_0).bind fun t238 => (if t238 = true then ((impl_within.f a0_1 0 255).bind fun t239 => (if t239 = true then ((impl_BoxOk.f a0_2 a0_3 a0_4 a0_5).bind fun t240 => (some t240)) else (some false))) else (some false))) else (some false))
theorem impl_ObjectOk.calls (k : Nat) (A0_0 : Option Addr) (c0_0 : Nat) (l0_0 : List (S171)) (a0_1 : Int) (a0_2 : Int) (a0_3 : Int) (a0_4 : Int) (a0_5 : Int) (r : Bool) (w : World) (hr0_0 : Kd.C k171 w A0_0 l0_0.length l0_0) (hc0_0 : l0_0.length ≤ c0_0) (h : impl_ObjectOk.f k l0_0 a0_1 a0_2 a0_3 a0_4 a0_5 = some r) :
    Calls Try.prog 87 #[.agg #[.slice A0_0 l0_0.length c0_0, .int .i64 a0_1, .int .i64 a0_2, .int .i64 a0_3, .int .i64 a0_4, .int .i64 a0_5]] w fun e w' => e = .returned (.bool r) ∧ Below w.heap.size w w' := by
  have hu45 := Try.underlying45
  have hu43 := Try.underlying43
  have HR0_0 := Aside0.mk hr0_0
  have HC0_0 := Aside0.mk hc0_0
  clear hr0_0 hc0_0
  have HB := Aside0.mk (Below.refl w.heap.size w)
  have H : ((impl_within.f (l0_0.length : Int) 3 8).bind fun t237 => (if t237 = true then ((impl_pointsOk.f k l0_0).bind fun t238 => (if t238 = true then ((impl_within.f a0_1 0 255).bind fun t239 => (if t239 = true then ((impl_BoxOk.f a0_2 a0_3 a0_4 a0_5).bind fun t240 => (some t240)) else (some false))) else (some false))) else (some false))) = some r := h
  clear h
  replace H := bN H
  obtain ⟨t237, A2, H⟩ := H
  by_cases c3 : t237 = true
  · subst c3
    rw [if_pos rfl] at H
    replace H := bN H
    obtain ⟨t238, A4, H⟩ := H
    by_cases c5 : t238 = true
    · subst c5
      rw [if_pos rfl] at H
      replace H := bN H
      obtain ⟨t239, A6, H⟩ := H
      by_cases c7 : t239 = true
      · subst c7
        rw [if_pos rfl] at H
        replace H := bN H
        obtain ⟨t240, A8, H⟩ := H
        obtain rfl := Option.some.inj H
        go_enter Try.func87, Try.ntmps87
        go_wp2_with (first | ((with_reducible refine gD 1 ?_); refine bxE #[.slice A0_0 l0_0.length c0_0, .int .i64 a0_1, .int .i64 a0_2, .int .i64 a0_3, .int .i64 a0_4, .int .i64 a0_5] 45 ?_; intro gb236 hg w9 BK236 hb; have GW236 := gE hg; have GE236 := gE hg; replace HB := hB hb; clear hb hg; have hz10 := cz6 BK236) | ((with_reducible refine gC 126 ?_); refine cL (some 6) Try.func126 #[.int .i64 (l0_0.length : Int), .int .i64 3, .int .i64 8] ?_; (with_reducible refine (impl_within.calls (l0_0.length : Int) 3 8 _ _ A2.out).mono ?_); rintro e w' ⟨rfl, ⟨nd, rfl⟩⟩; refine ⟨_, rfl, ?_⟩) | (go_at_call 151; (with_reducible refine (impl_pointsOk.calls k _ _ l0_0 _ _ ?side1 ?side2 A4.out).mono ?_); (case side1 => exact cS (Kd.C_below HR0_0.out bS)); (case side2 => exact HC0_0.out); rintro e w11 ⟨rfl, hb⟩; replace BK236 := kB (g := gb236) hb; replace HB := hB hb; (try clear hb); (try clear hb2); (try clear hk); (try clear hi); have hz12 := cz6 BK236) | (go_at_call 126; (with_reducible refine (impl_within.calls a0_1 0 255 _ _ A6.out).mono ?_); rintro e w' ⟨rfl, ⟨nd, rfl⟩⟩) | (go_at_call 152; (with_reducible refine (impl_BoxOk.calls a0_2 a0_3 a0_4 a0_5 t240 _ A8.out).mono ?_); rintro e w13 ⟨rfl, hb⟩; replace BK236 := kB (g := gb236) hb; replace HB := hB hb; (try clear hb); (try clear hb2); (try clear hk); (try clear hi)))
        go_ret
        exact ⟨eS, bS⟩
      · obtain rfl := Bool.eq_false_iff.mpr c7
        rw [if_neg nF] at H
        obtain rfl := Option.some.inj H
        go_enter Try.func87, Try.ntmps87
        go_wp2_with (first | ((with_reducible refine gD 1 ?_); refine bxE #[.slice A0_0 l0_0.length c0_0, .int .i64 a0_1, .int .i64 a0_2, .int .i64 a0_3, .int .i64 a0_4, .int .i64 a0_5] 45 ?_; intro gb236 hg w14 BK236 hb; have GW236 := gE hg; have GE236 := gE hg; replace HB := hB hb; clear hb hg; have hz15 := cz6 BK236) | ((with_reducible refine gC 126 ?_); refine cL (some 6) Try.func126 #[.int .i64 (l0_0.length : Int), .int .i64 3, .int .i64 8] ?_; (with_reducible refine (impl_within.calls (l0_0.length : Int) 3 8 _ _ A2.out).mono ?_); rintro e w' ⟨rfl, ⟨nd, rfl⟩⟩; refine ⟨_, rfl, ?_⟩) | (go_at_call 151; (with_reducible refine (impl_pointsOk.calls k _ _ l0_0 _ _ ?side1 ?side2 A4.out).mono ?_); (case side1 => exact cS (Kd.C_below HR0_0.out bS)); (case side2 => exact HC0_0.out); rintro e w16 ⟨rfl, hb⟩; replace BK236 := kB (g := gb236) hb; replace HB := hB hb; (try clear hb); (try clear hb2); (try clear hk); (try clear hi); have hz17 := cz6 BK236) | (go_at_call 126; (with_reducible refine (impl_within.calls a0_1 0 255 _ _ A6.out).mono ?_); rintro e w' ⟨rfl, ⟨nd, rfl⟩⟩))
        go_ret
        exact ⟨eS, bS⟩
    · obtain rfl := Bool.eq_false_iff.mpr c5
      rw [if_neg nF] at H
      obtain rfl := Option.some.inj H
      go_enter Try.func87, Try.ntmps87
      go_wp2_with (first | ((with_reducible refine gD 1 ?_); refine bxE #[.slice A0_0 l0_0.length c0_0, .int .i64 a0_1, .int .i64 a0_2, .int .i64 a0_3, .int .i64 a0_4, .int .i64 a0_5] 45 ?_; intro gb236 hg w18 BK236 hb; have GW236 := gE hg; have GE236 := gE hg; replace HB := hB hb; clear hb hg; have hz19 := cz6 BK236) | ((with_reducible refine gC 126 ?_); refine cL (some 6) Try.func126 #[.int .i64 (l0_0.length : Int), .int .i64 3, .int .i64 8] ?_; (with_reducible refine (impl_within.calls (l0_0.length : Int) 3 8 _ _ A2.out).mono ?_); rintro e w' ⟨rfl, ⟨nd, rfl⟩⟩; refine ⟨_, rfl, ?_⟩) | (go_at_call 151; (with_reducible refine (impl_pointsOk.calls k _ _ l0_0 _ _ ?side1 ?side2 A4.out).mono ?_); (case side1 => exact cS (Kd.C_below HR0_0.out bS)); (case side2 => exact HC0_0.out); rintro e w20 ⟨rfl, hb⟩; replace BK236 := kB (g := gb236) hb; replace HB := hB hb; (try clear hb); (try clear hb2); (try clear hk); (try clear hi)))
      go_ret
      exact ⟨eS, bS⟩
  · obtain rfl := Bool.eq_false_iff.mpr c3
    rw [if_neg nF] at H
    obtain rfl := Option.some.inj H
    go_enter Try.func87, Try.ntmps87
    go_wp2_with (first | ((with_reducible refine gD 1 ?_); refine bxE #[.slice A0_0 l0_0.length c0_0, .int .i64 a0_1, .int .i64 a0_2, .int .i64 a0_3, .int .i64 a0_4, .int .i64 a0_5] 45 ?_; intro gb236 hg w21 BK236 hb; have GW236 := gE hg; have GE236 := gE hg; replace HB := hB hb; clear hb hg; have hz22 := cz6 BK236) | ((with_reducible refine gC 126 ?_); refine cL (some 6) Try.func126 #[.int .i64 (l0_0.length : Int), .int .i64 3, .int .i64 8] ?_; (with_reducible refine (impl_within.calls (l0_0.length : Int) 3 8 _ _ A2.out).mono ?_); rintro e w' ⟨rfl, ⟨nd, rfl⟩⟩; refine ⟨_, rfl, ?_⟩))
    go_ret
    exact ⟨eS, bS⟩

/-! ### impl_objectsOk: function 73 -/
def impl_objectsOk.l0 : Nat → List (S45) → Int → Int → Option (Bool)
  | 0, _, _, _ => none
  | k + 1, x5, x6, x7 => if x7 < x6 then (if 0 ≤ x7 then (if x7 < (x5.length : Int) then ((impl_ObjectOk.f k ((rd_T45 x5 x7).f0) ((rd_T45 x5 x7).f1) ((rd_T45 x5 x7).f2.f0) ((rd_T45 x5 x7).f2.f1) ((rd_T45 x5 x7).f2.f2) ((rd_T45 x5 x7).f2.f3)).bind fun t243 => (if t243 = true then (impl_objectsOk.l0 k x5 x6 (wrap64 (x7 + 1))) else (some false))) else (none)) else (none)) else (some true)
def impl_objectsOk.f (k : Nat) (l0 : List (S45)) : Option (Bool) := impl_objectsOk.l0 k l0 (l0.length : Int) 0
theorem impl_objectsOk.calls (k : Nat) (A0 : Option Addr) (c0 : Nat) (l0 : List (S45)) (r : Bool) (w : World) (hr0 : Kd.C k45 w A0 l0.length l0) (hc0 : l0.length ≤ c0) (h : impl_objectsOk.f k l0 = some r) :
    Calls Try.prog 73 #[.slice A0 l0.length c0] w fun e w' => e = .returned (.bool r) ∧ Below w.heap.size w w' := by
  have hu45 := Try.underlying45
  have HR0 := Aside0.mk hr0
  have HC0 := Aside0.mk hc0
  clear hr0 hc0
  have HB := Aside0.mk (Below.refl w.heap.size w)
  have H : (impl_objectsOk.l0 k l0 (l0.length : Int) 0) = some r := h
  clear h
  have H' := Aside0.mk H
  clear H
  go_enter Try.func73, Try.ntmps73
  go_wp2
  go_loopg [7] k (fun kq v7 w' => ∃ (x7_1 : Int), v7 = .int .i64 x7_1 ∧ Aside0 (impl_objectsOk.l0 kq l0 (l0.length : Int) x7_1 = some r) ∧ Aside0 (kq ≤ k) ∧ Aside0 (Below w.heap.size w w'))
  case atStart => exact ⟨(0), (by first | rfl | (simp; done) | (simp [*]; done)), H', ⟨Nat.le_refl _⟩, ⟨bS⟩⟩
  case round =>
    clear H'
    obtain ⟨x7_1, rfl, HA, HK1, HB⟩ := hrel
    cases gk with
    | zero => exact absurd HA.out (by simp [impl_objectsOk.l0])
    | succ k1 =>
      have H := HA.out
      clear HA
      simp only [impl_objectsOk.l0] at H
      by_cases c2 : x7_1 < (l0.length : Int)
      · rw [if_pos c2] at H
        have c2b0 : decide (x7_1 < (l0.length : Int)) = true := decide_eq_true c2
        clear c2
        by_cases c3 : 0 ≤ x7_1
        · rw [if_pos c3] at H
          have c3b0 : decide (0 ≤ x7_1) = true := decide_eq_true c3
          clear c3
          by_cases c4 : x7_1 < (l0.length : Int)
          · rw [if_pos c4] at H
            have c4b0 : decide (x7_1 < (l0.length : Int)) = true := decide_eq_true c4
            clear c4
            replace H := bN H
            obtain ⟨t243, A5, H⟩ := H
            by_cases c6 : t243 = true
            · subst c6
              rw [if_pos rfl] at H
              have H' := Aside0.mk H
              clear H
              have p241 : 0 ≤ (x7_1 : Int) := of_decide_eq_true (by first | (with_reducible assumption) | assumption)
              have q241 : x7_1 < (l0.length : Int) := of_decide_eq_true (by first | (with_reducible assumption) | assumption)
              obtain ⟨ad241, A241_0, c241_0, e241, hx241_0, hx241_1, hx241_2, hx241_3, hx241_4, hx241_5, hl241_0, hi241_0⟩ := at_T45 HR0.out x7_1 p241 q241
              cases e241
              replace hx241_0 := (HB.out.cell (World.block_lt_of_cell? w _ hx241_0)).trans hx241_0
              replace hx241_1 := (HB.out.cell (World.block_lt_of_cell? w _ hx241_1)).trans hx241_1
              replace hx241_2 := (HB.out.cell (World.block_lt_of_cell? w _ hx241_2)).trans hx241_2
              replace hx241_3 := (HB.out.cell (World.block_lt_of_cell? w _ hx241_3)).trans hx241_3
              replace hx241_4 := (HB.out.cell (World.block_lt_of_cell? w _ hx241_4)).trans hx241_4
              replace hx241_5 := (HB.out.cell (World.block_lt_of_cell? w _ hx241_5)).trans hx241_5
              have HR241_0 := Aside0.mk hi241_0
              have HC241_0 := Aside0.mk hl241_0
              clear hi241_0 hl241_0
              replace p241 := eq_true p241
              replace q241 := eq_true q241
              go_wp2_with (first | ((with_reducible refine gD 4 ?_); refine bxE #[.slice none 0 0, .int .i64 0, .int .i64 0, .int .i64 0, .int .i64 0, .int .i64 0] 45 ?_; intro gb242 hg w7 BK242 hb; have GW242 := gE hg; have GE242 := gE hg; replace HB := hB hb; clear hb hg; have hz8 := cz6 BK242) | ((with_reducible refine gC 87 ?_); refine cL (some 12) Try.func87 #[.agg #[.slice A241_0 ((rd_T45 l0 x7_1).f0).length c241_0, .int .i64 ((rd_T45 l0 x7_1).f1), .int .i64 ((rd_T45 l0 x7_1).f2.f0), .int .i64 ((rd_T45 l0 x7_1).f2.f1), .int .i64 ((rd_T45 l0 x7_1).f2.f2), .int .i64 ((rd_T45 l0 x7_1).f2.f3)]] ?_; (with_reducible refine (impl_ObjectOk.calls k1 _ _ ((rd_T45 l0 x7_1).f0) ((rd_T45 l0 x7_1).f1) ((rd_T45 l0 x7_1).f2.f0) ((rd_T45 l0 x7_1).f2.f1) ((rd_T45 l0 x7_1).f2.f2) ((rd_T45 l0 x7_1).f2.f3) _ _ ?side1 ?side2 A5.out).mono ?_); (case side1 => exact Kd.C_below HR241_0.out bS); (case side2 => exact HC241_0.out); rintro e w9 ⟨rfl, hb⟩; refine ⟨_, rfl, ?_⟩; replace BK242 := Aside0.mk (blk_below (g := gb242) (o := .cells #[.slice A241_0 ((rd_T45 l0 x7_1).f0).length c241_0, .int .i64 ((rd_T45 l0 x7_1).f1), .int .i64 ((rd_T45 l0 x7_1).f2.f0), .int .i64 ((rd_T45 l0 x7_1).f2.f1), .int .i64 ((rd_T45 l0 x7_1).f2.f2), .int .i64 ((rd_T45 l0 x7_1).f2.f3)] 45 (0, 0)) kS hb); replace HB := hB hb; (try clear hb); (try clear hb2); (try clear hk); (try clear hi)))
              go_roundg k1
              case measure => have := HK1.out; omega
              case rel => exact ⟨(wrap64 (x7_1 + 1)), (by first | rfl | (simp; done) | (simp [*]; done)), H', ⟨by have := HK1.out; omega⟩, ⟨bS⟩⟩
            · obtain rfl := Bool.eq_false_iff.mpr c6
              rw [if_neg nF] at H
              obtain rfl := Option.some.inj H
              have p241 : 0 ≤ (x7_1 : Int) := of_decide_eq_true (by first | (with_reducible assumption) | assumption)
              have q241 : x7_1 < (l0.length : Int) := of_decide_eq_true (by first | (with_reducible assumption) | assumption)
              obtain ⟨ad241, A241_0, c241_0, e241, hx241_0, hx241_1, hx241_2, hx241_3, hx241_4, hx241_5, hl241_0, hi241_0⟩ := at_T45 HR0.out x7_1 p241 q241
              cases e241
              replace hx241_0 := (HB.out.cell (World.block_lt_of_cell? w _ hx241_0)).trans hx241_0
              replace hx241_1 := (HB.out.cell (World.block_lt_of_cell? w _ hx241_1)).trans hx241_1
              replace hx241_2 := (HB.out.cell (World.block_lt_of_cell? w _ hx241_2)).trans hx241_2
              replace hx241_3 := (HB.out.cell (World.block_lt_of_cell? w _ hx241_3)).trans hx241_3
              replace hx241_4 := (HB.out.cell (World.block_lt_of_cell? w _ hx241_4)).trans hx241_4
              replace hx241_5 := (HB.out.cell (World.block_lt_of_cell? w _ hx241_5)).trans hx241_5
              have HR241_0 := Aside0.mk hi241_0
              have HC241_0 := Aside0.mk hl241_0
              clear hi241_0 hl241_0
              replace p241 := eq_true p241
              replace q241 := eq_true q241
              go_wp2_with (first | ((with_reducible refine gD 4 ?_); refine bxE #[.slice none 0 0, .int .i64 0, .int .i64 0, .int .i64 0, .int .i64 0, .int .i64 0] 45 ?_; intro gb242 hg w10 BK242 hb; have GW242 := gE hg; have GE242 := gE hg; replace HB := hB hb; clear hb hg; have hz11 := cz6 BK242) | ((with_reducible refine gC 87 ?_); refine cL (some 12) Try.func87 #[.agg #[.slice A241_0 ((rd_T45 l0 x7_1).f0).length c241_0, .int .i64 ((rd_T45 l0 x7_1).f1), .int .i64 ((rd_T45 l0 x7_1).f2.f0), .int .i64 ((rd_T45 l0 x7_1).f2.f1), .int .i64 ((rd_T45 l0 x7_1).f2.f2), .int .i64 ((rd_T45 l0 x7_1).f2.f3)]] ?_; (with_reducible refine (impl_ObjectOk.calls k1 _ _ ((rd_T45 l0 x7_1).f0) ((rd_T45 l0 x7_1).f1) ((rd_T45 l0 x7_1).f2.f0) ((rd_T45 l0 x7_1).f2.f1) ((rd_T45 l0 x7_1).f2.f2) ((rd_T45 l0 x7_1).f2.f3) _ _ ?side1 ?side2 A5.out).mono ?_); (case side1 => exact Kd.C_below HR241_0.out bS); (case side2 => exact HC241_0.out); rintro e w12 ⟨rfl, hb⟩; refine ⟨_, rfl, ?_⟩; replace BK242 := Aside0.mk (blk_below (g := gb242) (o := .cells #[.slice A241_0 ((rd_T45 l0 x7_1).f0).length c241_0, .int .i64 ((rd_T45 l0 x7_1).f1), .int .i64 ((rd_T45 l0 x7_1).f2.f0), .int .i64 ((rd_T45 l0 x7_1).f2.f1), .int .i64 ((rd_T45 l0 x7_1).f2.f2), .int .i64 ((rd_T45 l0 x7_1).f2.f3)] 45 (0, 0)) kS hb); replace HB := hB hb; (try clear hb); (try clear hb2); (try clear hk); (try clear hi)))
              go_ret
              exact ⟨eS, bS⟩
          · rw [if_neg c4] at H
            exact absurd H (by simp)
        · rw [if_neg c3] at H
          exact absurd H (by simp)
      · rw [if_neg c2] at H
        have c2b0 : decide (x7_1 < (l0.length : Int)) = false := decide_eq_false c2
        clear c2
        obtain rfl := Option.some.inj H
        go_wp2
        go_ret
        exact ⟨eS, bS⟩

/-! ### impl_rowOk: function 162 -/
def impl_rowOk.l0 : Nat → List Int → Int → Int → Option (Bool)
  | 0, _, _, _ => none
  | k + 1, x8, x9, x10 => if x10 < x9 then (if 0 ≤ x10 then (if x10 < (x8.length : Int) then ((impl_within.f (rd x8 x10) 0 255).bind fun t245 => (if t245 = true then (impl_rowOk.l0 k x8 x9 (wrap64 (x10 + 1))) else (some false))) else (none)) else (none)) else (some true)
def impl_rowOk.f (k : Nat) (l0 : List Int) : Option (Bool) := if (l0.length : Int) = 32 then (impl_rowOk.l0 k l0 (l0.length : Int) 0) else (some false)
theorem impl_rowOk.calls (k : Nat) (A0 : Option Addr) (c0 : Nat) (l0 : List Int) (r : Bool) (w : World) (hr0 : Kd.C (Kd.int .i64) w A0 l0.length l0) (hc0 : l0.length ≤ c0) (h : impl_rowOk.f k l0 = some r) :
    Calls Try.prog 162 #[.slice A0 l0.length c0] w fun e w' => e = .returned (.bool r) ∧ Drawn0 w w' := by
  have HR0 := Aside0.mk hr0
  have HC0 := Aside0.mk hc0
  clear hr0 hc0
  have H : (if (l0.length : Int) = 32 then (impl_rowOk.l0 k l0 (l0.length : Int) 0) else (some false)) = some r := h
  clear h
  by_cases c2 : (l0.length : Int) = 32
  · rw [if_pos c2] at H
    have c2b0 : ((l0.length : Int) == 32) = true := beq_iff_eq.mpr c2
    have c2b1 : ((l0.length : Int) != 32) = false := bne_eq_false_iff_eq.mpr c2
    clear c2
    have H' := Aside0.mk H
    clear H
    go_enter Try.func162, Try.ntmps162
    go_wp2
    go_loopg [10] k (fun kq v10 w' => ∃ (x10_1 : Int), v10 = .int .i64 x10_1 ∧ Aside0 (impl_rowOk.l0 kq l0 (l0.length : Int) x10_1 = some r) ∧ Aside0 (kq ≤ k) ∧ Drawn0 w w')
    case atStart => exact ⟨(0), (by first | rfl | (simp; done) | (simp [*]; done)), H', ⟨Nat.le_refl _⟩, by repeat (first | exact Drawn0.refl _ | apply Drawn0.step)⟩
    case round =>
      clear H'
      try clear c1
      try clear c2
      try clear c2b0
      try clear c2b1
      try clear p2
      obtain ⟨x10_1, rfl, HA, HK1, ⟨m1, rfl⟩⟩ := hrel
      cases gk with
      | zero => exact absurd HA.out (by simp [impl_rowOk.l0])
      | succ k1 =>
        have H := HA.out
        clear HA
        simp only [impl_rowOk.l0] at H
        by_cases c3 : x10_1 < (l0.length : Int)
        · rw [if_pos c3] at H
          have c3b0 : decide (x10_1 < (l0.length : Int)) = true := decide_eq_true c3
          clear c3
          by_cases c4 : 0 ≤ x10_1
          · rw [if_pos c4] at H
            have c4b0 : decide (0 ≤ x10_1) = true := decide_eq_true c4
            clear c4
            by_cases c5 : x10_1 < (l0.length : Int)
            · rw [if_pos c5] at H
              have c5b0 : decide (x10_1 < (l0.length : Int)) = true := decide_eq_true c5
              clear c5
              replace H := bN H
              obtain ⟨t245, A6, H⟩ := H
              by_cases c7 : t245 = true
              · subst c7
                rw [if_pos rfl] at H
                have H' := Aside0.mk H
                clear H
                have p244 : 0 ≤ (x10_1 : Int) := of_decide_eq_true (by first | (with_reducible assumption) | assumption)
                have q244 : x10_1 < (l0.length : Int) := of_decide_eq_true (by first | (with_reducible assumption) | assumption)
                obtain ⟨ad244, e244, hx244_0⟩ := Kd.at_int HR0.out x10_1 p244 q244
                cases e244
                replace p244 := eq_true p244
                replace q244 := eq_true q244
                go_wp2_with (first | ((with_reducible refine gC 126 ?_); refine cL (some 15) Try.func126 #[.int .i64 (rd l0 x10_1), .int .i64 0, .int .i64 255] ?_; (with_reducible refine (impl_within.calls (rd l0 x10_1) 0 255 _ _ A6.out).mono ?_); rintro e w' ⟨rfl, ⟨nd, rfl⟩⟩; refine ⟨_, rfl, ?_⟩))
                go_roundg k1
                case measure => have := HK1.out; omega
                case rel => exact ⟨(wrap64 (x10_1 + 1)), (by first | rfl | (simp; done) | (simp [*]; done)), H', ⟨by have := HK1.out; omega⟩, by repeat (first | exact Drawn0.refl _ | apply Drawn0.step)⟩
              · obtain rfl := Bool.eq_false_iff.mpr c7
                rw [if_neg nF] at H
                obtain rfl := Option.some.inj H
                have p244 : 0 ≤ (x10_1 : Int) := of_decide_eq_true (by first | (with_reducible assumption) | assumption)
                have q244 : x10_1 < (l0.length : Int) := of_decide_eq_true (by first | (with_reducible assumption) | assumption)
                obtain ⟨ad244, e244, hx244_0⟩ := Kd.at_int HR0.out x10_1 p244 q244
                cases e244
                replace p244 := eq_true p244
                replace q244 := eq_true q244
                go_wp2_with (first | ((with_reducible refine gC 126 ?_); refine cL (some 15) Try.func126 #[.int .i64 (rd l0 x10_1), .int .i64 0, .int .i64 255] ?_; (with_reducible refine (impl_within.calls (rd l0 x10_1) 0 255 _ _ A6.out).mono ?_); rintro e w' ⟨rfl, ⟨nd, rfl⟩⟩; refine ⟨_, rfl, ?_⟩))
                go_ret
                exact ⟨by first | rfl | (simp; done) | (simp [*]; done), by repeat (first | exact Drawn0.refl _ | apply Drawn0.step)⟩
            · rw [if_neg c5] at H
              exact absurd H (by simp)
          · rw [if_neg c4] at H
            exact absurd H (by simp)
        · rw [if_neg c3] at H
          have c3b0 : decide (x10_1 < (l0.length : Int)) = false := decide_eq_false c3
          clear c3
          obtain rfl := Option.some.inj H
          go_wp2
          go_ret
          exact ⟨by first | rfl | (simp; done) | (simp [*]; done), by repeat (first | exact Drawn0.refl _ | apply Drawn0.step)⟩
  · rw [if_neg c2] at H
    have c2b0 : ((l0.length : Int) == 32) = false := beq_eq_false_iff_ne.mpr c2
    have c2b1 : ((l0.length : Int) != 32) = true := bne_iff_ne.mpr c2
    obtain rfl := Option.some.inj H
    go_enter Try.func162, Try.ntmps162
    go_wp2
    go_ret
    exact ⟨by first | rfl | (simp; done) | (simp [*]; done), by repeat (first | exact Drawn0.refl _ | apply Drawn0.step)⟩

/-! ### impl_RowsOk: function 99 -/
def impl_RowsOk.l0 : Nat → List (List Int) → Int → Int → Option (Bool)
  | 0, _, _, _ => none
  | k + 1, x8, x9, x10 => if x10 < x9 then (if 0 ≤ x10 then (if x10 < (x8.length : Int) then ((impl_rowOk.f k (rd_L5 x8 x10)).bind fun t247 => (if t247 = true then (impl_RowsOk.l0 k x8 x9 (wrap64 (x10 + 1))) else (some false))) else (none)) else (none)) else (some true)
def impl_RowsOk.f (k : Nat) (l0 : List (List Int)) : Option (Bool) := if (l0.length : Int) > 32 then (some false) else (impl_RowsOk.l0 k l0 (l0.length : Int) 0)
theorem impl_RowsOk.calls (k : Nat) (A0 : Option Addr) (c0 : Nat) (l0 : List (List Int)) (r : Bool) (w : World) (hr0 : Kd.C (Kd.slice 3 (Kd.int .i64)) w A0 l0.length l0) (hc0 : l0.length ≤ c0) (h : impl_RowsOk.f k l0 = some r) :
    Calls Try.prog 99 #[.slice A0 l0.length c0] w fun e w' => e = .returned (.bool r) ∧ Drawn0 w w' := by
  have HR0 := Aside0.mk hr0
  have HC0 := Aside0.mk hc0
  clear hr0 hc0
  have H : (if (l0.length : Int) > 32 then (some false) else (impl_RowsOk.l0 k l0 (l0.length : Int) 0)) = some r := h
  clear h
  by_cases c2 : (l0.length : Int) > 32
  · rw [if_pos c2] at H
    have c2b0 : decide (32 < (l0.length : Int)) = true := decide_eq_true c2
    have c2b1 : decide (32 < l0.length) = true := decide_eq_true (by omega)
    clear c2
    obtain rfl := Option.some.inj H
    go_enter Try.func99, Try.ntmps99
    go_wp2
    go_ret
    exact ⟨by first | rfl | (simp; done) | (simp [*]; done), by repeat (first | exact Drawn0.refl _ | apply Drawn0.step)⟩
  · rw [if_neg c2] at H
    have c2b0 : decide (32 < (l0.length : Int)) = false := decide_eq_false c2
    have c2b1 : decide (32 < l0.length) = false := decide_eq_false (by omega)
    clear c2
    have H' := Aside0.mk H
    clear H
    go_enter Try.func99, Try.ntmps99
    go_wp2
    go_loopg [10] k (fun kq v10 w' => ∃ (x10_1 : Int), v10 = .int .i64 x10_1 ∧ Aside0 (impl_RowsOk.l0 kq l0 (l0.length : Int) x10_1 = some r) ∧ Aside0 (kq ≤ k) ∧ Drawn0 w w')
    case atStart => exact ⟨(0), (by first | rfl | (simp; done) | (simp [*]; done)), H', ⟨Nat.le_refl _⟩, by repeat (first | exact Drawn0.refl _ | apply Drawn0.step)⟩
    case round =>
      clear H'
      try clear c2
      try clear c2b0
      try clear c2b1
      try clear p2
      obtain ⟨x10_1, rfl, HA, HK1, ⟨m1, rfl⟩⟩ := hrel
      cases gk with
      | zero => exact absurd HA.out (by simp [impl_RowsOk.l0])
      | succ k1 =>
        have H := HA.out
        clear HA
        simp only [impl_RowsOk.l0] at H
        by_cases c3 : x10_1 < (l0.length : Int)
        · rw [if_pos c3] at H
          have c3b0 : decide (x10_1 < (l0.length : Int)) = true := decide_eq_true c3
          clear c3
          by_cases c4 : 0 ≤ x10_1
          · rw [if_pos c4] at H
            have c4b0 : decide (0 ≤ x10_1) = true := decide_eq_true c4
            clear c4
            by_cases c5 : x10_1 < (l0.length : Int)
            · rw [if_pos c5] at H
              have c5b0 : decide (x10_1 < (l0.length : Int)) = true := decide_eq_true c5
              clear c5
              replace H := bN H
              obtain ⟨t247, A6, H⟩ := H
              by_cases c7 : t247 = true
              · subst c7
                rw [if_pos rfl] at H
                have H' := Aside0.mk H
                clear H
                have p246 : 0 ≤ (x10_1 : Int) := of_decide_eq_true (by first | (with_reducible assumption) | assumption)
                have q246 : x10_1 < (l0.length : Int) := of_decide_eq_true (by first | (with_reducible assumption) | assumption)
                obtain ⟨ad246, A246_0, c246_0, e246, hx246_0, hl246_0, hi246_0⟩ := at_L5 HR0.out x10_1 p246 q246
                cases e246
                have HR246_0 := Aside0.mk hi246_0
                have HC246_0 := Aside0.mk hl246_0
                clear hi246_0 hl246_0
                replace p246 := eq_true p246
                replace q246 := eq_true q246
                go_wp2_with (first | ((with_reducible refine gC 162 ?_); refine cL (some 15) Try.func162 #[.slice A246_0 (rd_L5 l0 x10_1).length c246_0] ?_; (with_reducible refine (impl_rowOk.calls k1 _ _ (rd_L5 l0 x10_1) _ _ ?side1 ?side2 A6.out).mono ?_); (case side1 => repeat (first | exact HR246_0.out | (with_reducible refine Kd.C_alloc ?_ _) | (with_reducible refine Kd.C_drewN ?_ _) | (with_reducible refine Kd.C_drew ?_))); (case side2 => exact HC246_0.out); rintro e w' ⟨rfl, ⟨nd, rfl⟩⟩; refine ⟨_, rfl, ?_⟩))
                go_roundg k1
                case measure => have := HK1.out; omega
                case rel => exact ⟨(wrap64 (x10_1 + 1)), (by first | rfl | (simp; done) | (simp [*]; done)), H', ⟨by have := HK1.out; omega⟩, by repeat (first | exact Drawn0.refl _ | apply Drawn0.step)⟩
              · obtain rfl := Bool.eq_false_iff.mpr c7
                rw [if_neg nF] at H
                obtain rfl := Option.some.inj H
                have p246 : 0 ≤ (x10_1 : Int) := of_decide_eq_true (by first | (with_reducible assumption) | assumption)
                have q246 : x10_1 < (l0.length : Int) := of_decide_eq_true (by first | (with_reducible assumption) | assumption)
                obtain ⟨ad246, A246_0, c246_0, e246, hx246_0, hl246_0, hi246_0⟩ := at_L5 HR0.out x10_1 p246 q246
                cases e246
                have HR246_0 := Aside0.mk hi246_0
                have HC246_0 := Aside0.mk hl246_0
                clear hi246_0 hl246_0
                replace p246 := eq_true p246
                replace q246 := eq_true q246
                go_wp2_with (first | ((with_reducible refine gC 162 ?_); refine cL (some 15) Try.func162 #[.slice A246_0 (rd_L5 l0 x10_1).length c246_0] ?_; (with_reducible refine (impl_rowOk.calls k1 _ _ (rd_L5 l0 x10_1) _ _ ?side1 ?side2 A6.out).mono ?_); (case side1 => repeat (first | exact HR246_0.out | (with_reducible refine Kd.C_alloc ?_ _) | (with_reducible refine Kd.C_drewN ?_ _) | (with_reducible refine Kd.C_drew ?_))); (case side2 => exact HC246_0.out); rintro e w' ⟨rfl, ⟨nd, rfl⟩⟩; refine ⟨_, rfl, ?_⟩))
                go_ret
                exact ⟨by first | rfl | (simp; done) | (simp [*]; done), by repeat (first | exact Drawn0.refl _ | apply Drawn0.step)⟩
            · rw [if_neg c5] at H
              exact absurd H (by simp)
          · rw [if_neg c4] at H
            exact absurd H (by simp)
        · rw [if_neg c3] at H
          have c3b0 : decide (x10_1 < (l0.length : Int)) = false := decide_eq_false c3
          clear c3
          obtain rfl := Option.some.inj H
          go_wp2
          go_ret
          exact ⟨by first | rfl | (simp; done) | (simp [*]; done), by repeat (first | exact Drawn0.refl _ | apply Drawn0.step)⟩

/-! ### impl_BandOk: function 35 -/
def impl_BandOk.f (k : Nat) (a0_0 : Int) (a0_1 : Int) (l0_2 : List (List Int)) (l0_3 : List (S45)) : Option (Bool) := (impl_NewBand.f k a0_0 a0_1).bind fun bt249 => (if bt249.2.2.2.2 = true then (if (l0_2.length : Int) = a0_0 then ((impl_RowsOk.f k l0_2).bind fun t259 => (if t259 = true then ((impl_objectsOk.f k l0_3).bind fun t260 => (if t260 = true then ((impl_BandCells.f k a0_0 a0_1 l0_2 l0_3).bind fun t261 => (some (decide (t261 ≤ 60)))) else (some false))) else (some false))) else (some false)) else (some false))
theorem impl_BandOk.calls (k : Nat) (a0_0 : Int) (a0_1 : Int) (A0_2 : Option Addr) (c0_2 : Nat) (l0_2 : List (List Int)) (A0_3 : Option Addr) (c0_3 : Nat) (l0_3 : List (S45)) (r : Bool) (w : World) (hr0_2 : Kd.C (Kd.slice 3 (Kd.int .i64)) w A0_2 l0_2.length l0_2) (hc0_2 : l0_2.length ≤ c0_2) (hr0_3 : Kd.C k45 w A0_3 l0_3.length l0_3) (hc0_3 : l0_3.length ≤ c0_3) (h : impl_BandOk.f k a0_0 a0_1 l0_2 l0_3 = some r) :
    Calls Try.prog 35 #[.agg #[.int .i64 a0_0, .int .i64 a0_1, .slice A0_2 l0_2.length c0_2, .slice A0_3 l0_3.length c0_3]] w fun e w' => e = .returned (.bool r) ∧ Below w.heap.size w w' := by
  have hu58 := Try.underlying58
  have HR0_2 := Aside0.mk hr0_2
  have HC0_2 := Aside0.mk hc0_2
  clear hr0_2 hc0_2
  have HR0_3 := Aside0.mk hr0_3
  have HC0_3 := Aside0.mk hc0_3
  clear hr0_3 hc0_3
  have HB := Aside0.mk (Below.refl w.heap.size w)
  have H : ((impl_NewBand.f k a0_0 a0_1).bind fun bt249 => (if bt249.2.2.2.2 = true then (if (l0_2.length : Int) = a0_0 then ((impl_RowsOk.f k l0_2).bind fun t259 => (if t259 = true then ((impl_objectsOk.f k l0_3).bind fun t260 => (if t260 = true then ((impl_BandCells.f k a0_0 a0_1 l0_2 l0_3).bind fun t261 => (some (decide (t261 ≤ 60)))) else (some false))) else (some false))) else (some false)) else (some false))) = some r := h
  clear h
  replace H := bN H
  obtain ⟨⟨t249, t250, t251, t254, t257⟩, A2, H⟩ := H
  by_cases c3 : t257 = true
  · subst c3
    rw [if_pos rfl] at H
    by_cases c4 : (l0_2.length : Int) = a0_0
    · rw [if_pos c4] at H
      have c4b0 : ((l0_2.length : Int) == a0_0) = true := beq_iff_eq.mpr c4
      have c4b1 : ((l0_2.length : Int) != a0_0) = false := bne_eq_false_iff_eq.mpr c4
      clear c4
      replace H := bN H
      obtain ⟨t259, A5, H⟩ := H
      by_cases c6 : t259 = true
      · subst c6
        rw [if_pos rfl] at H
        replace H := bN H
        obtain ⟨t260, A7, H⟩ := H
        by_cases c8 : t260 = true
        · subst c8
          rw [if_pos rfl] at H
          replace H := bN H
          obtain ⟨t261, A9, H⟩ := H
          obtain rfl := Option.some.inj H
          go_enter Try.func35, Try.ntmps35
          go_wp2_with (first | ((with_reducible refine gD 1 ?_); refine bxE #[.int .i64 a0_0, .int .i64 a0_1, .slice A0_2 l0_2.length c0_2, .slice A0_3 l0_3.length c0_3] 58 ?_; intro gb248 hg w10 BK248 hb; have GW248 := gE hg; have GE248 := gE hg; replace HB := hB hb; clear hb hg; have hz11 := cz4 BK248) | ((with_reducible refine gC 68 ?_); refine cL (some 10) Try.func68 #[.int .i64 a0_0, .int .i64 a0_1] ?_; (with_reducible refine (impl_NewBand.calls k a0_0 a0_1 t249 t250 t251 t254 _ _ A2.out).mono ?_); rintro e w12 ⟨v252, v255, rfl, ho0, ho1, hb⟩; refine ⟨_, rfl, ?_⟩; have HO253 := Aside0.mk (Kd.S_lower ho0 (below_size bS)); have HO256 := Aside0.mk (Kd.S_lower ho1 (below_size bS)); replace BK248 := kB (g := gb248) hb; replace HB := hB hb; (try clear hb); (try clear hb2); (try clear hk); (try clear hi); (try clear ho0); (try clear ho1)) | ((with_reducible refine gD 3 ?_); refine bxE #[.int .i64 0, .int .i64 0, .slice none 0 0, .slice none 0 0] 58 ?_; intro gb258 hg w13 BK258 hb; have GW258 := gE hg; have GE258 := gE hg; have NB248_258 := nL (g := gb248) hg; have NB258_248 := nG (g := gb248) hg; replace HO253 := Aside0.mk (Kd.S_below (by (with_reducible repeat (first | apply Kd.S_alloc | apply Kd.S_drewN | apply Kd.S_drew)); exact HO253.out) hb); replace HO256 := Aside0.mk (Kd.S_below (by (with_reducible repeat (first | apply Kd.S_alloc | apply Kd.S_drewN | apply Kd.S_drew)); exact HO256.out) hb); replace BK248 := kB (g := gb248) hb; replace HB := hB hb; clear hb hg; have hnb14 := NB258_248.out; have hnc14 := NB248_258.out; have hz15 := cz4 BK258; obtain ⟨Ao16, co16, eo16⟩ := Kd.S_slice HO253.out; subst eo16; obtain ⟨Ao17, co17, eo17⟩ := Kd.S_slice HO256.out; subst eo17; have hz18 := cz4 BK248) | (go_at_call 99; (with_reducible refine (impl_RowsOk.calls k _ _ l0_2 _ _ ?side1 ?side2 A5.out).mono ?_); (case side1 => exact Kd.C_below HR0_2.out bS); (case side2 => exact HC0_2.out); rintro e w' ⟨rfl, ⟨nd, rfl⟩⟩) | (go_at_call 73; (with_reducible refine (impl_objectsOk.calls k _ _ l0_3 _ _ ?side1 ?side2 A7.out).mono ?_); (case side1 => exact Kd.C_below HR0_3.out bS); (case side2 => exact HC0_3.out); rintro e w19 ⟨rfl, hb⟩; replace HO253 := Aside0.mk (Kd.S_below (by (with_reducible repeat (first | apply Kd.S_alloc | apply Kd.S_drewN | apply Kd.S_drew)); exact (Kd.S_mono (Kd.S_far (p := ⟨gb258, 3, none⟩) (Kd.S_far (p := ⟨gb258, 2, none⟩) (Kd.S_far (p := ⟨gb258, 1, none⟩) (Kd.S_far (p := ⟨gb258, 0, none⟩) (Kd.S_types HO253.out BK258.out (by decide)) (fun _ hk => hk.2) (.int .i64 t249)) (fun _ hk => hk.2) (.int .i64 t250)) (fun _ hk => hk.2) (.slice Ao16 t251.length co16)) (fun _ hk => hk.2) (.slice Ao17 t254.length co17)) (fun _ h_ => h_.1))) hb); replace HO256 := Aside0.mk (Kd.S_below (by (with_reducible repeat (first | apply Kd.S_alloc | apply Kd.S_drewN | apply Kd.S_drew)); exact (Kd.S_mono (Kd.S_far (p := ⟨gb258, 3, none⟩) (Kd.S_far (p := ⟨gb258, 2, none⟩) (Kd.S_far (p := ⟨gb258, 1, none⟩) (Kd.S_far (p := ⟨gb258, 0, none⟩) (Kd.S_types HO256.out BK258.out (by decide)) (fun _ hk => hk.2) (.int .i64 t249)) (fun _ hk => hk.2) (.int .i64 t250)) (fun _ hk => hk.2) (.slice Ao16 t251.length co16)) (fun _ hk => hk.2) (.slice Ao17 t254.length co17)) (fun _ h_ => h_.1))) hb); replace BK248 := kB (g := gb248) hb; replace BK258 := Aside0.mk (blk_below (g := gb258) (o := .cells #[.int .i64 t249, .int .i64 t250, .slice Ao16 t251.length co16, .slice Ao17 t254.length co17] 58 (0, 0)) kS hb); replace HB := hB hb; (try clear hb); (try clear hb2); (try clear hk); (try clear hi); have hz20 := cz4 BK248) | (go_at_call 63; (with_reducible refine (impl_BandCells.calls k a0_0 a0_1 _ _ l0_2 _ _ l0_3 t261 _ ?side1 ?side2 ?side3 ?side4 A9.out).mono ?_); (case side1 => exact cS (Kd.C_below HR0_2.out HB.out)); (case side2 => exact HC0_2.out); (case side3 => exact cS (Kd.C_below HR0_3.out HB.out)); (case side4 => exact HC0_3.out); rintro e w21 ⟨rfl, hb⟩; replace HO253 := Aside0.mk (Kd.S_below (by (with_reducible repeat (first | apply Kd.S_alloc | apply Kd.S_drewN | apply Kd.S_drew)); exact HO253.out) hb); replace HO256 := Aside0.mk (Kd.S_below (by (with_reducible repeat (first | apply Kd.S_alloc | apply Kd.S_drewN | apply Kd.S_drew)); exact HO256.out) hb); replace BK248 := kB (g := gb248) hb; replace BK258 := kB (g := gb258) hb; replace HB := hB hb; (try clear hb); (try clear hb2); (try clear hk); (try clear hi)))
          go_ret
          exact ⟨eS, bS⟩
        · obtain rfl := Bool.eq_false_iff.mpr c8
          rw [if_neg nF] at H
          obtain rfl := Option.some.inj H
          go_enter Try.func35, Try.ntmps35
          go_wp2_with (first | ((with_reducible refine gD 1 ?_); refine bxE #[.int .i64 a0_0, .int .i64 a0_1, .slice A0_2 l0_2.length c0_2, .slice A0_3 l0_3.length c0_3] 58 ?_; intro gb248 hg w22 BK248 hb; have GW248 := gE hg; have GE248 := gE hg; replace HB := hB hb; clear hb hg; have hz23 := cz4 BK248) | ((with_reducible refine gC 68 ?_); refine cL (some 10) Try.func68 #[.int .i64 a0_0, .int .i64 a0_1] ?_; (with_reducible refine (impl_NewBand.calls k a0_0 a0_1 t249 t250 t251 t254 _ _ A2.out).mono ?_); rintro e w24 ⟨v252, v255, rfl, ho0, ho1, hb⟩; refine ⟨_, rfl, ?_⟩; have HO253 := Aside0.mk (Kd.S_lower ho0 (below_size bS)); have HO256 := Aside0.mk (Kd.S_lower ho1 (below_size bS)); replace BK248 := kB (g := gb248) hb; replace HB := hB hb; (try clear hb); (try clear hb2); (try clear hk); (try clear hi); (try clear ho0); (try clear ho1)) | ((with_reducible refine gD 3 ?_); refine bxE #[.int .i64 0, .int .i64 0, .slice none 0 0, .slice none 0 0] 58 ?_; intro gb258 hg w25 BK258 hb; have GW258 := gE hg; have GE258 := gE hg; have NB248_258 := nL (g := gb248) hg; have NB258_248 := nG (g := gb248) hg; replace HO253 := Aside0.mk (Kd.S_below (by (with_reducible repeat (first | apply Kd.S_alloc | apply Kd.S_drewN | apply Kd.S_drew)); exact HO253.out) hb); replace HO256 := Aside0.mk (Kd.S_below (by (with_reducible repeat (first | apply Kd.S_alloc | apply Kd.S_drewN | apply Kd.S_drew)); exact HO256.out) hb); replace BK248 := kB (g := gb248) hb; replace HB := hB hb; clear hb hg; have hnb26 := NB258_248.out; have hnc26 := NB248_258.out; have hz27 := cz4 BK258; obtain ⟨Ao28, co28, eo28⟩ := Kd.S_slice HO253.out; subst eo28; obtain ⟨Ao29, co29, eo29⟩ := Kd.S_slice HO256.out; subst eo29; have hz30 := cz4 BK248) | (go_at_call 99; (with_reducible refine (impl_RowsOk.calls k _ _ l0_2 _ _ ?side1 ?side2 A5.out).mono ?_); (case side1 => exact Kd.C_below HR0_2.out bS); (case side2 => exact HC0_2.out); rintro e w' ⟨rfl, ⟨nd, rfl⟩⟩) | (go_at_call 73; (with_reducible refine (impl_objectsOk.calls k _ _ l0_3 _ _ ?side1 ?side2 A7.out).mono ?_); (case side1 => exact Kd.C_below HR0_3.out bS); (case side2 => exact HC0_3.out); rintro e w31 ⟨rfl, hb⟩; replace HO253 := Aside0.mk (Kd.S_below (by (with_reducible repeat (first | apply Kd.S_alloc | apply Kd.S_drewN | apply Kd.S_drew)); exact (Kd.S_mono (Kd.S_far (p := ⟨gb258, 3, none⟩) (Kd.S_far (p := ⟨gb258, 2, none⟩) (Kd.S_far (p := ⟨gb258, 1, none⟩) (Kd.S_far (p := ⟨gb258, 0, none⟩) (Kd.S_types HO253.out BK258.out (by decide)) (fun _ hk => hk.2) (.int .i64 t249)) (fun _ hk => hk.2) (.int .i64 t250)) (fun _ hk => hk.2) (.slice Ao28 t251.length co28)) (fun _ hk => hk.2) (.slice Ao29 t254.length co29)) (fun _ h_ => h_.1))) hb); replace HO256 := Aside0.mk (Kd.S_below (by (with_reducible repeat (first | apply Kd.S_alloc | apply Kd.S_drewN | apply Kd.S_drew)); exact (Kd.S_mono (Kd.S_far (p := ⟨gb258, 3, none⟩) (Kd.S_far (p := ⟨gb258, 2, none⟩) (Kd.S_far (p := ⟨gb258, 1, none⟩) (Kd.S_far (p := ⟨gb258, 0, none⟩) (Kd.S_types HO256.out BK258.out (by decide)) (fun _ hk => hk.2) (.int .i64 t249)) (fun _ hk => hk.2) (.int .i64 t250)) (fun _ hk => hk.2) (.slice Ao28 t251.length co28)) (fun _ hk => hk.2) (.slice Ao29 t254.length co29)) (fun _ h_ => h_.1))) hb); replace BK248 := kB (g := gb248) hb; replace BK258 := Aside0.mk (blk_below (g := gb258) (o := .cells #[.int .i64 t249, .int .i64 t250, .slice Ao28 t251.length co28, .slice Ao29 t254.length co29] 58 (0, 0)) kS hb); replace HB := hB hb; (try clear hb); (try clear hb2); (try clear hk); (try clear hi)))
          go_ret
          exact ⟨eS, bS⟩
      · obtain rfl := Bool.eq_false_iff.mpr c6
        rw [if_neg nF] at H
        obtain rfl := Option.some.inj H
        go_enter Try.func35, Try.ntmps35
        go_wp2_with (first | ((with_reducible refine gD 1 ?_); refine bxE #[.int .i64 a0_0, .int .i64 a0_1, .slice A0_2 l0_2.length c0_2, .slice A0_3 l0_3.length c0_3] 58 ?_; intro gb248 hg w32 BK248 hb; have GW248 := gE hg; have GE248 := gE hg; replace HB := hB hb; clear hb hg; have hz33 := cz4 BK248) | ((with_reducible refine gC 68 ?_); refine cL (some 10) Try.func68 #[.int .i64 a0_0, .int .i64 a0_1] ?_; (with_reducible refine (impl_NewBand.calls k a0_0 a0_1 t249 t250 t251 t254 _ _ A2.out).mono ?_); rintro e w34 ⟨v252, v255, rfl, ho0, ho1, hb⟩; refine ⟨_, rfl, ?_⟩; have HO253 := Aside0.mk (Kd.S_lower ho0 (below_size bS)); have HO256 := Aside0.mk (Kd.S_lower ho1 (below_size bS)); replace BK248 := kB (g := gb248) hb; replace HB := hB hb; (try clear hb); (try clear hb2); (try clear hk); (try clear hi); (try clear ho0); (try clear ho1)) | ((with_reducible refine gD 3 ?_); refine bxE #[.int .i64 0, .int .i64 0, .slice none 0 0, .slice none 0 0] 58 ?_; intro gb258 hg w35 BK258 hb; have GW258 := gE hg; have GE258 := gE hg; have NB248_258 := nL (g := gb248) hg; have NB258_248 := nG (g := gb248) hg; replace HO253 := Aside0.mk (Kd.S_below (by (with_reducible repeat (first | apply Kd.S_alloc | apply Kd.S_drewN | apply Kd.S_drew)); exact HO253.out) hb); replace HO256 := Aside0.mk (Kd.S_below (by (with_reducible repeat (first | apply Kd.S_alloc | apply Kd.S_drewN | apply Kd.S_drew)); exact HO256.out) hb); replace BK248 := kB (g := gb248) hb; replace HB := hB hb; clear hb hg; have hnb36 := NB258_248.out; have hnc36 := NB248_258.out; have hz37 := cz4 BK258; obtain ⟨Ao38, co38, eo38⟩ := Kd.S_slice HO253.out; subst eo38; obtain ⟨Ao39, co39, eo39⟩ := Kd.S_slice HO256.out; subst eo39; have hz40 := cz4 BK248) | (go_at_call 99; (with_reducible refine (impl_RowsOk.calls k _ _ l0_2 _ _ ?side1 ?side2 A5.out).mono ?_); (case side1 => exact Kd.C_below HR0_2.out bS); (case side2 => exact HC0_2.out); rintro e w' ⟨rfl, ⟨nd, rfl⟩⟩))
        go_ret
        exact ⟨eS, bS⟩
    · rw [if_neg c4] at H
      have c4b0 : ((l0_2.length : Int) == a0_0) = false := beq_eq_false_iff_ne.mpr c4
      have c4b1 : ((l0_2.length : Int) != a0_0) = true := bne_iff_ne.mpr c4
      obtain rfl := Option.some.inj H
      go_enter Try.func35, Try.ntmps35
      go_wp2_with (first | ((with_reducible refine gD 1 ?_); refine bxE #[.int .i64 a0_0, .int .i64 a0_1, .slice A0_2 l0_2.length c0_2, .slice A0_3 l0_3.length c0_3] 58 ?_; intro gb248 hg w41 BK248 hb; have GW248 := gE hg; have GE248 := gE hg; replace HB := hB hb; clear hb hg; have hz42 := cz4 BK248) | ((with_reducible refine gC 68 ?_); refine cL (some 10) Try.func68 #[.int .i64 a0_0, .int .i64 a0_1] ?_; (with_reducible refine (impl_NewBand.calls k a0_0 a0_1 t249 t250 t251 t254 _ _ A2.out).mono ?_); rintro e w43 ⟨v252, v255, rfl, ho0, ho1, hb⟩; refine ⟨_, rfl, ?_⟩; have HO253 := Aside0.mk (Kd.S_lower ho0 (below_size bS)); have HO256 := Aside0.mk (Kd.S_lower ho1 (below_size bS)); replace BK248 := kB (g := gb248) hb; replace HB := hB hb; (try clear hb); (try clear hb2); (try clear hk); (try clear hi); (try clear ho0); (try clear ho1)) | ((with_reducible refine gD 3 ?_); refine bxE #[.int .i64 0, .int .i64 0, .slice none 0 0, .slice none 0 0] 58 ?_; intro gb258 hg w44 BK258 hb; have GW258 := gE hg; have GE258 := gE hg; have NB248_258 := nL (g := gb248) hg; have NB258_248 := nG (g := gb248) hg; replace HO253 := Aside0.mk (Kd.S_below (by (with_reducible repeat (first | apply Kd.S_alloc | apply Kd.S_drewN | apply Kd.S_drew)); exact HO253.out) hb); replace HO256 := Aside0.mk (Kd.S_below (by (with_reducible repeat (first | apply Kd.S_alloc | apply Kd.S_drewN | apply Kd.S_drew)); exact HO256.out) hb); replace BK248 := kB (g := gb248) hb; replace HB := hB hb; clear hb hg; have hnb45 := NB258_248.out; have hnc45 := NB248_258.out; have hz46 := cz4 BK258; obtain ⟨Ao47, co47, eo47⟩ := Kd.S_slice HO253.out; subst eo47; obtain ⟨Ao48, co48, eo48⟩ := Kd.S_slice HO256.out; subst eo48; have hz49 := cz4 BK248))
      go_ret
      exact ⟨eS, bS⟩
  · obtain rfl := Bool.eq_false_iff.mpr c3
    rw [if_neg nF] at H
    obtain rfl := Option.some.inj H
    go_enter Try.func35, Try.ntmps35
    go_wp2_with (first | ((with_reducible refine gD 1 ?_); refine bxE #[.int .i64 a0_0, .int .i64 a0_1, .slice A0_2 l0_2.length c0_2, .slice A0_3 l0_3.length c0_3] 58 ?_; intro gb248 hg w50 BK248 hb; have GW248 := gE hg; have GE248 := gE hg; replace HB := hB hb; clear hb hg; have hz51 := cz4 BK248) | ((with_reducible refine gC 68 ?_); refine cL (some 10) Try.func68 #[.int .i64 a0_0, .int .i64 a0_1] ?_; (with_reducible refine (impl_NewBand.calls k a0_0 a0_1 t249 t250 t251 t254 _ _ A2.out).mono ?_); rintro e w52 ⟨v252, v255, rfl, ho0, ho1, hb⟩; refine ⟨_, rfl, ?_⟩; have HO253 := Aside0.mk (Kd.S_lower ho0 (below_size bS)); have HO256 := Aside0.mk (Kd.S_lower ho1 (below_size bS)); replace BK248 := kB (g := gb248) hb; replace HB := hB hb; (try clear hb); (try clear hb2); (try clear hk); (try clear hi); (try clear ho0); (try clear ho1)) | ((with_reducible refine gD 3 ?_); refine bxE #[.int .i64 0, .int .i64 0, .slice none 0 0, .slice none 0 0] 58 ?_; intro gb258 hg w53 BK258 hb; have GW258 := gE hg; have GE258 := gE hg; have NB248_258 := nL (g := gb248) hg; have NB258_248 := nG (g := gb248) hg; replace HO253 := Aside0.mk (Kd.S_below (by (with_reducible repeat (first | apply Kd.S_alloc | apply Kd.S_drewN | apply Kd.S_drew)); exact HO253.out) hb); replace HO256 := Aside0.mk (Kd.S_below (by (with_reducible repeat (first | apply Kd.S_alloc | apply Kd.S_drewN | apply Kd.S_drew)); exact HO256.out) hb); replace BK248 := kB (g := gb248) hb; replace HB := hB hb; clear hb hg; have hnb54 := NB258_248.out; have hnc54 := NB248_258.out; have hz55 := cz4 BK258; obtain ⟨Ao56, co56, eo56⟩ := Kd.S_slice HO253.out; subst eo56; obtain ⟨Ao57, co57, eo57⟩ := Kd.S_slice HO256.out; subst eo57))
    go_ret
    exact ⟨eS, bS⟩

/-! ### laws_eqPoint: function 159 -/
def laws_eqPoint.f (a0_0 : Int) (a0_1 : Int) (a1_0 : Int) (a1_1 : Int) : Option (Bool) := if a0_0 = a1_0 then (if a0_1 = a1_1 then (some true) else (some false)) else (some false)
theorem laws_eqPoint.calls (a0_0 : Int) (a0_1 : Int) (a1_0 : Int) (a1_1 : Int) (r : Bool) (w : World) (h : laws_eqPoint.f a0_0 a0_1 a1_0 a1_1 = some r) :
    Calls Try.prog 159 #[.agg #[.int .i64 a0_0, .int .i64 a0_1], .agg #[.int .i64 a1_0, .int .i64 a1_1]] w fun e w' => e = .returned (.bool r) ∧ Below w.heap.size w w' := by
  have hu171 := Try.underlying171
  have HB := Aside0.mk (Below.refl w.heap.size w)
  have H : (if a0_0 = a1_0 then (if a0_1 = a1_1 then (some true) else (some false)) else (some false)) = some r := h
  clear h
  by_cases c3 : a0_0 = a1_0
  · rw [if_pos c3] at H
    have c3b0 : (a0_0 == a1_0) = true := beq_iff_eq.mpr c3
    have c3b1 : (a0_0 != a1_0) = false := bne_eq_false_iff_eq.mpr c3
    clear c3
    by_cases c4 : a0_1 = a1_1
    · rw [if_pos c4] at H
      have c4b0 : (a0_1 == a1_1) = true := beq_iff_eq.mpr c4
      have c4b1 : (a0_1 != a1_1) = false := bne_eq_false_iff_eq.mpr c4
      clear c4
      obtain rfl := Option.some.inj H
      go_enter Try.func159, Try.ntmps159
      go_wp2_with (first | ((with_reducible refine gD 2 ?_); refine bxE #[.int .i64 a0_0, .int .i64 a0_1] 171 ?_; intro gb262 hg w5 BK262 hb; have GW262 := gE hg; have GE262 := gE hg; replace HB := hB hb; clear hb hg) | ((with_reducible refine gD 3 ?_); refine bxE #[.int .i64 a1_0, .int .i64 a1_1] 171 ?_; intro gb263 hg w6 BK263 hb; have GW263 := gE hg; have GE263 := gE hg; have NB262_263 := nL (g := gb262) hg; have NB263_262 := nG (g := gb262) hg; replace BK262 := kB (g := gb262) hb; replace HB := hB hb; clear hb hg; have hnb7 := NB262_263.out; have hnc7 := NB263_262.out; have hz8 := cz2 BK262; have hz9 := cz2 BK263))
      go_ret
      exact ⟨eS, bS⟩
    · rw [if_neg c4] at H
      have c4b0 : (a0_1 == a1_1) = false := beq_eq_false_iff_ne.mpr c4
      have c4b1 : (a0_1 != a1_1) = true := bne_iff_ne.mpr c4
      obtain rfl := Option.some.inj H
      go_enter Try.func159, Try.ntmps159
      go_wp2_with (first | ((with_reducible refine gD 2 ?_); refine bxE #[.int .i64 a0_0, .int .i64 a0_1] 171 ?_; intro gb262 hg w10 BK262 hb; have GW262 := gE hg; have GE262 := gE hg; replace HB := hB hb; clear hb hg) | ((with_reducible refine gD 3 ?_); refine bxE #[.int .i64 a1_0, .int .i64 a1_1] 171 ?_; intro gb263 hg w11 BK263 hb; have GW263 := gE hg; have GE263 := gE hg; have NB262_263 := nL (g := gb262) hg; have NB263_262 := nG (g := gb262) hg; replace BK262 := kB (g := gb262) hb; replace HB := hB hb; clear hb hg; have hnb12 := NB262_263.out; have hnc12 := NB263_262.out; have hz13 := cz2 BK262; have hz14 := cz2 BK263))
      go_ret
      exact ⟨eS, bS⟩
  · rw [if_neg c3] at H
    have c3b0 : (a0_0 == a1_0) = false := beq_eq_false_iff_ne.mpr c3
    have c3b1 : (a0_0 != a1_0) = true := bne_iff_ne.mpr c3
    obtain rfl := Option.some.inj H
    go_enter Try.func159, Try.ntmps159
    go_wp2_with (first | ((with_reducible refine gD 2 ?_); refine bxE #[.int .i64 a0_0, .int .i64 a0_1] 171 ?_; intro gb262 hg w15 BK262 hb; have GW262 := gE hg; have GE262 := gE hg; replace HB := hB hb; clear hb hg) | ((with_reducible refine gD 3 ?_); refine bxE #[.int .i64 a1_0, .int .i64 a1_1] 171 ?_; intro gb263 hg w16 BK263 hb; have GW263 := gE hg; have GE263 := gE hg; have NB262_263 := nL (g := gb262) hg; have NB263_262 := nG (g := gb262) hg; replace BK262 := kB (g := gb262) hb; replace HB := hB hb; clear hb hg; have hnb17 := NB262_263.out; have hnc17 := NB263_262.out; have hz18 := cz2 BK262; have hz19 := cz2 BK263))
    go_ret
    exact ⟨eS, bS⟩

end Go.Proofs.Ytigodjcnkgebaaa.QFnExactBandOk
