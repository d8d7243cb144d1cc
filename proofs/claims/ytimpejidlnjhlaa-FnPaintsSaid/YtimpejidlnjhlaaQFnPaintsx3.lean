-- Made out of the translation by a program of this session (a changed copy of the print). Not trusted: Lean checks it.
import Derived.Test.YtimpejidlnjhlaaQFnPaintsx0
import Derived.Test.YtimpejidlnjhlaaQFnPaintsx2
namespace Go.Proofs.Ytimpejidlnjhlaa.QFnPaints
open Go.RowKit Go.Proofs.YtimpejidlnjhlaaW.PrintWords Go.Proofs.YtimpejidlnjhlaaW.PrintLast Go.Proofs.YtimpejidlnjhlaaW.PrintMore
attribute [local go_sem] max2_int min2_int max_two min_two max_three min_three max_four min_four   -- for this text's walks alone
set_option linter.unusedVariables false
set_option linter.unusedSimpArgs false
set_option maxHeartbeats 8000000
set_option maxRecDepth 100000

/-! ### impl_pointsOk: function 156 -/
def impl_pointsOk.l0 : Nat → List (S166) → Int → Int → Option (Bool)
  | 0, _, _, _ => none
  | k + 1, x5, x6, x7 => if x7 < x6 then (if 0 ≤ x7 then (if x7 < (x5.length : Int) then ((impl_PointOk.f ((rd_T166 x5 x7).f0) ((rd_T166 x5 x7).f1)).bind fun t318 => (if t318 = true then (impl_pointsOk.l0 k x5 x6 (wrap64 (x7 + 1))) else (some false))) else (none)) else (none)) else (some true)
def impl_pointsOk.f (k : Nat) (l0 : List (S166)) : Option (Bool) := impl_pointsOk.l0 k l0 (l0.length : Int) 0
theorem impl_pointsOk.calls (k : Nat) (A0 : Option Addr) (c0 : Nat) (l0 : List (S166)) (r : Bool) (w : World) (hr0 : Kd.C k166 w A0 l0.length l0) (hc0 : l0.length ≤ c0) (h : impl_pointsOk.f k l0 = some r) :
    Calls Try.prog 156 #[.slice A0 l0.length c0] w fun e w' => e = .returned (.bool r) ∧ Below w.heap.size w w' := by
  have hu166 := Try.underlying166
  have HR0 := Aside0.mk hr0
  have HC0 := Aside0.mk hc0
  clear hr0 hc0
  have HB := Aside0.mk (Below.refl w.heap.size w)
  have H : (impl_pointsOk.l0 k l0 (l0.length : Int) 0) = some r := h
  clear h
  have H' := Aside0.mk H
  clear H
  go_enter Try.func156, Try.ntmps156
  go_wp2
  go_loopg [7] k (fun kq v7 w' => ∃ (x7_1 : Int), v7 = .int .i64 x7_1 ∧ Aside0 (impl_pointsOk.l0 kq l0 (l0.length : Int) x7_1 = some r) ∧ Aside0 (kq ≤ k) ∧ Aside0 (Below w.heap.size w w'))
  case atStart => exact ⟨(0), (by first | rfl | (simp; done) | (simp [*]; done)), H', ⟨Nat.le_refl _⟩, ⟨bS⟩⟩
  case round =>
    clear H'
    try clear c1
    obtain ⟨x7_1, rfl, HA, HK1, HB⟩ := hrel
    cases gk with
    | zero => exact absurd HA.out (by simp [impl_pointsOk.l0])
    | succ k1 =>
      have H := HA.out
      clear HA
      simp only [impl_pointsOk.l0] at H
      by_cases c2 : x7_1 < (l0.length : Int)
      · rw [if_pos c2] at H
        have c2b0 : decide (x7_1 < (l0.length : Int)) = true := decide_eq_true c2
        clear c2
        by_cases c3 : 0 ≤ x7_1
        · rw [if_pos c3] at H
          have c3b0 : decide (0 ≤ x7_1) = true := decide_eq_true c3
          clear c3
          by_cases c4 : x7_1 < (l0.length : Int)
          · rw [if_pos c4] at H
            have c4b0 : decide (x7_1 < (l0.length : Int)) = true := decide_eq_true c4
            clear c4
            replace H := bN H
            obtain ⟨t318, A5, H⟩ := H
            by_cases c6 : t318 = true
            · subst c6
              rw [if_pos rfl] at H
              have H' := Aside0.mk H
              clear H
              have p316 : 0 ≤ (x7_1 : Int) := of_decide_eq_true (by first | (with_reducible assumption) | assumption)
              have q316 : x7_1 < (l0.length : Int) := of_decide_eq_true (by first | (with_reducible assumption) | assumption)
              obtain ⟨ad316, e316, hx316_0, hx316_1⟩ := at_T166 HR0.out x7_1 p316 q316
              cases e316
              replace hx316_0 := (HB.out.cell (World.block_lt_of_cell? w _ hx316_0)).trans hx316_0
              replace hx316_1 := (HB.out.cell (World.block_lt_of_cell? w _ hx316_1)).trans hx316_1
              replace p316 := eq_true p316
              replace q316 := eq_true q316
              go_wp2_with (first | ((with_reducible refine gD 4 ?_); refine bxE #[.int .i64 0, .int .i64 0] 166 ?_; intro gb317 hg w7 BK317 hb; have GW317 := gE hg; have GE317 := gE hg; replace HB := hB hb; clear hb hg; have hz8 := cz2 BK317) | ((with_reducible refine gC 180 ?_); refine cL (some 12) Try.func180 #[.agg #[.int .i64 ((rd_T166 l0 x7_1).f0), .int .i64 ((rd_T166 l0 x7_1).f1)]] ?_; (with_reducible refine (impl_PointOk.calls ((rd_T166 l0 x7_1).f0) ((rd_T166 l0 x7_1).f1) _ _ A5.out).mono ?_); rintro e w9 ⟨rfl, hb⟩; refine ⟨_, rfl, ?_⟩; replace BK317 := Aside0.mk (blk_below (g := gb317) (o := .cells #[.int .i64 ((rd_T166 l0 x7_1).f0), .int .i64 ((rd_T166 l0 x7_1).f1)] 166 (0, 0)) kS hb); replace HB := hB hb; (try clear hb); (try clear hb2); (try clear hk); (try clear hi)))
              go_roundg k1
              case measure => have := HK1.out; omega
              case rel => exact ⟨(wrap64 (x7_1 + 1)), (by first | rfl | (simp; done) | (simp [*]; done)), H', ⟨by have := HK1.out; omega⟩, ⟨bS⟩⟩
            · obtain rfl := Bool.eq_false_iff.mpr c6
              rw [if_neg nF] at H
              obtain rfl := Option.some.inj H
              have p316 : 0 ≤ (x7_1 : Int) := of_decide_eq_true (by first | (with_reducible assumption) | assumption)
              have q316 : x7_1 < (l0.length : Int) := of_decide_eq_true (by first | (with_reducible assumption) | assumption)
              obtain ⟨ad316, e316, hx316_0, hx316_1⟩ := at_T166 HR0.out x7_1 p316 q316
              cases e316
              replace hx316_0 := (HB.out.cell (World.block_lt_of_cell? w _ hx316_0)).trans hx316_0
              replace hx316_1 := (HB.out.cell (World.block_lt_of_cell? w _ hx316_1)).trans hx316_1
              replace p316 := eq_true p316
              replace q316 := eq_true q316
              go_wp2_with (first | ((with_reducible refine gD 4 ?_); refine bxE #[.int .i64 0, .int .i64 0] 166 ?_; intro gb317 hg w10 BK317 hb; have GW317 := gE hg; have GE317 := gE hg; replace HB := hB hb; clear hb hg; have hz11 := cz2 BK317) | ((with_reducible refine gC 180 ?_); refine cL (some 12) Try.func180 #[.agg #[.int .i64 ((rd_T166 l0 x7_1).f0), .int .i64 ((rd_T166 l0 x7_1).f1)]] ?_; (with_reducible refine (impl_PointOk.calls ((rd_T166 l0 x7_1).f0) ((rd_T166 l0 x7_1).f1) _ _ A5.out).mono ?_); rintro e w12 ⟨rfl, hb⟩; refine ⟨_, rfl, ?_⟩; replace BK317 := Aside0.mk (blk_below (g := gb317) (o := .cells #[.int .i64 ((rd_T166 l0 x7_1).f0), .int .i64 ((rd_T166 l0 x7_1).f1)] 166 (0, 0)) kS hb); replace HB := hB hb; (try clear hb); (try clear hb2); (try clear hk); (try clear hi)))
              go_ret
              exact ⟨eS, bS⟩
          · rw [if_neg c4] at H
            exact absurd H (by simp)
        · rw [if_neg c3] at H
          exact absurd H (by simp)
      · rw [if_neg c2] at H
        have c2b0 : decide (x7_1 < (l0.length : Int)) = false := decide_eq_false c2
        clear c2
        obtain rfl := Option.some.inj H
        go_wp2
        go_ret
        exact ⟨eS, bS⟩

/-! ### impl_ObjectOk: function 107 -/
def impl_ObjectOk.f (k : Nat) (l0_0 : List (S166)) (a0_1 : Int) (a0_2 : Int) (a0_3 : Int) (a0_4 : Int) (a0_5 : Int) : Option (Bool) := (impl_within.f (l0_0.length : Int) 3 8).bind fun t320 => (if t320 = true then ((impl_pointsOk.f k l0_0).bind fun t321 => (if t321 = true then ((impl_within.f a0_1 0 255).bind fun t322 => (if t322 = true then ((impl_BoxOk.f a0_2 a0_3 a0_4 a0_5).bind fun t323 => (some t323)) else (some false))) else (some false))) else (some false))
theorem impl_ObjectOk.calls (k : Nat) (A0_0 : Option Addr) (c0_0 : Nat) (l0_0 : List (S166)) (a0_1 : Int) (a0_2 : Int) (a0_3 : Int) (a0_4 : Int) (a0_5 : Int) (r : Bool) (w : World) (hr0_0 : Kd.C k166 w A0_0 l0_0.length l0_0) (hc0_0 : l0_0.length ≤ c0_0) (h : impl_ObjectOk.f k l0_0 a0_1 a0_2 a0_3 a0_4 a0_5 = some r) :
    Calls Try.prog 107 #[.agg #[.slice A0_0 l0_0.length c0_0, .int .i64 a0_1, .int .i64 a0_2, .int .i64 a0_3, .int .i64 a0_4, .int .i64 a0_5]] w fun e w' => e = .returned (.bool r) ∧ Below w.heap.size w w' := by
  have hu41 := Try.underlying41
  have hu39 := Try.underlying39
  have HR0_0 := Aside0.mk hr0_0
  have HC0_0 := Aside0.mk hc0_0
  clear hr0_0 hc0_0
  have HB := Aside0.mk (Below.refl w.heap.size w)
  have H : ((impl_within.f (l0_0.length : Int) 3 8).bind fun t320 => (if t320 = true then ((impl_pointsOk.f k l0_0).bind fun t321 => (if t321 = true then ((impl_within.f a0_1 0 255).bind fun t322 => (if t322 = true then ((impl_BoxOk.f a0_2 a0_3 a0_4 a0_5).bind fun t323 => (some t323)) else (some false))) else (some false))) else (some false))) = some r := h
  clear h
  replace H := bN H
  obtain ⟨t320, A2, H⟩ := H
  by_cases c3 : t320 = true
  · subst c3
    rw [if_pos rfl] at H
    replace H := bN H
    obtain ⟨t321, A4, H⟩ := H
    by_cases c5 : t321 = true
    · subst c5
      rw [if_pos rfl] at H
      replace H := bN H
      obtain ⟨t322, A6, H⟩ := H
      by_cases c7 : t322 = true
      · subst c7
        rw [if_pos rfl] at H
        replace H := bN H
        obtain ⟨t323, A8, H⟩ := H
        obtain rfl := Option.some.inj H
        go_enter Try.func107, Try.ntmps107
        go_wp2_with (first | ((with_reducible refine gD 1 ?_); refine bxE #[.slice A0_0 l0_0.length c0_0, .int .i64 a0_1, .int .i64 a0_2, .int .i64 a0_3, .int .i64 a0_4, .int .i64 a0_5] 41 ?_; intro gb319 hg w9 BK319 hb; have GW319 := gE hg; have GE319 := gE hg; replace HB := hB hb; clear hb hg; have hz10 := cz6 BK319) | ((with_reducible refine gC 101 ?_); refine cL (some 6) Try.func101 #[.int .i64 (l0_0.length : Int), .int .i64 3, .int .i64 8] ?_; (with_reducible refine (impl_within.calls (l0_0.length : Int) 3 8 _ _ A2.out).mono ?_); rintro e w' ⟨rfl, ⟨nd, rfl⟩⟩; refine ⟨_, rfl, ?_⟩) | (go_at_call 156; (with_reducible refine (impl_pointsOk.calls k _ _ l0_0 _ _ ?side1 ?side2 A4.out).mono ?_); (case side1 => exact cS (Kd.C_below HR0_0.out bS)); (case side2 => exact HC0_0.out); rintro e w11 ⟨rfl, hb⟩; replace BK319 := kB (g := gb319) hb; replace HB := hB hb; (try clear hb); (try clear hb2); (try clear hk); (try clear hi); have hz12 := cz6 BK319) | (go_at_call 101; (with_reducible refine (impl_within.calls a0_1 0 255 _ _ A6.out).mono ?_); rintro e w' ⟨rfl, ⟨nd, rfl⟩⟩) | (go_at_call 153; (with_reducible refine (impl_BoxOk.calls a0_2 a0_3 a0_4 a0_5 t323 _ A8.out).mono ?_); rintro e w13 ⟨rfl, hb⟩; replace BK319 := kB (g := gb319) hb; replace HB := hB hb; (try clear hb); (try clear hb2); (try clear hk); (try clear hi)))
        go_ret
        exact ⟨eS, bS⟩
      · obtain rfl := Bool.eq_false_iff.mpr c7
        rw [if_neg nF] at H
        obtain rfl := Option.some.inj H
        go_enter Try.func107, Try.ntmps107
        go_wp2_with (first | ((with_reducible refine gD 1 ?_); refine bxE #[.slice A0_0 l0_0.length c0_0, .int .i64 a0_1, .int .i64 a0_2, .int .i64 a0_3, .int .i64 a0_4, .int .i64 a0_5] 41 ?_; intro gb319 hg w14 BK319 hb; have GW319 := gE hg; have GE319 := gE hg; replace HB := hB hb; clear hb hg; have hz15 := cz6 BK319) | ((with_reducible refine gC 101 ?_); refine cL (some 6) Try.func101 #[.int .i64 (l0_0.length : Int), .int .i64 3, .int .i64 8] ?_; (with_reducible refine (impl_within.calls (l0_0.length : Int) 3 8 _ _ A2.out).mono ?_); rintro e w' ⟨rfl, ⟨nd, rfl⟩⟩; refine ⟨_, rfl, ?_⟩) | (go_at_call 156; (with_reducible refine (impl_pointsOk.calls k _ _ l0_0 _ _ ?side1 ?side2 A4.out).mono ?_); (case side1 => exact cS (Kd.C_below HR0_0.out bS)); (case side2 => exact HC0_0.out); rintro e w16 ⟨rfl, hb⟩; replace BK319 := kB (g := gb319) hb; replace HB := hB hb; (try clear hb); (try clear hb2); (try clear hk); (try clear hi); have hz17 := cz6 BK319) | (go_at_call 101; (with_reducible refine (impl_within.calls a0_1 0 255 _ _ A6.out).mono ?_); rintro e w' ⟨rfl, ⟨nd, rfl⟩⟩))
        go_ret
        exact ⟨eS, bS⟩
    · obtain rfl := Bool.eq_false_iff.mpr c5
      rw [if_neg nF] at H
      obtain rfl := Option.some.inj H
      go_enter Try.func107, Try.ntmps107
      go_wp2_with (first | ((with_reducible refine gD 1 ?_); refine bxE #[.slice A0_0 l0_0.length c0_0, .int .i64 a0_1, .int .i64 a0_2, .int .i64 a0_3, .int .i64 a0_4, .int .i64 a0_5] 41 ?_; intro gb319 hg w18 BK319 hb; have GW319 := gE hg; have GE319 := gE hg; replace HB := hB hb; clear hb hg; have hz19 := cz6 BK319) | ((with_reducible refine gC 101 ?_); refine cL (some 6) Try.func101 #[.int .i64 (l0_0.length : Int), .int .i64 3, .int .i64 8] ?_; (with_reducible refine (impl_within.calls (l0_0.length : Int) 3 8 _ _ A2.out).mono ?_); rintro e w' ⟨rfl, ⟨nd, rfl⟩⟩; refine ⟨_, rfl, ?_⟩) | (go_at_call 156; (with_reducible refine (impl_pointsOk.calls k _ _ l0_0 _ _ ?side1 ?side2 A4.out).mono ?_); (case side1 => exact cS (Kd.C_below HR0_0.out bS)); (case side2 => exact HC0_0.out); rintro e w20 ⟨rfl, hb⟩; replace BK319 := kB (g := gb319) hb; replace HB := hB hb; (try clear hb); (try clear hb2); (try clear hk); (try clear hi)))
      go_ret
      exact ⟨eS, bS⟩
  · obtain rfl := Bool.eq_false_iff.mpr c3
    rw [if_neg nF] at H
    obtain rfl := Option.some.inj H
    go_enter Try.func107, Try.ntmps107
    go_wp2_with (first | ((with_reducible refine gD 1 ?_); refine bxE #[.slice A0_0 l0_0.length c0_0, .int .i64 a0_1, .int .i64 a0_2, .int .i64 a0_3, .int .i64 a0_4, .int .i64 a0_5] 41 ?_; intro gb319 hg w21 BK319 hb; have GW319 := gE hg; have GE319 := gE hg; replace HB := hB hb; clear hb hg; have hz22 := cz6 BK319) | ((with_reducible refine gC 101 ?_); refine cL (some 6) Try.func101 #[.int .i64 (l0_0.length : Int), .int .i64 3, .int .i64 8] ?_; (with_reducible refine (impl_within.calls (l0_0.length : Int) 3 8 _ _ A2.out).mono ?_); rintro e w' ⟨rfl, ⟨nd, rfl⟩⟩; refine ⟨_, rfl, ?_⟩))
    go_ret
    exact ⟨eS, bS⟩

/-! ### impl_MeetBox: function 150 -/
def impl_MeetBox.j0 : Nat → Bool → Int → Int → Int → Int → Int → Int → Int → Int → Option (Int × Int × Int × Int)
  | 0, _, _, _, _, _, _, _, _, _ => none
  | k + 1, x13, x325000, x325001, x325002, x325003, x326000, x326001, x326002, x326003 => if x13 = true then (some (0, 0, 0, 0)) else (if (mx x325000 x326000) ≥ (mn x325002 x326002) then (some (0, 0, 0, 0)) else (if (mx x325001 x326001) ≥ (mn x325003 x326003) then (some (0, 0, 0, 0)) else (some (mx x325000 x326000, mx x325001 x326001, mn x325002 x326002, mn x325003 x326003))))
def impl_MeetBox.f (k : Nat) (a0_0 : Int) (a0_1 : Int) (a0_2 : Int) (a0_3 : Int) (a1_0 : Int) (a1_1 : Int) (a1_2 : Int) (a1_3 : Int) : Option (Int × Int × Int × Int) := (impl_BoxOk.f a0_0 a0_1 a0_2 a0_3).bind fun t327 => (if t327 = true then ((impl_BoxOk.f a1_0 a1_1 a1_2 a1_3).bind fun t328 => (impl_MeetBox.j0 k (!t328) a0_0 a0_1 a0_2 a0_3 a1_0 a1_1 a1_2 a1_3)) else (impl_MeetBox.j0 k true a0_0 a0_1 a0_2 a0_3 a1_0 a1_1 a1_2 a1_3))
theorem impl_MeetBox.calls (k : Nat) (a0_0 : Int) (a0_1 : Int) (a0_2 : Int) (a0_3 : Int) (a1_0 : Int) (a1_1 : Int) (a1_2 : Int) (a1_3 : Int) (r1 : Int) (r2 : Int) (r3 : Int) (r4 : Int) (w : World) (h : impl_MeetBox.f k a0_0 a0_1 a0_2 a0_3 a1_0 a1_1 a1_2 a1_3 = some (r1, r2, r3, r4)) :
    Calls Try.prog 150 #[.agg #[.int .i64 a0_0, .int .i64 a0_1, .int .i64 a0_2, .int .i64 a0_3], .agg #[.int .i64 a1_0, .int .i64 a1_1, .int .i64 a1_2, .int .i64 a1_3]] w fun e w' => e = .returned (.agg #[.int .i64 r1, .int .i64 r2, .int .i64 r3, .int .i64 r4]) ∧ Below w.heap.size w w' := by
  have hu39 := Try.underlying39
  have HB := Aside0.mk (Below.refl w.heap.size w)
  have H : ((impl_BoxOk.f a0_0 a0_1 a0_2 a0_3).bind fun t327 => (if t327 = true then ((impl_BoxOk.f a1_0 a1_1 a1_2 a1_3).bind fun t328 => (impl_MeetBox.j0 k (!t328) a0_0 a0_1 a0_2 a0_3 a1_0 a1_1 a1_2 a1_3)) else (impl_MeetBox.j0 k true a0_0 a0_1 a0_2 a0_3 a1_0 a1_1 a1_2 a1_3))) = some (r1, r2, r3, r4) := h
  clear h
  have HC3 := Aside0.mk H
  clear H
  go_enter Try.func150, Try.ntmps150
  go_upto_region 1 with (first | ((with_reducible refine gD 2 ?_); refine bxE #[.int .i64 a0_0, .int .i64 a0_1, .int .i64 a0_2, .int .i64 a0_3] 39 ?_; intro gb324 hg w4 BK324 hb; have GW324 := gE hg; have GE324 := gE hg; replace HB := hB hb; clear hb hg) | ((with_reducible refine gD 3 ?_); refine bxE #[.int .i64 a1_0, .int .i64 a1_1, .int .i64 a1_2, .int .i64 a1_3] 39 ?_; intro gb325 hg w5 BK325 hb; have GW325 := gE hg; have GE325 := gE hg; have NB324_325 := nL (g := gb324) hg; have NB325_324 := nG (g := gb324) hg; replace BK324 := kB (g := gb324) hb; replace HB := hB hb; clear hb hg) | ((with_reducible refine gD 4 ?_); refine bxE #[.int .i64 0, .int .i64 0, .int .i64 0, .int .i64 0] 39 ?_; intro gb326 hg w6 BK326 hb; have GW326 := gE hg; have GE326 := gE hg; have NB324_326 := nL (g := gb324) hg; have NB326_324 := nG (g := gb324) hg; have NB325_326 := nL (g := gb325) hg; have NB326_325 := nG (g := gb325) hg; replace BK324 := kB (g := gb324) hb; replace BK325 := kB (g := gb325) hb; replace HB := hB hb; clear hb hg))
  (try simp only [Act.put, List.setIfInBounds_toArray, List.set_cons_zero, List.set_cons_succ])
  go_cut [13] (fun v13 wc => ∃ (kq : Nat) (x13_2 : Bool), v13 = .bool x13_2 ∧ Aside0 (impl_MeetBox.j0 kq x13_2 a0_0 a0_1 a0_2 a0_3 a1_0 a1_1 a1_2 a1_3 = some (r1, r2, r3, r4)) ∧ Aside0 (kq ≤ k) ∧ Aside0 (wc.heap[gb324]? = some (.cells #[.int .i64 a0_0, .int .i64 a0_1, .int .i64 a0_2, .int .i64 a0_3] 39 (0, 0))) ∧ Aside0 (wc.heap[gb325]? = some (.cells #[.int .i64 a1_0, .int .i64 a1_1, .int .i64 a1_2, .int .i64 a1_3] 39 (0, 0))) ∧ Aside0 (wc.heap[gb326]? = some (.cells #[.int .i64 0, .int .i64 0, .int .i64 0, .int .i64 0] 39 (0, 0))) ∧ Aside0 (Below w.heap.size w wc))
  case first =>
    have H := HC3.out
    clear HC3
    replace H := bN H
    obtain ⟨t327, A7, H⟩ := H
    by_cases c8 : t327 = true
    · subst c8
      rw [if_pos rfl] at H
      replace H := bN H
      obtain ⟨t328, A9, H⟩ := H
      have H' := Aside0.mk H
      clear H
      have hnb10 := NB324_325.out
      have hnc10 := NB325_324.out
      have hnb11 := NB324_326.out
      have hnc11 := NB326_324.out
      have hcz12_0 : w6.cell? ⟨gb324, 0, none⟩ = some (.int .i64 a0_0) := (blk_cell BK324.out 0).trans rfl
      have hcz12_1 : w6.cell? ⟨gb324, 1, none⟩ = some (.int .i64 a0_1) := (blk_cell BK324.out 1).trans rfl
      have hcz12_2 : w6.cell? ⟨gb324, 2, none⟩ = some (.int .i64 a0_2) := (blk_cell BK324.out 2).trans rfl
      have hcz12_3 : w6.cell? ⟨gb324, 3, none⟩ = some (.int .i64 a0_3) := (blk_cell BK324.out 3).trans rfl
      have hfz12_0 := blk_frozen BK324.out 0
      have hfz12_1 := blk_frozen BK324.out 1
      have hfz12_2 := blk_frozen BK324.out 2
      have hfz12_3 := blk_frozen BK324.out 3
      go_wp2_with (first | ((with_reducible refine gC 153 ?_); refine cL (some 7) Try.func153 #[.agg #[.int .i64 a0_0, .int .i64 a0_1, .int .i64 a0_2, .int .i64 a0_3]] ?_; (with_reducible refine (impl_BoxOk.calls a0_0 a0_1 a0_2 a0_3 _ _ A7.out).mono ?_); rintro e w13 ⟨rfl, hb⟩; refine ⟨_, rfl, ?_⟩; replace BK324 := kB (g := gb324) hb; replace BK325 := kB (g := gb325) hb; replace BK326 := kB (g := gb326) hb; replace HB := hB hb; (try clear hb); (try clear hb2); (try clear hk); (try clear hi); have hnb14 := NB325_326.out; have hnc14 := NB326_325.out; have hcz15_0 : w13.cell? ⟨gb325, 0, none⟩ = some (.int .i64 a1_0) := (blk_cell BK325.out 0).trans rfl; have hcz15_1 : w13.cell? ⟨gb325, 1, none⟩ = some (.int .i64 a1_1) := (blk_cell BK325.out 1).trans rfl; have hcz15_2 : w13.cell? ⟨gb325, 2, none⟩ = some (.int .i64 a1_2) := (blk_cell BK325.out 2).trans rfl; have hcz15_3 : w13.cell? ⟨gb325, 3, none⟩ = some (.int .i64 a1_3) := (blk_cell BK325.out 3).trans rfl; have hfz15_0 := blk_frozen BK325.out 0; have hfz15_1 := blk_frozen BK325.out 1; have hfz15_2 := blk_frozen BK325.out 2; have hfz15_3 := blk_frozen BK325.out 3) | (go_at_call 153; (with_reducible refine (impl_BoxOk.calls a1_0 a1_1 a1_2 a1_3 t328 _ A9.out).mono ?_); rintro e w16 ⟨rfl, hb⟩; replace BK324 := kB (g := gb324) hb; replace BK325 := kB (g := gb325) hb; replace BK326 := kB (g := gb326) hb; replace HB := hB hb; (try clear hb); (try clear hb2); (try clear hk); (try clear hi)))
      go_meet
      case rel => exact ⟨_, (!t328), (by first | rfl | (simp; done) | (simp [*]; done)), H', ⟨by first | omega | exact Nat.le_refl _⟩, ⟨kS⟩, ⟨kS⟩, ⟨kS⟩, ⟨bS⟩⟩
    · obtain rfl := Bool.eq_false_iff.mpr c8
      rw [if_neg nF] at H
      have H' := Aside0.mk H
      clear H
      have hnb17 := NB324_325.out
      have hnc17 := NB325_324.out
      have hnb18 := NB324_326.out
      have hnc18 := NB326_324.out
      have hcz19_0 : w6.cell? ⟨gb324, 0, none⟩ = some (.int .i64 a0_0) := (blk_cell BK324.out 0).trans rfl
      have hcz19_1 : w6.cell? ⟨gb324, 1, none⟩ = some (.int .i64 a0_1) := (blk_cell BK324.out 1).trans rfl
      have hcz19_2 : w6.cell? ⟨gb324, 2, none⟩ = some (.int .i64 a0_2) := (blk_cell BK324.out 2).trans rfl
      have hcz19_3 : w6.cell? ⟨gb324, 3, none⟩ = some (.int .i64 a0_3) := (blk_cell BK324.out 3).trans rfl
      have hfz19_0 := blk_frozen BK324.out 0
      have hfz19_1 := blk_frozen BK324.out 1
      have hfz19_2 := blk_frozen BK324.out 2
      have hfz19_3 := blk_frozen BK324.out 3
      go_wp2_with (first | ((with_reducible refine gC 153 ?_); refine cL (some 7) Try.func153 #[.agg #[.int .i64 a0_0, .int .i64 a0_1, .int .i64 a0_2, .int .i64 a0_3]] ?_; (with_reducible refine (impl_BoxOk.calls a0_0 a0_1 a0_2 a0_3 _ _ A7.out).mono ?_); rintro e w20 ⟨rfl, hb⟩; refine ⟨_, rfl, ?_⟩; replace BK324 := kB (g := gb324) hb; replace BK325 := kB (g := gb325) hb; replace BK326 := kB (g := gb326) hb; replace HB := hB hb; (try clear hb); (try clear hb2); (try clear hk); (try clear hi)))
      go_meet
      case rel => exact ⟨_, (true), (by first | rfl | (simp; done) | (simp [*]; done)), H', ⟨by first | omega | exact Nat.le_refl _⟩, ⟨kS⟩, ⟨kS⟩, ⟨kS⟩, ⟨bS⟩⟩
  case rest =>
    clear HC3
    try clear c1
    try clear p2
    try clear c8
    try clear c10
    try clear c11
    try clear c14
    try clear c15
    try clear c17
    try clear c18
    try clear hcz12_0
    try clear hcz12_1
    try clear hcz12_2
    try clear hcz12_3
    try clear hcz15_0
    try clear hcz15_1
    try clear hcz15_2
    try clear hcz15_3
    try clear hcz19_0
    try clear hcz19_1
    try clear hcz19_2
    try clear hcz19_3
    try clear hfz12_0
    try clear hfz12_1
    try clear hfz12_2
    try clear hfz12_3
    try clear hfz15_0
    try clear hfz15_1
    try clear hfz15_2
    try clear hfz15_3
    try clear hfz19_0
    try clear hfz19_1
    try clear hfz19_2
    try clear hfz19_3
    obtain ⟨kq, x13_2, rfl, HA, HJ2, BK324, BK325, BK326, HB⟩ := hcut
    cases kq with
    | zero => exact absurd HA.out (by simp [impl_MeetBox.j0])
    | succ kj2 =>
      have H := HA.out
      clear HA
      simp only [impl_MeetBox.j0] at H
      by_cases c21 : x13_2 = true
      · subst c21
        rw [if_pos rfl] at H
        simp only [Option.some.injEq, Prod.mk.injEq] at H
        obtain ⟨rfl, rfl, rfl, rfl⟩ := H
        have hnb22 := NB326_324.out
        have hnc22 := NB324_326.out
        have hnb23 := NB326_325.out
        have hnc23 := NB325_326.out
        have hz24 := cz4 BK326
        go_wp2
        refine bodyPost_ret (results_cell_row rfl _ _ gb326 39 #[.int .i64 0, .int .i64 0, .int .i64 0, .int .i64 0] (0, 0) _ rfl kS Try.underlying39 rfl (by kernel_rfl)) rfl ?_
        exact ⟨eS, bS⟩
      · obtain rfl := Bool.eq_false_iff.mpr c21
        rw [if_neg nF] at H
        obtain ⟨ji25, hji25⟩ : ∃ j_ : Int, (mx a0_0 a1_0) = j_ := ⟨_, rfl⟩
        replace H : (if (ji25) ≥ (mn a0_2 a1_2) then (some (0, 0, 0, 0)) else (if (mx a0_1 a1_1) ≥ (mn a0_3 a1_3) then (some (0, 0, 0, 0)) else (some (ji25, mx a0_1 a1_1, mn a0_2 a1_2, mn a0_3 a1_3)))) = some (r1, r2, r3, r4) := by first | (rw [hji25] at H; exact H) | (simp only [hji25] at H ⊢; exact H)
        have hji25_ : (if a0_0 < a1_0 then a1_0 else a0_0) = ji25 := hji25
        obtain ⟨ji26, hji26⟩ : ∃ j_ : Int, (mx a0_1 a1_1) = j_ := ⟨_, rfl⟩
        replace H : (if (ji25) ≥ (mn a0_2 a1_2) then (some (0, 0, 0, 0)) else (if (ji26) ≥ (mn a0_3 a1_3) then (some (0, 0, 0, 0)) else (some (ji25, ji26, mn a0_2 a1_2, mn a0_3 a1_3)))) = some (r1, r2, r3, r4) := by first | (rw [hji26] at H; exact H) | (simp only [hji26] at H ⊢; exact H)
        have hji26_ : (if a0_1 < a1_1 then a1_1 else a0_1) = ji26 := hji26
        obtain ⟨ji27, hji27⟩ : ∃ j_ : Int, (mn a0_2 a1_2) = j_ := ⟨_, rfl⟩
        replace H : (if (ji25) ≥ (ji27) then (some (0, 0, 0, 0)) else (if (ji26) ≥ (mn a0_3 a1_3) then (some (0, 0, 0, 0)) else (some (ji25, ji26, ji27, mn a0_3 a1_3)))) = some (r1, r2, r3, r4) := by first | (rw [hji27] at H; exact H) | (simp only [hji27] at H ⊢; exact H)
        have hji27_ : (if a1_2 < a0_2 then a1_2 else a0_2) = ji27 := hji27
        obtain ⟨ji28, hji28⟩ : ∃ j_ : Int, (mn a0_3 a1_3) = j_ := ⟨_, rfl⟩
        replace H : (if (ji25) ≥ (ji27) then (some (0, 0, 0, 0)) else (if (ji26) ≥ (ji28) then (some (0, 0, 0, 0)) else (some (ji25, ji26, ji27, ji28)))) = some (r1, r2, r3, r4) := by first | (rw [hji28] at H; exact H) | (simp only [hji28] at H ⊢; exact H)
        have hji28_ : (if a1_3 < a0_3 then a1_3 else a0_3) = ji28 := hji28
        by_cases c29 : (ji25) ≥ (ji27)
        · rw [if_pos c29] at H
          have c29b0 : decide ((ji27) ≤ (ji25)) = true := decide_eq_true c29
          clear c29
          simp only [Option.some.injEq, Prod.mk.injEq] at H
          obtain ⟨rfl, rfl, rfl, rfl⟩ := H
          have hnb30 := NB324_325.out
          have hnc30 := NB325_324.out
          have hnb31 := NB324_326.out
          have hnc31 := NB326_324.out
          have hz32 := cz4 BK324
          have hnb33 := NB325_326.out
          have hnc33 := NB326_325.out
          have hz34 := cz4 BK325
          go_wp2_with (first | ((with_reducible refine gD 5 ?_); refine bxE #[.int .i64 0, .int .i64 0, .int .i64 0, .int .i64 0] 39 ?_; intro gb329 hg w35 BK329 hb; have GW329 := gE hg; have GE329 := gE hg; have NB324_329 := nL (g := gb324) hg; have NB329_324 := nG (g := gb324) hg; have NB325_329 := nL (g := gb325) hg; have NB329_325 := nG (g := gb325) hg; have NB326_329 := nL (g := gb326) hg; have NB329_326 := nG (g := gb326) hg; replace BK324 := kB (g := gb324) hb; replace BK325 := kB (g := gb325) hb; replace BK326 := kB (g := gb326) hb; replace HB := hB hb; clear hb hg; have hnb36 := NB329_324.out; have hnc36 := NB324_329.out; have hnb37 := NB329_325.out; have hnc37 := NB325_329.out; have hnb38 := NB329_326.out; have hnc38 := NB326_329.out; have hz39 := cz4 BK329; have hz40 := cz4 BK326))
          refine bodyPost_ret (results_cell_row rfl _ _ gb326 39 #[.int .i64 0, .int .i64 0, .int .i64 0, .int .i64 0] (0, 0) _ rfl kS Try.underlying39 rfl (by kernel_rfl)) rfl ?_
          exact ⟨by first | rfl | (simp [errW_none, errW_some] <;> rfl) | (simp only [← hji25, ← hji26, ← hji27, ← hji28]; first | rfl | (simp [errW_none, errW_some] <;> rfl)) | (simp [*, errW_none, errW_some] <;> rfl), bS⟩
        · rw [if_neg c29] at H
          have c29b0 : decide ((ji27) ≤ (ji25)) = false := decide_eq_false c29
          clear c29
          by_cases c41 : (ji26) ≥ (ji28)
          · rw [if_pos c41] at H
            have c41b0 : decide ((ji28) ≤ (ji26)) = true := decide_eq_true c41
            clear c41
            simp only [Option.some.injEq, Prod.mk.injEq] at H
            obtain ⟨rfl, rfl, rfl, rfl⟩ := H
            have hnb42 := NB324_325.out
            have hnc42 := NB325_324.out
            have hnb43 := NB324_326.out
            have hnc43 := NB326_324.out
            have hz44 := cz4 BK324
            have hnb45 := NB325_326.out
            have hnc45 := NB326_325.out
            have hz46 := cz4 BK325
            go_wp2_with (first | ((with_reducible refine gD 5 ?_); refine bxE #[.int .i64 0, .int .i64 0, .int .i64 0, .int .i64 0] 39 ?_; intro gb329 hg w47 BK329 hb; have GW329 := gE hg; have GE329 := gE hg; have NB324_329 := nL (g := gb324) hg; have NB329_324 := nG (g := gb324) hg; have NB325_329 := nL (g := gb325) hg; have NB329_325 := nG (g := gb325) hg; have NB326_329 := nL (g := gb326) hg; have NB329_326 := nG (g := gb326) hg; replace BK324 := kB (g := gb324) hb; replace BK325 := kB (g := gb325) hb; replace BK326 := kB (g := gb326) hb; replace HB := hB hb; clear hb hg; have hnb48 := NB329_324.out; have hnc48 := NB324_329.out; have hnb49 := NB329_325.out; have hnc49 := NB325_329.out; have hnb50 := NB329_326.out; have hnc50 := NB326_329.out; have hz51 := cz4 BK329; have hz52 := cz4 BK326))
            refine bodyPost_ret (results_cell_row rfl _ _ gb326 39 #[.int .i64 0, .int .i64 0, .int .i64 0, .int .i64 0] (0, 0) _ rfl kS Try.underlying39 rfl (by kernel_rfl)) rfl ?_
            exact ⟨by first | rfl | (simp [errW_none, errW_some] <;> rfl) | (simp only [← hji25, ← hji26, ← hji27, ← hji28]; first | rfl | (simp [errW_none, errW_some] <;> rfl)) | (simp [*, errW_none, errW_some] <;> rfl), bS⟩
          · rw [if_neg c41] at H
            have c41b0 : decide ((ji28) ≤ (ji26)) = false := decide_eq_false c41
            clear c41
            simp only [Option.some.injEq, Prod.mk.injEq] at H
            obtain ⟨rfl, rfl, rfl, rfl⟩ := H
            have hnb53 := NB324_325.out
            have hnc53 := NB325_324.out
            have hnb54 := NB324_326.out
            have hnc54 := NB326_324.out
            have hz55 := cz4 BK324
            have hnb56 := NB325_326.out
            have hnc56 := NB326_325.out
            have hz57 := cz4 BK325
            go_wp2_with (first | ((with_reducible refine gD 5 ?_); refine bxE #[.int .i64 0, .int .i64 0, .int .i64 0, .int .i64 0] 39 ?_; intro gb329 hg w58 BK329 hb; have GW329 := gE hg; have GE329 := gE hg; have NB324_329 := nL (g := gb324) hg; have NB329_324 := nG (g := gb324) hg; have NB325_329 := nL (g := gb325) hg; have NB329_325 := nG (g := gb325) hg; have NB326_329 := nL (g := gb326) hg; have NB329_326 := nG (g := gb326) hg; replace BK324 := kB (g := gb324) hb; replace BK325 := kB (g := gb325) hb; replace BK326 := kB (g := gb326) hb; replace HB := hB hb; clear hb hg; have hnb59 := NB329_324.out; have hnc59 := NB324_329.out; have hnb60 := NB329_325.out; have hnc60 := NB325_329.out; have hnb61 := NB329_326.out; have hnc61 := NB326_329.out; have hz62 := cz4 BK329; have hz63 := cz4 BK326))
            refine bodyPost_ret (results_cell_row rfl _ _ gb326 39 #[.int .i64 ji25, .int .i64 ji26, .int .i64 ji27, .int .i64 ji28] (0, 0) _ rfl kS Try.underlying39 rfl (by kernel_rfl)) rfl ?_
            exact ⟨by first | rfl | (simp [errW_none, errW_some] <;> rfl) | (simp only [← hji25, ← hji26, ← hji27, ← hji28]; first | rfl | (simp [errW_none, errW_some] <;> rfl)) | (simp [*, errW_none, errW_some] <;> rfl), bS⟩

end Go.Proofs.Ytimpejidlnjhlaa.QFnPaints
