-- Made out of the translation by a program of this session (a changed copy of the print). Not trusted: Lean checks it.
import Derived.Test.YtigodjcnkgebaaaQFnExactObjectRowx0
import Derived.Test.YtigodjcnkgebaaaQFnExactObjectRowx5
namespace Go.Proofs.Ytigodjcnkgebaaa.QFnExactObjectRow
open Go.RowKit Go.Proofs.YtigodjcnkgebaaaW.PrintWords Go.Proofs.YtigodjcnkgebaaaW.PrintLast Go.Proofs.YtigodjcnkgebaaaW.PrintMore
attribute [local go_sem] max2_int min2_int max_two min_two max_three min_three max_four min_four   -- for this text's walks alone
set_option linter.unusedVariables false
set_option linter.unusedSimpArgs false
set_option maxHeartbeats 8000000
set_option maxRecDepth 100000

/-! ### impl_ObjectOk: function 87 -/
def impl_ObjectOk.f (k : Nat) (l0_0 : List (S171)) (a0_1 : Int) (a0_2 : Int) (a0_3 : Int) (a0_4 : Int) (a0_5 : Int) : Option (Bool) := (impl_within.f (l0_0.length : Int) 3 8).bind fun t241 => (if t241 = true then ((impl_pointsOk.f k l0_0).bind fun t242 => (if t242 = true then ((impl_within.f a0_1 0 255).bind fun t243 => (if t243 = true then ((impl_BoxOk.f a0_2 a0_3 a0_4 a0_5).bind fun t244 => (some t244)) else (some false))) else (some false))) else (some false))
theorem impl_ObjectOk.calls (k : Nat) (A0_0 : Option Addr) (c0_0 : Nat) (l0_0 : List (S171)) (a0_1 : Int) (a0_2 : Int) (a0_3 : Int) (a0_4 : Int) (a0_5 : Int) (r : Bool) (w : World) (hr0_0 : Kd.C k171 w A0_0 l0_0.length l0_0) (hc0_0 : l0_0.length ≤ c0_0) (h : impl_ObjectOk.f k l0_0 a0_1 a0_2 a0_3 a0_4 a0_5 = some r) :
    Calls Try.prog 87 #[.agg #[.slice A0_0 l0_0.length c0_0, .int .i64 a0_1, .int .i64 a0_2, .int .i64 a0_3, .int .i64 a0_4, .int .i64 a0_5]] w fun e w' => e = .returned (.bool r) ∧ Below w.heap.size w w' := by
  have hu45 := Try.underlying45
  have hu43 := Try.underlying43
  have HR0_0 := Aside0.mk hr0_0
  have HC0_0 := Aside0.mk hc0_0
  clear hr0_0 hc0_0
  have HB := Aside0.mk (Below.refl w.heap.size w)
  have H : ((impl_within.f (l0_0.length : Int) 3 8).bind fun t241 => (if t241 = true then ((impl_pointsOk.f k l0_0).bind fun t242 => (if t242 = true then ((impl_within.f a0_1 0 255).bind fun t243 => (if t243 = true then ((impl_BoxOk.f a0_2 a0_3 a0_4 a0_5).bind fun t244 => (some t244)) else (some false))) else (some false))) else (some false))) = some r := h
  clear h
  replace H := bN H
  obtain ⟨t241, A2, H⟩ := H
  by_cases c3 : t241 = true
  · subst c3
    rw [if_pos rfl] at H
    replace H := bN H
    obtain ⟨t242, A4, H⟩ := H
    by_cases c5 : t242 = true
    · subst c5
      rw [if_pos rfl] at H
      replace H := bN H
      obtain ⟨t243, A6, H⟩ := H
      by_cases c7 : t243 = true
      · subst c7
        rw [if_pos rfl] at H
        replace H := bN H
        obtain ⟨t244, A8, H⟩ := H
        obtain rfl := Option.some.inj H
        go_enter Try.func87, Try.ntmps87
        go_wp2_with (first | ((with_reducible refine gD 1 ?_); refine bxE #[.slice A0_0 l0_0.length c0_0, .int .i64 a0_1, .int .i64 a0_2, .int .i64 a0_3, .int .i64 a0_4, .int .i64 a0_5] 45 ?_; intro gb240 hg w9 BK240 hb; have GW240 := gE hg; have GE240 := gE hg; replace HB := hB hb; clear hb hg; have hz10 := cz6 BK240) | ((with_reducible refine gC 126 ?_); refine cL (some 6) Try.func126 #[.int .i64 (l0_0.length : Int), .int .i64 3, .int .i64 8] ?_; (with_reducible refine (impl_within.calls (l0_0.length : Int) 3 8 true _ A2.out).mono ?_); rintro e w' ⟨rfl, ⟨nd, rfl⟩⟩; refine ⟨_, rfl, ?_⟩) | (go_at_call 151; (with_reducible refine (impl_pointsOk.calls k _ _ l0_0 true _ ?side1 ?side2 A4.out).mono ?_); (case side1 => exact cS (Kd.C_below HR0_0.out bS)); (case side2 => exact HC0_0.out); rintro e w11 ⟨rfl, hb⟩; replace BK240 := kB (g := gb240) hb; replace HB := hB hb; (try clear hb); (try clear hb2); (try clear hk); (try clear hi); have hz12 := cz6 BK240) | (go_at_call 126; (with_reducible refine (impl_within.calls a0_1 0 255 true _ A6.out).mono ?_); rintro e w' ⟨rfl, ⟨nd, rfl⟩⟩) | (go_at_call 152; (with_reducible refine (impl_BoxOk.calls a0_2 a0_3 a0_4 a0_5 t244 _ A8.out).mono ?_); rintro e w13 ⟨rfl, hb⟩; replace BK240 := kB (g := gb240) hb; replace HB := hB hb; (try clear hb); (try clear hb2); (try clear hk); (try clear hi)))
        go_ret
        exact ⟨eS, bS⟩
      · obtain rfl := Bool.eq_false_iff.mpr c7
        rw [if_neg nF] at H
        obtain rfl := Option.some.inj H
        go_enter Try.func87, Try.ntmps87
        go_wp2_with (first | ((with_reducible refine gD 1 ?_); refine bxE #[.slice A0_0 l0_0.length c0_0, .int .i64 a0_1, .int .i64 a0_2, .int .i64 a0_3, .int .i64 a0_4, .int .i64 a0_5] 45 ?_; intro gb240 hg w14 BK240 hb; have GW240 := gE hg; have GE240 := gE hg; replace HB := hB hb; clear hb hg; have hz15 := cz6 BK240) | ((with_reducible refine gC 126 ?_); refine cL (some 6) Try.func126 #[.int .i64 (l0_0.length : Int), .int .i64 3, .int .i64 8] ?_; (with_reducible refine (impl_within.calls (l0_0.length : Int) 3 8 true _ A2.out).mono ?_); rintro e w' ⟨rfl, ⟨nd, rfl⟩⟩; refine ⟨_, rfl, ?_⟩) | (go_at_call 151; (with_reducible refine (impl_pointsOk.calls k _ _ l0_0 true _ ?side1 ?side2 A4.out).mono ?_); (case side1 => exact cS (Kd.C_below HR0_0.out bS)); (case side2 => exact HC0_0.out); rintro e w16 ⟨rfl, hb⟩; replace BK240 := kB (g := gb240) hb; replace HB := hB hb; (try clear hb); (try clear hb2); (try clear hk); (try clear hi); have hz17 := cz6 BK240) | (go_at_call 126; (with_reducible refine (impl_within.calls a0_1 0 255 false _ A6.out).mono ?_); rintro e w' ⟨rfl, ⟨nd, rfl⟩⟩))
        go_ret
        exact ⟨eS, bS⟩
    · obtain rfl := Bool.eq_false_iff.mpr c5
      rw [if_neg nF] at H
      obtain rfl := Option.some.inj H
      go_enter Try.func87, Try.ntmps87
      go_wp2_with (first | ((with_reducible refine gD 1 ?_); refine bxE #[.slice A0_0 l0_0.length c0_0, .int .i64 a0_1, .int .i64 a0_2, .int .i64 a0_3, .int .i64 a0_4, .int .i64 a0_5] 45 ?_; intro gb240 hg w18 BK240 hb; have GW240 := gE hg; have GE240 := gE hg; replace HB := hB hb; clear hb hg; have hz19 := cz6 BK240) | ((with_reducible refine gC 126 ?_); refine cL (some 6) Try.func126 #[.int .i64 (l0_0.length : Int), .int .i64 3, .int .i64 8] ?_; (with_reducible refine (impl_within.calls (l0_0.length : Int) 3 8 true _ A2.out).mono ?_); rintro e w' ⟨rfl, ⟨nd, rfl⟩⟩; refine ⟨_, rfl, ?_⟩) | (go_at_call 151; (with_reducible refine (impl_pointsOk.calls k _ _ l0_0 false _ ?side1 ?side2 A4.out).mono ?_); (case side1 => exact cS (Kd.C_below HR0_0.out bS)); (case side2 => exact HC0_0.out); rintro e w20 ⟨rfl, hb⟩; replace BK240 := kB (g := gb240) hb; replace HB := hB hb; (try clear hb); (try clear hb2); (try clear hk); (try clear hi)))
      go_ret
      exact ⟨eS, bS⟩
  · obtain rfl := Bool.eq_false_iff.mpr c3
    rw [if_neg nF] at H
    obtain rfl := Option.some.inj H
    go_enter Try.func87, Try.ntmps87
    go_wp2_with (first | ((with_reducible refine gD 1 ?_); refine bxE #[.slice A0_0 l0_0.length c0_0, .int .i64 a0_1, .int .i64 a0_2, .int .i64 a0_3, .int .i64 a0_4, .int .i64 a0_5] 45 ?_; intro gb240 hg w21 BK240 hb; have GW240 := gE hg; have GE240 := gE hg; replace HB := hB hb; clear hb hg; have hz22 := cz6 BK240) | ((with_reducible refine gC 126 ?_); refine cL (some 6) Try.func126 #[.int .i64 (l0_0.length : Int), .int .i64 3, .int .i64 8] ?_; (with_reducible refine (impl_within.calls (l0_0.length : Int) 3 8 false _ A2.out).mono ?_); rintro e w' ⟨rfl, ⟨nd, rfl⟩⟩; refine ⟨_, rfl, ?_⟩))
    go_ret
    exact ⟨eS, bS⟩

/-! ### impl_pageBox: function 111 -/
def impl_pageBox.f  : Option (Int × Int × Int × Int) := some (0, 0, 32, 32)
theorem impl_pageBox.calls  (r1 : Int) (r2 : Int) (r3 : Int) (r4 : Int) (w : World) (h : impl_pageBox.f  = some (r1, r2, r3, r4)) :
    Calls Try.prog 111 #[] w fun e w' => e = .returned (.agg #[.int .i64 r1, .int .i64 r2, .int .i64 r3, .int .i64 r4]) ∧ Below w.heap.size w w' := by
  have hu43 := Try.underlying43
  have HB := Aside0.mk (Below.refl w.heap.size w)
  have H : (some (0, 0, 32, 32)) = some (r1, r2, r3, r4) := h
  clear h
  simp only [Option.some.injEq, Prod.mk.injEq] at H
  obtain ⟨rfl, rfl, rfl, rfl⟩ := H
  go_enter Try.func111, Try.ntmps111
  go_wp2_with (first | ((with_reducible refine gD 0 ?_); refine bxE #[.int .i64 0, .int .i64 0, .int .i64 0, .int .i64 0] 43 ?_; intro gb245 hg w1 BK245 hb; have GW245 := gE hg; have GE245 := gE hg; replace HB := hB hb; clear hb hg; have hz2 := cz4 BK245))
  refine bodyPost_ret (results_cell_row rfl _ _ gb245 43 #[.int .i64 0, .int .i64 0, .int .i64 32, .int .i64 32] (0, 0) _ rfl kS Try.underlying43 rfl (by kernel_rfl)) rfl ?_
  exact ⟨eS, bS⟩

/-! ### impl_MeetBox: function 153 -/
def impl_MeetBox.j0 : Nat → Bool → Int → Int → Int → Int → Int → Int → Int → Int → Option (Int × Int × Int × Int)
  | 0, _, _, _, _, _, _, _, _, _ => none
  | k + 1, x13, x247000, x247001, x247002, x247003, x248000, x248001, x248002, x248003 => if x13 = true then (some (0, 0, 0, 0)) else (if (mx x247000 x248000) ≥ (mn x247002 x248002) then (some (0, 0, 0, 0)) else (if (mx x247001 x248001) ≥ (mn x247003 x248003) then (some (0, 0, 0, 0)) else (some (mx x247000 x248000, mx x247001 x248001, mn x247002 x248002, mn x247003 x248003))))
def impl_MeetBox.f (k : Nat) (a0_0 : Int) (a0_1 : Int) (a0_2 : Int) (a0_3 : Int) (a1_0 : Int) (a1_1 : Int) (a1_2 : Int) (a1_3 : Int) : Option (Int × Int × Int × Int) := (impl_BoxOk.f a0_0 a0_1 a0_2 a0_3).bind fun t249 => (if t249 = true then ((impl_BoxOk.f a1_0 a1_1 a1_2 a1_3).bind fun t250 => (impl_MeetBox.j0 k (!t250) a0_0 a0_1 a0_2 a0_3 a1_0 a1_1 a1_2 a1_3)) else (impl_MeetBox.j0 k true a0_0 a0_1 a0_2 a0_3 a1_0 a1_1 a1_2 a1_3))
theorem impl_MeetBox.calls (k : Nat) (a0_0 : Int) (a0_1 : Int) (a0_2 : Int) (a0_3 : Int) (a1_0 : Int) (a1_1 : Int) (a1_2 : Int) (a1_3 : Int) (r1 : Int) (r2 : Int) (r3 : Int) (r4 : Int) (w : World) (h : impl_MeetBox.f k a0_0 a0_1 a0_2 a0_3 a1_0 a1_1 a1_2 a1_3 = some (r1, r2, r3, r4)) :
    Calls Try.prog 153 #[.agg #[.int .i64 a0_0, .int .i64 a0_1, .int .i64 a0_2, .int .i64 a0_3], .agg #[.int .i64 a1_0, .int .i64 a1_1, .int .i64 a1_2, .int .i64 a1_3]] w fun e w' => e = .returned (.agg #[.int .i64 r1, .int .i64 r2, .int .i64 r3, .int .i64 r4]) ∧ Below w.heap.size w w' := by
  have hu43 := Try.underlying43
  have HB := Aside0.mk (Below.refl w.heap.size w)
  have H : ((impl_BoxOk.f a0_0 a0_1 a0_2 a0_3).bind fun t249 => (if t249 = true then ((impl_BoxOk.f a1_0 a1_1 a1_2 a1_3).bind fun t250 => (impl_MeetBox.j0 k (!t250) a0_0 a0_1 a0_2 a0_3 a1_0 a1_1 a1_2 a1_3)) else (impl_MeetBox.j0 k true a0_0 a0_1 a0_2 a0_3 a1_0 a1_1 a1_2 a1_3))) = some (r1, r2, r3, r4) := h
  clear h
  have HC3 := Aside0.mk H
  clear H
  go_enter Try.func153, Try.ntmps153
  go_upto_region 1 with (first | ((with_reducible refine gD 2 ?_); refine bxE #[.int .i64 a0_0, .int .i64 a0_1, .int .i64 a0_2, .int .i64 a0_3] 43 ?_; intro gb246 hg w4 BK246 hb; have GW246 := gE hg; have GE246 := gE hg; replace HB := hB hb; clear hb hg) | ((with_reducible refine gD 3 ?_); refine bxE #[.int .i64 a1_0, .int .i64 a1_1, .int .i64 a1_2, .int .i64 a1_3] 43 ?_; intro gb247 hg w5 BK247 hb; have GW247 := gE hg; have GE247 := gE hg; have NB246_247 := nL (g := gb246) hg; have NB247_246 := nG (g := gb246) hg; replace BK246 := kB (g := gb246) hb; replace HB := hB hb; clear hb hg) | ((with_reducible refine gD 4 ?_); refine bxE #[.int .i64 0, .int .i64 0, .int .i64 0, .int .i64 0] 43 ?_; intro gb248 hg w6 BK248 hb; have GW248 := gE hg; have GE248 := gE hg; have NB246_248 := nL (g := gb246) hg; have NB248_246 := nG (g := gb246) hg; have NB247_248 := nL (g := gb247) hg; have NB248_247 := nG (g := gb247) hg; replace BK246 := kB (g := gb246) hb; replace BK247 := kB (g := gb247) hb; replace HB := hB hb; clear hb hg))
  (try simp only [Act.put, List.setIfInBounds_toArray, List.set_cons_zero, List.set_cons_succ])
  go_cut [13] (fun v13 wc => ∃ (kq : Nat) (x13_2 : Bool), v13 = .bool x13_2 ∧ Aside0 (impl_MeetBox.j0 kq x13_2 a0_0 a0_1 a0_2 a0_3 a1_0 a1_1 a1_2 a1_3 = some (r1, r2, r3, r4)) ∧ Aside0 (kq ≤ k) ∧ Aside0 (wc.heap[gb246]? = some (.cells #[.int .i64 a0_0, .int .i64 a0_1, .int .i64 a0_2, .int .i64 a0_3] 43 (0, 0))) ∧ Aside0 (wc.heap[gb247]? = some (.cells #[.int .i64 a1_0, .int .i64 a1_1, .int .i64 a1_2, .int .i64 a1_3] 43 (0, 0))) ∧ Aside0 (wc.heap[gb248]? = some (.cells #[.int .i64 0, .int .i64 0, .int .i64 0, .int .i64 0] 43 (0, 0))) ∧ Aside0 (Below w.heap.size w wc))
  case first =>
    have H := HC3.out
    clear HC3
    replace H := bN H
    obtain ⟨t249, A7, H⟩ := H
    by_cases c8 : t249 = true
    · subst c8
      rw [if_pos rfl] at H
      replace H := bN H
      obtain ⟨t250, A9, H⟩ := H
      have H' := Aside0.mk H
      clear H
      have hnb10 := NB246_247.out
      have hnc10 := NB247_246.out
      have hnb11 := NB246_248.out
      have hnc11 := NB248_246.out
      have hcz12_0 : w6.cell? ⟨gb246, 0, none⟩ = some (.int .i64 a0_0) := (blk_cell BK246.out 0).trans rfl
      have hcz12_1 : w6.cell? ⟨gb246, 1, none⟩ = some (.int .i64 a0_1) := (blk_cell BK246.out 1).trans rfl
      have hcz12_2 : w6.cell? ⟨gb246, 2, none⟩ = some (.int .i64 a0_2) := (blk_cell BK246.out 2).trans rfl
      have hcz12_3 : w6.cell? ⟨gb246, 3, none⟩ = some (.int .i64 a0_3) := (blk_cell BK246.out 3).trans rfl
      have hfz12_0 := blk_frozen BK246.out 0
      have hfz12_1 := blk_frozen BK246.out 1
      have hfz12_2 := blk_frozen BK246.out 2
      have hfz12_3 := blk_frozen BK246.out 3
      go_wp2_with (first | ((with_reducible refine gC 152 ?_); refine cL (some 7) Try.func152 #[.agg #[.int .i64 a0_0, .int .i64 a0_1, .int .i64 a0_2, .int .i64 a0_3]] ?_; (with_reducible refine (impl_BoxOk.calls a0_0 a0_1 a0_2 a0_3 true _ A7.out).mono ?_); rintro e w13 ⟨rfl, hb⟩; refine ⟨_, rfl, ?_⟩; replace BK246 := kB (g := gb246) hb; replace BK247 := kB (g := gb247) hb; replace BK248 := kB (g := gb248) hb; replace HB := hB hb; (try clear hb); (try clear hb2); (try clear hk); (try clear hi); have hnb14 := NB247_248.out; have hnc14 := NB248_247.out; have hcz15_0 : w13.cell? ⟨gb247, 0, none⟩ = some (.int .i64 a1_0) := (blk_cell BK247.out 0).trans rfl; have hcz15_1 : w13.cell? ⟨gb247, 1, none⟩ = some (.int .i64 a1_1) := (blk_cell BK247.out 1).trans rfl; have hcz15_2 : w13.cell? ⟨gb247, 2, none⟩ = some (.int .i64 a1_2) := (blk_cell BK247.out 2).trans rfl; have hcz15_3 : w13.cell? ⟨gb247, 3, none⟩ = some (.int .i64 a1_3) := (blk_cell BK247.out 3).trans rfl; have hfz15_0 := blk_frozen BK247.out 0; have hfz15_1 := blk_frozen BK247.out 1; have hfz15_2 := blk_frozen BK247.out 2; have hfz15_3 := blk_frozen BK247.out 3) | (go_at_call 152; (with_reducible refine (impl_BoxOk.calls a1_0 a1_1 a1_2 a1_3 t250 _ A9.out).mono ?_); rintro e w16 ⟨rfl, hb⟩; replace BK246 := kB (g := gb246) hb; replace BK247 := kB (g := gb247) hb; replace BK248 := kB (g := gb248) hb; replace HB := hB hb; (try clear hb); (try clear hb2); (try clear hk); (try clear hi)))
      go_meet
      case rel => exact ⟨_, (!t250), (by first | rfl | (simp; done) | (simp [*]; done)), H', ⟨by first | omega | exact Nat.le_refl _⟩, ⟨kS⟩, ⟨kS⟩, ⟨kS⟩, ⟨bS⟩⟩
    · obtain rfl := Bool.eq_false_iff.mpr c8
      rw [if_neg nF] at H
      have H' := Aside0.mk H
      clear H
      have hnb17 := NB246_247.out
      have hnc17 := NB247_246.out
      have hnb18 := NB246_248.out
      have hnc18 := NB248_246.out
      have hcz19_0 : w6.cell? ⟨gb246, 0, none⟩ = some (.int .i64 a0_0) := (blk_cell BK246.out 0).trans rfl
      have hcz19_1 : w6.cell? ⟨gb246, 1, none⟩ = some (.int .i64 a0_1) := (blk_cell BK246.out 1).trans rfl
      have hcz19_2 : w6.cell? ⟨gb246, 2, none⟩ = some (.int .i64 a0_2) := (blk_cell BK246.out 2).trans rfl
      have hcz19_3 : w6.cell? ⟨gb246, 3, none⟩ = some (.int .i64 a0_3) := (blk_cell BK246.out 3).trans rfl
      have hfz19_0 := blk_frozen BK246.out 0
      have hfz19_1 := blk_frozen BK246.out 1
      have hfz19_2 := blk_frozen BK246.out 2
      have hfz19_3 := blk_frozen BK246.out 3
      go_wp2_with (first | ((with_reducible refine gC 152 ?_); refine cL (some 7) Try.func152 #[.agg #[.int .i64 a0_0, .int .i64 a0_1, .int .i64 a0_2, .int .i64 a0_3]] ?_; (with_reducible refine (impl_BoxOk.calls a0_0 a0_1 a0_2 a0_3 false _ A7.out).mono ?_); rintro e w20 ⟨rfl, hb⟩; refine ⟨_, rfl, ?_⟩; replace BK246 := kB (g := gb246) hb; replace BK247 := kB (g := gb247) hb; replace BK248 := kB (g := gb248) hb; replace HB := hB hb; (try clear hb); (try clear hb2); (try clear hk); (try clear hi)))
      go_meet
      case rel => exact ⟨_, (true), (by first | rfl | (simp; done) | (simp [*]; done)), H', ⟨by first | omega | exact Nat.le_refl _⟩, ⟨kS⟩, ⟨kS⟩, ⟨kS⟩, ⟨bS⟩⟩
  case rest =>
    clear HC3
    try clear c1
    try clear p2
    try clear c8
    try clear c10
    try clear c11
    try clear c14
    try clear c15
    try clear c17
    try clear c18
    try clear hcz12_0
    try clear hcz12_1
    try clear hcz12_2
    try clear hcz12_3
    try clear hcz15_0
    try clear hcz15_1
    try clear hcz15_2
    try clear hcz15_3
    try clear hcz19_0
    try clear hcz19_1
    try clear hcz19_2
    try clear hcz19_3
    try clear hfz12_0
    try clear hfz12_1
    try clear hfz12_2
    try clear hfz12_3
    try clear hfz15_0
    try clear hfz15_1
    try clear hfz15_2
    try clear hfz15_3
    try clear hfz19_0
    try clear hfz19_1
    try clear hfz19_2
    try clear hfz19_3
    obtain ⟨kq, x13_2, rfl, HA, HJ2, BK246, BK247, BK248, HB⟩ := hcut
    cases kq with
    | zero => exact absurd HA.out (by simp [impl_MeetBox.j0])
    | succ kj2 =>
      have H := HA.out
      clear HA
      simp only [impl_MeetBox.j0] at H
      by_cases c21 : x13_2 = true
      · subst c21
        rw [if_pos rfl] at H
        simp only [Option.some.injEq, Prod.mk.injEq] at H
        obtain ⟨rfl, rfl, rfl, rfl⟩ := H
        have hnb22 := NB248_246.out
        have hnc22 := NB246_248.out
        have hnb23 := NB248_247.out
        have hnc23 := NB247_248.out
        have hz24 := cz4 BK248
        go_wp2
        refine bodyPost_ret (results_cell_row rfl _ _ gb248 43 #[.int .i64 0, .int .i64 0, .int .i64 0, .int .i64 0] (0, 0) _ rfl kS Try.underlying43 rfl (by kernel_rfl)) rfl ?_
        exact ⟨eS, bS⟩
      · obtain rfl := Bool.eq_false_iff.mpr c21
        rw [if_neg nF] at H
        obtain ⟨ji25, hji25⟩ : ∃ j_ : Int, (mx a0_0 a1_0) = j_ := ⟨_, rfl⟩
        replace H : (if (ji25) ≥ (mn a0_2 a1_2) then (some (0, 0, 0, 0)) else (if (mx a0_1 a1_1) ≥ (mn a0_3 a1_3) then (some (0, 0, 0, 0)) else (some (ji25, mx a0_1 a1_1, mn a0_2 a1_2, mn a0_3 a1_3)))) = some (r1, r2, r3, r4) := by first | (rw [hji25] at H; exact H) | (simp only [hji25] at H ⊢; exact H)
        have hji25_ : (if a0_0 < a1_0 then a1_0 else a0_0) = ji25 := hji25
        obtain ⟨ji26, hji26⟩ : ∃ j_ : Int, (mx a0_1 a1_1) = j_ := ⟨_, rfl⟩
        replace H : (if (ji25) ≥ (mn a0_2 a1_2) then (some (0, 0, 0, 0)) else (if (ji26) ≥ (mn a0_3 a1_3) then (some (0, 0, 0, 0)) else (some (ji25, ji26, mn a0_2 a1_2, mn a0_3 a1_3)))) = some (r1, r2, r3, r4) := by first | (rw [hji26] at H; exact H) | (simp only [hji26] at H ⊢; exact H)
        have hji26_ : (if a0_1 < a1_1 then a1_1 else a0_1) = ji26 := hji26
        obtain ⟨ji27, hji27⟩ : ∃ j_ : Int, (mn a0_2 a1_2) = j_ := ⟨_, rfl⟩
        replace H : (if (ji25) ≥ (ji27) then (some (0, 0, 0, 0)) else (if (ji26) ≥ (mn a0_3 a1_3) then (some (0, 0, 0, 0)) else (some (ji25, ji26, ji27, mn a0_3 a1_3)))) = some (r1, r2, r3, r4) := by first | (rw [hji27] at H; exact H) | (simp only [hji27] at H ⊢; exact H)
        have hji27_ : (if a1_2 < a0_2 then a1_2 else a0_2) = ji27 := hji27
        obtain ⟨ji28, hji28⟩ : ∃ j_ : Int, (mn a0_3 a1_3) = j_ := ⟨_, rfl⟩
        replace H : (if (ji25) ≥ (ji27) then (some (0, 0, 0, 0)) else (if (ji26) ≥ (ji28) then (some (0, 0, 0, 0)) else (some (ji25, ji26, ji27, ji28)))) = some (r1, r2, r3, r4) := by first | (rw [hji28] at H; exact H) | (simp only [hji28] at H ⊢; exact H)
        have hji28_ : (if a1_3 < a0_3 then a1_3 else a0_3) = ji28 := hji28
        by_cases c29 : (ji25) ≥ (ji27)
        · rw [if_pos c29] at H
          have c29b0 : decide ((ji27) ≤ (ji25)) = true := decide_eq_true c29
          clear c29
          simp only [Option.some.injEq, Prod.mk.injEq] at H
          obtain ⟨rfl, rfl, rfl, rfl⟩ := H
          have hnb30 := NB246_247.out
          have hnc30 := NB247_246.out
          have hnb31 := NB246_248.out
          have hnc31 := NB248_246.out
          have hz32 := cz4 BK246
          have hnb33 := NB247_248.out
          have hnc33 := NB248_247.out
          have hz34 := cz4 BK247
          go_wp2_with (first | ((with_reducible refine gD 5 ?_); refine bxE #[.int .i64 0, .int .i64 0, .int .i64 0, .int .i64 0] 43 ?_; intro gb251 hg w35 BK251 hb; have GW251 := gE hg; have GE251 := gE hg; have NB246_251 := nL (g := gb246) hg; have NB251_246 := nG (g := gb246) hg; have NB247_251 := nL (g := gb247) hg; have NB251_247 := nG (g := gb247) hg; have NB248_251 := nL (g := gb248) hg; have NB251_248 := nG (g := gb248) hg; replace BK246 := kB (g := gb246) hb; replace BK247 := kB (g := gb247) hb; replace BK248 := kB (g := gb248) hb; replace HB := hB hb; clear hb hg; have hnb36 := NB251_246.out; have hnc36 := NB246_251.out; have hnb37 := NB251_247.out; have hnc37 := NB247_251.out; have hnb38 := NB251_248.out; have hnc38 := NB248_251.out; have hz39 := cz4 BK251; have hz40 := cz4 BK248))
          refine bodyPost_ret (results_cell_row rfl _ _ gb248 43 #[.int .i64 0, .int .i64 0, .int .i64 0, .int .i64 0] (0, 0) _ rfl kS Try.underlying43 rfl (by kernel_rfl)) rfl ?_
          exact ⟨by first | rfl | (simp [errW_none, errW_some] <;> rfl) | (simp only [← hji25, ← hji26, ← hji27, ← hji28]; first | rfl | (simp [errW_none, errW_some] <;> rfl)) | (simp [*, errW_none, errW_some] <;> rfl), bS⟩
        · rw [if_neg c29] at H
          have c29b0 : decide ((ji27) ≤ (ji25)) = false := decide_eq_false c29
          clear c29
          by_cases c41 : (ji26) ≥ (ji28)
          · rw [if_pos c41] at H
            have c41b0 : decide ((ji28) ≤ (ji26)) = true := decide_eq_true c41
            clear c41
            simp only [Option.some.injEq, Prod.mk.injEq] at H
            obtain ⟨rfl, rfl, rfl, rfl⟩ := H
            have hnb42 := NB246_247.out
            have hnc42 := NB247_246.out
            have hnb43 := NB246_248.out
            have hnc43 := NB248_246.out
            have hz44 := cz4 BK246
            have hnb45 := NB247_248.out
            have hnc45 := NB248_247.out
            have hz46 := cz4 BK247
            go_wp2_with (first | ((with_reducible refine gD 5 ?_); refine bxE #[.int .i64 0, .int .i64 0, .int .i64 0, .int .i64 0] 43 ?_; intro gb251 hg w47 BK251 hb; have GW251 := gE hg; have GE251 := gE hg; have NB246_251 := nL (g := gb246) hg; have NB251_246 := nG (g := gb246) hg; have NB247_251 := nL (g := gb247) hg; have NB251_247 := nG (g := gb247) hg; have NB248_251 := nL (g := gb248) hg; have NB251_248 := nG (g := gb248) hg; replace BK246 := kB (g := gb246) hb; replace BK247 := kB (g := gb247) hb; replace BK248 := kB (g := gb248) hb; replace HB := hB hb; clear hb hg; have hnb48 := NB251_246.out; have hnc48 := NB246_251.out; have hnb49 := NB251_247.out; have hnc49 := NB247_251.out; have hnb50 := NB251_248.out; have hnc50 := NB248_251.out; have hz51 := cz4 BK251; have hz52 := cz4 BK248))
            refine bodyPost_ret (results_cell_row rfl _ _ gb248 43 #[.int .i64 0, .int .i64 0, .int .i64 0, .int .i64 0] (0, 0) _ rfl kS Try.underlying43 rfl (by kernel_rfl)) rfl ?_
            exact ⟨by first | rfl | (simp [errW_none, errW_some] <;> rfl) | (simp only [← hji25, ← hji26, ← hji27, ← hji28]; first | rfl | (simp [errW_none, errW_some] <;> rfl)) | (simp [*, errW_none, errW_some] <;> rfl), bS⟩
          · rw [if_neg c41] at H
            have c41b0 : decide ((ji28) ≤ (ji26)) = false := decide_eq_false c41
            clear c41
            simp only [Option.some.injEq, Prod.mk.injEq] at H
            obtain ⟨rfl, rfl, rfl, rfl⟩ := H
            have hnb53 := NB246_247.out
            have hnc53 := NB247_246.out
            have hnb54 := NB246_248.out
            have hnc54 := NB248_246.out
            have hz55 := cz4 BK246
            have hnb56 := NB247_248.out
            have hnc56 := NB248_247.out
            have hz57 := cz4 BK247
            go_wp2_with (first | ((with_reducible refine gD 5 ?_); refine bxE #[.int .i64 0, .int .i64 0, .int .i64 0, .int .i64 0] 43 ?_; intro gb251 hg w58 BK251 hb; have GW251 := gE hg; have GE251 := gE hg; have NB246_251 := nL (g := gb246) hg; have NB251_246 := nG (g := gb246) hg; have NB247_251 := nL (g := gb247) hg; have NB251_247 := nG (g := gb247) hg; have NB248_251 := nL (g := gb248) hg; have NB251_248 := nG (g := gb248) hg; replace BK246 := kB (g := gb246) hb; replace BK247 := kB (g := gb247) hb; replace BK248 := kB (g := gb248) hb; replace HB := hB hb; clear hb hg; have hnb59 := NB251_246.out; have hnc59 := NB246_251.out; have hnb60 := NB251_247.out; have hnc60 := NB247_251.out; have hnb61 := NB251_248.out; have hnc61 := NB248_251.out; have hz62 := cz4 BK251; have hz63 := cz4 BK248))
            refine bodyPost_ret (results_cell_row rfl _ _ gb248 43 #[.int .i64 ji25, .int .i64 ji26, .int .i64 ji27, .int .i64 ji28] (0, 0) _ rfl kS Try.underlying43 rfl (by kernel_rfl)) rfl ?_
            exact ⟨by first | rfl | (simp [errW_none, errW_some] <;> rfl) | (simp only [← hji25, ← hji26, ← hji27, ← hji28]; first | rfl | (simp [errW_none, errW_some] <;> rfl)) | (simp [*, errW_none, errW_some] <;> rfl), bS⟩

end Go.Proofs.Ytigodjcnkgebaaa.QFnExactObjectRow
