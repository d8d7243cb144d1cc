-- Made out of the translation by a program of this session (a changed copy of the print). Not trusted: Lean checks it.
import Derived.Test.YtimpejidlnjhlaaQFnExactBandEstimatex0
import Derived.Test.YtimpejidlnjhlaaQFnExactBandEstimatex4
namespace Go.Proofs.Ytimpejidlnjhlaa.QFnExactBandEstimate
open Go.RowKit Go.Proofs.YtimpejidlnjhlaaW.PrintWords Go.Proofs.YtimpejidlnjhlaaW.PrintLast Go.Proofs.YtimpejidlnjhlaaW.PrintMore
attribute [local go_sem] max2_int min2_int max_two min_two max_three min_three max_four min_four   -- for this text's walks alone
set_option linter.unusedVariables false
set_option linter.unusedSimpArgs false
set_option maxHeartbeats 8000000
set_option maxRecDepth 100000

/-! ### spec_BoxOf: function 179 -/
def spec_BoxOf.l0 : Nat → List (S166) → Int → Int → Int → Int → Int → Option (Int × Int × Int × Int)
  | 0, _, _, _, _, _, _ => none
  | k + 1, x0, x4, x210000, x210001, x210002, x210003 => if x4 < (x0.length : Int) then (if 0 ≤ x4 then ((spec_PointOk.f ((rd_T166 x0 x4).f0) ((rd_T166 x0 x4).f1)).bind fun t212 => (if t212 = true then (if x4 = 0 then (spec_BoxOf.l0 k x0 (wrap64 (x4 + 1)) ((rd_T166 x0 x4).f0) ((rd_T166 x0 x4).f1) ((rd_T166 x0 x4).f0) ((rd_T166 x0 x4).f1)) else (spec_BoxOf.l0 k x0 (wrap64 (x4 + 1)) (mn x210000 ((rd_T166 x0 x4).f0)) (mn x210001 ((rd_T166 x0 x4).f1)) (mx x210002 ((rd_T166 x0 x4).f0)) (mx x210003 ((rd_T166 x0 x4).f1)))) else (some (0, 0, 0, 0)))) else (none)) else (some (x210000, x210001, x210002, x210003))
def spec_BoxOf.f (k : Nat) (l0 : List (S166)) : Option (Int × Int × Int × Int) := spec_BoxOf.l0 k l0 0 0 0 0 0
theorem spec_BoxOf.calls (k : Nat) (A0 : Option Addr) (c0 : Nat) (l0 : List (S166)) (r1 : Int) (r2 : Int) (r3 : Int) (r4 : Int) (w : World) (hr0 : Kd.C k166 w A0 l0.length l0) (hc0 : l0.length ≤ c0) (h : spec_BoxOf.f k l0 = some (r1, r2, r3, r4)) :
    Calls Try.prog 179 #[.slice A0 l0.length c0] w fun e w' => e = .returned (.agg #[.int .i64 r1, .int .i64 r2, .int .i64 r3, .int .i64 r4]) ∧ Below w.heap.size w w' := by
  have hu39 := Try.underlying39
  have hu166 := Try.underlying166
  have HR0 := Aside0.mk hr0
  have HC0 := Aside0.mk hc0
  clear hr0 hc0
  have HB := Aside0.mk (Below.refl w.heap.size w)
  have H : (spec_BoxOf.l0 k l0 0 0 0 0 0) = some (r1, r2, r3, r4) := h
  clear h
  have H' := Aside0.mk H
  clear H
  go_enter Try.func179, Try.ntmps179
  go_wp2_with (first | ((with_reducible refine gD 2 ?_); refine bxE #[.int .i64 0, .int .i64 0, .int .i64 0, .int .i64 0] 39 ?_; intro gb208 hg w2 BK208 hb; have GW208 := gE hg; have GE208 := gE hg; replace HB := hB hb; clear hb hg) | ((with_reducible refine gD 3 ?_); refine bxE #[.int .i64 0, .int .i64 0, .int .i64 0, .int .i64 0] 39 ?_; intro gb209 hg w3 BK209 hb; have GW209 := gE hg; have GE209 := gE hg; have NB208_209 := nL (g := gb208) hg; have NB209_208 := nG (g := gb208) hg; replace BK208 := kB (g := gb208) hb; replace HB := hB hb; clear hb hg; have hnb4 := NB209_208.out; have hnc4 := NB208_209.out; have hcz5_0 : w3.cell? ⟨gb209, 0, none⟩ = some (.int .i64 0) := (blk_cell BK209.out 0).trans rfl; have hcz5_1 : w3.cell? ⟨gb209, 1, none⟩ = some (.int .i64 0) := (blk_cell BK209.out 1).trans rfl; have hcz5_2 : w3.cell? ⟨gb209, 2, none⟩ = some (.int .i64 0) := (blk_cell BK209.out 2).trans rfl; have hcz5_3 : w3.cell? ⟨gb209, 3, none⟩ = some (.int .i64 0) := (blk_cell BK209.out 3).trans rfl; have hfz5_0 := blk_frozen BK209.out 0; have hfz5_1 := blk_frozen BK209.out 1; have hfz5_2 := blk_frozen BK209.out 2; have hfz5_3 := blk_frozen BK209.out 3))
  go_loopg [4] k (fun kq v4 w' => ∃ (x4_1 : Int) (x209000_1 : Int) (x209001_1 : Int) (x209002_1 : Int) (x209003_1 : Int) (x210000_1 : Int) (x210001_1 : Int) (x210002_1 : Int) (x210003_1 : Int), v4 = .int .i64 x4_1 ∧ Aside0 (spec_BoxOf.l0 kq l0 x4_1 x210000_1 x210001_1 x210002_1 x210003_1 = some (r1, r2, r3, r4)) ∧ Aside0 (kq ≤ k) ∧ Aside0 (w'.heap[gb208]? = some (.cells #[.int .i64 x209000_1, .int .i64 x209001_1, .int .i64 x209002_1, .int .i64 x209003_1] 39 (0, 0))) ∧ Aside0 (w'.heap[gb209]? = some (.cells #[.int .i64 x210000_1, .int .i64 x210001_1, .int .i64 x210002_1, .int .i64 x210003_1] 39 (0, 0))) ∧ Aside0 (Below w.heap.size w w'))
  case atStart => exact ⟨(0), (0), (0), (0), (0), (0), (0), (0), (0), (by first | rfl | (simp; done) | (simp [*]; done)), H', ⟨Nat.le_refl _⟩, ⟨kS⟩, ⟨kS⟩, ⟨bS⟩⟩
  case round =>
    clear H'
    try clear c1
    try clear p2
    try clear c4
    try clear hcz5_0
    try clear hcz5_1
    try clear hcz5_2
    try clear hcz5_3
    try clear hfz5_0
    try clear hfz5_1
    try clear hfz5_2
    try clear hfz5_3
    obtain ⟨x4_1, x209000_1, x209001_1, x209002_1, x209003_1, x210000_1, x210001_1, x210002_1, x210003_1, rfl, HA, HK1, BK208, BK209, HB⟩ := hrel
    cases gk with
    | zero => exact absurd HA.out (by simp [spec_BoxOf.l0])
    | succ k1 =>
      have H := HA.out
      clear HA
      simp only [spec_BoxOf.l0] at H
      by_cases c6 : x4_1 < (l0.length : Int)
      · rw [if_pos c6] at H
        have c6b0 : decide (x4_1 < (l0.length : Int)) = true := decide_eq_true c6
        clear c6
        by_cases c7 : 0 ≤ x4_1
        · rw [if_pos c7] at H
          have c7b0 : decide (0 ≤ x4_1) = true := decide_eq_true c7
          clear c7
          replace H := bN H
          obtain ⟨t212, A8, H⟩ := H
          by_cases c9 : t212 = true
          · subst c9
            rw [if_pos rfl] at H
            by_cases c10 : x4_1 = 0
            · rw [if_pos c10] at H
              have c10b0 : (x4_1 == 0) = true := beq_iff_eq.mpr c10
              have c10b1 : (x4_1 != 0) = false := bne_eq_false_iff_eq.mpr c10
              clear c10
              have H' := Aside0.mk H
              clear H
              have p210 : 0 ≤ (x4_1 : Int) := of_decide_eq_true (by first | (with_reducible assumption) | assumption)
              have q210 : x4_1 < (l0.length : Int) := of_decide_eq_true (by first | (with_reducible assumption) | assumption)
              obtain ⟨ad210, e210, hx210_0, hx210_1⟩ := at_T166 HR0.out x4_1 p210 q210
              cases e210
              replace hx210_0 := (HB.out.cell (World.block_lt_of_cell? w _ hx210_0)).trans hx210_0
              replace hx210_1 := (HB.out.cell (World.block_lt_of_cell? w _ hx210_1)).trans hx210_1
              replace p210 := eq_true p210
              replace q210 := eq_true q210
              go_wp2_with (first | ((with_reducible refine gD 5 ?_); refine bxE #[.int .i64 0, .int .i64 0] 166 ?_; intro gb211 hg w11 BK211 hb; have GW211 := gE hg; have GE211 := gE hg; have NB208_211 := nL (g := gb208) hg; have NB211_208 := nG (g := gb208) hg; have NB209_211 := nL (g := gb209) hg; have NB211_209 := nG (g := gb209) hg; replace BK208 := kB (g := gb208) hb; replace BK209 := kB (g := gb209) hb; replace HB := hB hb; clear hb hg; have hnb12 := NB211_208.out; have hnc12 := NB208_211.out; have hnb13 := NB211_209.out; have hnc13 := NB209_211.out; have hz14 := cz2 BK211) | ((with_reducible refine gC 186 ?_); refine cL (some 18) Try.func186 #[.agg #[.int .i64 ((rd_T166 l0 x4_1).f0), .int .i64 ((rd_T166 l0 x4_1).f1)]] ?_; (with_reducible refine (spec_PointOk.calls ((rd_T166 l0 x4_1).f0) ((rd_T166 l0 x4_1).f1) true _ A8.out).mono ?_); rintro e w15 ⟨rfl, hb⟩; refine ⟨_, rfl, ?_⟩; replace BK208 := kB (g := gb208) hb; replace BK209 := kB (g := gb209) hb; replace BK211 := Aside0.mk (blk_below (g := gb211) (o := .cells #[.int .i64 ((rd_T166 l0 x4_1).f0), .int .i64 ((rd_T166 l0 x4_1).f1)] 166 (0, 0)) kS hb); replace HB := hB hb; (try clear hb); (try clear hb2); (try clear hk); (try clear hi); have hz16 := cz2 BK211; have hnb17 := NB209_208.out; have hnc17 := NB208_209.out; have hz18 := cz4 BK209))
              go_roundg k1
              case measure => have := HK1.out; omega
              case rel => exact ⟨(wrap64 (x4_1 + 1)), (x209000_1), (x209001_1), (x209002_1), (x209003_1), ((rd_T166 l0 x4_1).f0), ((rd_T166 l0 x4_1).f1), ((rd_T166 l0 x4_1).f0), ((rd_T166 l0 x4_1).f1), (by first | rfl | (simp; done) | (simp [*]; done)), H', ⟨by have := HK1.out; omega⟩, ⟨kS⟩, ⟨kS⟩, ⟨bS⟩⟩
            · rw [if_neg c10] at H
              have c10b0 : (x4_1 == 0) = false := beq_eq_false_iff_ne.mpr c10
              have c10b1 : (x4_1 != 0) = true := bne_iff_ne.mpr c10
              obtain ⟨ji19, hji19⟩ : ∃ j_ : Int, (mn x210000_1 ((rd_T166 l0 x4_1).f0)) = j_ := ⟨_, rfl⟩
              replace H : (spec_BoxOf.l0 k1 l0 (wrap64 (x4_1 + 1)) ji19 (mn x210001_1 ((rd_T166 l0 x4_1).f1)) (mx x210002_1 ((rd_T166 l0 x4_1).f0)) (mx x210003_1 ((rd_T166 l0 x4_1).f1))) = some (r1, r2, r3, r4) := by first | (rw [hji19] at H; exact H) | (simp only [hji19] at H ⊢; exact H)
              (try rw [hji19] at A8)
              have hji19_ : (if ((rd_T166 l0 x4_1).f0) < x210000_1 then ((rd_T166 l0 x4_1).f0) else x210000_1) = ji19 := hji19
              obtain ⟨ji20, hji20⟩ : ∃ j_ : Int, (mn x210001_1 ((rd_T166 l0 x4_1).f1)) = j_ := ⟨_, rfl⟩
              replace H : (spec_BoxOf.l0 k1 l0 (wrap64 (x4_1 + 1)) ji19 ji20 (mx x210002_1 ((rd_T166 l0 x4_1).f0)) (mx x210003_1 ((rd_T166 l0 x4_1).f1))) = some (r1, r2, r3, r4) := by first | (rw [hji20] at H; exact H) | (simp only [hji20] at H ⊢; exact H)
              (try rw [hji20] at A8)
              have hji20_ : (if ((rd_T166 l0 x4_1).f1) < x210001_1 then ((rd_T166 l0 x4_1).f1) else x210001_1) = ji20 := hji20
              obtain ⟨ji21, hji21⟩ : ∃ j_ : Int, (mx x210002_1 ((rd_T166 l0 x4_1).f0)) = j_ := ⟨_, rfl⟩
              replace H : (spec_BoxOf.l0 k1 l0 (wrap64 (x4_1 + 1)) ji19 ji20 ji21 (mx x210003_1 ((rd_T166 l0 x4_1).f1))) = some (r1, r2, r3, r4) := by first | (rw [hji21] at H; exact H) | (simp only [hji21] at H ⊢; exact H)
              (try rw [hji21] at A8)
              have hji21_ : (if x210002_1 < ((rd_T166 l0 x4_1).f0) then ((rd_T166 l0 x4_1).f0) else x210002_1) = ji21 := hji21
              obtain ⟨ji22, hji22⟩ : ∃ j_ : Int, (mx x210003_1 ((rd_T166 l0 x4_1).f1)) = j_ := ⟨_, rfl⟩
              replace H : (spec_BoxOf.l0 k1 l0 (wrap64 (x4_1 + 1)) ji19 ji20 ji21 ji22) = some (r1, r2, r3, r4) := by first | (rw [hji22] at H; exact H) | (simp only [hji22] at H ⊢; exact H)
              (try rw [hji22] at A8)
              have hji22_ : (if x210003_1 < ((rd_T166 l0 x4_1).f1) then ((rd_T166 l0 x4_1).f1) else x210003_1) = ji22 := hji22
              have H' := Aside0.mk H
              clear H
              have p210 : 0 ≤ (x4_1 : Int) := of_decide_eq_true (by first | (with_reducible assumption) | assumption)
              have q210 : x4_1 < (l0.length : Int) := of_decide_eq_true (by first | (with_reducible assumption) | assumption)
              obtain ⟨ad210, e210, hx210_0, hx210_1⟩ := at_T166 HR0.out x4_1 p210 q210
              cases e210
              replace hx210_0 := (HB.out.cell (World.block_lt_of_cell? w _ hx210_0)).trans hx210_0
              replace hx210_1 := (HB.out.cell (World.block_lt_of_cell? w _ hx210_1)).trans hx210_1
              replace p210 := eq_true p210
              replace q210 := eq_true q210
              go_wp2_with (first | ((with_reducible refine gD 5 ?_); refine bxE #[.int .i64 0, .int .i64 0] 166 ?_; intro gb211 hg w23 BK211 hb; have GW211 := gE hg; have GE211 := gE hg; have NB208_211 := nL (g := gb208) hg; have NB211_208 := nG (g := gb208) hg; have NB209_211 := nL (g := gb209) hg; have NB211_209 := nG (g := gb209) hg; replace BK208 := kB (g := gb208) hb; replace BK209 := kB (g := gb209) hb; replace HB := hB hb; clear hb hg; have hnb24 := NB211_208.out; have hnc24 := NB208_211.out; have hnb25 := NB211_209.out; have hnc25 := NB209_211.out; have hz26 := cz2 BK211) | ((with_reducible refine gC 186 ?_); refine cL (some 18) Try.func186 #[.agg #[.int .i64 ((rd_T166 l0 x4_1).f0), .int .i64 ((rd_T166 l0 x4_1).f1)]] ?_; (with_reducible refine (spec_PointOk.calls ((rd_T166 l0 x4_1).f0) ((rd_T166 l0 x4_1).f1) true _ A8.out).mono ?_); rintro e w27 ⟨rfl, hb⟩; refine ⟨_, rfl, ?_⟩; replace BK208 := kB (g := gb208) hb; replace BK209 := kB (g := gb209) hb; replace BK211 := Aside0.mk (blk_below (g := gb211) (o := .cells #[.int .i64 ((rd_T166 l0 x4_1).f0), .int .i64 ((rd_T166 l0 x4_1).f1)] 166 (0, 0)) kS hb); replace HB := hB hb; (try clear hb); (try clear hb2); (try clear hk); (try clear hi); have hnb28 := NB209_208.out; have hnc28 := NB208_209.out; have hz29 := cz4 BK209; have hz30 := cz2 BK211))
              go_roundg k1
              case measure => have := HK1.out; omega
              case rel => exact ⟨(wrap64 (x4_1 + 1)), (x209000_1), (x209001_1), (x209002_1), (x209003_1), (ji19), (ji20), (ji21), (ji22), (by first | rfl | (simp; done) | (simp [*]; done)), H', ⟨by have := HK1.out; omega⟩, ⟨kS⟩, ⟨kS⟩, ⟨bS⟩⟩
          · obtain rfl := Bool.eq_false_iff.mpr c9
            rw [if_neg nF] at H
            simp only [Option.some.injEq, Prod.mk.injEq] at H
            obtain ⟨rfl, rfl, rfl, rfl⟩ := H
            have p210 : 0 ≤ (x4_1 : Int) := of_decide_eq_true (by first | (with_reducible assumption) | assumption)
            have q210 : x4_1 < (l0.length : Int) := of_decide_eq_true (by first | (with_reducible assumption) | assumption)
            obtain ⟨ad210, e210, hx210_0, hx210_1⟩ := at_T166 HR0.out x4_1 p210 q210
            cases e210
            replace hx210_0 := (HB.out.cell (World.block_lt_of_cell? w _ hx210_0)).trans hx210_0
            replace hx210_1 := (HB.out.cell (World.block_lt_of_cell? w _ hx210_1)).trans hx210_1
            replace p210 := eq_true p210
            replace q210 := eq_true q210
            go_wp2_with (first | ((with_reducible refine gD 5 ?_); refine bxE #[.int .i64 0, .int .i64 0] 166 ?_; intro gb211 hg w31 BK211 hb; have GW211 := gE hg; have GE211 := gE hg; have NB208_211 := nL (g := gb208) hg; have NB211_208 := nG (g := gb208) hg; have NB209_211 := nL (g := gb209) hg; have NB211_209 := nG (g := gb209) hg; replace BK208 := kB (g := gb208) hb; replace BK209 := kB (g := gb209) hb; replace HB := hB hb; clear hb hg; have hnb32 := NB211_208.out; have hnc32 := NB208_211.out; have hnb33 := NB211_209.out; have hnc33 := NB209_211.out; have hz34 := cz2 BK211) | ((with_reducible refine gC 186 ?_); refine cL (some 18) Try.func186 #[.agg #[.int .i64 ((rd_T166 l0 x4_1).f0), .int .i64 ((rd_T166 l0 x4_1).f1)]] ?_; (with_reducible refine (spec_PointOk.calls ((rd_T166 l0 x4_1).f0) ((rd_T166 l0 x4_1).f1) false _ A8.out).mono ?_); rintro e w35 ⟨rfl, hb⟩; refine ⟨_, rfl, ?_⟩; replace BK208 := kB (g := gb208) hb; replace BK209 := kB (g := gb209) hb; replace BK211 := Aside0.mk (blk_below (g := gb211) (o := .cells #[.int .i64 ((rd_T166 l0 x4_1).f0), .int .i64 ((rd_T166 l0 x4_1).f1)] 166 (0, 0)) kS hb); replace HB := hB hb; (try clear hb); (try clear hb2); (try clear hk); (try clear hi); have hnb36 := NB208_209.out; have hnc36 := NB209_208.out; have hz37 := cz4 BK208))
            refine bodyPost_ret (results_cell_row rfl _ _ gb208 39 #[.int .i64 0, .int .i64 0, .int .i64 0, .int .i64 0] (0, 0) _ rfl kS Try.underlying39 rfl (by kernel_rfl)) rfl ?_
            exact ⟨eS, bS⟩
        · rw [if_neg c7] at H
          exact absurd H (by simp)
      · rw [if_neg c6] at H
        have c6b0 : decide (x4_1 < (l0.length : Int)) = false := decide_eq_false c6
        clear c6
        simp only [Option.some.injEq, Prod.mk.injEq] at H
        obtain ⟨rfl, rfl, rfl, rfl⟩ := H
        have hnb38 := NB209_208.out
        have hnc38 := NB208_209.out
        have hz39 := cz4 BK209
        have hz40 := cz4 BK208
        go_wp2
        refine bodyPost_ret (results_cell_row rfl _ _ gb208 39 #[.int .i64 x210000_1, .int .i64 x210001_1, .int .i64 x210002_1, .int .i64 x210003_1] (0, 0) _ rfl kS Try.underlying39 rfl (by kernel_rfl)) rfl ?_
        exact ⟨eS, bS⟩

/-! ### spec_ObjectBox: function 154 -/
def spec_ObjectBox.f (k : Nat) (l0_0 : List (S166)) (a0_1 : Int) (a0_2 : Int) (a0_3 : Int) (a0_4 : Int) (a0_5 : Int) : Option (Int × Int × Int × Int) := (spec_ObjectOk.f k l0_0 a0_1 a0_2 a0_3 a0_4 a0_5).bind fun t215 => (if t215 = true then ((spec_BoxOf.f k l0_0).bind fun bt216 => ((spec_MeetBox.f bt216.1 bt216.2.1 bt216.2.2.1 bt216.2.2.2 a0_2 a0_3 a0_4 a0_5).bind fun bt220 => ((spec_l07Full.f).bind fun bt224 => ((spec_MeetBox.f bt220.1 bt220.2.1 bt220.2.2.1 bt220.2.2.2 bt224.1 bt224.2.1 bt224.2.2.1 bt224.2.2.2).bind fun bt228 => (some (bt228.1, bt228.2.1, bt228.2.2.1, bt228.2.2.2)))))) else (some (0, 0, 0, 0)))
def spec_ObjectBox.T3 : Bool × List (List Nat × List Nat) := (true, [([], []), ([0], [0]), ([1], [1]), ([], []), ([3], [3]), ([2, 4, 2], [2, 4]), ([5], []), ([5, 6, 6], [5, 6]), ([7, 7, 0, 1, 2, 3, 4, 5, 6, 7], [7])])
def spec_ObjectBox.B3 : List Nat := [0, 1, 3, 0, 8, 31, 63, 127, 255]
theorem spec_ObjectBox.tab3 : rtab .any (opsOf Try.f154 3) = spec_ObjectBox.T3 := by kernel_rfl
theorem spec_ObjectBox.bits3 : waitsOk spec_ObjectBox.T3.2 spec_ObjectBox.B3 = true := by kernel_rfl
theorem spec_ObjectBox.calls (k : Nat) (A0_0 : Option Addr) (c0_0 : Nat) (l0_0 : List (S166)) (a0_1 : Int) (a0_2 : Int) (a0_3 : Int) (a0_4 : Int) (a0_5 : Int) (r1 : Int) (r2 : Int) (r3 : Int) (r4 : Int) (w : World) (hr0_0 : Kd.C k166 w A0_0 l0_0.length l0_0) (hc0_0 : l0_0.length ≤ c0_0) (h : spec_ObjectBox.f k l0_0 a0_1 a0_2 a0_3 a0_4 a0_5 = some (r1, r2, r3, r4)) :
    Calls Try.prog 154 #[.agg #[.slice A0_0 l0_0.length c0_0, .int .i64 a0_1, .int .i64 a0_2, .int .i64 a0_3, .int .i64 a0_4, .int .i64 a0_5]] w fun e w' => e = .returned (.agg #[.int .i64 r1, .int .i64 r2, .int .i64 r3, .int .i64 r4]) ∧ Below w.heap.size w w' := by
  have hu41 := Try.underlying41
  have hu39 := Try.underlying39
  have HR0_0 := Aside0.mk hr0_0
  have HC0_0 := Aside0.mk hc0_0
  clear hr0_0 hc0_0
  have HB := Aside0.mk (Below.refl w.heap.size w)
  have H : ((spec_ObjectOk.f k l0_0 a0_1 a0_2 a0_3 a0_4 a0_5).bind fun t215 => (if t215 = true then ((spec_BoxOf.f k l0_0).bind fun bt216 => ((spec_MeetBox.f bt216.1 bt216.2.1 bt216.2.2.1 bt216.2.2.2 a0_2 a0_3 a0_4 a0_5).bind fun bt220 => ((spec_l07Full.f).bind fun bt224 => ((spec_MeetBox.f bt220.1 bt220.2.1 bt220.2.2.1 bt220.2.2.2 bt224.1 bt224.2.1 bt224.2.2.1 bt224.2.2.2).bind fun bt228 => (some (bt228.1, bt228.2.1, bt228.2.2.1, bt228.2.2.2)))))) else (some (0, 0, 0, 0)))) = some (r1, r2, r3, r4) := h
  clear h
  replace H := bN H
  obtain ⟨t215, A2, H⟩ := H
  by_cases c3 : t215 = true
  · subst c3
    rw [if_pos rfl] at H
    replace H := bN H
    obtain ⟨⟨t216, t217, t218, t219⟩, A4, H⟩ := H
    replace H := bN H
    obtain ⟨⟨t220, t221, t222, t223⟩, A5, H⟩ := H
    replace H := bN H
    obtain ⟨⟨t224, t225, t226, t227⟩, A6, H⟩ := H
    replace H := bN H
    obtain ⟨⟨t228, t229, t230, t231⟩, A7, H⟩ := H
    simp only [Option.some.injEq, Prod.mk.injEq] at H
    obtain ⟨rfl, rfl, rfl, rfl⟩ := H
    go_enter Try.func154, Try.ntmps154
    try go_wp2_with (first | ((with_reducible refine gD 1 ?_); refine bxE #[.slice A0_0 l0_0.length c0_0, .int .i64 a0_1, .int .i64 a0_2, .int .i64 a0_3, .int .i64 a0_4, .int .i64 a0_5] 41 ?_; intro gb213 hg w8 BK213 hb; have GW213 := gE hg; have GE213 := gE hg; replace HB := hB hb; clear hb hg) | ((with_reducible refine gD 2 ?_); refine bxE #[.int .i64 0, .int .i64 0, .int .i64 0, .int .i64 0] 39 ?_; intro gb214 hg w9 BK214 hb; have GW214 := gE hg; have GE214 := gE hg; have NB213_214 := nL (g := gb213) hg; have NB214_213 := nG (g := gb213) hg; replace BK213 := kB (g := gb213) hb; replace HB := hB hb; clear hb hg; have hnb10 := NB213_214.out; have hnc10 := NB214_213.out; have hz11 := cz6 BK213) | ((with_reducible refine gC 177 ?_); refine cL (some 4) Try.func177 #[.agg #[.slice A0_0 l0_0.length c0_0, .int .i64 a0_1, .int .i64 a0_2, .int .i64 a0_3, .int .i64 a0_4, .int .i64 a0_5]] ?_; (with_reducible refine (spec_ObjectOk.calls k _ _ l0_0 a0_1 a0_2 a0_3 a0_4 a0_5 true _ ?side1 ?side2 A2.out).mono ?_); (case side1 => exact cS (Kd.C_below HR0_0.out HB.out)); (case side2 => exact HC0_0.out); rintro e w12 ⟨rfl, hb⟩; refine ⟨_, rfl, ?_⟩; replace BK213 := kB (g := gb213) hb; replace BK214 := kB (g := gb214) hb; replace HB := hB hb; (try clear hb); (try clear hb2); (try clear hk); (try clear hi)))
    replace BK213 := Aside0.mk (blk_drew BK213.out)
    replace BK214 := Aside0.mk (blk_drew BK214.out)
    replace HB := Aside0.mk (below_drew1 HB.out)
    refine start_ (n := 9) (S := fun w' => w'.cell? ⟨gb213, 0, none⟩ = some (.slice A0_0 l0_0.length c0_0) ∧ w'.cell? ⟨gb213, 1, none⟩ = some (.int .i64 a0_1) ∧ w'.cell? ⟨gb213, 2, none⟩ = some (.int .i64 a0_2) ∧ w'.cell? ⟨gb213, 3, none⟩ = some (.int .i64 a0_3) ∧ w'.cell? ⟨gb213, 4, none⟩ = some (.int .i64 a0_4) ∧ w'.cell? ⟨gb213, 5, none⟩ = some (.int .i64 a0_5)) (ds := []) #[false, false, false, false, false, false, false, false, false] (by kernel_rfl) rfl rfl ⟨(blk_cell BK213.out 0).trans rfl, (blk_cell BK213.out 1).trans rfl, (blk_cell BK213.out 2).trans rfl, (blk_cell BK213.out 3).trans rfl, (blk_cell BK213.out 4).trans rfl, (blk_cell BK213.out 5).trans rfl⟩ (fun hHeld => ?_); refine with_tabW spec_ObjectBox.tab3 spec_ObjectBox.bits3 (fun HT_ HW_ => ?_)
    generalize w12.drew = w13 at BK213 BK214 HB hHeld ⊢
    refine pure_ (i := 0) (N := some 7) (v := ?_) (a' := ?_) #[true, false, false, false, false, false, false, false, false] rfl rfl (any_of HT_.out (by kernel_rfl)) (fun _ _ _ h => h) (Or.inl ⟨by rfl, ?_⟩) ?_ ?_
    rotate_left
    · intro w'
      go_simp
      with_reducible rfl
    rotate_left
    · simp only [Act.put, List.setIfInBounds_toArray, List.set_cons_zero, List.set_cons_succ, i64_w, i32_w]
      rfl
    refine pure_ (i := 3) (N := some 10) (v := ?_) (a' := ?_) #[true, false, false, true, false, false, false, false, false] rfl rfl (any_of HT_.out (by kernel_rfl)) (fun _ _ _ h => h) (Or.inl ⟨by rfl, ?_⟩) ?_ ?_
    rotate_left
    · intro w'
      go_simp
      with_reducible rfl
    rotate_left
    · simp only [Act.put, List.setIfInBounds_toArray, List.set_cons_zero, List.set_cons_succ, i64_w, i32_w]
      rfl
    refine take_ (i := 1) (N := some 8) (v := ?_) (a' := ?_) #[true, true, false, true, false, false, false, false, false] rfl rfl (take_ofW HT_.out HW_.out (by kernel_rfl)) (fun _ _ _ h => h) (Or.inl ⟨by rfl, ?_⟩) hHeld ?_ ?_
    rotate_left
    · rintro w' ⟨s0, s1, s2, s3, s4, s5⟩
      go_simp
      with_reducible rfl
    rotate_left
    · simp only [Act.put, List.setIfInBounds_toArray, List.set_cons_zero, List.set_cons_succ, i64_w, i32_w]
      rfl
    refine take_ (i := 4) (N := some 11) (v := ?_) (a' := ?_) #[true, true, false, true, true, false, false, false, false] rfl rfl (take_ofW HT_.out HW_.out (by kernel_rfl)) (fun _ _ _ h => h) (Or.inl ⟨by rfl, ?_⟩) hHeld ?_ ?_
    rotate_left
    · rintro w' ⟨s0, s1, s2, s3, s4, s5⟩
      go_simp
      with_reducible rfl
    rotate_left
    · simp only [Act.put, List.setIfInBounds_toArray, List.set_cons_zero, List.set_cons_succ, i64_w, i32_w]
      rfl
    refine one_ (i := 2) (N := some 9) #[true, true, true, true, true, false, false, false, false] rfl rfl (one_of HT_.out (by kernel_rfl)) (by decide) (fun K hK => ?_)
    refine goes_ Try.func179 (by kernel_rfl) rfl #[.slice A0_0 l0_0.length c0_0] (by rfl) rfl rfl (by (try simp only [List.map_toArray, List.map_cons, List.map_nil]); first | done | rfl | (simp only [List.length_drop, List.length_take]; rfl)) ?_
    with_reducible refine (spec_BoxOf.calls k _ _ l0_0 t216 t217 t218 t219 _ ?side1 ?side2 A4.out).mono ?_
    (case side1 => exact cS (Kd.C_below HR0_0.out HB.out))
    (case side2 => exact HC0_0.out)
    rintro e w14 ⟨rfl, hb⟩
    refine ⟨_, rfl, ?_⟩
    replace BK213 := kB (g := gb213) hb
    replace BK214 := kB (g := gb214) hb
    replace HB := hB hb
    (try clear hb)
    (try clear hb2)
    (try clear hk)
    (try clear hi)
    refine hK.out _ _ ⟨(blk_cell BK213.out 0).trans rfl, (blk_cell BK213.out 1).trans rfl, (blk_cell BK213.out 2).trans rfl, (blk_cell BK213.out 3).trans rfl, (blk_cell BK213.out 4).trans rfl, (blk_cell BK213.out 5).trans rfl⟩ (fun hHeld => ?_)
    clear hK K
    refine norm_ (a' := ?_) ?_ ?_
    rotate_left
    · show Act.put _ (some 9) _ = _
      simp only [Act.put, List.setIfInBounds_toArray, List.set_cons_zero, List.set_cons_succ, i64_w, i32_w]
      rfl
    refine one_ (i := 5) (N := some 12) #[true, true, true, true, true, true, false, false, false] rfl rfl (one_of HT_.out (by kernel_rfl)) (by decide) (fun K hK => ?_)
    refine goes_ Try.func178 (by kernel_rfl) rfl #[.agg #[.int .i64 t216, .int .i64 t217, .int .i64 t218, .int .i64 t219], .agg #[.int .i64 a0_2, .int .i64 a0_3, .int .i64 a0_4, .int .i64 a0_5]] (by rfl) rfl rfl (by (try simp only [List.map_toArray, List.map_cons, List.map_nil]); first | done | rfl | (simp only [List.length_drop, List.length_take]; rfl)) ?_
    with_reducible refine (spec_MeetBox.calls t216 t217 t218 t219 a0_2 a0_3 a0_4 a0_5 t220 t221 t222 t223 _ A5.out).mono ?_
    rintro e w15 ⟨rfl, hb⟩
    refine ⟨_, rfl, ?_⟩
    replace BK213 := kB (g := gb213) hb
    replace BK214 := kB (g := gb214) hb
    replace HB := hB hb
    (try clear hb)
    (try clear hb2)
    (try clear hk)
    (try clear hi)
    refine hK.out _ _ ⟨(blk_cell BK213.out 0).trans rfl, (blk_cell BK213.out 1).trans rfl, (blk_cell BK213.out 2).trans rfl, (blk_cell BK213.out 3).trans rfl, (blk_cell BK213.out 4).trans rfl, (blk_cell BK213.out 5).trans rfl⟩ (fun hHeld => ?_)
    clear hK K
    refine norm_ (a' := ?_) ?_ ?_
    rotate_left
    · show Act.put _ (some 12) _ = _
      simp only [Act.put, List.setIfInBounds_toArray, List.set_cons_zero, List.set_cons_succ, i64_w, i32_w]
      rfl
    refine one_ (i := 6) (N := some 13) #[true, true, true, true, true, true, true, false, false] rfl rfl (one_of HT_.out (by kernel_rfl)) (by decide) (fun K hK => ?_)
    refine goes_ Try.func146 (by kernel_rfl) rfl #[] (by rfl) rfl rfl (by (try simp only [List.map_toArray, List.map_cons, List.map_nil]); first | done | rfl | (simp only [List.length_drop, List.length_take]; rfl)) ?_
    with_reducible refine (spec_l07Full.calls  t224 t225 t226 t227 _ A6.out).mono ?_
    rintro e w16 ⟨rfl, hb⟩
    refine ⟨_, rfl, ?_⟩
    replace BK213 := kB (g := gb213) hb
    replace BK214 := kB (g := gb214) hb
    replace HB := hB hb
    (try clear hb)
    (try clear hb2)
    (try clear hk)
    (try clear hi)
    refine hK.out _ _ ⟨(blk_cell BK213.out 0).trans rfl, (blk_cell BK213.out 1).trans rfl, (blk_cell BK213.out 2).trans rfl, (blk_cell BK213.out 3).trans rfl, (blk_cell BK213.out 4).trans rfl, (blk_cell BK213.out 5).trans rfl⟩ (fun hHeld => ?_)
    clear hK K
    refine norm_ (a' := ?_) ?_ ?_
    rotate_left
    · show Act.put _ (some 13) _ = _
      simp only [Act.put, List.setIfInBounds_toArray, List.set_cons_zero, List.set_cons_succ, i64_w, i32_w]
      rfl
    refine one_ (i := 7) (N := some 14) #[true, true, true, true, true, true, true, true, false] rfl rfl (one_of HT_.out (by kernel_rfl)) (by decide) (fun K hK => ?_)
    refine goes_ Try.func178 (by kernel_rfl) rfl #[.agg #[.int .i64 t220, .int .i64 t221, .int .i64 t222, .int .i64 t223], .agg #[.int .i64 t224, .int .i64 t225, .int .i64 t226, .int .i64 t227]] (by rfl) rfl rfl (by (try simp only [List.map_toArray, List.map_cons, List.map_nil]); first | done | rfl | (simp only [List.length_drop, List.length_take]; rfl)) ?_
    with_reducible refine (spec_MeetBox.calls t220 t221 t222 t223 t224 t225 t226 t227 t228 t229 t230 t231 _ A7.out).mono ?_
    rintro e w17 ⟨rfl, hb⟩
    refine ⟨_, rfl, ?_⟩
    replace BK213 := kB (g := gb213) hb
    replace BK214 := kB (g := gb214) hb
    replace HB := hB hb
    (try clear hb)
    (try clear hb2)
    (try clear hk)
    (try clear hi)
    refine hK.out _ _ ⟨(blk_cell BK213.out 0).trans rfl, (blk_cell BK213.out 1).trans rfl, (blk_cell BK213.out 2).trans rfl, (blk_cell BK213.out 3).trans rfl, (blk_cell BK213.out 4).trans rfl, (blk_cell BK213.out 5).trans rfl⟩ (fun hHeld => ?_)
    clear hK K
    refine norm_ (a' := ?_) ?_ ?_
    rotate_left
    · show Act.put _ (some 14) _ = _
      simp only [Act.put, List.setIfInBounds_toArray, List.set_cons_zero, List.set_cons_succ, i64_w, i32_w]
      rfl
    refine one_ (i := 8) (N := none) #[true, true, true, true, true, true, true, true, true] rfl rfl (one_of HT_.out (by kernel_rfl)) (by decide) (fun K hK => ?_)
    have hs18 : w17.cell? ⟨gb214, 0, none⟩ = some (.int .i64 0) := (blk_cell BK214.out 0).trans rfl
    have hfs18 := blk_frozen BK214.out 0
    have hns18_0 := NB213_214.out
    have hms18_0 := NB214_213.out
    have hs19 : w17.cell? ⟨gb214, 1, none⟩ = some (.int .i64 0) := (blk_cell BK214.out 1).trans rfl
    have hfs19 := blk_frozen BK214.out 1
    have hns19_0 := NB213_214.out
    have hms19_0 := NB214_213.out
    have hs20 : w17.cell? ⟨gb214, 2, none⟩ = some (.int .i64 0) := (blk_cell BK214.out 2).trans rfl
    have hfs20 := blk_frozen BK214.out 2
    have hns20_0 := NB213_214.out
    have hms20_0 := NB214_213.out
    have hs21 : w17.cell? ⟨gb214, 3, none⟩ = some (.int .i64 0) := (blk_cell BK214.out 3).trans rfl
    have hfs21 := blk_frozen BK214.out 3
    have hns21_0 := NB213_214.out
    have hms21_0 := NB214_213.out
    refine skip_ (w1 := ?_) (by rfl) rfl ?_ ?_
    rotate_left
    · go_simp
      rfl
    refine hK.out _ _ ⟨((cell_far (p := ⟨gb214, _, none⟩) NB213_214.out _).trans (((cell_far (p := ⟨gb214, _, none⟩) NB213_214.out _).trans (((cell_far (p := ⟨gb214, _, none⟩) NB213_214.out _).trans (((cell_far (p := ⟨gb214, _, none⟩) NB213_214.out _).trans (hHeld.1)))))))), ((cell_far (p := ⟨gb214, _, none⟩) NB213_214.out _).trans (((cell_far (p := ⟨gb214, _, none⟩) NB213_214.out _).trans (((cell_far (p := ⟨gb214, _, none⟩) NB213_214.out _).trans (((cell_far (p := ⟨gb214, _, none⟩) NB213_214.out _).trans (hHeld.2.1)))))))), ((cell_far (p := ⟨gb214, _, none⟩) NB213_214.out _).trans (((cell_far (p := ⟨gb214, _, none⟩) NB213_214.out _).trans (((cell_far (p := ⟨gb214, _, none⟩) NB213_214.out _).trans (((cell_far (p := ⟨gb214, _, none⟩) NB213_214.out _).trans (hHeld.2.2.1)))))))), ((cell_far (p := ⟨gb214, _, none⟩) NB213_214.out _).trans (((cell_far (p := ⟨gb214, _, none⟩) NB213_214.out _).trans (((cell_far (p := ⟨gb214, _, none⟩) NB213_214.out _).trans (((cell_far (p := ⟨gb214, _, none⟩) NB213_214.out _).trans (hHeld.2.2.2.1)))))))), ((cell_far (p := ⟨gb214, _, none⟩) NB213_214.out _).trans (((cell_far (p := ⟨gb214, _, none⟩) NB213_214.out _).trans (((cell_far (p := ⟨gb214, _, none⟩) NB213_214.out _).trans (((cell_far (p := ⟨gb214, _, none⟩) NB213_214.out _).trans (hHeld.2.2.2.2.1)))))))), ((cell_far (p := ⟨gb214, _, none⟩) NB213_214.out _).trans (((cell_far (p := ⟨gb214, _, none⟩) NB213_214.out _).trans (((cell_far (p := ⟨gb214, _, none⟩) NB213_214.out _).trans (((cell_far (p := ⟨gb214, _, none⟩) NB213_214.out _).trans (hHeld.2.2.2.2.2))))))))⟩ (fun hHeld => ?_)
    clear hK K
    refine done_ (done_of HT_.out (by kernel_rfl)) ?_
    try go_wp2
    refine bodyPost_ret (results_cell_row rfl _ _ gb214 39 #[.int .i64 t228, .int .i64 t229, .int .i64 t230, .int .i64 t231] (0, 0) _ rfl kS Try.underlying39 rfl (by kernel_rfl)) rfl ?_
    exact ⟨eS, bS⟩
  · obtain rfl := Bool.eq_false_iff.mpr c3
    rw [if_neg nF] at H
    simp only [Option.some.injEq, Prod.mk.injEq] at H
    obtain ⟨rfl, rfl, rfl, rfl⟩ := H
    go_enter Try.func154, Try.ntmps154
    go_wp2_with (first | ((with_reducible refine gD 1 ?_); refine bxE #[.slice A0_0 l0_0.length c0_0, .int .i64 a0_1, .int .i64 a0_2, .int .i64 a0_3, .int .i64 a0_4, .int .i64 a0_5] 41 ?_; intro gb213 hg w22 BK213 hb; have GW213 := gE hg; have GE213 := gE hg; replace HB := hB hb; clear hb hg) | ((with_reducible refine gD 2 ?_); refine bxE #[.int .i64 0, .int .i64 0, .int .i64 0, .int .i64 0] 39 ?_; intro gb214 hg w23 BK214 hb; have GW214 := gE hg; have GE214 := gE hg; have NB213_214 := nL (g := gb213) hg; have NB214_213 := nG (g := gb213) hg; replace BK213 := kB (g := gb213) hb; replace HB := hB hb; clear hb hg; have hnb24 := NB213_214.out; have hnc24 := NB214_213.out; have hz25 := cz6 BK213) | ((with_reducible refine gC 177 ?_); refine cL (some 4) Try.func177 #[.agg #[.slice A0_0 l0_0.length c0_0, .int .i64 a0_1, .int .i64 a0_2, .int .i64 a0_3, .int .i64 a0_4, .int .i64 a0_5]] ?_; (with_reducible refine (spec_ObjectOk.calls k _ _ l0_0 a0_1 a0_2 a0_3 a0_4 a0_5 false _ ?side1 ?side2 A2.out).mono ?_); (case side1 => exact cS (Kd.C_below HR0_0.out HB.out)); (case side2 => exact HC0_0.out); rintro e w26 ⟨rfl, hb⟩; refine ⟨_, rfl, ?_⟩; replace BK213 := kB (g := gb213) hb; replace BK214 := kB (g := gb214) hb; replace HB := hB hb; (try clear hb); (try clear hb2); (try clear hk); (try clear hi); have hz27 := cz4 BK214))
    refine bodyPost_ret (results_cell_row rfl _ _ gb214 39 #[.int .i64 0, .int .i64 0, .int .i64 0, .int .i64 0] (0, 0) _ rfl kS Try.underlying39 rfl (by kernel_rfl)) rfl ?_
    exact ⟨eS, bS⟩

/-! ### spec_CountDots: function 162 -/
def spec_CountDots.f (a0_0 : Int) (a0_1 : Int) (a0_2 : Int) (a0_3 : Int) : Option (Int) := (spec_BoxOk.f a0_0 a0_1 a0_2 a0_3).bind fun t233 => (if t233 = true then (some (wrap64 ((wrap64 (a0_2 - a0_0)) * (wrap64 (a0_3 - a0_1))))) else (some 0))
theorem spec_CountDots.calls (a0_0 : Int) (a0_1 : Int) (a0_2 : Int) (a0_3 : Int) (r : Int) (w : World) (h : spec_CountDots.f a0_0 a0_1 a0_2 a0_3 = some r) :
    Calls Try.prog 162 #[.agg #[.int .i64 a0_0, .int .i64 a0_1, .int .i64 a0_2, .int .i64 a0_3]] w fun e w' => e = .returned (.int .i64 r) ∧ Below w.heap.size w w' := by
  have hu39 := Try.underlying39
  have HB := Aside0.mk (Below.refl w.heap.size w)
  have H : ((spec_BoxOk.f a0_0 a0_1 a0_2 a0_3).bind fun t233 => (if t233 = true then (some (wrap64 ((wrap64 (a0_2 - a0_0)) * (wrap64 (a0_3 - a0_1))))) else (some 0))) = some r := h
  clear h
  replace H := bN H
  obtain ⟨t233, A2, H⟩ := H
  by_cases c3 : t233 = true
  · subst c3
    rw [if_pos rfl] at H
    obtain rfl := Option.some.inj H
    go_enter Try.func162, Try.ntmps162
    go_wp2_with (first | ((with_reducible refine gD 1 ?_); refine bxE #[.int .i64 a0_0, .int .i64 a0_1, .int .i64 a0_2, .int .i64 a0_3] 39 ?_; intro gb232 hg w4 BK232 hb; have GW232 := gE hg; have GE232 := gE hg; replace HB := hB hb; clear hb hg; have hz5 := cz4 BK232) | ((with_reducible refine gC 170 ?_); refine cL (some 4) Try.func170 #[.agg #[.int .i64 a0_0, .int .i64 a0_1, .int .i64 a0_2, .int .i64 a0_3]] ?_; (with_reducible refine (spec_BoxOk.calls a0_0 a0_1 a0_2 a0_3 true _ A2.out).mono ?_); rintro e w6 ⟨rfl, hb⟩; refine ⟨_, rfl, ?_⟩; replace BK232 := kB (g := gb232) hb; replace HB := hB hb; (try clear hb); (try clear hb2); (try clear hk); (try clear hi); have hz7 := cz4 BK232))
    go_ret
    exact ⟨eS, bS⟩
  · obtain rfl := Bool.eq_false_iff.mpr c3
    rw [if_neg nF] at H
    obtain rfl := Option.some.inj H
    go_enter Try.func162, Try.ntmps162
    go_wp2_with (first | ((with_reducible refine gD 1 ?_); refine bxE #[.int .i64 a0_0, .int .i64 a0_1, .int .i64 a0_2, .int .i64 a0_3] 39 ?_; intro gb232 hg w8 BK232 hb; have GW232 := gE hg; have GE232 := gE hg; replace HB := hB hb; clear hb hg; have hz9 := cz4 BK232) | ((with_reducible refine gC 170 ?_); refine cL (some 4) Try.func170 #[.agg #[.int .i64 a0_0, .int .i64 a0_1, .int .i64 a0_2, .int .i64 a0_3]] ?_; (with_reducible refine (spec_BoxOk.calls a0_0 a0_1 a0_2 a0_3 false _ A2.out).mono ?_); rintro e w10 ⟨rfl, hb⟩; refine ⟨_, rfl, ?_⟩; replace BK232 := kB (g := gb232) hb; replace HB := hB hb; (try clear hb); (try clear hb2); (try clear hk); (try clear hi)))
    go_ret
    exact ⟨eS, bS⟩

/-! ### spec_TouchesBand: function 118 -/
def spec_TouchesBand.f (k : Nat) (l0_0 : List (S166)) (a0_1 : Int) (a0_2 : Int) (a0_3 : Int) (a0_4 : Int) (a0_5 : Int) (a1 : Int) (a2 : Int) : Option (Bool) := (spec_ObjectBox.f k l0_0 a0_1 a0_2 a0_3 a0_4 a0_5).bind fun bt235 => ((spec_l12Ok.f a1 a2).bind fun t240 => (if t240 = true then ((spec_CountDots.f bt235.1 bt235.2.1 bt235.2.2.1 bt235.2.2.2).bind fun t241 => (if t241 > 0 then (if bt235.2.1 < (wrap64 ((wrap64 (a2 * a1)) + a1)) then (some (decide (bt235.2.2.2 > (wrap64 (a2 * a1))))) else (some false)) else (some false))) else (some false)))
theorem spec_TouchesBand.calls (k : Nat) (A0_0 : Option Addr) (c0_0 : Nat) (l0_0 : List (S166)) (a0_1 : Int) (a0_2 : Int) (a0_3 : Int) (a0_4 : Int) (a0_5 : Int) (a1 : Int) (a2 : Int) (r : Bool) (w : World) (hr0_0 : Kd.C k166 w A0_0 l0_0.length l0_0) (hc0_0 : l0_0.length ≤ c0_0) (h : spec_TouchesBand.f k l0_0 a0_1 a0_2 a0_3 a0_4 a0_5 a1 a2 = some r) :
    Calls Try.prog 118 #[.agg #[.slice A0_0 l0_0.length c0_0, .int .i64 a0_1, .int .i64 a0_2, .int .i64 a0_3, .int .i64 a0_4, .int .i64 a0_5], .int .i64 a1, .int .i64 a2] w fun e w' => e = .returned (.bool r) ∧ Below w.heap.size w w' := by
  have hu41 := Try.underlying41
  have hu39 := Try.underlying39
  have HR0_0 := Aside0.mk hr0_0
  have HC0_0 := Aside0.mk hc0_0
  clear hr0_0 hc0_0
  have HB := Aside0.mk (Below.refl w.heap.size w)
  have H : ((spec_ObjectBox.f k l0_0 a0_1 a0_2 a0_3 a0_4 a0_5).bind fun bt235 => ((spec_l12Ok.f a1 a2).bind fun t240 => (if t240 = true then ((spec_CountDots.f bt235.1 bt235.2.1 bt235.2.2.1 bt235.2.2.2).bind fun t241 => (if t241 > 0 then (if bt235.2.1 < (wrap64 ((wrap64 (a2 * a1)) + a1)) then (some (decide (bt235.2.2.2 > (wrap64 (a2 * a1))))) else (some false)) else (some false))) else (some false)))) = some r := h
  clear h
  replace H := bN H
  obtain ⟨⟨t235, t236, t237, t238⟩, A4, H⟩ := H
  replace H := bN H
  obtain ⟨t240, A5, H⟩ := H
  by_cases c6 : t240 = true
  · subst c6
    rw [if_pos rfl] at H
    replace H := bN H
    obtain ⟨t241, A7, H⟩ := H
    by_cases c8 : t241 > 0
    · rw [if_pos c8] at H
      have c8b0 : decide (0 < t241) = true := decide_eq_true c8
      clear c8
      by_cases c9 : t236 < (wrap64 ((wrap64 (a2 * a1)) + a1))
      · rw [if_pos c9] at H
        have c9b0 : decide (t236 < (wrap64 ((wrap64 (a2 * a1)) + a1))) = true := decide_eq_true c9
        clear c9
        obtain rfl := Option.some.inj H
        go_enter Try.func118, Try.ntmps118
        go_wp2_with (first | ((with_reducible refine gD 3 ?_); refine bxE #[.slice A0_0 l0_0.length c0_0, .int .i64 a0_1, .int .i64 a0_2, .int .i64 a0_3, .int .i64 a0_4, .int .i64 a0_5] 41 ?_; intro gb234 hg w10 BK234 hb; have GW234 := gE hg; have GE234 := gE hg; replace HB := hB hb; clear hb hg; have hz11 := cz6 BK234) | ((with_reducible refine gC 154 ?_); refine cL (some 9) Try.func154 #[.agg #[.slice A0_0 l0_0.length c0_0, .int .i64 a0_1, .int .i64 a0_2, .int .i64 a0_3, .int .i64 a0_4, .int .i64 a0_5]] ?_; (with_reducible refine (spec_ObjectBox.calls k _ _ l0_0 a0_1 a0_2 a0_3 a0_4 a0_5 t235 t236 t237 t238 _ ?side1 ?side2 A4.out).mono ?_); (case side1 => exact cS (Kd.C_below HR0_0.out HB.out)); (case side2 => exact HC0_0.out); rintro e w12 ⟨rfl, hb⟩; refine ⟨_, rfl, ?_⟩; replace BK234 := kB (g := gb234) hb; replace HB := hB hb; (try clear hb); (try clear hb2); (try clear hk); (try clear hi)) | ((with_reducible refine gD 7 ?_); refine bxE #[.int .i64 0, .int .i64 0, .int .i64 0, .int .i64 0] 39 ?_; intro gb239 hg w13 BK239 hb; have GW239 := gE hg; have GE239 := gE hg; have NB234_239 := nL (g := gb234) hg; have NB239_234 := nG (g := gb234) hg; replace BK234 := kB (g := gb234) hb; replace HB := hB hb; clear hb hg; have hnb14 := NB239_234.out; have hnc14 := NB234_239.out; have hz15 := cz4 BK239) | ((with_reducible refine gC 113 ?_); refine cL (some 12) Try.func113 #[.int .i64 a1, .int .i64 a2] ?_; (with_reducible refine (spec_l12Ok.calls a1 a2 true _ A5.out).mono ?_); rintro e w' ⟨rfl, ⟨nd, rfl⟩⟩; refine ⟨_, rfl, ?_⟩) | (go_at_call 162; (with_reducible refine (spec_CountDots.calls t235 t236 t237 t238 t241 _ A7.out).mono ?_); rintro e w16 ⟨rfl, hb⟩; replace BK234 := kB (g := gb234) hb; replace BK239 := Aside0.mk (blk_below (g := gb239) (o := .cells #[.int .i64 t235, .int .i64 t236, .int .i64 t237, .int .i64 t238] 39 (0, 0)) kS hb); replace HB := hB hb; (try clear hb); (try clear hb2); (try clear hk); (try clear hi); have hz17 := cz4 BK239))
        go_ret
        exact ⟨eS, bS⟩
      · rw [if_neg c9] at H
        have c9b0 : decide (t236 < (wrap64 ((wrap64 (a2 * a1)) + a1))) = false := decide_eq_false c9
        clear c9
        obtain rfl := Option.some.inj H
        go_enter Try.func118, Try.ntmps118
        go_wp2_with (first | ((with_reducible refine gD 3 ?_); refine bxE #[.slice A0_0 l0_0.length c0_0, .int .i64 a0_1, .int .i64 a0_2, .int .i64 a0_3, .int .i64 a0_4, .int .i64 a0_5] 41 ?_; intro gb234 hg w18 BK234 hb; have GW234 := gE hg; have GE234 := gE hg; replace HB := hB hb; clear hb hg; have hz19 := cz6 BK234) | ((with_reducible refine gC 154 ?_); refine cL (some 9) Try.func154 #[.agg #[.slice A0_0 l0_0.length c0_0, .int .i64 a0_1, .int .i64 a0_2, .int .i64 a0_3, .int .i64 a0_4, .int .i64 a0_5]] ?_; (with_reducible refine (spec_ObjectBox.calls k _ _ l0_0 a0_1 a0_2 a0_3 a0_4 a0_5 t235 t236 t237 t238 _ ?side1 ?side2 A4.out).mono ?_); (case side1 => exact cS (Kd.C_below HR0_0.out HB.out)); (case side2 => exact HC0_0.out); rintro e w20 ⟨rfl, hb⟩; refine ⟨_, rfl, ?_⟩; replace BK234 := kB (g := gb234) hb; replace HB := hB hb; (try clear hb); (try clear hb2); (try clear hk); (try clear hi)) | ((with_reducible refine gD 7 ?_); refine bxE #[.int .i64 0, .int .i64 0, .int .i64 0, .int .i64 0] 39 ?_; intro gb239 hg w21 BK239 hb; have GW239 := gE hg; have GE239 := gE hg; have NB234_239 := nL (g := gb234) hg; have NB239_234 := nG (g := gb234) hg; replace BK234 := kB (g := gb234) hb; replace HB := hB hb; clear hb hg; have hnb22 := NB239_234.out; have hnc22 := NB234_239.out; have hz23 := cz4 BK239) | ((with_reducible refine gC 113 ?_); refine cL (some 12) Try.func113 #[.int .i64 a1, .int .i64 a2] ?_; (with_reducible refine (spec_l12Ok.calls a1 a2 true _ A5.out).mono ?_); rintro e w' ⟨rfl, ⟨nd, rfl⟩⟩; refine ⟨_, rfl, ?_⟩) | (go_at_call 162; (with_reducible refine (spec_CountDots.calls t235 t236 t237 t238 t241 _ A7.out).mono ?_); rintro e w24 ⟨rfl, hb⟩; replace BK234 := kB (g := gb234) hb; replace BK239 := Aside0.mk (blk_below (g := gb239) (o := .cells #[.int .i64 t235, .int .i64 t236, .int .i64 t237, .int .i64 t238] 39 (0, 0)) kS hb); replace HB := hB hb; (try clear hb); (try clear hb2); (try clear hk); (try clear hi); have hz25 := cz4 BK239))
        go_ret
        exact ⟨eS, bS⟩
    · rw [if_neg c8] at H
      have c8b0 : decide (0 < t241) = false := decide_eq_false c8
      clear c8
      obtain rfl := Option.some.inj H
      go_enter Try.func118, Try.ntmps118
      go_wp2_with (first | ((with_reducible refine gD 3 ?_); refine bxE #[.slice A0_0 l0_0.length c0_0, .int .i64 a0_1, .int .i64 a0_2, .int .i64 a0_3, .int .i64 a0_4, .int .i64 a0_5] 41 ?_; intro gb234 hg w26 BK234 hb; have GW234 := gE hg; have GE234 := gE hg; replace HB := hB hb; clear hb hg; have hz27 := cz6 BK234) | ((with_reducible refine gC 154 ?_); refine cL (some 9) Try.func154 #[.agg #[.slice A0_0 l0_0.length c0_0, .int .i64 a0_1, .int .i64 a0_2, .int .i64 a0_3, .int .i64 a0_4, .int .i64 a0_5]] ?_; (with_reducible refine (spec_ObjectBox.calls k _ _ l0_0 a0_1 a0_2 a0_3 a0_4 a0_5 t235 t236 t237 t238 _ ?side1 ?side2 A4.out).mono ?_); (case side1 => exact cS (Kd.C_below HR0_0.out HB.out)); (case side2 => exact HC0_0.out); rintro e w28 ⟨rfl, hb⟩; refine ⟨_, rfl, ?_⟩; replace BK234 := kB (g := gb234) hb; replace HB := hB hb; (try clear hb); (try clear hb2); (try clear hk); (try clear hi)) | ((with_reducible refine gD 7 ?_); refine bxE #[.int .i64 0, .int .i64 0, .int .i64 0, .int .i64 0] 39 ?_; intro gb239 hg w29 BK239 hb; have GW239 := gE hg; have GE239 := gE hg; have NB234_239 := nL (g := gb234) hg; have NB239_234 := nG (g := gb234) hg; replace BK234 := kB (g := gb234) hb; replace HB := hB hb; clear hb hg; have hnb30 := NB239_234.out; have hnc30 := NB234_239.out; have hz31 := cz4 BK239) | ((with_reducible refine gC 113 ?_); refine cL (some 12) Try.func113 #[.int .i64 a1, .int .i64 a2] ?_; (with_reducible refine (spec_l12Ok.calls a1 a2 true _ A5.out).mono ?_); rintro e w' ⟨rfl, ⟨nd, rfl⟩⟩; refine ⟨_, rfl, ?_⟩) | (go_at_call 162; (with_reducible refine (spec_CountDots.calls t235 t236 t237 t238 t241 _ A7.out).mono ?_); rintro e w32 ⟨rfl, hb⟩; replace BK234 := kB (g := gb234) hb; replace BK239 := Aside0.mk (blk_below (g := gb239) (o := .cells #[.int .i64 t235, .int .i64 t236, .int .i64 t237, .int .i64 t238] 39 (0, 0)) kS hb); replace HB := hB hb; (try clear hb); (try clear hb2); (try clear hk); (try clear hi)))
      go_ret
      exact ⟨eS, bS⟩
  · obtain rfl := Bool.eq_false_iff.mpr c6
    rw [if_neg nF] at H
    obtain rfl := Option.some.inj H
    go_enter Try.func118, Try.ntmps118
    go_wp2_with (first | ((with_reducible refine gD 3 ?_); refine bxE #[.slice A0_0 l0_0.length c0_0, .int .i64 a0_1, .int .i64 a0_2, .int .i64 a0_3, .int .i64 a0_4, .int .i64 a0_5] 41 ?_; intro gb234 hg w33 BK234 hb; have GW234 := gE hg; have GE234 := gE hg; replace HB := hB hb; clear hb hg; have hz34 := cz6 BK234) | ((with_reducible refine gC 154 ?_); refine cL (some 9) Try.func154 #[.agg #[.slice A0_0 l0_0.length c0_0, .int .i64 a0_1, .int .i64 a0_2, .int .i64 a0_3, .int .i64 a0_4, .int .i64 a0_5]] ?_; (with_reducible refine (spec_ObjectBox.calls k _ _ l0_0 a0_1 a0_2 a0_3 a0_4 a0_5 t235 t236 t237 t238 _ ?side1 ?side2 A4.out).mono ?_); (case side1 => exact cS (Kd.C_below HR0_0.out HB.out)); (case side2 => exact HC0_0.out); rintro e w35 ⟨rfl, hb⟩; refine ⟨_, rfl, ?_⟩; replace BK234 := kB (g := gb234) hb; replace HB := hB hb; (try clear hb); (try clear hb2); (try clear hk); (try clear hi)) | ((with_reducible refine gD 7 ?_); refine bxE #[.int .i64 0, .int .i64 0, .int .i64 0, .int .i64 0] 39 ?_; intro gb239 hg w36 BK239 hb; have GW239 := gE hg; have GE239 := gE hg; have NB234_239 := nL (g := gb234) hg; have NB239_234 := nG (g := gb234) hg; replace BK234 := kB (g := gb234) hb; replace HB := hB hb; clear hb hg; have hnb37 := NB239_234.out; have hnc37 := NB234_239.out; have hz38 := cz4 BK239) | ((with_reducible refine gC 113 ?_); refine cL (some 12) Try.func113 #[.int .i64 a1, .int .i64 a2] ?_; (with_reducible refine (spec_l12Ok.calls a1 a2 false _ A5.out).mono ?_); rintro e w' ⟨rfl, ⟨nd, rfl⟩⟩; refine ⟨_, rfl, ?_⟩))
    go_ret
    exact ⟨eS, bS⟩

/-! ### spec_EstimateTime: function 103 -/
def spec_EstimateTime.f (k : Nat) (l0_0 : List (S166)) (a0_1 : Int) (a0_2 : Int) (a0_3 : Int) (a0_4 : Int) (a0_5 : Int) (a1 : Int) (a2 : Int) : Option (Int) := (spec_TouchesBand.f k l0_0 a0_1 a0_2 a0_3 a0_4 a0_5 a1 a2).bind fun t243 => (if t243 = true then ((spec_ObjectBox.f k l0_0 a0_1 a0_2 a0_3 a0_4 a0_5).bind fun bt244 => (some (wrap64 (2 + (wrap64 ((wrap64 ((mn bt244.2.2.2 (wrap64 ((wrap64 (a2 * a1)) + a1))) - (mx bt244.2.1 (wrap64 (a2 * a1))))) * (wrap64 ((wrap64 ((l0_0.length : Int) / 2)) + (wrap64 (Int.tdiv (wrap64 ((wrap64 (bt244.2.2.1 - bt244.1)) + 7)) 8)))))))))) else (some 0))
theorem spec_EstimateTime.calls (k : Nat) (A0_0 : Option Addr) (c0_0 : Nat) (l0_0 : List (S166)) (a0_1 : Int) (a0_2 : Int) (a0_3 : Int) (a0_4 : Int) (a0_5 : Int) (a1 : Int) (a2 : Int) (r : Int) (w : World) (hr0_0 : Kd.C k166 w A0_0 l0_0.length l0_0) (hc0_0 : l0_0.length ≤ c0_0) (h : spec_EstimateTime.f k l0_0 a0_1 a0_2 a0_3 a0_4 a0_5 a1 a2 = some r) :
    Calls Try.prog 103 #[.agg #[.slice A0_0 l0_0.length c0_0, .int .i64 a0_1, .int .i64 a0_2, .int .i64 a0_3, .int .i64 a0_4, .int .i64 a0_5], .int .i64 a1, .int .i64 a2] w fun e w' => e = .returned (.int .i64 r) ∧ Below w.heap.size w w' := by
  have hu41 := Try.underlying41
  have hu39 := Try.underlying39
  have HR0_0 := Aside0.mk hr0_0
  have HC0_0 := Aside0.mk hc0_0
  clear hr0_0 hc0_0
  have HB := Aside0.mk (Below.refl w.heap.size w)
  have H : ((spec_TouchesBand.f k l0_0 a0_1 a0_2 a0_3 a0_4 a0_5 a1 a2).bind fun t243 => (if t243 = true then ((spec_ObjectBox.f k l0_0 a0_1 a0_2 a0_3 a0_4 a0_5).bind fun bt244 => (some (wrap64 (2 + (wrap64 ((wrap64 ((mn bt244.2.2.2 (wrap64 ((wrap64 (a2 * a1)) + a1))) - (mx bt244.2.1 (wrap64 (a2 * a1))))) * (wrap64 ((wrap64 ((l0_0.length : Int) / 2)) + (wrap64 (Int.tdiv (wrap64 ((wrap64 (bt244.2.2.1 - bt244.1)) + 7)) 8)))))))))) else (some 0))) = some r := h
  clear h
  replace H := bN H
  obtain ⟨t243, A4, H⟩ := H
  by_cases c5 : t243 = true
  · subst c5
    rw [if_pos rfl] at H
    replace H := bN H
    obtain ⟨⟨t244, t245, t246, t247⟩, A6, H⟩ := H
    obtain ⟨ji7, hji7⟩ : ∃ j_ : Int, (mn t247 (wrap64 ((wrap64 (a2 * a1)) + a1))) = j_ := ⟨_, rfl⟩
    replace H : (some (wrap64 (2 + (wrap64 ((wrap64 ((ji7) - (mx t245 (wrap64 (a2 * a1))))) * (wrap64 ((wrap64 ((l0_0.length : Int) / 2)) + (wrap64 (Int.tdiv (wrap64 ((wrap64 (t246 - t244)) + 7)) 8))))))))) = some r := by first | (rw [hji7] at H; exact H) | (simp only [hji7] at H ⊢; exact H)
    (try rw [hji7] at A4)
    (try rw [hji7] at A6)
    have hji7_ : (if (wrap64 ((wrap64 (a2 * a1)) + a1)) < t247 then (wrap64 ((wrap64 (a2 * a1)) + a1)) else t247) = ji7 := hji7
    obtain ⟨ji8, hji8⟩ : ∃ j_ : Int, (mx t245 (wrap64 (a2 * a1))) = j_ := ⟨_, rfl⟩
    replace H : (some (wrap64 (2 + (wrap64 ((wrap64 ((ji7) - (ji8))) * (wrap64 ((wrap64 ((l0_0.length : Int) / 2)) + (wrap64 (Int.tdiv (wrap64 ((wrap64 (t246 - t244)) + 7)) 8))))))))) = some r := by first | (rw [hji8] at H; exact H) | (simp only [hji8] at H ⊢; exact H)
    (try rw [hji8] at A4)
    (try rw [hji8] at A6)
    have hji8_ : (if t245 < (wrap64 (a2 * a1)) then (wrap64 (a2 * a1)) else t245) = ji8 := hji8
    obtain rfl := Option.some.inj H
    go_enter Try.func103, Try.ntmps103
    go_wp2_with (first | ((with_reducible refine gD 3 ?_); refine bxE #[.slice A0_0 l0_0.length c0_0, .int .i64 a0_1, .int .i64 a0_2, .int .i64 a0_3, .int .i64 a0_4, .int .i64 a0_5] 41 ?_; intro gb242 hg w9 BK242 hb; have GW242 := gE hg; have GE242 := gE hg; replace HB := hB hb; clear hb hg; have hz10 := cz6 BK242) | ((with_reducible refine gC 118 ?_); refine cL (some 12) Try.func118 #[.agg #[.slice A0_0 l0_0.length c0_0, .int .i64 a0_1, .int .i64 a0_2, .int .i64 a0_3, .int .i64 a0_4, .int .i64 a0_5], .int .i64 a1, .int .i64 a2] ?_; (with_reducible refine (spec_TouchesBand.calls k _ _ l0_0 a0_1 a0_2 a0_3 a0_4 a0_5 a1 a2 true _ ?side1 ?side2 A4.out).mono ?_); (case side1 => exact cS (Kd.C_below HR0_0.out HB.out)); (case side2 => exact HC0_0.out); rintro e w11 ⟨rfl, hb⟩; refine ⟨_, rfl, ?_⟩; replace BK242 := kB (g := gb242) hb; replace HB := hB hb; (try clear hb); (try clear hb2); (try clear hk); (try clear hi); have hz12 := cz6 BK242) | ((with_reducible refine gC 154 ?_); refine cL (some 15) Try.func154 #[.agg #[.slice A0_0 l0_0.length c0_0, .int .i64 a0_1, .int .i64 a0_2, .int .i64 a0_3, .int .i64 a0_4, .int .i64 a0_5]] ?_; (with_reducible refine (spec_ObjectBox.calls k _ _ l0_0 a0_1 a0_2 a0_3 a0_4 a0_5 t244 t245 t246 t247 _ ?side1 ?side2 A6.out).mono ?_); (case side1 => exact cS (Kd.C_below HR0_0.out HB.out)); (case side2 => exact HC0_0.out); rintro e w13 ⟨rfl, hb⟩; refine ⟨_, rfl, ?_⟩; replace BK242 := kB (g := gb242) hb; replace HB := hB hb; (try clear hb); (try clear hb2); (try clear hk); (try clear hi)) | ((with_reducible refine gD 7 ?_); refine bxE #[.int .i64 0, .int .i64 0, .int .i64 0, .int .i64 0] 39 ?_; intro gb248 hg w14 BK248 hb; have GW248 := gE hg; have GE248 := gE hg; have NB242_248 := nL (g := gb242) hg; have NB248_242 := nG (g := gb242) hg; replace BK242 := kB (g := gb242) hb; replace HB := hB hb; clear hb hg; have hnb15 := NB248_242.out; have hnc15 := NB242_248.out; have hz16 := cz4 BK248; have hz17 := cz6 BK242))
    go_ret
    exact ⟨by first | rfl | (simp [errW_none, errW_some] <;> rfl) | (simp only [← hji7, ← hji8]; first | rfl | (simp [errW_none, errW_some] <;> rfl)) | (simp [*, errW_none, errW_some] <;> rfl), bS⟩
  · obtain rfl := Bool.eq_false_iff.mpr c5
    rw [if_neg nF] at H
    obtain rfl := Option.some.inj H
    go_enter Try.func103, Try.ntmps103
    go_wp2_with (first | ((with_reducible refine gD 3 ?_); refine bxE #[.slice A0_0 l0_0.length c0_0, .int .i64 a0_1, .int .i64 a0_2, .int .i64 a0_3, .int .i64 a0_4, .int .i64 a0_5] 41 ?_; intro gb242 hg w18 BK242 hb; have GW242 := gE hg; have GE242 := gE hg; replace HB := hB hb; clear hb hg; have hz19 := cz6 BK242) | ((with_reducible refine gC 118 ?_); refine cL (some 12) Try.func118 #[.agg #[.slice A0_0 l0_0.length c0_0, .int .i64 a0_1, .int .i64 a0_2, .int .i64 a0_3, .int .i64 a0_4, .int .i64 a0_5], .int .i64 a1, .int .i64 a2] ?_; (with_reducible refine (spec_TouchesBand.calls k _ _ l0_0 a0_1 a0_2 a0_3 a0_4 a0_5 a1 a2 false _ ?side1 ?side2 A4.out).mono ?_); (case side1 => exact cS (Kd.C_below HR0_0.out HB.out)); (case side2 => exact HC0_0.out); rintro e w20 ⟨rfl, hb⟩; refine ⟨_, rfl, ?_⟩; replace BK242 := kB (g := gb242) hb; replace HB := hB hb; (try clear hb); (try clear hb2); (try clear hk); (try clear hi)))
    go_ret
    exact ⟨eS, bS⟩

/-! ### spec_BandEstimate: function 37 -/
def spec_BandEstimate.l0 : Nat → List (S41) → Int → Int → Int → Int → Option (Int)
  | 0, _, _, _, _, _ => none
  | k + 1, x0, x1, x2, x7, x8 => if x8 < (x0.length : Int) then (if 0 ≤ x8 then ((spec_EstimateTime.f k ((rd_T41 x0 x8).f0) ((rd_T41 x0 x8).f1) ((rd_T41 x0 x8).f2.f0) ((rd_T41 x0 x8).f2.f1) ((rd_T41 x0 x8).f2.f2) ((rd_T41 x0 x8).f2.f3) x1 x2).bind fun t250 => (spec_BandEstimate.l0 k x0 x1 x2 (wrap64 (x7 + t250)) (wrap64 (x8 + 1)))) else (none)) else (some x7)
def spec_BandEstimate.f (k : Nat) (l0 : List (S41)) (a1 : Int) (a2 : Int) : Option (Int) := spec_BandEstimate.l0 k l0 a1 a2 0 0
theorem spec_BandEstimate.calls (k : Nat) (A0 : Option Addr) (c0 : Nat) (l0 : List (S41)) (a1 : Int) (a2 : Int) (r : Int) (w : World) (hr0 : Kd.C k41 w A0 l0.length l0) (hc0 : l0.length ≤ c0) (h : spec_BandEstimate.f k l0 a1 a2 = some r) :
    Calls Try.prog 37 #[.slice A0 l0.length c0, .int .i64 a1, .int .i64 a2] w fun e w' => e = .returned (.int .i64 r) ∧ Below w.heap.size w w' := by
  have hu41 := Try.underlying41
  have HR0 := Aside0.mk hr0
  have HC0 := Aside0.mk hc0
  clear hr0 hc0
  have HB := Aside0.mk (Below.refl w.heap.size w)
  have H : (spec_BandEstimate.l0 k l0 a1 a2 0 0) = some r := h
  clear h
  have H' := Aside0.mk H
  clear H
  go_enter Try.func37, Try.ntmps37
  go_wp2
  go_loopg [7, 8] k (fun kq v7 v8 w' => ∃ (x7_1 : Int) (x8_1 : Int), v7 = .int .i64 x7_1 ∧ v8 = .int .i64 x8_1 ∧ Aside0 (spec_BandEstimate.l0 kq l0 a1 a2 x7_1 x8_1 = some r) ∧ Aside0 (kq ≤ k) ∧ Aside0 (Below w.heap.size w w'))
  case atStart => exact ⟨(0), (0), (by first | rfl | (simp; done) | (simp [*]; done)), (by first | rfl | (simp; done) | (simp [*]; done)), H', ⟨Nat.le_refl _⟩, ⟨bS⟩⟩
  case round =>
    clear H'
    try clear p2
    try clear c3
    obtain ⟨x7_1, x8_1, rfl, rfl, HA, HK1, HB⟩ := hrel
    cases gk with
    | zero => exact absurd HA.out (by simp [spec_BandEstimate.l0])
    | succ k1 =>
      have H := HA.out
      clear HA
      simp only [spec_BandEstimate.l0] at H
      by_cases c4 : x8_1 < (l0.length : Int)
      · rw [if_pos c4] at H
        have c4b0 : decide (x8_1 < (l0.length : Int)) = true := decide_eq_true c4
        clear c4
        by_cases c5 : 0 ≤ x8_1
        · rw [if_pos c5] at H
          have c5b0 : decide (0 ≤ x8_1) = true := decide_eq_true c5
          clear c5
          replace H := bN H
          obtain ⟨t250, A6, H⟩ := H
          have H' := Aside0.mk H
          clear H
          have p249 : 0 ≤ (x8_1 : Int) := of_decide_eq_true (by first | (with_reducible assumption) | assumption)
          have q249 : x8_1 < (l0.length : Int) := of_decide_eq_true (by first | (with_reducible assumption) | assumption)
          obtain ⟨ad249, A249_0, c249_0, e249, hx249_0, hx249_1, hx249_2, hx249_3, hx249_4, hx249_5, hl249_0, hi249_0⟩ := at_T41 HR0.out x8_1 p249 q249
          cases e249
          replace hx249_0 := (HB.out.cell (World.block_lt_of_cell? w _ hx249_0)).trans hx249_0
          replace hx249_1 := (HB.out.cell (World.block_lt_of_cell? w _ hx249_1)).trans hx249_1
          replace hx249_2 := (HB.out.cell (World.block_lt_of_cell? w _ hx249_2)).trans hx249_2
          replace hx249_3 := (HB.out.cell (World.block_lt_of_cell? w _ hx249_3)).trans hx249_3
          replace hx249_4 := (HB.out.cell (World.block_lt_of_cell? w _ hx249_4)).trans hx249_4
          replace hx249_5 := (HB.out.cell (World.block_lt_of_cell? w _ hx249_5)).trans hx249_5
          have HR249_0 := Aside0.mk hi249_0
          have HC249_0 := Aside0.mk hl249_0
          clear hi249_0 hl249_0
          replace p249 := eq_true p249
          replace q249 := eq_true q249
          go_wp2_with (first | ((with_reducible refine gC 103 ?_); refine cL (some 22) Try.func103 #[.agg #[.slice A249_0 ((rd_T41 l0 x8_1).f0).length c249_0, .int .i64 ((rd_T41 l0 x8_1).f1), .int .i64 ((rd_T41 l0 x8_1).f2.f0), .int .i64 ((rd_T41 l0 x8_1).f2.f1), .int .i64 ((rd_T41 l0 x8_1).f2.f2), .int .i64 ((rd_T41 l0 x8_1).f2.f3)], .int .i64 a1, .int .i64 a2] ?_; (with_reducible refine (spec_EstimateTime.calls k1 _ _ ((rd_T41 l0 x8_1).f0) ((rd_T41 l0 x8_1).f1) ((rd_T41 l0 x8_1).f2.f0) ((rd_T41 l0 x8_1).f2.f1) ((rd_T41 l0 x8_1).f2.f2) ((rd_T41 l0 x8_1).f2.f3) a1 a2 t250 _ ?side1 ?side2 A6.out).mono ?_); (case side1 => exact cS (Kd.C_below HR249_0.out HB.out)); (case side2 => exact HC249_0.out); rintro e w7 ⟨rfl, hb⟩; refine ⟨_, rfl, ?_⟩; replace HB := hB hb; (try clear hb); (try clear hb2); (try clear hk); (try clear hi)))
          go_roundg k1
          case measure => have := HK1.out; omega
          case rel => exact ⟨(wrap64 (x7_1 + t250)), (wrap64 (x8_1 + 1)), (by first | rfl | (simp; done) | (simp [*]; done)), (by first | rfl | (simp; done) | (simp [*]; done)), H', ⟨by have := HK1.out; omega⟩, ⟨bS⟩⟩
        · rw [if_neg c5] at H
          exact absurd H (by simp)
      · rw [if_neg c4] at H
        have c4b0 : decide (x8_1 < (l0.length : Int)) = false := decide_eq_false c4
        clear c4
        obtain rfl := Option.some.inj H
        go_wp2
        go_ret
        exact ⟨eS, bS⟩

/-! ### laws_toPoint: function 166 -/
def laws_toPoint.f (a0_0 : Int) (a0_1 : Int) : Option (Int × Int) := some (a0_0, a0_1)
theorem laws_toPoint.calls (a0_0 : Int) (a0_1 : Int) (r1 : Int) (r2 : Int) (w : World) (h : laws_toPoint.f a0_0 a0_1 = some (r1, r2)) :
    Calls Try.prog 166 #[.agg #[.int .i64 a0_0, .int .i64 a0_1]] w fun e w' => e = .returned (.agg #[.int .i64 r1, .int .i64 r2]) ∧ Below w.heap.size w w' := by
  have hu180 := Try.underlying180
  have hu166 := Try.underlying166
  have HB := Aside0.mk (Below.refl w.heap.size w)
  have H : (some (a0_0, a0_1)) = some (r1, r2) := h
  clear h
  simp only [Option.some.injEq, Prod.mk.injEq] at H
  obtain ⟨rfl, rfl⟩ := H
  go_enter Try.func166, Try.ntmps166
  go_wp2_with (first | ((with_reducible refine gD 1 ?_); refine bxE #[.int .i64 a0_0, .int .i64 a0_1] 180 ?_; intro gb251 hg w2 BK251 hb; have GW251 := gE hg; have GE251 := gE hg; replace HB := hB hb; clear hb hg) | ((with_reducible refine gD 2 ?_); refine bxE #[.int .i64 0, .int .i64 0] 166 ?_; intro gb252 hg w3 BK252 hb; have GW252 := gE hg; have GE252 := gE hg; have NB251_252 := nL (g := gb251) hg; have NB252_251 := nG (g := gb251) hg; replace BK251 := kB (g := gb251) hb; replace HB := hB hb; clear hb hg) | ((with_reducible refine gD 3 ?_); refine bxE #[.int .i64 0, .int .i64 0] 166 ?_; intro gb253 hg w4 BK253 hb; have GW253 := gE hg; have GE253 := gE hg; have NB251_253 := nL (g := gb251) hg; have NB253_251 := nG (g := gb251) hg; have NB252_253 := nL (g := gb252) hg; have NB253_252 := nG (g := gb252) hg; replace BK251 := kB (g := gb251) hb; replace BK252 := kB (g := gb252) hb; replace HB := hB hb; clear hb hg; have hnb5 := NB251_252.out; have hnc5 := NB252_251.out; have hnb6 := NB251_253.out; have hnc6 := NB253_251.out; have hz7 := cz2 BK251; have hnb8 := NB253_252.out; have hnc8 := NB252_253.out; have hz9 := cz2 BK253; have hz10 := cz2 BK252))
  refine bodyPost_ret (results_cell_row rfl _ _ gb252 166 #[.int .i64 a0_0, .int .i64 a0_1] (0, 0) _ rfl kS Try.underlying166 rfl (by kernel_rfl)) rfl ?_
  exact ⟨eS, bS⟩

/-! ### laws_toPointS: function 125 -/
def laws_toPointS.l0 : Nat → List (S180) → List (S166) → Int → Option ((List (S166)))
  | 0, _, _, _ => none
  | k + 1, x0, x3, x4 => if x4 < (x0.length : Int) then (if 0 ≤ x4 then ((laws_toPoint.f ((rd_T180 x0 x4).f0) ((rd_T180 x0 x4).f1)).bind fun bt258 => (if x4 < (x3.length : Int) then (laws_toPointS.l0 k x0 (x3.set (x4 : Int).toNat (⟨bt258.1, bt258.2⟩ : S166)) (wrap64 (x4 + 1))) else (none))) else (none)) else (some x3)
def laws_toPointS.f (k : Nat) (l0 : List (S180)) : Option ((List (S166))) := if 0 ≤ (l0.length : Int) then (if ((l0.length : Int) : Int).toNat ≤ 17592186044416 then (laws_toPointS.l0 k l0 (List.replicate ((l0.length : Int) : Int).toNat z166) 0) else (none)) else (none)
theorem laws_toPointS.calls (k : Nat) (A0 : Option Addr) (c0 : Nat) (l0 : List (S180)) (r : List (S166)) (w : World) (hr0 : Kd.C k180 w A0 l0.length l0) (hc0 : l0.length ≤ c0) (h : laws_toPointS.f k l0 = some r) :
    Calls Try.prog 125 #[.slice A0 l0.length c0] w fun e w' => ∃ v0_ : Value, e = .returned (v0_) ∧ Kd.R k166 166 w' w.heap.size (fun _ => True) v0_ r ∧ Below w.heap.size w w' := by
  have hu180 := Try.underlying180
  have hu166 := Try.underlying166
  have HR0 := Aside0.mk hr0
  have HC0 := Aside0.mk hc0
  clear hr0 hc0
  have HB := Aside0.mk (Below.refl w.heap.size w)
  have H : (if 0 ≤ (l0.length : Int) then (if ((l0.length : Int) : Int).toNat ≤ 17592186044416 then (laws_toPointS.l0 k l0 (List.replicate ((l0.length : Int) : Int).toNat z166) 0) else (none)) else (none)) = some r := h
  clear h
  by_cases c2 : 0 ≤ (l0.length : Int)
  · rw [if_pos c2] at H
    have c2b0 := eq_true c2
    have c2b1 : decide (0 ≤ (l0.length : Int)) = true := decide_eq_true c2
    clear c2
    by_cases c3 : ((l0.length : Int) : Int).toNat ≤ 17592186044416
    · rw [if_pos c3] at H
      have c3b0 := eq_true c3
      have c3b1 : decide (((l0.length : Int) : Int).toNat ≤ 17592186044416) = true := decide_eq_true c3
      clear c3
      obtain ⟨y254, hy254⟩ : ∃ y_ : List (S166), y_ = (List.replicate ((l0.length : Int) : Int).toNat z166) := ⟨_, rfl⟩
      replace H : (laws_toPointS.l0 k l0 y254 0) = some r := by first | (rw [hy254]; with_reducible exact H) | (have H2_ := (Option.bind_some _ _).symm.trans H; rw [hy254]; with_reducible exact H2_) | (have H2_ := (Option.bind_some _ _).symm.trans H; with_reducible exact H2_) | with_reducible exact H | (rw [hy254]; exact H) | exact H
      have Ny254 := Aside0.mk hy254
      clear hy254
      have H' := Aside0.mk H
      clear H
      go_enter Try.func125, Try.ntmps125
      go_wp2_with (first | ((with_reducible refine gate_dst (N := 7) rfl ?_); refine Kd.R_make k166 _ 166 rfl (N := 7) rfl 37 _ _ rfl (l0.length : Int) rfl rfl Try.underlying37 (.agg #[(.int .i64 0), (.int .i64 0)]) 16 info166 rfl (by decide) (by omega) z166 (ok := fun _ => True) (okp := fun _ => True) (k166_mkM _ _ _ z166 ) (fun _ hk => hk) trivial (of_decide_eq_true (by first | (with_reducible assumption) | assumption)) (Nat.le_trans (Nat.mul_le_mul_right _ (of_decide_eq_true (by first | (with_reducible assumption) | assumption) : (l0.length : Int).toNat ≤ 17592186044416)) (by omega)) (Below.refl _ _) (Nat.le_refl _) ?_; intro v255 w4 ho5 hb hg_ hnew_; clear hg_ hnew_; (first | rw [← Ny254.out] at ho5 | (simp only [Int.reduceToNat] at ho5; rw [← Ny254.out] at ho5)); have HO256 := Aside0.mk (Kd.R_lower ho5 (below_size bS)); replace HB := hB hb; clear hb ho5))
      go_loopg [4] k (fun kq v4 w' => ∃ (x3_1 : List (S166)) (x4_1 : Int), v4 = .int .i64 x4_1 ∧ Aside0 (laws_toPointS.l0 kq l0 x3_1 x4_1 = some r) ∧ Aside0 (kq ≤ k) ∧ Aside0 (Kd.R k166 166 w' w.heap.size (fun _ => True) v255 x3_1) ∧ Aside0 (Below w.heap.size w w'))
      case atStart => exact ⟨(y254), (0), (by first | rfl | (simp; done) | (simp [*]; done)), H', ⟨Nat.le_refl _⟩, ⟨by (with_reducible repeat (first | apply Kd.R_alloc | apply Kd.R_drewN | apply Kd.R_drew)); exact HO256.out⟩, ⟨bS⟩⟩
      case round =>
        clear H'
        try clear c1
        try clear c2
        try clear c2b0
        try clear c2b1
        try clear p2
        try clear c3
        try clear c3b0
        try clear c3b1
        obtain ⟨x3_1, x4_1, rfl, HA, HK1, HO_3, HB⟩ := hrel
        cases gk with
        | zero => exact absurd HA.out (by simp [laws_toPointS.l0])
        | succ k1 =>
          have H := HA.out
          clear HA
          simp only [laws_toPointS.l0] at H
          by_cases c6 : x4_1 < (l0.length : Int)
          · rw [if_pos c6] at H
            have c6b0 : decide (x4_1 < (l0.length : Int)) = true := decide_eq_true c6
            clear c6
            by_cases c7 : 0 ≤ x4_1
            · rw [if_pos c7] at H
              have c7b0 : decide (0 ≤ x4_1) = true := decide_eq_true c7
              clear c7
              replace H := bN H
              obtain ⟨⟨t258, t259⟩, A8, H⟩ := H
              by_cases c9 : x4_1 < (x3_1.length : Int)
              · rw [if_pos c9] at H
                have c9b0 : decide (x4_1 < (x3_1.length : Int)) = true := decide_eq_true c9
                clear c9
                obtain ⟨y260, hy260⟩ : ∃ y_ : List (S166), y_ = (x3_1.set (x4_1 : Int).toNat (⟨t258, t259⟩ : S166)) := ⟨_, rfl⟩
                replace H : (laws_toPointS.l0 k1 l0 y260 (wrap64 (x4_1 + 1))) = some r := by first | (rw [hy260]; with_reducible exact H) | (have H2_ := (Option.bind_some _ _).symm.trans H; rw [hy260]; with_reducible exact H2_) | (have H2_ := (Option.bind_some _ _).symm.trans H; with_reducible exact H2_) | with_reducible exact H | (rw [hy260]; exact H) | exact H
                have Ny260 := Aside0.mk hy260
                clear hy260
                have H' := Aside0.mk H
                clear H
                have p257 : 0 ≤ (x4_1 : Int) := of_decide_eq_true (by first | (with_reducible assumption) | assumption)
                have q257 : x4_1 < (l0.length : Int) := of_decide_eq_true (by first | (with_reducible assumption) | assumption)
                obtain ⟨ad257, e257, hx257_0, hx257_1⟩ := at_T180 HR0.out x4_1 p257 q257
                cases e257
                replace hx257_0 := (HB.out.cell (World.block_lt_of_cell? w _ hx257_0)).trans hx257_0
                replace hx257_1 := (HB.out.cell (World.block_lt_of_cell? w _ hx257_1)).trans hx257_1
                replace p257 := eq_true p257
                replace q257 := eq_true q257
                go_wp2_with (first | ((with_reducible refine gC 166 ?_); refine cL (some 20) Try.func166 #[.agg #[.int .i64 ((rd_T180 l0 x4_1).f0), .int .i64 ((rd_T180 l0 x4_1).f1)]] ?_; (with_reducible refine (laws_toPoint.calls ((rd_T180 l0 x4_1).f0) ((rd_T180 l0 x4_1).f1) t258 t259 _ A8.out).mono ?_); rintro e w11 ⟨rfl, hb⟩; refine ⟨_, rfl, ?_⟩; replace HO_3 := Aside0.mk (Kd.R_below (rS HO_3) hb); replace HB := hB hb; (try clear hb); (try clear hb2); (try clear hk); (try clear hi); have p10 : 0 ≤ (x4_1 : Int) := of_decide_eq_true (by first | (with_reducible assumption) | assumption); have q10 : (x4_1 : Int) < ((x3_1.length : Int) : Int) := of_decide_eq_true (by first | (with_reducible assumption) | assumption); obtain ⟨go10, co10, eo10, gb10, gl10, cl10, HG10⟩ := Kd.R_form HO_3.out (by omega); (first | cases eo10 | (injection eo10 with ea_ en_ ec_; (first | subst ea_ | (injection ea_ with ea_; subst ea_)); subst ec_; clear en_)); have GB10 := Aside0.mk gb10; have GG10 := Aside0.mk HG10; clear gb10 gl10 HG10; obtain ⟨ce10, hcl10, hM10, hcc10, hfr10⟩ := Kd.R_elem HO_3.out z166 (x4_1 : Int) p10 q10; obtain rfl := k166_openM hM10; have hx10_0 : w11.cell? ⟨go10, (x4_1 : Int).toNat * 2, none⟩ = some (.int .i64 ((rd_T166 x3_1 x4_1).f0)) := hcc10 0 _ rfl; have hx10_1 : w11.cell? ⟨go10, (x4_1 : Int).toNat * 2 + 1, none⟩ = some (.int .i64 ((rd_T166 x3_1 x4_1).f1)) := hcc10 1 _ rfl; have hf10_0 : w11.frozen? ⟨go10, (x4_1 : Int).toNat * 2, none⟩ = false := hfr10 0; have hf10_1 : w11.frozen? ⟨go10, (x4_1 : Int).toNat * 2 + 1, none⟩ = false := hfr10 1; (try clear hM10); clear hcl10 hcc10 hfr10; replace p10 := eq_true p10; replace q10 := eq_true q10; have HX12 := Aside0.mk (show Kd.R k166 166 w11 w.heap.size (fun _ => True) (.slice (some ⟨go10, 0, none⟩) x3_1.length co10) x3_1 from (rS HO_3)); obtain ⟨ce12, hcl12, hM12, hcc12, hfr12⟩ := Kd.R_elem HX12.out z166 (x4_1 : Int) (of_decide_eq_true (by first | (with_reducible assumption) | assumption)) (by have h_ : (x4_1 : Int) < ((x3_1.length : Int) : Int) := of_decide_eq_true (by first | (with_reducible assumption) | assumption); first | exact h_ | (have e_ := (Kd.R_reads' HO_3.out).1; omega) | simpa using h_); obtain rfl := k166_openM hM12; have HP12 := Kd.R_seg HX12.out (x4_1 : Int) (of_decide_eq_true (by first | (with_reducible assumption) | assumption)) (by have h_ : (x4_1 : Int) < ((x3_1.length : Int) : Int) := of_decide_eq_true (by first | (with_reducible assumption) | assumption); first | exact h_ | (have e_ := (Kd.R_reads' HO_3.out).1; omega) | simpa using h_) (seg := [.int .i64 t258, .int .i64 t259]) (j := 0) hcl12 hcc12 (show 2 ≤ 2 from by decide) (x' := (⟨t258, t259⟩ : S166)) (k166_mkM _ _ _ (⟨t258, t259⟩ : S166) ) (fun _ hk => hk); have hx12_0 := hcc12 0 _ rfl; (try simp only [show (k166).sz = 2 from rfl, Nat.mul_one, Nat.add_zero] at hx12_0); have hf12_0 := hfr12 0; (try simp only [show (k166).sz = 2 from rfl, Nat.mul_one, Nat.add_zero] at hf12_0); have hx12_1 := hcc12 1 _ rfl; (try simp only [show (k166).sz = 2 from rfl, Nat.mul_one, Nat.add_zero] at hx12_1); have hf12_1 := hfr12 1; (try simp only [show (k166).sz = 2 from rfl, Nat.mul_one, Nat.add_zero] at hf12_1); (try clear hM12); clear hcl12 hcc12 hfr12) | ((with_reducible refine gate_store (t := 166) (p := 21) rfl ?_); refine store_event (t := 166) (p := 21) (v := ?vo_w13) (w1 := ((w11.setCell ⟨go10, (x4_1 : Int).toNat * 2, none⟩ (.int .i64 t258)).setCell ⟨go10, (x4_1 : Int).toNat * 2 + 1, none⟩ (.int .i64 t259))) ?hg ?ho ?hn ?hr ?_; (case ho => rfl); (case hg => rfl); (case hn => rfl); (case hr => first | (go_simp; done) | (go_simp; rfl)); intro w13 hw; have hg : w11.grownBy w13 (some go10) := (by rw [hw]; exact HP12.2); have hp_ : Kd.R k166 166 w13 w.heap.size (fun _ => True) (.slice (some ⟨go10, 0, none⟩) x3_1.length co10) y260 := (by rw [hw, Ny260.out]; exact HP12.1); clear HP12; replace HO_3 := Aside0.mk (hp_); replace HB := Aside0.mk ((by rw [hw]; exact below_set (below_set (HB.out) GB10.out) GB10.out : Below w.heap.size w w13)); clear hg hw hp_))
                go_roundg k1
                case measure => have := HK1.out; omega
                case rel => exact ⟨(y260), (wrap64 (x4_1 + 1)), (by first | rfl | (simp; done) | (simp [*]; done)), H', ⟨by have := HK1.out; omega⟩, ⟨by (with_reducible repeat (first | apply Kd.R_alloc | apply Kd.R_drewN | apply Kd.R_drew)); exact HO_3.out⟩, ⟨bS⟩⟩
              · rw [if_neg c9] at H
                exact absurd H (by simp)
            · rw [if_neg c7] at H
              exact absurd H (by simp)
          · rw [if_neg c6] at H
            have c6b0 : decide (x4_1 < (l0.length : Int)) = false := decide_eq_false c6
            clear c6
            obtain rfl := Option.some.inj H
            go_wp2
            go_ret
            exact ⟨_, eS, by (with_reducible repeat (first | apply Kd.R_alloc | apply Kd.R_drewN | apply Kd.R_drew)); exact HO_3.out, bS⟩
    · rw [if_neg c3] at H
      exact absurd H (by simp)
  · rw [if_neg c2] at H
    exact absurd H (by simp)

/-! ### laws_toBox: function 126 -/
def laws_toBox.f (a0_0 : Int) (a0_1 : Int) (a0_2 : Int) (a0_3 : Int) : Option (Int × Int × Int × Int) := some (a0_0, a0_1, a0_2, a0_3)
theorem laws_toBox.calls (a0_0 : Int) (a0_1 : Int) (a0_2 : Int) (a0_3 : Int) (r1 : Int) (r2 : Int) (r3 : Int) (r4 : Int) (w : World) (h : laws_toBox.f a0_0 a0_1 a0_2 a0_3 = some (r1, r2, r3, r4)) :
    Calls Try.prog 126 #[.agg #[.int .i64 a0_0, .int .i64 a0_1, .int .i64 a0_2, .int .i64 a0_3]] w fun e w' => e = .returned (.agg #[.int .i64 r1, .int .i64 r2, .int .i64 r3, .int .i64 r4]) ∧ Below w.heap.size w w' := by
  have hu89 := Try.underlying89
  have hu39 := Try.underlying39
  have HB := Aside0.mk (Below.refl w.heap.size w)
  have H : (some (a0_0, a0_1, a0_2, a0_3)) = some (r1, r2, r3, r4) := h
  clear h
  simp only [Option.some.injEq, Prod.mk.injEq] at H
  obtain ⟨rfl, rfl, rfl, rfl⟩ := H
  go_enter Try.func126, Try.ntmps126
  go_wp2_with (first | ((with_reducible refine gD 1 ?_); refine bxE #[.int .i64 a0_0, .int .i64 a0_1, .int .i64 a0_2, .int .i64 a0_3] 89 ?_; intro gb261 hg w2 BK261 hb; have GW261 := gE hg; have GE261 := gE hg; replace HB := hB hb; clear hb hg) | ((with_reducible refine gD 2 ?_); refine bxE #[.int .i64 0, .int .i64 0, .int .i64 0, .int .i64 0] 39 ?_; intro gb262 hg w3 BK262 hb; have GW262 := gE hg; have GE262 := gE hg; have NB261_262 := nL (g := gb261) hg; have NB262_261 := nG (g := gb261) hg; replace BK261 := kB (g := gb261) hb; replace HB := hB hb; clear hb hg) | ((with_reducible refine gD 3 ?_); refine bxE #[.int .i64 0, .int .i64 0, .int .i64 0, .int .i64 0] 39 ?_; intro gb263 hg w4 BK263 hb; have GW263 := gE hg; have GE263 := gE hg; have NB261_263 := nL (g := gb261) hg; have NB263_261 := nG (g := gb261) hg; have NB262_263 := nL (g := gb262) hg; have NB263_262 := nG (g := gb262) hg; replace BK261 := kB (g := gb261) hb; replace BK262 := kB (g := gb262) hb; replace HB := hB hb; clear hb hg; have hnb5 := NB261_262.out; have hnc5 := NB262_261.out; have hnb6 := NB261_263.out; have hnc6 := NB263_261.out; have hz7 := cz4 BK261; have hnb8 := NB263_262.out; have hnc8 := NB262_263.out; have hz9 := cz4 BK263; have hz10 := cz4 BK262))
  refine bodyPost_ret (results_cell_row rfl _ _ gb262 39 #[.int .i64 a0_0, .int .i64 a0_1, .int .i64 a0_2, .int .i64 a0_3] (0, 0) _ rfl kS Try.underlying39 rfl (by kernel_rfl)) rfl ?_
  exact ⟨eS, bS⟩

/-! ### laws_toObject: function 72 -/
def laws_toObject.f (k : Nat) (l0_0 : List (S180)) (a0_1 : Int) (a0_2 : Int) (a0_3 : Int) (a0_4 : Int) (a0_5 : Int) : Option ((List (S166)) × Int × Int × Int × Int × Int) := (laws_toPointS.f k l0_0).bind fun t267 => ((laws_toBox.f a0_2 a0_3 a0_4 a0_5).bind fun bt270 => (some (t267, a0_1, bt270.1, bt270.2.1, bt270.2.2.1, bt270.2.2.2)))
theorem laws_toObject.calls (k : Nat) (A0_0 : Option Addr) (c0_0 : Nat) (l0_0 : List (S180)) (a0_1 : Int) (a0_2 : Int) (a0_3 : Int) (a0_4 : Int) (a0_5 : Int) (r1 : List (S166)) (r2 : Int) (r3 : Int) (r4 : Int) (r5 : Int) (r6 : Int) (w : World) (hr0_0 : Kd.C k180 w A0_0 l0_0.length l0_0) (hc0_0 : l0_0.length ≤ c0_0) (h : laws_toObject.f k l0_0 a0_1 a0_2 a0_3 a0_4 a0_5 = some (r1, r2, r3, r4, r5, r6)) :
    Calls Try.prog 72 #[.agg #[.slice A0_0 l0_0.length c0_0, .int .i64 a0_1, .int .i64 a0_2, .int .i64 a0_3, .int .i64 a0_4, .int .i64 a0_5]] w fun e w' => ∃ v0_ : Value, e = .returned (.agg #[v0_, .int .i64 r2, .int .i64 r3, .int .i64 r4, .int .i64 r5, .int .i64 r6]) ∧ Kd.R k166 166 w' w.heap.size (fun _ => True) v0_ r1 ∧ Below w.heap.size w w' := by
  have hu91 := Try.underlying91
  have hu41 := Try.underlying41
  have hu89 := Try.underlying89
  have hu39 := Try.underlying39
  have HR0_0 := Aside0.mk hr0_0
  have HC0_0 := Aside0.mk hc0_0
  clear hr0_0 hc0_0
  have HB := Aside0.mk (Below.refl w.heap.size w)
  have H : ((laws_toPointS.f k l0_0).bind fun t267 => ((laws_toBox.f a0_2 a0_3 a0_4 a0_5).bind fun bt270 => (some (t267, a0_1, bt270.1, bt270.2.1, bt270.2.2.1, bt270.2.2.2)))) = some (r1, r2, r3, r4, r5, r6) := h
  clear h
  replace H := bN H
  obtain ⟨t267, A2, H⟩ := H
  replace H := bN H
  obtain ⟨⟨t270, t271, t272, t273⟩, A3, H⟩ := H
  simp only [Option.some.injEq, Prod.mk.injEq] at H
  obtain ⟨rfl, rfl, rfl, rfl, rfl, rfl⟩ := H
  go_enter Try.func72, Try.ntmps72
  go_wp2_with (first | ((with_reducible refine gD 1 ?_); refine bxE #[.slice A0_0 l0_0.length c0_0, .int .i64 a0_1, .int .i64 a0_2, .int .i64 a0_3, .int .i64 a0_4, .int .i64 a0_5] 91 ?_; intro gb264 hg w4 BK264 hb; have GW264 := gE hg; have GE264 := gE hg; replace HB := hB hb; clear hb hg) | ((with_reducible refine gD 2 ?_); refine bxE #[.slice none 0 0, .int .i64 0, .int .i64 0, .int .i64 0, .int .i64 0, .int .i64 0] 41 ?_; intro gb265 hg w5 BK265 hb; have GW265 := gE hg; have GE265 := gE hg; have NB264_265 := nL (g := gb264) hg; have NB265_264 := nG (g := gb264) hg; replace BK264 := kB (g := gb264) hb; replace HB := hB hb; clear hb hg) | ((with_reducible refine gD 3 ?_); refine bxE #[.slice none 0 0, .int .i64 0, .int .i64 0, .int .i64 0, .int .i64 0, .int .i64 0] 41 ?_; intro gb266 hg w6 BK266 hb; have GW266 := gE hg; have GE266 := gE hg; have NB264_266 := nL (g := gb264) hg; have NB266_264 := nG (g := gb264) hg; have NB265_266 := nL (g := gb265) hg; have NB266_265 := nG (g := gb265) hg; replace BK264 := kB (g := gb264) hb; replace BK265 := kB (g := gb265) hb; replace HB := hB hb; clear hb hg; have hnb7 := NB264_265.out; have hnc7 := NB265_264.out; have hnb8 := NB264_266.out; have hnc8 := NB266_264.out; have hz9 := cz6 BK264) | ((with_reducible refine gC 125 ?_); refine cL (some 6) Try.func125 #[.slice A0_0 l0_0.length c0_0] ?_; (with_reducible refine (laws_toPointS.calls k _ _ l0_0 t267 _ ?side1 ?side2 A2.out).mono ?_); (case side1 => exact cS (Kd.C_below HR0_0.out HB.out)); (case side2 => exact HC0_0.out); rintro e w10 ⟨v268, rfl, ho0, hb⟩; refine ⟨_, rfl, ?_⟩; have HO269 := Aside0.mk (Kd.R_lower ho0 (below_size bS)); replace BK264 := kB (g := gb264) hb; replace BK265 := kB (g := gb265) hb; replace BK266 := kB (g := gb266) hb; replace HB := hB hb; (try clear hb); (try clear hb2); (try clear hk); (try clear hi); (try clear ho0); obtain ⟨Ao11, co11, eo11⟩ := Kd.R_slice HO269.out; subst eo11; have hnb12 := NB266_265.out; have hnc12 := NB265_266.out; have hz13 := cz6 BK266; have hz14 := cz6 BK264) | ((with_reducible refine gC 126 ?_); refine cL (some 13) Try.func126 #[.agg #[.int .i64 a0_2, .int .i64 a0_3, .int .i64 a0_4, .int .i64 a0_5]] ?_; (with_reducible refine (laws_toBox.calls a0_2 a0_3 a0_4 a0_5 t270 t271 t272 t273 _ A3.out).mono ?_); rintro e w15 ⟨rfl, hb⟩; refine ⟨_, rfl, ?_⟩; replace HO269 := Aside0.mk (Kd.R_below (by (with_reducible repeat (first | apply Kd.R_alloc | apply Kd.R_drewN | apply Kd.R_drew)); exact (Kd.R_mono (Kd.R_far (p := ⟨gb266, 1, none⟩) (Kd.R_far (p := ⟨gb266, 0, none⟩) (Kd.R_types HO269.out BK266.out (by decide)) (fun _ hk => hk.2) (.slice Ao11 t267.length co11)) (fun _ hk => hk.2) (.int .i64 a0_1)) (fun _ h_ => h_.1))) hb); replace BK264 := kB (g := gb264) hb; replace BK265 := kB (g := gb265) hb; replace BK266 := Aside0.mk (blk_below (g := gb266) (o := .cells #[.slice Ao11 t267.length co11, .int .i64 a0_1, .int .i64 0, .int .i64 0, .int .i64 0, .int .i64 0] 41 (0, 0)) kS hb); replace HB := hB hb; (try clear hb); (try clear hb2); (try clear hk); (try clear hi); have hz16 := cz6 BK266; have hz17 := cz6 BK265))
  refine bodyPost_ret (results_cell_row rfl _ _ gb265 41 #[.slice Ao11 t267.length co11, .int .i64 a0_1, .int .i64 t270, .int .i64 t271, .int .i64 t272, .int .i64 t273] (0, 0) _ rfl kS Try.underlying41 rfl (by kernel_rfl)) rfl ?_
  exact ⟨_, eS, by (with_reducible repeat (first | apply Kd.R_alloc | apply Kd.R_drewN | apply Kd.R_drew)); exact Kd.R_mono (Kd.R_far (p := ⟨gb265, 5, none⟩) (Kd.R_far (p := ⟨gb265, 4, none⟩) (Kd.R_far (p := ⟨gb265, 3, none⟩) (Kd.R_far (p := ⟨gb265, 2, none⟩) (Kd.R_far (p := ⟨gb265, 1, none⟩) (Kd.R_far (p := ⟨gb265, 0, none⟩) (Kd.R_far (p := ⟨gb266, 5, none⟩) (Kd.R_far (p := ⟨gb266, 4, none⟩) (Kd.R_far (p := ⟨gb266, 3, none⟩) (Kd.R_far (p := ⟨gb266, 2, none⟩) (Kd.R_types (Kd.R_types HO269.out BK266.out (by decide)) BK265.out (by decide)) (fun _ hk => hk.1.2) (.int .i64 t270)) (fun _ hk => hk.1.2) (.int .i64 t271)) (fun _ hk => hk.1.2) (.int .i64 t272)) (fun _ hk => hk.1.2) (.int .i64 t273)) (fun _ hk => hk.2) (.slice Ao11 t267.length co11)) (fun _ hk => hk.2) (.int .i64 a0_1)) (fun _ hk => hk.2) (.int .i64 t270)) (fun _ hk => hk.2) (.int .i64 t271)) (fun _ hk => hk.2) (.int .i64 t272)) (fun _ hk => hk.2) (.int .i64 t273)) (fun _ hk => trivial), bS⟩

end Go.Proofs.Ytimpejidlnjhlaa.QFnExactBandEstimate
