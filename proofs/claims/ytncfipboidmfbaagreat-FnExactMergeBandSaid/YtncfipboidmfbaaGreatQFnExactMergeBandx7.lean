-- Made out of the translation by a program of this session (a changed copy of the print). Not trusted: Lean checks it.
import Derived.Test.YtncfipboidmfbaaGreatQFnExactMergeBandx0
import Derived.Test.YtncfipboidmfbaaGreatQFnExactMergeBandx4
import Derived.Test.YtncfipboidmfbaaGreatQFnExactMergeBandx6
namespace Go.Proofs.YtncfipboidmfbaaGreat.QFnExactMergeBand
open Go.RowKit Go.Proofs.YtncfipboidmfbaaGreatW.PrintWords Go.Proofs.YtncfipboidmfbaaGreatW.PrintLast Go.Proofs.YtncfipboidmfbaaGreatW.PrintMore
attribute [local go_sem] max2_int min2_int max_two min_two max_three min_three max_four min_four   -- for this text's walks alone
set_option linter.unusedVariables false
set_option linter.unusedSimpArgs false
set_option maxHeartbeats 8000000
set_option maxRecDepth 100000

/-! ### spec_BoxOf: function 141 -/
def spec_BoxOf.l0 : Nat → List (S151) → Int → Int → Int → Int → Int → Option (Int × Int × Int × Int)
 | 0, _, _, _, _, _, _ => none
 | k + 1, x0, x4, x276000, x276001, x276002, x276003 => if x4 < (x0.length : Int) then (if 0 ≤ x4 then ((spec_PointOk.f ((rd_T151 x0 x4).f0) ((rd_T151 x0 x4).f1)).bind fun t278 => (if t278 = true then (if x4 = 0 then (spec_BoxOf.l0 k x0 (wrap64 (x4 + 1)) ((rd_T151 x0 x4).f0) ((rd_T151 x0 x4).f1) ((rd_T151 x0 x4).f0) ((rd_T151 x0 x4).f1)) else (spec_BoxOf.l0 k x0 (wrap64 (x4 + 1)) (mn x276000 ((rd_T151 x0 x4).f0)) (mn x276001 ((rd_T151 x0 x4).f1)) (mx x276002 ((rd_T151 x0 x4).f0)) (mx x276003 ((rd_T151 x0 x4).f1)))) else (some (0, 0, 0, 0)))) else (none)) else (some (x276000, x276001, x276002, x276003))
def spec_BoxOf.f (k : Nat) (l0 : List (S151)) : Option (Int × Int × Int × Int) := spec_BoxOf.l0 k l0 0 0 0 0 0
theorem spec_BoxOf.calls (k : Nat) (A0 : Option Addr) (c0 : Nat) (l0 : List (S151)) (r1 : Int) (r2 : Int) (r3 : Int) (r4 : Int) (w : World) (hr0 : Kd.C k151 w A0 l0.length l0) (hc0 : l0.length ≤ c0) (h : spec_BoxOf.f k l0 = some (r1, r2, r3, r4)) :
  Calls Tryz.prog 141 #[.slice A0 l0.length c0] w fun e w' => e = .returned (.agg #[.int .i64 r1, .int .i64 r2, .int .i64 r3, .int .i64 r4]) ∧ Below w.heap.size w w' := by
 have hu47 := Tryz.underlying47
 have hu151 := Tryz.underlying151
 have HR0 := Aside0.mk hr0
 have HC0 := Aside0.mk hc0
 clear hr0 hc0
 have HB := Aside0.mk (Below.refl w.heap.size w)
 have H : (spec_BoxOf.l0 k l0 0 0 0 0 0) = some (r1, r2, r3, r4) := h
 clear h
 have H' := Aside0.mk H
 clear H
 go_enter Tryz.func141, Tryz.ntmps141
 go_wp2_with (first | ((with_reducible refine gD 2 ?_); refine bxE #[.int .i64 0, .int .i64 0, .int .i64 0, .int .i64 0] 47 ?_; intro gb274 hg w2 BK274 hb; have GW274 := gE hg; have GE274 := gE hg; replace HB := hB hb; clear hb hg) | ((with_reducible refine gD 3 ?_); refine bxE #[.int .i64 0, .int .i64 0, .int .i64 0, .int .i64 0] 47 ?_; intro gb275 hg w3 BK275 hb; have GW275 := gE hg; have GE275 := gE hg; have NB274_275 := nL (g := gb274) hg; have NB275_274 := nG (g := gb274) hg; replace BK274 := kB (g := gb274) hb; replace HB := hB hb; clear hb hg; have hnb4 := NB275_274.out; have hnc4 := NB274_275.out; have hcz5_0 : w3.cell? ⟨gb275, 0, none⟩ = some (.int .i64 0) := (blk_cell BK275.out 0).trans rfl; have hcz5_1 : w3.cell? ⟨gb275, 1, none⟩ = some (.int .i64 0) := (blk_cell BK275.out 1).trans rfl; have hcz5_2 : w3.cell? ⟨gb275, 2, none⟩ = some (.int .i64 0) := (blk_cell BK275.out 2).trans rfl; have hcz5_3 : w3.cell? ⟨gb275, 3, none⟩ = some (.int .i64 0) := (blk_cell BK275.out 3).trans rfl; have hfz5_0 := blk_frozen BK275.out 0; have hfz5_1 := blk_frozen BK275.out 1; have hfz5_2 := blk_frozen BK275.out 2; have hfz5_3 := blk_frozen BK275.out 3))
 go_loopg [4] k (fun kq v4 w' => ∃ (x4_1 : Int) (x275000_1 : Int) (x275001_1 : Int) (x275002_1 : Int) (x275003_1 : Int) (x276000_1 : Int) (x276001_1 : Int) (x276002_1 : Int) (x276003_1 : Int), v4 = .int .i64 x4_1 ∧ Aside0 (spec_BoxOf.l0 kq l0 x4_1 x276000_1 x276001_1 x276002_1 x276003_1 = some (r1, r2, r3, r4)) ∧ Aside0 (kq ≤ k) ∧ Aside0 (w'.heap[gb274]? = some (.cells #[.int .i64 x275000_1, .int .i64 x275001_1, .int .i64 x275002_1, .int .i64 x275003_1] 47 (0, 0))) ∧ Aside0 (w'.heap[gb275]? = some (.cells #[.int .i64 x276000_1, .int .i64 x276001_1, .int .i64 x276002_1, .int .i64 x276003_1] 47 (0, 0))) ∧ Aside0 (Below w.heap.size w w'))
 case atStart => exact ⟨(0), (0), (0), (0), (0), (0), (0), (0), (0), fS, H', ⟨Nat.le_refl _⟩, ⟨kS⟩, ⟨kS⟩, ⟨bS⟩⟩
 case round =>
  clear H'
  try clear c1
  try clear p2
  try clear c4
  try clear hcz5_0
  try clear hcz5_1
  try clear hcz5_2
  try clear hcz5_3
  try clear hfz5_0
  try clear hfz5_1
  try clear hfz5_2
  try clear hfz5_3
  obtain ⟨x4_1, x275000_1, x275001_1, x275002_1, x275003_1, x276000_1, x276001_1, x276002_1, x276003_1, rfl, HA, HK1, BK274, BK275, HB⟩ := hrel
  cases gk with
  | zero => exact absurd HA.out (by simp [spec_BoxOf.l0])
  | succ k1 =>
   have H := HA.out
   clear HA
   simp only [spec_BoxOf.l0] at H
   rcases iD H with ⟨c6b0, H⟩ | ⟨c6b0, H⟩
   ·obtain ⟨c7b0, H⟩ := iT H
    replace H := bN H
    obtain ⟨t278, A8, H⟩ := H
    by_cases c9 : t278 = true
    ·subst c9
     rw [if_pos rfl] at H
     by_cases c10 : x4_1 = 0
     ·rw [if_pos c10] at H
      have c10b0 : (x4_1 == 0) = true := beq_iff_eq.mpr c10
      have c10b1 : (x4_1 != 0) = false := bne_eq_false_iff_eq.mpr c10
      clear c10
      have H' := Aside0.mk H
      clear H
      have p276 : 0 ≤ (x4_1 : Int) := dA
      have q276 : x4_1 < (l0.length : Int) := dA
      obtain ⟨ad276, e276, hx276_0, hx276_1⟩ := at_T151 HR0.out x4_1 p276 q276
      cases e276
      replace hx276_0 := cB HB hx276_0
      replace hx276_1 := cB HB hx276_1
      replace p276 := eq_true p276
      replace q276 := eq_true q276
      go_wp2_with (first | ((with_reducible refine gD 5 ?_); refine bxE #[.int .i64 0, .int .i64 0] 151 ?_; intro gb277 hg w11 BK277 hb; have GW277 := gE hg; have GE277 := gE hg; have NB274_277 := nL (g := gb274) hg; have NB277_274 := nG (g := gb274) hg; have NB275_277 := nL (g := gb275) hg; have NB277_275 := nG (g := gb275) hg; replace BK274 := kB (g := gb274) hb; replace BK275 := kB (g := gb275) hb; replace HB := hB hb; clear hb hg; have hnb12 := NB277_274.out; have hnc12 := NB274_277.out; have hnb13 := NB277_275.out; have hnc13 := NB275_277.out; have hz14 := cz2 BK277) | ((with_reducible refine gC 175 ?_); refine cL (some 18) Tryz.func175 #[.agg #[.int .i64 ((rd_T151 l0 x4_1).f0), .int .i64 ((rd_T151 l0 x4_1).f1)]] ?_; (with_reducible refine (spec_PointOk.calls ((rd_T151 l0 x4_1).f0) ((rd_T151 l0 x4_1).f1) _ _ A8.out).mono ?_); rintro e w15 ⟨rfl, hb⟩; refine ⟨_, rfl, ?_⟩; replace BK274 := kB (g := gb274) hb; replace BK275 := kB (g := gb275) hb; replace BK277 := Aside0.mk (blk_below (g := gb277) (o := .cells #[.int .i64 ((rd_T151 l0 x4_1).f0), .int .i64 ((rd_T151 l0 x4_1).f1)] 151 (0, 0)) kS hb); replace HB := hB hb; (try clear hb); (try clear hb2); (try clear hk); (try clear hi); have hz16 := cz2 BK277; have hnb17 := NB275_274.out; have hnc17 := NB274_275.out; have hz18 := cz4 BK275))
      go_roundg k1
      case measure => have := HK1.out; omega
      case rel => exact ⟨(wrap64 (x4_1 + 1)), (x275000_1), (x275001_1), (x275002_1), (x275003_1), ((rd_T151 l0 x4_1).f0), ((rd_T151 l0 x4_1).f1), ((rd_T151 l0 x4_1).f0), ((rd_T151 l0 x4_1).f1), fS, H', ⟨by have := HK1.out; omega⟩, ⟨kS⟩, ⟨kS⟩, ⟨bS⟩⟩
     ·rw [if_neg c10] at H
      have c10b0 : (x4_1 == 0) = false := beq_eq_false_iff_ne.mpr c10
      have c10b1 : (x4_1 != 0) = true := bne_iff_ne.mpr c10
      obtain ⟨ji19, hji19⟩ : ∃ j_ : Int, (mn x276000_1 ((rd_T151 l0 x4_1).f0)) = j_ := ⟨_, rfl⟩
      replace H : (spec_BoxOf.l0 k1 l0 (wrap64 (x4_1 + 1)) ji19 (mn x276001_1 ((rd_T151 l0 x4_1).f1)) (mx x276002_1 ((rd_T151 l0 x4_1).f0)) (mx x276003_1 ((rd_T151 l0 x4_1).f1))) = some (r1, r2, r3, r4) := by first | (rw [hji19] at H; exact H) | (simp only [hji19] at H ⊢; exact H)
      (try rw [hji19] at A8)
      have hji19_ : (if ((rd_T151 l0 x4_1).f0) < x276000_1 then ((rd_T151 l0 x4_1).f0) else x276000_1) = ji19 := hji19
      obtain ⟨ji20, hji20⟩ : ∃ j_ : Int, (mn x276001_1 ((rd_T151 l0 x4_1).f1)) = j_ := ⟨_, rfl⟩
      replace H : (spec_BoxOf.l0 k1 l0 (wrap64 (x4_1 + 1)) ji19 ji20 (mx x276002_1 ((rd_T151 l0 x4_1).f0)) (mx x276003_1 ((rd_T151 l0 x4_1).f1))) = some (r1, r2, r3, r4) := by first | (rw [hji20] at H; exact H) | (simp only [hji20] at H ⊢; exact H)
      (try rw [hji20] at A8)
      have hji20_ : (if ((rd_T151 l0 x4_1).f1) < x276001_1 then ((rd_T151 l0 x4_1).f1) else x276001_1) = ji20 := hji20
      obtain ⟨ji21, hji21⟩ : ∃ j_ : Int, (mx x276002_1 ((rd_T151 l0 x4_1).f0)) = j_ := ⟨_, rfl⟩
      replace H : (spec_BoxOf.l0 k1 l0 (wrap64 (x4_1 + 1)) ji19 ji20 ji21 (mx x276003_1 ((rd_T151 l0 x4_1).f1))) = some (r1, r2, r3, r4) := by first | (rw [hji21] at H; exact H) | (simp only [hji21] at H ⊢; exact H)
      (try rw [hji21] at A8)
      have hji21_ : (if x276002_1 < ((rd_T151 l0 x4_1).f0) then ((rd_T151 l0 x4_1).f0) else x276002_1) = ji21 := hji21
      obtain ⟨ji22, hji22⟩ : ∃ j_ : Int, (mx x276003_1 ((rd_T151 l0 x4_1).f1)) = j_ := ⟨_, rfl⟩
      replace H : (spec_BoxOf.l0 k1 l0 (wrap64 (x4_1 + 1)) ji19 ji20 ji21 ji22) = some (r1, r2, r3, r4) := by first | (rw [hji22] at H; exact H) | (simp only [hji22] at H ⊢; exact H)
      (try rw [hji22] at A8)
      have hji22_ : (if x276003_1 < ((rd_T151 l0 x4_1).f1) then ((rd_T151 l0 x4_1).f1) else x276003_1) = ji22 := hji22
      have H' := Aside0.mk H
      clear H
      have p276 : 0 ≤ (x4_1 : Int) := dA
      have q276 : x4_1 < (l0.length : Int) := dA
      obtain ⟨ad276, e276, hx276_0, hx276_1⟩ := at_T151 HR0.out x4_1 p276 q276
      cases e276
      replace hx276_0 := cB HB hx276_0
      replace hx276_1 := cB HB hx276_1
      replace p276 := eq_true p276
      replace q276 := eq_true q276
      go_wp2_with (first | ((with_reducible refine gD 5 ?_); refine bxE #[.int .i64 0, .int .i64 0] 151 ?_; intro gb277 hg w23 BK277 hb; have GW277 := gE hg; have GE277 := gE hg; have NB274_277 := nL (g := gb274) hg; have NB277_274 := nG (g := gb274) hg; have NB275_277 := nL (g := gb275) hg; have NB277_275 := nG (g := gb275) hg; replace BK274 := kB (g := gb274) hb; replace BK275 := kB (g := gb275) hb; replace HB := hB hb; clear hb hg; have hnb24 := NB277_274.out; have hnc24 := NB274_277.out; have hnb25 := NB277_275.out; have hnc25 := NB275_277.out; have hz26 := cz2 BK277) | ((with_reducible refine gC 175 ?_); refine cL (some 18) Tryz.func175 #[.agg #[.int .i64 ((rd_T151 l0 x4_1).f0), .int .i64 ((rd_T151 l0 x4_1).f1)]] ?_; (with_reducible refine (spec_PointOk.calls ((rd_T151 l0 x4_1).f0) ((rd_T151 l0 x4_1).f1) _ _ A8.out).mono ?_); rintro e w27 ⟨rfl, hb⟩; refine ⟨_, rfl, ?_⟩; replace BK274 := kB (g := gb274) hb; replace BK275 := kB (g := gb275) hb; replace BK277 := Aside0.mk (blk_below (g := gb277) (o := .cells #[.int .i64 ((rd_T151 l0 x4_1).f0), .int .i64 ((rd_T151 l0 x4_1).f1)] 151 (0, 0)) kS hb); replace HB := hB hb; (try clear hb); (try clear hb2); (try clear hk); (try clear hi); have hnb28 := NB275_274.out; have hnc28 := NB274_275.out; have hz29 := cz4 BK275; have hz30 := cz2 BK277))
      go_roundg k1
      case measure => have := HK1.out; omega
      case rel => exact ⟨(wrap64 (x4_1 + 1)), (x275000_1), (x275001_1), (x275002_1), (x275003_1), (ji19), (ji20), (ji21), (ji22), fS, H', ⟨by have := HK1.out; omega⟩, ⟨kS⟩, ⟨kS⟩, ⟨bS⟩⟩
    ·obtain rfl := Bool.eq_false_iff.mpr c9
     rw [if_neg nF] at H
     obtain ⟨rfl, rfl, rfl, rfl⟩ := sI4 H
     have p276 : 0 ≤ (x4_1 : Int) := dA
     have q276 : x4_1 < (l0.length : Int) := dA
     obtain ⟨ad276, e276, hx276_0, hx276_1⟩ := at_T151 HR0.out x4_1 p276 q276
     cases e276
     replace hx276_0 := cB HB hx276_0
     replace hx276_1 := cB HB hx276_1
     replace p276 := eq_true p276
     replace q276 := eq_true q276
     go_wp2_with (first | ((with_reducible refine gD 5 ?_); refine bxE #[.int .i64 0, .int .i64 0] 151 ?_; intro gb277 hg w31 BK277 hb; have GW277 := gE hg; have GE277 := gE hg; have NB274_277 := nL (g := gb274) hg; have NB277_274 := nG (g := gb274) hg; have NB275_277 := nL (g := gb275) hg; have NB277_275 := nG (g := gb275) hg; replace BK274 := kB (g := gb274) hb; replace BK275 := kB (g := gb275) hb; replace HB := hB hb; clear hb hg; have hnb32 := NB277_274.out; have hnc32 := NB274_277.out; have hnb33 := NB277_275.out; have hnc33 := NB275_277.out; have hz34 := cz2 BK277) | ((with_reducible refine gC 175 ?_); refine cL (some 18) Tryz.func175 #[.agg #[.int .i64 ((rd_T151 l0 x4_1).f0), .int .i64 ((rd_T151 l0 x4_1).f1)]] ?_; (with_reducible refine (spec_PointOk.calls ((rd_T151 l0 x4_1).f0) ((rd_T151 l0 x4_1).f1) _ _ A8.out).mono ?_); rintro e w35 ⟨rfl, hb⟩; refine ⟨_, rfl, ?_⟩; replace BK274 := kB (g := gb274) hb; replace BK275 := kB (g := gb275) hb; replace BK277 := Aside0.mk (blk_below (g := gb277) (o := .cells #[.int .i64 ((rd_T151 l0 x4_1).f0), .int .i64 ((rd_T151 l0 x4_1).f1)] 151 (0, 0)) kS hb); replace HB := hB hb; (try clear hb); (try clear hb2); (try clear hk); (try clear hi); have hnb36 := NB274_275.out; have hnc36 := NB275_274.out; have hz37 := cz4 BK274))
     refine bodyPost_ret (results_cell_row rfl _ _ gb274 47 #[.int .i64 0, .int .i64 0, .int .i64 0, .int .i64 0] (0, 0) _ rfl kS Tryz.underlying47 rfl (by kernel_rfl)) rfl ?_
     exact ⟨eS, bS⟩
   ·obtain ⟨rfl, rfl, rfl, rfl⟩ := sI4 H
    have hnb38 := NB275_274.out
    have hnc38 := NB274_275.out
    have hz39 := cz4 BK275
    have hz40 := cz4 BK274
    go_wp2
    refine bodyPost_ret (results_cell_row rfl _ _ gb274 47 #[.int .i64 x276000_1, .int .i64 x276001_1, .int .i64 x276002_1, .int .i64 x276003_1] (0, 0) _ rfl kS Tryz.underlying47 rfl (by kernel_rfl)) rfl ?_
    exact ⟨eS, bS⟩

/-! ### spec_l07Full: function 158 -/
def spec_l07Full.f  : Option (Int × Int × Int × Int) := some (0, 0, 32, 32)
theorem spec_l07Full.calls  (r1 : Int) (r2 : Int) (r3 : Int) (r4 : Int) (w : World) (h : spec_l07Full.f  = some (r1, r2, r3, r4)) :
  Calls Tryz.prog 158 #[] w fun e w' => e = .returned (.agg #[.int .i64 r1, .int .i64 r2, .int .i64 r3, .int .i64 r4]) ∧ Below w.heap.size w w' := by
 have hu47 := Tryz.underlying47
 have HB := Aside0.mk (Below.refl w.heap.size w)
 have H : (some (0, 0, 32, 32)) = some (r1, r2, r3, r4) := h
 clear h
 obtain ⟨rfl, rfl, rfl, rfl⟩ := sI4 H
 go_enter Tryz.func158, Tryz.ntmps158
 go_wp2_with (first | ((with_reducible refine gD 0 ?_); refine bxE #[.int .i64 0, .int .i64 0, .int .i64 0, .int .i64 0] 47 ?_; intro gb279 hg w1 BK279 hb; have GW279 := gE hg; have GE279 := gE hg; replace HB := hB hb; clear hb hg; have hz2 := cz4 BK279))
 refine bodyPost_ret (results_cell_row rfl _ _ gb279 47 #[.int .i64 0, .int .i64 0, .int .i64 32, .int .i64 32] (0, 0) _ rfl kS Tryz.underlying47 rfl (by kernel_rfl)) rfl ?_
 exact ⟨eS, bS⟩

/-! ### spec_ObjectBox: function 121 -/
def spec_ObjectBox.f (k : Nat) (l0_0 : List (S151)) (a0_1 : Int) (a0_2 : Int) (a0_3 : Int) (a0_4 : Int) (a0_5 : Int) : Option (Int × Int × Int × Int) := (spec_ObjectOk.f k l0_0 a0_1 a0_2 a0_3 a0_4 a0_5).bind fun t282 => (if t282 = true then ((spec_BoxOf.f k l0_0).bind fun bt283 => ((spec_MeetBox.f bt283.1 bt283.2.1 bt283.2.2.1 bt283.2.2.2 a0_2 a0_3 a0_4 a0_5).bind fun bt287 => ((spec_l07Full.f).bind fun bt291 => ((spec_MeetBox.f bt287.1 bt287.2.1 bt287.2.2.1 bt287.2.2.2 bt291.1 bt291.2.1 bt291.2.2.1 bt291.2.2.2).bind fun bt295 => (some (bt295.1, bt295.2.1, bt295.2.2.1, bt295.2.2.2)))))) else (some (0, 0, 0, 0)))
def spec_ObjectBox.T3 : Bool × List (List Nat × List Nat) := (true, [([], []), ([0], [0]), ([1], [1]), ([], []), ([3], [3]), ([2, 4, 2], [2, 4]), ([5], []), ([5, 6, 6], [5, 6]), ([7, 7, 0, 1, 2, 3, 4, 5, 6, 7], [7])])
def spec_ObjectBox.B3 : List Nat := [0, 1, 3, 0, 8, 31, 63, 127, 255]
theorem spec_ObjectBox.tab3 : rtab .any (opsOf Tryz.f121 3) = spec_ObjectBox.T3 := by kernel_rfl
theorem spec_ObjectBox.bits3 : waitsOk spec_ObjectBox.T3.2 spec_ObjectBox.B3 = true := by kernel_rfl
theorem spec_ObjectBox.calls (k : Nat) (A0_0 : Option Addr) (c0_0 : Nat) (l0_0 : List (S151)) (a0_1 : Int) (a0_2 : Int) (a0_3 : Int) (a0_4 : Int) (a0_5 : Int) (r1 : Int) (r2 : Int) (r3 : Int) (r4 : Int) (w : World) (hr0_0 : Kd.C k151 w A0_0 l0_0.length l0_0) (hc0_0 : l0_0.length ≤ c0_0) (h : spec_ObjectBox.f k l0_0 a0_1 a0_2 a0_3 a0_4 a0_5 = some (r1, r2, r3, r4)) :
  Calls Tryz.prog 121 #[.agg #[.slice A0_0 l0_0.length c0_0, .int .i64 a0_1, .int .i64 a0_2, .int .i64 a0_3, .int .i64 a0_4, .int .i64 a0_5]] w fun e w' => e = .returned (.agg #[.int .i64 r1, .int .i64 r2, .int .i64 r3, .int .i64 r4]) ∧ Below w.heap.size w w' := by
 have hu49 := Tryz.underlying49
 have hu47 := Tryz.underlying47
 have HR0_0 := Aside0.mk hr0_0
 have HC0_0 := Aside0.mk hc0_0
 clear hr0_0 hc0_0
 have HB := Aside0.mk (Below.refl w.heap.size w)
 have H : ((spec_ObjectOk.f k l0_0 a0_1 a0_2 a0_3 a0_4 a0_5).bind fun t282 => (if t282 = true then ((spec_BoxOf.f k l0_0).bind fun bt283 => ((spec_MeetBox.f bt283.1 bt283.2.1 bt283.2.2.1 bt283.2.2.2 a0_2 a0_3 a0_4 a0_5).bind fun bt287 => ((spec_l07Full.f).bind fun bt291 => ((spec_MeetBox.f bt287.1 bt287.2.1 bt287.2.2.1 bt287.2.2.2 bt291.1 bt291.2.1 bt291.2.2.1 bt291.2.2.2).bind fun bt295 => (some (bt295.1, bt295.2.1, bt295.2.2.1, bt295.2.2.2)))))) else (some (0, 0, 0, 0)))) = some (r1, r2, r3, r4) := h
 clear h
 replace H := bN H
 obtain ⟨t282, A2, H⟩ := H
 by_cases c3 : t282 = true
 ·subst c3
  rw [if_pos rfl] at H
  replace H := bN H
  obtain ⟨⟨t283, t284, t285, t286⟩, A4, H⟩ := H
  replace H := bN H
  obtain ⟨⟨t287, t288, t289, t290⟩, A5, H⟩ := H
  replace H := bN H
  obtain ⟨⟨t291, t292, t293, t294⟩, A6, H⟩ := H
  replace H := bN H
  obtain ⟨⟨t295, t296, t297, t298⟩, A7, H⟩ := H
  obtain ⟨rfl, rfl, rfl, rfl⟩ := sI4 H
  go_enter Tryz.func121, Tryz.ntmps121
  try go_wp2_with (first | ((with_reducible refine gD 1 ?_); refine bxE #[.slice A0_0 l0_0.length c0_0, .int .i64 a0_1, .int .i64 a0_2, .int .i64 a0_3, .int .i64 a0_4, .int .i64 a0_5] 49 ?_; intro gb280 hg w8 BK280 hb; have GW280 := gE hg; have GE280 := gE hg; replace HB := hB hb; clear hb hg) | ((with_reducible refine gD 2 ?_); refine bxE #[.int .i64 0, .int .i64 0, .int .i64 0, .int .i64 0] 47 ?_; intro gb281 hg w9 BK281 hb; have GW281 := gE hg; have GE281 := gE hg; have NB280_281 := nL (g := gb280) hg; have NB281_280 := nG (g := gb280) hg; replace BK280 := kB (g := gb280) hb; replace HB := hB hb; clear hb hg; have hnb10 := NB280_281.out; have hnc10 := NB281_280.out; have hz11 := cz6 BK280) | ((with_reducible refine gC 58 ?_); refine cL (some 4) Tryz.func58 #[.agg #[.slice A0_0 l0_0.length c0_0, .int .i64 a0_1, .int .i64 a0_2, .int .i64 a0_3, .int .i64 a0_4, .int .i64 a0_5]] ?_; (with_reducible refine (spec_ObjectOk.calls k _ _ l0_0 a0_1 a0_2 a0_3 a0_4 a0_5 _ _ (cS (Kd.C_below HR0_0.out HB.out)) HC0_0.out A2.out).mono ?_); rintro e w12 ⟨rfl, hb⟩; refine ⟨_, rfl, ?_⟩; replace BK280 := kB (g := gb280) hb; replace BK281 := kB (g := gb281) hb; replace HB := hB hb; (try clear hb); (try clear hb2); (try clear hk); (try clear hi)))
  replace BK280 := Aside0.mk (blk_drew BK280.out)
  replace BK281 := Aside0.mk (blk_drew BK281.out)
  replace HB := Aside0.mk (below_drew1 HB.out)
  refine start_ (n := 9) (S := fun w' => w'.cell? ⟨gb280, 0, none⟩ = some (.slice A0_0 l0_0.length c0_0) ∧ w'.cell? ⟨gb280, 1, none⟩ = some (.int .i64 a0_1) ∧ w'.cell? ⟨gb280, 2, none⟩ = some (.int .i64 a0_2) ∧ w'.cell? ⟨gb280, 3, none⟩ = some (.int .i64 a0_3) ∧ w'.cell? ⟨gb280, 4, none⟩ = some (.int .i64 a0_4) ∧ w'.cell? ⟨gb280, 5, none⟩ = some (.int .i64 a0_5)) (ds := []) #[false, false, false, false, false, false, false, false, false] (by kernel_rfl) rfl rfl (cy6 BK280) (fun hHeld => ?_); refine with_tabW spec_ObjectBox.tab3 spec_ObjectBox.bits3 (fun HT_ HW_ => ?_)
  generalize w12.drew = w13 at BK280 BK281 HB hHeld ⊢
  refine pU 0 (some 7) #[true, false, false, false, false, false, false, false, false] ?_
  refine pU 3 (some 10) #[true, false, false, true, false, false, false, false, false] ?_
  refine tK 1 (some 8) #[true, true, false, true, false, false, false, false, false] ?_
  refine tK 4 (some 11) #[true, true, false, true, true, false, false, false, false] ?_
  refine one_ (i := 2) (N := some 9) #[true, true, true, true, true, false, false, false, false] rfl rfl (one_of HT_.out (by kernel_rfl)) (by decide) (fun K hK => ?_)
  refine goes_ Tryz.func141 (by kernel_rfl) rfl #[.slice A0_0 l0_0.length c0_0] (by rfl) rfl rfl (by (try simp only [List.map_toArray, List.map_cons, List.map_nil]); first | done | rfl | (simp only [List.length_drop, List.length_take]; rfl)) ?_
  with_reducible refine (spec_BoxOf.calls k _ _ l0_0 t283 t284 t285 t286 _ ?side1 ?side2 A4.out).mono ?_
  (case side1 => exact cS (Kd.C_below HR0_0.out HB.out))
  (case side2 => exact HC0_0.out)
  rintro e w14 ⟨rfl, hb⟩
  refine ⟨_, rfl, ?_⟩
  replace BK280 := kB (g := gb280) hb
  replace BK281 := kB (g := gb281) hb
  replace HB := hB hb
  (try clear hb)
  (try clear hb2)
  (try clear hk)
  (try clear hi)
  refine hK.out _ _ (cy6 BK280) (fun hHeld => ?_)
  clear hK K
  refine norm_ (a' := ?_) ?_ ?_
  rotate_left
  ·show Act.put _ (some 9) _ = _
   simp only [Act.put, List.setIfInBounds_toArray, List.set_cons_zero, List.set_cons_succ, i64_w, i32_w]
   rfl
  refine one_ (i := 5) (N := some 12) #[true, true, true, true, true, true, false, false, false] rfl rfl (one_of HT_.out (by kernel_rfl)) (by decide) (fun K hK => ?_)
  refine goes_ Tryz.func140 (by kernel_rfl) rfl #[.agg #[.int .i64 t283, .int .i64 t284, .int .i64 t285, .int .i64 t286], .agg #[.int .i64 a0_2, .int .i64 a0_3, .int .i64 a0_4, .int .i64 a0_5]] (by rfl) rfl rfl (by (try simp only [List.map_toArray, List.map_cons, List.map_nil]); first | done | rfl | (simp only [List.length_drop, List.length_take]; rfl)) ?_
  with_reducible refine (spec_MeetBox.calls t283 t284 t285 t286 a0_2 a0_3 a0_4 a0_5 t287 t288 t289 t290 _ A5.out).mono ?_
  rintro e w15 ⟨rfl, hb⟩
  refine ⟨_, rfl, ?_⟩
  replace BK280 := kB (g := gb280) hb
  replace BK281 := kB (g := gb281) hb
  replace HB := hB hb
  (try clear hb)
  (try clear hb2)
  (try clear hk)
  (try clear hi)
  refine hK.out _ _ (cy6 BK280) (fun hHeld => ?_)
  clear hK K
  refine norm_ (a' := ?_) ?_ ?_
  rotate_left
  ·show Act.put _ (some 12) _ = _
   simp only [Act.put, List.setIfInBounds_toArray, List.set_cons_zero, List.set_cons_succ, i64_w, i32_w]
   rfl
  refine one_ (i := 6) (N := some 13) #[true, true, true, true, true, true, true, false, false] rfl rfl (one_of HT_.out (by kernel_rfl)) (by decide) (fun K hK => ?_)
  refine goes_ Tryz.func158 (by kernel_rfl) rfl #[] (by rfl) rfl rfl (by (try simp only [List.map_toArray, List.map_cons, List.map_nil]); first | done | rfl | (simp only [List.length_drop, List.length_take]; rfl)) ?_
  with_reducible refine (spec_l07Full.calls  t291 t292 t293 t294 _ A6.out).mono ?_
  rintro e w16 ⟨rfl, hb⟩
  refine ⟨_, rfl, ?_⟩
  replace BK280 := kB (g := gb280) hb
  replace BK281 := kB (g := gb281) hb
  replace HB := hB hb
  (try clear hb)
  (try clear hb2)
  (try clear hk)
  (try clear hi)
  refine hK.out _ _ (cy6 BK280) (fun hHeld => ?_)
  clear hK K
  refine norm_ (a' := ?_) ?_ ?_
  rotate_left
  ·show Act.put _ (some 13) _ = _
   simp only [Act.put, List.setIfInBounds_toArray, List.set_cons_zero, List.set_cons_succ, i64_w, i32_w]
   rfl
  refine one_ (i := 7) (N := some 14) #[true, true, true, true, true, true, true, true, false] rfl rfl (one_of HT_.out (by kernel_rfl)) (by decide) (fun K hK => ?_)
  refine goes_ Tryz.func140 (by kernel_rfl) rfl #[.agg #[.int .i64 t287, .int .i64 t288, .int .i64 t289, .int .i64 t290], .agg #[.int .i64 t291, .int .i64 t292, .int .i64 t293, .int .i64 t294]] (by rfl) rfl rfl (by (try simp only [List.map_toArray, List.map_cons, List.map_nil]); first | done | rfl | (simp only [List.length_drop, List.length_take]; rfl)) ?_
  with_reducible refine (spec_MeetBox.calls t287 t288 t289 t290 t291 t292 t293 t294 t295 t296 t297 t298 _ A7.out).mono ?_
  rintro e w17 ⟨rfl, hb⟩
  refine ⟨_, rfl, ?_⟩
  replace BK280 := kB (g := gb280) hb
  replace BK281 := kB (g := gb281) hb
  replace HB := hB hb
  (try clear hb)
  (try clear hb2)
  (try clear hk)
  (try clear hi)
  refine hK.out _ _ (cy6 BK280) (fun hHeld => ?_)
  clear hK K
  refine norm_ (a' := ?_) ?_ ?_
  rotate_left
  ·show Act.put _ (some 14) _ = _
   simp only [Act.put, List.setIfInBounds_toArray, List.set_cons_zero, List.set_cons_succ, i64_w, i32_w]
   rfl
  refine one_ (i := 8) (N := none) #[true, true, true, true, true, true, true, true, true] rfl rfl (one_of HT_.out (by kernel_rfl)) (by decide) (fun K hK => ?_)
  have hs18 : w17.cell? ⟨gb281, 0, none⟩ = some (.int .i64 0) := (blk_cell BK281.out 0).trans rfl
  have hfs18 := blk_frozen BK281.out 0
  have hns18_0 := NB280_281.out
  have hms18_0 := NB281_280.out
  have hs19 : w17.cell? ⟨gb281, 1, none⟩ = some (.int .i64 0) := (blk_cell BK281.out 1).trans rfl
  have hfs19 := blk_frozen BK281.out 1
  have hns19_0 := NB280_281.out
  have hms19_0 := NB281_280.out
  have hs20 : w17.cell? ⟨gb281, 2, none⟩ = some (.int .i64 0) := (blk_cell BK281.out 2).trans rfl
  have hfs20 := blk_frozen BK281.out 2
  have hns20_0 := NB280_281.out
  have hms20_0 := NB281_280.out
  have hs21 : w17.cell? ⟨gb281, 3, none⟩ = some (.int .i64 0) := (blk_cell BK281.out 3).trans rfl
  have hfs21 := blk_frozen BK281.out 3
  have hns21_0 := NB280_281.out
  have hms21_0 := NB281_280.out
  refine skip_ (w1 := ?_) (by rfl) rfl ?_ ?_
  rotate_left
  ·go_simp
   rfl
  refine hK.out _ _ ⟨((cell_far (p := ⟨gb281, _, none⟩) NB280_281.out _).trans (((cell_far (p := ⟨gb281, _, none⟩) NB280_281.out _).trans (((cell_far (p := ⟨gb281, _, none⟩) NB280_281.out _).trans (((cell_far (p := ⟨gb281, _, none⟩) NB280_281.out _).trans (hHeld.1)))))))), ((cell_far (p := ⟨gb281, _, none⟩) NB280_281.out _).trans (((cell_far (p := ⟨gb281, _, none⟩) NB280_281.out _).trans (((cell_far (p := ⟨gb281, _, none⟩) NB280_281.out _).trans (((cell_far (p := ⟨gb281, _, none⟩) NB280_281.out _).trans (hHeld.2.1)))))))), ((cell_far (p := ⟨gb281, _, none⟩) NB280_281.out _).trans (((cell_far (p := ⟨gb281, _, none⟩) NB280_281.out _).trans (((cell_far (p := ⟨gb281, _, none⟩) NB280_281.out _).trans (((cell_far (p := ⟨gb281, _, none⟩) NB280_281.out _).trans (hHeld.2.2.1)))))))), ((cell_far (p := ⟨gb281, _, none⟩) NB280_281.out _).trans (((cell_far (p := ⟨gb281, _, none⟩) NB280_281.out _).trans (((cell_far (p := ⟨gb281, _, none⟩) NB280_281.out _).trans (((cell_far (p := ⟨gb281, _, none⟩) NB280_281.out _).trans (hHeld.2.2.2.1)))))))), ((cell_far (p := ⟨gb281, _, none⟩) NB280_281.out _).trans (((cell_far (p := ⟨gb281, _, none⟩) NB280_281.out _).trans (((cell_far (p := ⟨gb281, _, none⟩) NB280_281.out _).trans (((cell_far (p := ⟨gb281, _, none⟩) NB280_281.out _).trans (hHeld.2.2.2.2.1)))))))), ((cell_far (p := ⟨gb281, _, none⟩) NB280_281.out _).trans (((cell_far (p := ⟨gb281, _, none⟩) NB280_281.out _).trans (((cell_far (p := ⟨gb281, _, none⟩) NB280_281.out _).trans (((cell_far (p := ⟨gb281, _, none⟩) NB280_281.out _).trans (hHeld.2.2.2.2.2))))))))⟩ (fun hHeld => ?_)
  clear hK K
  refine done_ (done_of HT_.out (by kernel_rfl)) ?_
  try go_wp2
  refine bodyPost_ret (results_cell_row rfl _ _ gb281 47 #[.int .i64 t295, .int .i64 t296, .int .i64 t297, .int .i64 t298] (0, 0) _ rfl kS Tryz.underlying47 rfl (by kernel_rfl)) rfl ?_
  exact ⟨eS, bS⟩
 ·obtain rfl := Bool.eq_false_iff.mpr c3
  rw [if_neg nF] at H
  obtain ⟨rfl, rfl, rfl, rfl⟩ := sI4 H
  go_enter Tryz.func121, Tryz.ntmps121
  go_wp2_with (first | ((with_reducible refine gD 1 ?_); refine bxE #[.slice A0_0 l0_0.length c0_0, .int .i64 a0_1, .int .i64 a0_2, .int .i64 a0_3, .int .i64 a0_4, .int .i64 a0_5] 49 ?_; intro gb280 hg w22 BK280 hb; have GW280 := gE hg; have GE280 := gE hg; replace HB := hB hb; clear hb hg) | ((with_reducible refine gD 2 ?_); refine bxE #[.int .i64 0, .int .i64 0, .int .i64 0, .int .i64 0] 47 ?_; intro gb281 hg w23 BK281 hb; have GW281 := gE hg; have GE281 := gE hg; have NB280_281 := nL (g := gb280) hg; have NB281_280 := nG (g := gb280) hg; replace BK280 := kB (g := gb280) hb; replace HB := hB hb; clear hb hg; have hnb24 := NB280_281.out; have hnc24 := NB281_280.out; have hz25 := cz6 BK280) | ((with_reducible refine gC 58 ?_); refine cL (some 4) Tryz.func58 #[.agg #[.slice A0_0 l0_0.length c0_0, .int .i64 a0_1, .int .i64 a0_2, .int .i64 a0_3, .int .i64 a0_4, .int .i64 a0_5]] ?_; (with_reducible refine (spec_ObjectOk.calls k _ _ l0_0 a0_1 a0_2 a0_3 a0_4 a0_5 _ _ (cS (Kd.C_below HR0_0.out HB.out)) HC0_0.out A2.out).mono ?_); rintro e w26 ⟨rfl, hb⟩; refine ⟨_, rfl, ?_⟩; replace BK280 := kB (g := gb280) hb; replace BK281 := kB (g := gb281) hb; replace HB := hB hb; (try clear hb); (try clear hb2); (try clear hk); (try clear hi); have hz27 := cz4 BK281))
  refine bodyPost_ret (results_cell_row rfl _ _ gb281 47 #[.int .i64 0, .int .i64 0, .int .i64 0, .int .i64 0] (0, 0) _ rfl kS Tryz.underlying47 rfl (by kernel_rfl)) rfl ?_
  exact ⟨eS, bS⟩

/-! ### spec_CountDots: function 122 -/
def spec_CountDots.f (a0_0 : Int) (a0_1 : Int) (a0_2 : Int) (a0_3 : Int) : Option (Int) := (spec_BoxOk.f a0_0 a0_1 a0_2 a0_3).bind fun t300 => (if t300 = true then (some (wrap64 ((wrap64 (a0_2 - a0_0)) * (wrap64 (a0_3 - a0_1))))) else (some 0))
theorem spec_CountDots.calls (a0_0 : Int) (a0_1 : Int) (a0_2 : Int) (a0_3 : Int) (r : Int) (w : World) (h : spec_CountDots.f a0_0 a0_1 a0_2 a0_3 = some r) :
  Calls Tryz.prog 122 #[.agg #[.int .i64 a0_0, .int .i64 a0_1, .int .i64 a0_2, .int .i64 a0_3]] w fun e w' => e = .returned (.int .i64 r) ∧ Below w.heap.size w w' := by
 have hu47 := Tryz.underlying47
 have HB := Aside0.mk (Below.refl w.heap.size w)
 have H : ((spec_BoxOk.f a0_0 a0_1 a0_2 a0_3).bind fun t300 => (if t300 = true then (some (wrap64 ((wrap64 (a0_2 - a0_0)) * (wrap64 (a0_3 - a0_1))))) else (some 0))) = some r := h
 clear h
 replace H := bN H
 obtain ⟨t300, A2, H⟩ := H
 by_cases c3 : t300 = true
 ·subst c3
  rw [if_pos rfl] at H
  obtain rfl := Option.some.inj H
  go_enter Tryz.func122, Tryz.ntmps122
  go_wp2_with (first | ((with_reducible refine gD 1 ?_); refine bxE #[.int .i64 a0_0, .int .i64 a0_1, .int .i64 a0_2, .int .i64 a0_3] 47 ?_; intro gb299 hg w4 BK299 hb; have GW299 := gE hg; have GE299 := gE hg; replace HB := hB hb; clear hb hg; have hz5 := cz4 BK299) | ((with_reducible refine gC 171 ?_); refine cL (some 4) Tryz.func171 #[.agg #[.int .i64 a0_0, .int .i64 a0_1, .int .i64 a0_2, .int .i64 a0_3]] ?_; (with_reducible refine (spec_BoxOk.calls a0_0 a0_1 a0_2 a0_3 _ _ A2.out).mono ?_); rintro e w6 ⟨rfl, hb⟩; refine ⟨_, rfl, ?_⟩; replace BK299 := kB (g := gb299) hb; replace HB := hB hb; (try clear hb); (try clear hb2); (try clear hk); (try clear hi); have hz7 := cz4 BK299))
  go_ret
  exact ⟨eS, bS⟩
 ·obtain rfl := Bool.eq_false_iff.mpr c3
  rw [if_neg nF] at H
  obtain rfl := Option.some.inj H
  go_enter Tryz.func122, Tryz.ntmps122
  go_wp2_with (first | ((with_reducible refine gD 1 ?_); refine bxE #[.int .i64 a0_0, .int .i64 a0_1, .int .i64 a0_2, .int .i64 a0_3] 47 ?_; intro gb299 hg w8 BK299 hb; have GW299 := gE hg; have GE299 := gE hg; replace HB := hB hb; clear hb hg; have hz9 := cz4 BK299) | ((with_reducible refine gC 171 ?_); refine cL (some 4) Tryz.func171 #[.agg #[.int .i64 a0_0, .int .i64 a0_1, .int .i64 a0_2, .int .i64 a0_3]] ?_; (with_reducible refine (spec_BoxOk.calls a0_0 a0_1 a0_2 a0_3 _ _ A2.out).mono ?_); rintro e w10 ⟨rfl, hb⟩; refine ⟨_, rfl, ?_⟩; replace BK299 := kB (g := gb299) hb; replace HB := hB hb; (try clear hb); (try clear hb2); (try clear hk); (try clear hi)))
  go_ret
  exact ⟨eS, bS⟩

/-! ### spec_SpansOk: function 184 -/
def spec_SpansOk.l0 : Nat → List (S146) → Int → Option (Bool)
 | 0, _, _ => none
 | k + 1, x0, x3 => if x3 < (x0.length : Int) then (if 0 ≤ x3 then (if ((rd_T146 x0 x3).f0) ≥ ((rd_T146 x0 x3).f1) then (some false) else (if x3 > 0 then (if 0 ≤ (wrap64 (x3 - 1)) then (if (wrap64 (x3 - 1)) < (x0.length : Int) then (if ((rd_T146 x0 (wrap64 (x3 - 1))).f1) ≥ ((rd_T146 x0 x3).f0) then (some false) else (spec_SpansOk.l0 k x0 (wrap64 (x3 + 1)))) else (none)) else (none)) else (spec_SpansOk.l0 k x0 (wrap64 (x3 + 1))))) else (none)) else (some (decide ((x0.length : Int) ≤ 8)))
def spec_SpansOk.f (k : Nat) (l0 : List (S146)) : Option (Bool) := spec_SpansOk.l0 k l0 0
theorem spec_SpansOk.calls (k : Nat) (A0 : Option Addr) (c0 : Nat) (l0 : List (S146)) (r : Bool) (w : World) (hr0 : Kd.C k146 w A0 l0.length l0) (hc0 : l0.length ≤ c0) (h : spec_SpansOk.f k l0 = some r) :
  Calls Tryz.prog 184 #[.slice A0 l0.length c0] w fun e w' => e = .returned (.bool r) ∧ Drawn0 w w' := by
 have HR0 := Aside0.mk hr0
 have HC0 := Aside0.mk hc0
 clear hr0 hc0
 have H : (spec_SpansOk.l0 k l0 0) = some r := h
 clear h
 have H' := Aside0.mk H
 clear H
 go_enter Tryz.func184, Tryz.ntmps184
 go_wp2
 repeat (go_quiet (fail); try go_wp2)
 go_loopg [3] k (fun kq v3 w' => ∃ (x3_1 : Int), v3 = .int .i64 x3_1 ∧ Aside0 (spec_SpansOk.l0 kq l0 x3_1 = some r) ∧ Aside0 (kq ≤ k) ∧ Drawn0 w w')
 case atStart => exact ⟨(0), fS, H', ⟨Nat.le_refl _⟩, dS⟩
 case round =>
  clear H'
  try clear c1
  obtain ⟨x3_1, rfl, HA, HK1, ⟨m1, rfl⟩⟩ := hrel
  cases gk with
  | zero => exact absurd HA.out (by simp [spec_SpansOk.l0])
  | succ k1 =>
   have H := HA.out
   clear HA
   simp only [spec_SpansOk.l0] at H
   rcases iD H with ⟨c2b0, H⟩ | ⟨c2b0, H⟩
   ·obtain ⟨c3b0, H⟩ := iT H
    by_cases c4 : ((rd_T146 l0 x3_1).f0) ≥ ((rd_T146 l0 x3_1).f1)
    ·rw [if_pos c4] at H
     have c4b0 : decide (((rd_T146 l0 x3_1).f1) ≤ ((rd_T146 l0 x3_1).f0)) = true := decide_eq_true c4
     clear c4
     obtain rfl := Option.some.inj H
     have p301 : 0 ≤ (x3_1 : Int) := dA
     have q301 : x3_1 < (l0.length : Int) := dA
     obtain ⟨ad301, e301, hx301_0, hx301_1⟩ := at_T146 HR0.out x3_1 p301 q301
     cases e301
     replace p301 := eq_true p301
     replace q301 := eq_true q301
     have p302 : 0 ≤ (x3_1 : Int) := dA
     have q302 : x3_1 < (l0.length : Int) := dA
     obtain ⟨ad302, e302, hx302_0, hx302_1⟩ := at_T146 HR0.out x3_1 p302 q302
     obtain rfl : ad301 = ad302 := (by injection e302)
     replace p302 := eq_true p302
     replace q302 := eq_true q302
     go_wp2
     repeat (go_quiet (fail); try go_wp2)
     go_ret
     exact ⟨fS, dS⟩
    ·rw [if_neg c4] at H
     have c4b0 : decide (((rd_T146 l0 x3_1).f1) ≤ ((rd_T146 l0 x3_1).f0)) = false := decide_eq_false c4
     clear c4
     by_cases c5 : x3_1 > 0
     ·rw [if_pos c5] at H
      have c5b0 : decide (0 < x3_1) = true := decide_eq_true c5
      clear c5
      obtain ⟨ji6, hji6⟩ : ∃ j_ : Int, (wrap64 (x3_1 - 1)) = j_ := ⟨_, rfl⟩
      replace H : (if 0 ≤ (ji6) then (if (ji6) < (l0.length : Int) then (if ((rd_T146 l0 (ji6)).f1) ≥ ((rd_T146 l0 x3_1).f0) then (some false) else (spec_SpansOk.l0 k1 l0 (wrap64 (x3_1 + 1)))) else (none)) else (none)) = some r := by first | (rw [hji6] at H; exact H) | (simp only [hji6] at H ⊢; exact H)
      have hji6w : (IntKind.i64.wrap (x3_1 - 1)) = ji6 := (i64_w _).trans hji6
      obtain ⟨c7b0, H⟩ := iT H
      obtain ⟨c8b0, H⟩ := iT H
      by_cases c9 : ((rd_T146 l0 (ji6)).f1) ≥ ((rd_T146 l0 x3_1).f0)
      ·rw [if_pos c9] at H
       have c9b0 : decide (((rd_T146 l0 x3_1).f0) ≤ ((rd_T146 l0 (ji6)).f1)) = true := decide_eq_true c9
       clear c9
       obtain rfl := Option.some.inj H
       have p301 : 0 ≤ (x3_1 : Int) := dA
       have q301 : x3_1 < (l0.length : Int) := dA
       obtain ⟨ad301, e301, hx301_0, hx301_1⟩ := at_T146 HR0.out x3_1 p301 q301
       cases e301
       replace p301 := eq_true p301
       replace q301 := eq_true q301
       have p302 : 0 ≤ (x3_1 : Int) := dA
       have q302 : x3_1 < (l0.length : Int) := dA
       obtain ⟨ad302, e302, hx302_0, hx302_1⟩ := at_T146 HR0.out x3_1 p302 q302
       obtain rfl : ad301 = ad302 := (by injection e302)
       replace p302 := eq_true p302
       replace q302 := eq_true q302
       have p303 : 0 ≤ ((ji6) : Int) := dA
       have q303 : (ji6) < (l0.length : Int) := dA
       obtain ⟨ad303, e303, hx303_0, hx303_1⟩ := at_T146 HR0.out (ji6) p303 q303
       obtain rfl : ad301 = ad303 := (by injection e303)
       replace p303 := eq_true p303
       replace q303 := eq_true q303
       have p304 : 0 ≤ (x3_1 : Int) := dA
       have q304 : x3_1 < (l0.length : Int) := dA
       obtain ⟨ad304, e304, hx304_0, hx304_1⟩ := at_T146 HR0.out x3_1 p304 q304
       obtain rfl : ad301 = ad304 := (by injection e304)
       replace p304 := eq_true p304
       replace q304 := eq_true q304
       go_wp2
       repeat (go_quiet (fail); try go_wp2)
       go_ret
       exact ⟨by first | rfl | (simp; done) | (simp only [← hji6] <;> (first | rfl | simp)) | (simp [*]; done), dS⟩
      ·rw [if_neg c9] at H
       have c9b0 : decide (((rd_T146 l0 x3_1).f0) ≤ ((rd_T146 l0 (ji6)).f1)) = false := decide_eq_false c9
       clear c9
       have H' := Aside0.mk H
       clear H
       have p301 : 0 ≤ (x3_1 : Int) := dA
       have q301 : x3_1 < (l0.length : Int) := dA
       obtain ⟨ad301, e301, hx301_0, hx301_1⟩ := at_T146 HR0.out x3_1 p301 q301
       cases e301
       replace p301 := eq_true p301
       replace q301 := eq_true q301
       have p302 : 0 ≤ (x3_1 : Int) := dA
       have q302 : x3_1 < (l0.length : Int) := dA
       obtain ⟨ad302, e302, hx302_0, hx302_1⟩ := at_T146 HR0.out x3_1 p302 q302
       obtain rfl : ad301 = ad302 := (by injection e302)
       replace p302 := eq_true p302
       replace q302 := eq_true q302
       have p303 : 0 ≤ ((ji6) : Int) := dA
       have q303 : (ji6) < (l0.length : Int) := dA
       obtain ⟨ad303, e303, hx303_0, hx303_1⟩ := at_T146 HR0.out (ji6) p303 q303
       obtain rfl : ad301 = ad303 := (by injection e303)
       replace p303 := eq_true p303
       replace q303 := eq_true q303
       have p304 : 0 ≤ (x3_1 : Int) := dA
       have q304 : x3_1 < (l0.length : Int) := dA
       obtain ⟨ad304, e304, hx304_0, hx304_1⟩ := at_T146 HR0.out x3_1 p304 q304
       obtain rfl : ad301 = ad304 := (by injection e304)
       replace p304 := eq_true p304
       replace q304 := eq_true q304
       go_wp2
       repeat (go_quiet (fail); try go_wp2)
       go_roundg k1
       case measure => have := HK1.out; omega
       case rel => exact ⟨(wrap64 (x3_1 + 1)), fS, H', ⟨by have := HK1.out; omega⟩, dS⟩
     ·rw [if_neg c5] at H
      have c5b0 : decide (0 < x3_1) = false := decide_eq_false c5
      clear c5
      have H' := Aside0.mk H
      clear H
      have p301 : 0 ≤ (x3_1 : Int) := dA
      have q301 : x3_1 < (l0.length : Int) := dA
      obtain ⟨ad301, e301, hx301_0, hx301_1⟩ := at_T146 HR0.out x3_1 p301 q301
      cases e301
      replace p301 := eq_true p301
      replace q301 := eq_true q301
      have p302 : 0 ≤ (x3_1 : Int) := dA
      have q302 : x3_1 < (l0.length : Int) := dA
      obtain ⟨ad302, e302, hx302_0, hx302_1⟩ := at_T146 HR0.out x3_1 p302 q302
      obtain rfl : ad301 = ad302 := (by injection e302)
      replace p302 := eq_true p302
      replace q302 := eq_true q302
      go_wp2
      repeat (go_quiet (fail); try go_wp2)
      go_roundg k1
      case measure => have := HK1.out; omega
      case rel => exact ⟨(wrap64 (x3_1 + 1)), fS, H', ⟨by have := HK1.out; omega⟩, dS⟩
   ·obtain rfl := Option.some.inj H
    go_wp2
    repeat (go_quiet (fail); try go_wp2)
    go_ret
    exact ⟨fS, dS⟩

end Go.Proofs.YtncfipboidmfbaaGreat.QFnExactMergeBand
