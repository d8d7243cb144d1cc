-- Made out of the translation by a program of this session (a changed copy of the print). Not trusted: Lean checks it.
import Derived.Test.YtncfipboidmfbaaGreatQFnExactRowsOfBandx0
import Derived.Test.YtncfipboidmfbaaGreatQFnExactRowsOfBandx1
import Derived.Test.YtncfipboidmfbaaGreatQFnExactRowsOfBandx3
namespace Go.Proofs.YtncfipboidmfbaaGreat.QFnExactRowsOfBand
open Go.RowKit Go.Proofs.YtncfipboidmfbaaGreatW.PrintWords Go.Proofs.YtncfipboidmfbaaGreatW.PrintLast Go.Proofs.YtncfipboidmfbaaGreatW.PrintMore
attribute [local go_sem] max2_int min2_int max_two min_two max_three min_three max_four min_four   -- for this text's walks alone
set_option linter.unusedVariables false
set_option linter.unusedSimpArgs false
set_option maxHeartbeats 8000000
set_option maxRecDepth 100000

/-! ### spec_BoxOf: function 141 -/
def spec_BoxOf.l0 : Nat → List (S151) → Int → Int → Int → Int → Int → Option (Int × Int × Int × Int)
 | 0, _, _, _, _, _, _ => none
 | k + 1, x0, x4, x192000, x192001, x192002, x192003 => if x4 < (x0.length : Int) then (if 0 ≤ x4 then ((spec_PointOk.f ((rd_T151 x0 x4).f0) ((rd_T151 x0 x4).f1)).bind fun t194 => (if t194 = true then (if x4 = 0 then (spec_BoxOf.l0 k x0 (wrap64 (x4 + 1)) ((rd_T151 x0 x4).f0) ((rd_T151 x0 x4).f1) ((rd_T151 x0 x4).f0) ((rd_T151 x0 x4).f1)) else (spec_BoxOf.l0 k x0 (wrap64 (x4 + 1)) (mn x192000 ((rd_T151 x0 x4).f0)) (mn x192001 ((rd_T151 x0 x4).f1)) (mx x192002 ((rd_T151 x0 x4).f0)) (mx x192003 ((rd_T151 x0 x4).f1)))) else (some (0, 0, 0, 0)))) else (none)) else (some (x192000, x192001, x192002, x192003))
def spec_BoxOf.f (k : Nat) (l0 : List (S151)) : Option (Int × Int × Int × Int) := spec_BoxOf.l0 k l0 0 0 0 0 0
theorem spec_BoxOf.calls (k : Nat) (A0 : Option Addr) (c0 : Nat) (l0 : List (S151)) (r1 : Int) (r2 : Int) (r3 : Int) (r4 : Int) (w : World) (hr0 : Kd.C k151 w A0 l0.length l0) (hc0 : l0.length ≤ c0) (h : spec_BoxOf.f k l0 = some (r1, r2, r3, r4)) :
  Calls Tryz.prog 141 #[.slice A0 l0.length c0] w fun e w' => e = .returned (.agg #[.int .i64 r1, .int .i64 r2, .int .i64 r3, .int .i64 r4]) ∧ Below w.heap.size w w' := by
 have hu47 := Tryz.underlying47
 have hu151 := Tryz.underlying151
 have HR0 := Aside0.mk hr0
 have HC0 := Aside0.mk hc0
 clear hr0 hc0
 have HB := Aside0.mk (Below.refl w.heap.size w)
 have H : (spec_BoxOf.l0 k l0 0 0 0 0 0) = some (r1, r2, r3, r4) := h
 clear h
 have H' := Aside0.mk H
 clear H
 go_enter Tryz.func141, Tryz.ntmps141
 go_wp2_with (first | ((with_reducible refine gD 2 ?_); refine bxE #[.int .i64 0, .int .i64 0, .int .i64 0, .int .i64 0] 47 ?_; intro gb190 hg w2 BK190 hb; have GW190 := gE hg; have GE190 := gE hg; replace HB := hB hb; clear hb hg) | ((with_reducible refine gD 3 ?_); refine bxE #[.int .i64 0, .int .i64 0, .int .i64 0, .int .i64 0] 47 ?_; intro gb191 hg w3 BK191 hb; have GW191 := gE hg; have GE191 := gE hg; have NB190_191 := nL (g := gb190) hg; have NB191_190 := nG (g := gb190) hg; replace BK190 := kB (g := gb190) hb; replace HB := hB hb; clear hb hg; have hnb4 := NB191_190.out; have hnc4 := NB190_191.out; have hcz5_0 : w3.cell? ⟨gb191, 0, none⟩ = some (.int .i64 0) := (blk_cell BK191.out 0).trans rfl; have hcz5_1 : w3.cell? ⟨gb191, 1, none⟩ = some (.int .i64 0) := (blk_cell BK191.out 1).trans rfl; have hcz5_2 : w3.cell? ⟨gb191, 2, none⟩ = some (.int .i64 0) := (blk_cell BK191.out 2).trans rfl; have hcz5_3 : w3.cell? ⟨gb191, 3, none⟩ = some (.int .i64 0) := (blk_cell BK191.out 3).trans rfl; have hfz5_0 := blk_frozen BK191.out 0; have hfz5_1 := blk_frozen BK191.out 1; have hfz5_2 := blk_frozen BK191.out 2; have hfz5_3 := blk_frozen BK191.out 3))
 go_loopg [4] k (fun kq v4 w' => ∃ (x4_1 : Int) (x191000_1 : Int) (x191001_1 : Int) (x191002_1 : Int) (x191003_1 : Int) (x192000_1 : Int) (x192001_1 : Int) (x192002_1 : Int) (x192003_1 : Int), v4 = .int .i64 x4_1 ∧ Aside0 (spec_BoxOf.l0 kq l0 x4_1 x192000_1 x192001_1 x192002_1 x192003_1 = some (r1, r2, r3, r4)) ∧ Aside0 (kq ≤ k) ∧ Aside0 (w'.heap[gb190]? = some (.cells #[.int .i64 x191000_1, .int .i64 x191001_1, .int .i64 x191002_1, .int .i64 x191003_1] 47 (0, 0))) ∧ Aside0 (w'.heap[gb191]? = some (.cells #[.int .i64 x192000_1, .int .i64 x192001_1, .int .i64 x192002_1, .int .i64 x192003_1] 47 (0, 0))) ∧ Aside0 (Below w.heap.size w w'))
 case atStart => exact ⟨(0), (0), (0), (0), (0), (0), (0), (0), (0), (by first | rfl | (simp; done) | (simp [*]; done)), H', ⟨Nat.le_refl _⟩, ⟨kS⟩, ⟨kS⟩, ⟨bS⟩⟩
 case round =>
  clear H'
  try clear c1
  try clear p2
  try clear c4
  try clear hcz5_0
  try clear hcz5_1
  try clear hcz5_2
  try clear hcz5_3
  try clear hfz5_0
  try clear hfz5_1
  try clear hfz5_2
  try clear hfz5_3
  obtain ⟨x4_1, x191000_1, x191001_1, x191002_1, x191003_1, x192000_1, x192001_1, x192002_1, x192003_1, rfl, HA, HK1, BK190, BK191, HB⟩ := hrel
  cases gk with
  | zero => exact absurd HA.out (by simp [spec_BoxOf.l0])
  | succ k1 =>
   have H := HA.out
   clear HA
   simp only [spec_BoxOf.l0] at H
   by_cases c6 : x4_1 < (l0.length : Int)
   ·rw [if_pos c6] at H
    have c6b0 : decide (x4_1 < (l0.length : Int)) = true := decide_eq_true c6
    clear c6
    by_cases c7 : 0 ≤ x4_1
    ·rw [if_pos c7] at H
     have c7b0 : decide (0 ≤ x4_1) = true := decide_eq_true c7
     clear c7
     replace H := bN H
     obtain ⟨t194, A8, H⟩ := H
     by_cases c9 : t194 = true
     ·subst c9
      rw [if_pos rfl] at H
      by_cases c10 : x4_1 = 0
      ·rw [if_pos c10] at H
       have c10b0 : (x4_1 == 0) = true := beq_iff_eq.mpr c10
       have c10b1 : (x4_1 != 0) = false := bne_eq_false_iff_eq.mpr c10
       clear c10
       have H' := Aside0.mk H
       clear H
       have p192 : 0 ≤ (x4_1 : Int) := of_decide_eq_true (by first | (with_reducible assumption) | assumption)
       have q192 : x4_1 < (l0.length : Int) := of_decide_eq_true (by first | (with_reducible assumption) | assumption)
       obtain ⟨ad192, e192, hx192_0, hx192_1⟩ := at_T151 HR0.out x4_1 p192 q192
       cases e192
       replace hx192_0 := (HB.out.cell (World.block_lt_of_cell? w _ hx192_0)).trans hx192_0
       replace hx192_1 := (HB.out.cell (World.block_lt_of_cell? w _ hx192_1)).trans hx192_1
       replace p192 := eq_true p192
       replace q192 := eq_true q192
       go_wp2_with (first | ((with_reducible refine gD 5 ?_); refine bxE #[.int .i64 0, .int .i64 0] 151 ?_; intro gb193 hg w11 BK193 hb; have GW193 := gE hg; have GE193 := gE hg; have NB190_193 := nL (g := gb190) hg; have NB193_190 := nG (g := gb190) hg; have NB191_193 := nL (g := gb191) hg; have NB193_191 := nG (g := gb191) hg; replace BK190 := kB (g := gb190) hb; replace BK191 := kB (g := gb191) hb; replace HB := hB hb; clear hb hg; have hnb12 := NB193_190.out; have hnc12 := NB190_193.out; have hnb13 := NB193_191.out; have hnc13 := NB191_193.out; have hz14 := cz2 BK193) | ((with_reducible refine gC 175 ?_); refine cL (some 18) Tryz.func175 #[.agg #[.int .i64 ((rd_T151 l0 x4_1).f0), .int .i64 ((rd_T151 l0 x4_1).f1)]] ?_; (with_reducible refine (spec_PointOk.calls ((rd_T151 l0 x4_1).f0) ((rd_T151 l0 x4_1).f1) _ _ A8.out).mono ?_); rintro e w15 ⟨rfl, hb⟩; refine ⟨_, rfl, ?_⟩; replace BK190 := kB (g := gb190) hb; replace BK191 := kB (g := gb191) hb; replace BK193 := Aside0.mk (blk_below (g := gb193) (o := .cells #[.int .i64 ((rd_T151 l0 x4_1).f0), .int .i64 ((rd_T151 l0 x4_1).f1)] 151 (0, 0)) kS hb); replace HB := hB hb; (try clear hb); (try clear hb2); (try clear hk); (try clear hi); have hz16 := cz2 BK193; have hnb17 := NB191_190.out; have hnc17 := NB190_191.out; have hz18 := cz4 BK191))
       go_roundg k1
       case measure => have := HK1.out; omega
       case rel => exact ⟨(wrap64 (x4_1 + 1)), (x191000_1), (x191001_1), (x191002_1), (x191003_1), ((rd_T151 l0 x4_1).f0), ((rd_T151 l0 x4_1).f1), ((rd_T151 l0 x4_1).f0), ((rd_T151 l0 x4_1).f1), (by first | rfl | (simp; done) | (simp [*]; done)), H', ⟨by have := HK1.out; omega⟩, ⟨kS⟩, ⟨kS⟩, ⟨bS⟩⟩
      ·rw [if_neg c10] at H
       have c10b0 : (x4_1 == 0) = false := beq_eq_false_iff_ne.mpr c10
       have c10b1 : (x4_1 != 0) = true := bne_iff_ne.mpr c10
       obtain ⟨ji19, hji19⟩ : ∃ j_ : Int, (mn x192000_1 ((rd_T151 l0 x4_1).f0)) = j_ := ⟨_, rfl⟩
       replace H : (spec_BoxOf.l0 k1 l0 (wrap64 (x4_1 + 1)) ji19 (mn x192001_1 ((rd_T151 l0 x4_1).f1)) (mx x192002_1 ((rd_T151 l0 x4_1).f0)) (mx x192003_1 ((rd_T151 l0 x4_1).f1))) = some (r1, r2, r3, r4) := by first | (rw [hji19] at H; exact H) | (simp only [hji19] at H ⊢; exact H)
       (try rw [hji19] at A8)
       have hji19_ : (if ((rd_T151 l0 x4_1).f0) < x192000_1 then ((rd_T151 l0 x4_1).f0) else x192000_1) = ji19 := hji19
       obtain ⟨ji20, hji20⟩ : ∃ j_ : Int, (mn x192001_1 ((rd_T151 l0 x4_1).f1)) = j_ := ⟨_, rfl⟩
       replace H : (spec_BoxOf.l0 k1 l0 (wrap64 (x4_1 + 1)) ji19 ji20 (mx x192002_1 ((rd_T151 l0 x4_1).f0)) (mx x192003_1 ((rd_T151 l0 x4_1).f1))) = some (r1, r2, r3, r4) := by first | (rw [hji20] at H; exact H) | (simp only [hji20] at H ⊢; exact H)
       (try rw [hji20] at A8)
       have hji20_ : (if ((rd_T151 l0 x4_1).f1) < x192001_1 then ((rd_T151 l0 x4_1).f1) else x192001_1) = ji20 := hji20
       obtain ⟨ji21, hji21⟩ : ∃ j_ : Int, (mx x192002_1 ((rd_T151 l0 x4_1).f0)) = j_ := ⟨_, rfl⟩
       replace H : (spec_BoxOf.l0 k1 l0 (wrap64 (x4_1 + 1)) ji19 ji20 ji21 (mx x192003_1 ((rd_T151 l0 x4_1).f1))) = some (r1, r2, r3, r4) := by first | (rw [hji21] at H; exact H) | (simp only [hji21] at H ⊢; exact H)
       (try rw [hji21] at A8)
       have hji21_ : (if x192002_1 < ((rd_T151 l0 x4_1).f0) then ((rd_T151 l0 x4_1).f0) else x192002_1) = ji21 := hji21
       obtain ⟨ji22, hji22⟩ : ∃ j_ : Int, (mx x192003_1 ((rd_T151 l0 x4_1).f1)) = j_ := ⟨_, rfl⟩
       replace H : (spec_BoxOf.l0 k1 l0 (wrap64 (x4_1 + 1)) ji19 ji20 ji21 ji22) = some (r1, r2, r3, r4) := by first | (rw [hji22] at H; exact H) | (simp only [hji22] at H ⊢; exact H)
       (try rw [hji22] at A8)
       have hji22_ : (if x192003_1 < ((rd_T151 l0 x4_1).f1) then ((rd_T151 l0 x4_1).f1) else x192003_1) = ji22 := hji22
       have H' := Aside0.mk H
       clear H
       have p192 : 0 ≤ (x4_1 : Int) := of_decide_eq_true (by first | (with_reducible assumption) | assumption)
       have q192 : x4_1 < (l0.length : Int) := of_decide_eq_true (by first | (with_reducible assumption) | assumption)
       obtain ⟨ad192, e192, hx192_0, hx192_1⟩ := at_T151 HR0.out x4_1 p192 q192
       cases e192
       replace hx192_0 := (HB.out.cell (World.block_lt_of_cell? w _ hx192_0)).trans hx192_0
       replace hx192_1 := (HB.out.cell (World.block_lt_of_cell? w _ hx192_1)).trans hx192_1
       replace p192 := eq_true p192
       replace q192 := eq_true q192
       go_wp2_with (first | ((with_reducible refine gD 5 ?_); refine bxE #[.int .i64 0, .int .i64 0] 151 ?_; intro gb193 hg w23 BK193 hb; have GW193 := gE hg; have GE193 := gE hg; have NB190_193 := nL (g := gb190) hg; have NB193_190 := nG (g := gb190) hg; have NB191_193 := nL (g := gb191) hg; have NB193_191 := nG (g := gb191) hg; replace BK190 := kB (g := gb190) hb; replace BK191 := kB (g := gb191) hb; replace HB := hB hb; clear hb hg; have hnb24 := NB193_190.out; have hnc24 := NB190_193.out; have hnb25 := NB193_191.out; have hnc25 := NB191_193.out; have hz26 := cz2 BK193) | ((with_reducible refine gC 175 ?_); refine cL (some 18) Tryz.func175 #[.agg #[.int .i64 ((rd_T151 l0 x4_1).f0), .int .i64 ((rd_T151 l0 x4_1).f1)]] ?_; (with_reducible refine (spec_PointOk.calls ((rd_T151 l0 x4_1).f0) ((rd_T151 l0 x4_1).f1) _ _ A8.out).mono ?_); rintro e w27 ⟨rfl, hb⟩; refine ⟨_, rfl, ?_⟩; replace BK190 := kB (g := gb190) hb; replace BK191 := kB (g := gb191) hb; replace BK193 := Aside0.mk (blk_below (g := gb193) (o := .cells #[.int .i64 ((rd_T151 l0 x4_1).f0), .int .i64 ((rd_T151 l0 x4_1).f1)] 151 (0, 0)) kS hb); replace HB := hB hb; (try clear hb); (try clear hb2); (try clear hk); (try clear hi); have hnb28 := NB191_190.out; have hnc28 := NB190_191.out; have hz29 := cz4 BK191; have hz30 := cz2 BK193))
       go_roundg k1
       case measure => have := HK1.out; omega
       case rel => exact ⟨(wrap64 (x4_1 + 1)), (x191000_1), (x191001_1), (x191002_1), (x191003_1), (ji19), (ji20), (ji21), (ji22), (by first | rfl | (simp; done) | (simp [*]; done)), H', ⟨by have := HK1.out; omega⟩, ⟨kS⟩, ⟨kS⟩, ⟨bS⟩⟩
     ·obtain rfl := Bool.eq_false_iff.mpr c9
      rw [if_neg nF] at H
      simp only [Option.some.injEq, Prod.mk.injEq] at H
      obtain ⟨rfl, rfl, rfl, rfl⟩ := H
      have p192 : 0 ≤ (x4_1 : Int) := of_decide_eq_true (by first | (with_reducible assumption) | assumption)
      have q192 : x4_1 < (l0.length : Int) := of_decide_eq_true (by first | (with_reducible assumption) | assumption)
      obtain ⟨ad192, e192, hx192_0, hx192_1⟩ := at_T151 HR0.out x4_1 p192 q192
      cases e192
      replace hx192_0 := (HB.out.cell (World.block_lt_of_cell? w _ hx192_0)).trans hx192_0
      replace hx192_1 := (HB.out.cell (World.block_lt_of_cell? w _ hx192_1)).trans hx192_1
      replace p192 := eq_true p192
      replace q192 := eq_true q192
      go_wp2_with (first | ((with_reducible refine gD 5 ?_); refine bxE #[.int .i64 0, .int .i64 0] 151 ?_; intro gb193 hg w31 BK193 hb; have GW193 := gE hg; have GE193 := gE hg; have NB190_193 := nL (g := gb190) hg; have NB193_190 := nG (g := gb190) hg; have NB191_193 := nL (g := gb191) hg; have NB193_191 := nG (g := gb191) hg; replace BK190 := kB (g := gb190) hb; replace BK191 := kB (g := gb191) hb; replace HB := hB hb; clear hb hg; have hnb32 := NB193_190.out; have hnc32 := NB190_193.out; have hnb33 := NB193_191.out; have hnc33 := NB191_193.out; have hz34 := cz2 BK193) | ((with_reducible refine gC 175 ?_); refine cL (some 18) Tryz.func175 #[.agg #[.int .i64 ((rd_T151 l0 x4_1).f0), .int .i64 ((rd_T151 l0 x4_1).f1)]] ?_; (with_reducible refine (spec_PointOk.calls ((rd_T151 l0 x4_1).f0) ((rd_T151 l0 x4_1).f1) _ _ A8.out).mono ?_); rintro e w35 ⟨rfl, hb⟩; refine ⟨_, rfl, ?_⟩; replace BK190 := kB (g := gb190) hb; replace BK191 := kB (g := gb191) hb; replace BK193 := Aside0.mk (blk_below (g := gb193) (o := .cells #[.int .i64 ((rd_T151 l0 x4_1).f0), .int .i64 ((rd_T151 l0 x4_1).f1)] 151 (0, 0)) kS hb); replace HB := hB hb; (try clear hb); (try clear hb2); (try clear hk); (try clear hi); have hnb36 := NB190_191.out; have hnc36 := NB191_190.out; have hz37 := cz4 BK190))
      refine bodyPost_ret (results_cell_row rfl _ _ gb190 47 #[.int .i64 0, .int .i64 0, .int .i64 0, .int .i64 0] (0, 0) _ rfl kS Tryz.underlying47 rfl (by kernel_rfl)) rfl ?_
      exact ⟨eS, bS⟩
    ·rw [if_neg c7] at H
     exact absurd H (by simp)
   ·rw [if_neg c6] at H
    have c6b0 : decide (x4_1 < (l0.length : Int)) = false := decide_eq_false c6
    clear c6
    simp only [Option.some.injEq, Prod.mk.injEq] at H
    obtain ⟨rfl, rfl, rfl, rfl⟩ := H
    have hnb38 := NB191_190.out
    have hnc38 := NB190_191.out
    have hz39 := cz4 BK191
    have hz40 := cz4 BK190
    go_wp2
    refine bodyPost_ret (results_cell_row rfl _ _ gb190 47 #[.int .i64 x192000_1, .int .i64 x192001_1, .int .i64 x192002_1, .int .i64 x192003_1] (0, 0) _ rfl kS Tryz.underlying47 rfl (by kernel_rfl)) rfl ?_
    exact ⟨eS, bS⟩

/-! ### spec_l07Full: function 158 -/
def spec_l07Full.f  : Option (Int × Int × Int × Int) := some (0, 0, 32, 32)
theorem spec_l07Full.calls  (r1 : Int) (r2 : Int) (r3 : Int) (r4 : Int) (w : World) (h : spec_l07Full.f  = some (r1, r2, r3, r4)) :
  Calls Tryz.prog 158 #[] w fun e w' => e = .returned (.agg #[.int .i64 r1, .int .i64 r2, .int .i64 r3, .int .i64 r4]) ∧ Below w.heap.size w w' := by
 have hu47 := Tryz.underlying47
 have HB := Aside0.mk (Below.refl w.heap.size w)
 have H : (some (0, 0, 32, 32)) = some (r1, r2, r3, r4) := h
 clear h
 simp only [Option.some.injEq, Prod.mk.injEq] at H
 obtain ⟨rfl, rfl, rfl, rfl⟩ := H
 go_enter Tryz.func158, Tryz.ntmps158
 go_wp2_with (first | ((with_reducible refine gD 0 ?_); refine bxE #[.int .i64 0, .int .i64 0, .int .i64 0, .int .i64 0] 47 ?_; intro gb195 hg w1 BK195 hb; have GW195 := gE hg; have GE195 := gE hg; replace HB := hB hb; clear hb hg; have hz2 := cz4 BK195))
 refine bodyPost_ret (results_cell_row rfl _ _ gb195 47 #[.int .i64 0, .int .i64 0, .int .i64 32, .int .i64 32] (0, 0) _ rfl kS Tryz.underlying47 rfl (by kernel_rfl)) rfl ?_
 exact ⟨eS, bS⟩

/-! ### spec_ObjectBox: function 121 -/
def spec_ObjectBox.f (k : Nat) (l0_0 : List (S151)) (a0_1 : Int) (a0_2 : Int) (a0_3 : Int) (a0_4 : Int) (a0_5 : Int) : Option (Int × Int × Int × Int) := (spec_ObjectOk.f k l0_0 a0_1 a0_2 a0_3 a0_4 a0_5).bind fun t198 => (if t198 = true then ((spec_BoxOf.f k l0_0).bind fun bt199 => ((spec_MeetBox.f bt199.1 bt199.2.1 bt199.2.2.1 bt199.2.2.2 a0_2 a0_3 a0_4 a0_5).bind fun bt203 => ((spec_l07Full.f).bind fun bt207 => ((spec_MeetBox.f bt203.1 bt203.2.1 bt203.2.2.1 bt203.2.2.2 bt207.1 bt207.2.1 bt207.2.2.1 bt207.2.2.2).bind fun bt211 => (some (bt211.1, bt211.2.1, bt211.2.2.1, bt211.2.2.2)))))) else (some (0, 0, 0, 0)))
def spec_ObjectBox.T3 : Bool × List (List Nat × List Nat) := (true, [([], []), ([0], [0]), ([1], [1]), ([], []), ([3], [3]), ([2, 4, 2], [2, 4]), ([5], []), ([5, 6, 6], [5, 6]), ([7, 7, 0, 1, 2, 3, 4, 5, 6, 7], [7])])
def spec_ObjectBox.B3 : List Nat := [0, 1, 3, 0, 8, 31, 63, 127, 255]
theorem spec_ObjectBox.tab3 : rtab .any (opsOf Tryz.f121 3) = spec_ObjectBox.T3 := by kernel_rfl
theorem spec_ObjectBox.bits3 : waitsOk spec_ObjectBox.T3.2 spec_ObjectBox.B3 = true := by kernel_rfl
theorem spec_ObjectBox.calls (k : Nat) (A0_0 : Option Addr) (c0_0 : Nat) (l0_0 : List (S151)) (a0_1 : Int) (a0_2 : Int) (a0_3 : Int) (a0_4 : Int) (a0_5 : Int) (r1 : Int) (r2 : Int) (r3 : Int) (r4 : Int) (w : World) (hr0_0 : Kd.C k151 w A0_0 l0_0.length l0_0) (hc0_0 : l0_0.length ≤ c0_0) (h : spec_ObjectBox.f k l0_0 a0_1 a0_2 a0_3 a0_4 a0_5 = some (r1, r2, r3, r4)) :
  Calls Tryz.prog 121 #[.agg #[.slice A0_0 l0_0.length c0_0, .int .i64 a0_1, .int .i64 a0_2, .int .i64 a0_3, .int .i64 a0_4, .int .i64 a0_5]] w fun e w' => e = .returned (.agg #[.int .i64 r1, .int .i64 r2, .int .i64 r3, .int .i64 r4]) ∧ Below w.heap.size w w' := by
 have hu49 := Tryz.underlying49
 have hu47 := Tryz.underlying47
 have HR0_0 := Aside0.mk hr0_0
 have HC0_0 := Aside0.mk hc0_0
 clear hr0_0 hc0_0
 have HB := Aside0.mk (Below.refl w.heap.size w)
 have H : ((spec_ObjectOk.f k l0_0 a0_1 a0_2 a0_3 a0_4 a0_5).bind fun t198 => (if t198 = true then ((spec_BoxOf.f k l0_0).bind fun bt199 => ((spec_MeetBox.f bt199.1 bt199.2.1 bt199.2.2.1 bt199.2.2.2 a0_2 a0_3 a0_4 a0_5).bind fun bt203 => ((spec_l07Full.f).bind fun bt207 => ((spec_MeetBox.f bt203.1 bt203.2.1 bt203.2.2.1 bt203.2.2.2 bt207.1 bt207.2.1 bt207.2.2.1 bt207.2.2.2).bind fun bt211 => (some (bt211.1, bt211.2.1, bt211.2.2.1, bt211.2.2.2)))))) else (some (0, 0, 0, 0)))) = some (r1, r2, r3, r4) := h
 clear h
 replace H := bN H
 obtain ⟨t198, A2, H⟩ := H
 by_cases c3 : t198 = true
 ·subst c3
  rw [if_pos rfl] at H
  replace H := bN H
  obtain ⟨⟨t199, t200, t201, t202⟩, A4, H⟩ := H
  replace H := bN H
  obtain ⟨⟨t203, t204, t205, t206⟩, A5, H⟩ := H
  replace H := bN H
  obtain ⟨⟨t207, t208, t209, t210⟩, A6, H⟩ := H
  replace H := bN H
  obtain ⟨⟨t211, t212, t213, t214⟩, A7, H⟩ := H
  simp only [Option.some.injEq, Prod.mk.injEq] at H
  obtain ⟨rfl, rfl, rfl, rfl⟩ := H
  go_enter Tryz.func121, Tryz.ntmps121
  try go_wp2_with (first | ((with_reducible refine gD 1 ?_); refine bxE #[.slice A0_0 l0_0.length c0_0, .int .i64 a0_1, .int .i64 a0_2, .int .i64 a0_3, .int .i64 a0_4, .int .i64 a0_5] 49 ?_; intro gb196 hg w8 BK196 hb; have GW196 := gE hg; have GE196 := gE hg; replace HB := hB hb; clear hb hg) | ((with_reducible refine gD 2 ?_); refine bxE #[.int .i64 0, .int .i64 0, .int .i64 0, .int .i64 0] 47 ?_; intro gb197 hg w9 BK197 hb; have GW197 := gE hg; have GE197 := gE hg; have NB196_197 := nL (g := gb196) hg; have NB197_196 := nG (g := gb196) hg; replace BK196 := kB (g := gb196) hb; replace HB := hB hb; clear hb hg; have hnb10 := NB196_197.out; have hnc10 := NB197_196.out; have hz11 := cz6 BK196) | ((with_reducible refine gC 58 ?_); refine cL (some 4) Tryz.func58 #[.agg #[.slice A0_0 l0_0.length c0_0, .int .i64 a0_1, .int .i64 a0_2, .int .i64 a0_3, .int .i64 a0_4, .int .i64 a0_5]] ?_; (with_reducible refine (spec_ObjectOk.calls k _ _ l0_0 a0_1 a0_2 a0_3 a0_4 a0_5 _ _ ?side1 ?side2 A2.out).mono ?_); (case side1 => exact cS (Kd.C_below HR0_0.out HB.out)); (case side2 => exact HC0_0.out); rintro e w12 ⟨rfl, hb⟩; refine ⟨_, rfl, ?_⟩; replace BK196 := kB (g := gb196) hb; replace BK197 := kB (g := gb197) hb; replace HB := hB hb; (try clear hb); (try clear hb2); (try clear hk); (try clear hi)))
  replace BK196 := Aside0.mk (blk_drew BK196.out)
  replace BK197 := Aside0.mk (blk_drew BK197.out)
  replace HB := Aside0.mk (below_drew1 HB.out)
  refine start_ (n := 9) (S := fun w' => w'.cell? ⟨gb196, 0, none⟩ = some (.slice A0_0 l0_0.length c0_0) ∧ w'.cell? ⟨gb196, 1, none⟩ = some (.int .i64 a0_1) ∧ w'.cell? ⟨gb196, 2, none⟩ = some (.int .i64 a0_2) ∧ w'.cell? ⟨gb196, 3, none⟩ = some (.int .i64 a0_3) ∧ w'.cell? ⟨gb196, 4, none⟩ = some (.int .i64 a0_4) ∧ w'.cell? ⟨gb196, 5, none⟩ = some (.int .i64 a0_5)) (ds := []) #[false, false, false, false, false, false, false, false, false] (by kernel_rfl) rfl rfl ⟨(blk_cell BK196.out 0).trans rfl, (blk_cell BK196.out 1).trans rfl, (blk_cell BK196.out 2).trans rfl, (blk_cell BK196.out 3).trans rfl, (blk_cell BK196.out 4).trans rfl, (blk_cell BK196.out 5).trans rfl⟩ (fun hHeld => ?_); refine with_tabW spec_ObjectBox.tab3 spec_ObjectBox.bits3 (fun HT_ HW_ => ?_)
  generalize w12.drew = w13 at BK196 BK197 HB hHeld ⊢
  refine pU 0 (some 7) #[true, false, false, false, false, false, false, false, false] ?_
  refine pU 3 (some 10) #[true, false, false, true, false, false, false, false, false] ?_
  refine tK 1 (some 8) #[true, true, false, true, false, false, false, false, false] ?_
  refine tK 4 (some 11) #[true, true, false, true, true, false, false, false, false] ?_
  refine one_ (i := 2) (N := some 9) #[true, true, true, true, true, false, false, false, false] rfl rfl (one_of HT_.out (by kernel_rfl)) (by decide) (fun K hK => ?_)
  refine goes_ Tryz.func141 (by kernel_rfl) rfl #[.slice A0_0 l0_0.length c0_0] (by rfl) rfl rfl (by (try simp only [List.map_toArray, List.map_cons, List.map_nil]); first | done | rfl | (simp only [List.length_drop, List.length_take]; rfl)) ?_
  with_reducible refine (spec_BoxOf.calls k _ _ l0_0 t199 t200 t201 t202 _ ?side1 ?side2 A4.out).mono ?_
  (case side1 => exact cS (Kd.C_below HR0_0.out HB.out))
  (case side2 => exact HC0_0.out)
  rintro e w14 ⟨rfl, hb⟩
  refine ⟨_, rfl, ?_⟩
  replace BK196 := kB (g := gb196) hb
  replace BK197 := kB (g := gb197) hb
  replace HB := hB hb
  (try clear hb)
  (try clear hb2)
  (try clear hk)
  (try clear hi)
  refine hK.out _ _ ⟨(blk_cell BK196.out 0).trans rfl, (blk_cell BK196.out 1).trans rfl, (blk_cell BK196.out 2).trans rfl, (blk_cell BK196.out 3).trans rfl, (blk_cell BK196.out 4).trans rfl, (blk_cell BK196.out 5).trans rfl⟩ (fun hHeld => ?_)
  clear hK K
  refine norm_ (a' := ?_) ?_ ?_
  rotate_left
  ·show Act.put _ (some 9) _ = _
   simp only [Act.put, List.setIfInBounds_toArray, List.set_cons_zero, List.set_cons_succ, i64_w, i32_w]
   rfl
  refine one_ (i := 5) (N := some 12) #[true, true, true, true, true, true, false, false, false] rfl rfl (one_of HT_.out (by kernel_rfl)) (by decide) (fun K hK => ?_)
  refine goes_ Tryz.func140 (by kernel_rfl) rfl #[.agg #[.int .i64 t199, .int .i64 t200, .int .i64 t201, .int .i64 t202], .agg #[.int .i64 a0_2, .int .i64 a0_3, .int .i64 a0_4, .int .i64 a0_5]] (by rfl) rfl rfl (by (try simp only [List.map_toArray, List.map_cons, List.map_nil]); first | done | rfl | (simp only [List.length_drop, List.length_take]; rfl)) ?_
  with_reducible refine (spec_MeetBox.calls t199 t200 t201 t202 a0_2 a0_3 a0_4 a0_5 t203 t204 t205 t206 _ A5.out).mono ?_
  rintro e w15 ⟨rfl, hb⟩
  refine ⟨_, rfl, ?_⟩
  replace BK196 := kB (g := gb196) hb
  replace BK197 := kB (g := gb197) hb
  replace HB := hB hb
  (try clear hb)
  (try clear hb2)
  (try clear hk)
  (try clear hi)
  refine hK.out _ _ ⟨(blk_cell BK196.out 0).trans rfl, (blk_cell BK196.out 1).trans rfl, (blk_cell BK196.out 2).trans rfl, (blk_cell BK196.out 3).trans rfl, (blk_cell BK196.out 4).trans rfl, (blk_cell BK196.out 5).trans rfl⟩ (fun hHeld => ?_)
  clear hK K
  refine norm_ (a' := ?_) ?_ ?_
  rotate_left
  ·show Act.put _ (some 12) _ = _
   simp only [Act.put, List.setIfInBounds_toArray, List.set_cons_zero, List.set_cons_succ, i64_w, i32_w]
   rfl
  refine one_ (i := 6) (N := some 13) #[true, true, true, true, true, true, true, false, false] rfl rfl (one_of HT_.out (by kernel_rfl)) (by decide) (fun K hK => ?_)
  refine goes_ Tryz.func158 (by kernel_rfl) rfl #[] (by rfl) rfl rfl (by (try simp only [List.map_toArray, List.map_cons, List.map_nil]); first | done | rfl | (simp only [List.length_drop, List.length_take]; rfl)) ?_
  with_reducible refine (spec_l07Full.calls  t207 t208 t209 t210 _ A6.out).mono ?_
  rintro e w16 ⟨rfl, hb⟩
  refine ⟨_, rfl, ?_⟩
  replace BK196 := kB (g := gb196) hb
  replace BK197 := kB (g := gb197) hb
  replace HB := hB hb
  (try clear hb)
  (try clear hb2)
  (try clear hk)
  (try clear hi)
  refine hK.out _ _ ⟨(blk_cell BK196.out 0).trans rfl, (blk_cell BK196.out 1).trans rfl, (blk_cell BK196.out 2).trans rfl, (blk_cell BK196.out 3).trans rfl, (blk_cell BK196.out 4).trans rfl, (blk_cell BK196.out 5).trans rfl⟩ (fun hHeld => ?_)
  clear hK K
  refine norm_ (a' := ?_) ?_ ?_
  rotate_left
  ·show Act.put _ (some 13) _ = _
   simp only [Act.put, List.setIfInBounds_toArray, List.set_cons_zero, List.set_cons_succ, i64_w, i32_w]
   rfl
  refine one_ (i := 7) (N := some 14) #[true, true, true, true, true, true, true, true, false] rfl rfl (one_of HT_.out (by kernel_rfl)) (by decide) (fun K hK => ?_)
  refine goes_ Tryz.func140 (by kernel_rfl) rfl #[.agg #[.int .i64 t203, .int .i64 t204, .int .i64 t205, .int .i64 t206], .agg #[.int .i64 t207, .int .i64 t208, .int .i64 t209, .int .i64 t210]] (by rfl) rfl rfl (by (try simp only [List.map_toArray, List.map_cons, List.map_nil]); first | done | rfl | (simp only [List.length_drop, List.length_take]; rfl)) ?_
  with_reducible refine (spec_MeetBox.calls t203 t204 t205 t206 t207 t208 t209 t210 t211 t212 t213 t214 _ A7.out).mono ?_
  rintro e w17 ⟨rfl, hb⟩
  refine ⟨_, rfl, ?_⟩
  replace BK196 := kB (g := gb196) hb
  replace BK197 := kB (g := gb197) hb
  replace HB := hB hb
  (try clear hb)
  (try clear hb2)
  (try clear hk)
  (try clear hi)
  refine hK.out _ _ ⟨(blk_cell BK196.out 0).trans rfl, (blk_cell BK196.out 1).trans rfl, (blk_cell BK196.out 2).trans rfl, (blk_cell BK196.out 3).trans rfl, (blk_cell BK196.out 4).trans rfl, (blk_cell BK196.out 5).trans rfl⟩ (fun hHeld => ?_)
  clear hK K
  refine norm_ (a' := ?_) ?_ ?_
  rotate_left
  ·show Act.put _ (some 14) _ = _
   simp only [Act.put, List.setIfInBounds_toArray, List.set_cons_zero, List.set_cons_succ, i64_w, i32_w]
   rfl
  refine one_ (i := 8) (N := none) #[true, true, true, true, true, true, true, true, true] rfl rfl (one_of HT_.out (by kernel_rfl)) (by decide) (fun K hK => ?_)
  have hs18 : w17.cell? ⟨gb197, 0, none⟩ = some (.int .i64 0) := (blk_cell BK197.out 0).trans rfl
  have hfs18 := blk_frozen BK197.out 0
  have hns18_0 := NB196_197.out
  have hms18_0 := NB197_196.out
  have hs19 : w17.cell? ⟨gb197, 1, none⟩ = some (.int .i64 0) := (blk_cell BK197.out 1).trans rfl
  have hfs19 := blk_frozen BK197.out 1
  have hns19_0 := NB196_197.out
  have hms19_0 := NB197_196.out
  have hs20 : w17.cell? ⟨gb197, 2, none⟩ = some (.int .i64 0) := (blk_cell BK197.out 2).trans rfl
  have hfs20 := blk_frozen BK197.out 2
  have hns20_0 := NB196_197.out
  have hms20_0 := NB197_196.out
  have hs21 : w17.cell? ⟨gb197, 3, none⟩ = some (.int .i64 0) := (blk_cell BK197.out 3).trans rfl
  have hfs21 := blk_frozen BK197.out 3
  have hns21_0 := NB196_197.out
  have hms21_0 := NB197_196.out
  refine skip_ (w1 := ?_) (by rfl) rfl ?_ ?_
  rotate_left
  ·go_simp
   rfl
  refine hK.out _ _ ⟨((cell_far (p := ⟨gb197, _, none⟩) NB196_197.out _).trans (((cell_far (p := ⟨gb197, _, none⟩) NB196_197.out _).trans (((cell_far (p := ⟨gb197, _, none⟩) NB196_197.out _).trans (((cell_far (p := ⟨gb197, _, none⟩) NB196_197.out _).trans (hHeld.1)))))))), ((cell_far (p := ⟨gb197, _, none⟩) NB196_197.out _).trans (((cell_far (p := ⟨gb197, _, none⟩) NB196_197.out _).trans (((cell_far (p := ⟨gb197, _, none⟩) NB196_197.out _).trans (((cell_far (p := ⟨gb197, _, none⟩) NB196_197.out _).trans (hHeld.2.1)))))))), ((cell_far (p := ⟨gb197, _, none⟩) NB196_197.out _).trans (((cell_far (p := ⟨gb197, _, none⟩) NB196_197.out _).trans (((cell_far (p := ⟨gb197, _, none⟩) NB196_197.out _).trans (((cell_far (p := ⟨gb197, _, none⟩) NB196_197.out _).trans (hHeld.2.2.1)))))))), ((cell_far (p := ⟨gb197, _, none⟩) NB196_197.out _).trans (((cell_far (p := ⟨gb197, _, none⟩) NB196_197.out _).trans (((cell_far (p := ⟨gb197, _, none⟩) NB196_197.out _).trans (((cell_far (p := ⟨gb197, _, none⟩) NB196_197.out _).trans (hHeld.2.2.2.1)))))))), ((cell_far (p := ⟨gb197, _, none⟩) NB196_197.out _).trans (((cell_far (p := ⟨gb197, _, none⟩) NB196_197.out _).trans (((cell_far (p := ⟨gb197, _, none⟩) NB196_197.out _).trans (((cell_far (p := ⟨gb197, _, none⟩) NB196_197.out _).trans (hHeld.2.2.2.2.1)))))))), ((cell_far (p := ⟨gb197, _, none⟩) NB196_197.out _).trans (((cell_far (p := ⟨gb197, _, none⟩) NB196_197.out _).trans (((cell_far (p := ⟨gb197, _, none⟩) NB196_197.out _).trans (((cell_far (p := ⟨gb197, _, none⟩) NB196_197.out _).trans (hHeld.2.2.2.2.2))))))))⟩ (fun hHeld => ?_)
  clear hK K
  refine done_ (done_of HT_.out (by kernel_rfl)) ?_
  try go_wp2
  refine bodyPost_ret (results_cell_row rfl _ _ gb197 47 #[.int .i64 t211, .int .i64 t212, .int .i64 t213, .int .i64 t214] (0, 0) _ rfl kS Tryz.underlying47 rfl (by kernel_rfl)) rfl ?_
  exact ⟨eS, bS⟩
 ·obtain rfl := Bool.eq_false_iff.mpr c3
  rw [if_neg nF] at H
  simp only [Option.some.injEq, Prod.mk.injEq] at H
  obtain ⟨rfl, rfl, rfl, rfl⟩ := H
  go_enter Tryz.func121, Tryz.ntmps121
  go_wp2_with (first | ((with_reducible refine gD 1 ?_); refine bxE #[.slice A0_0 l0_0.length c0_0, .int .i64 a0_1, .int .i64 a0_2, .int .i64 a0_3, .int .i64 a0_4, .int .i64 a0_5] 49 ?_; intro gb196 hg w22 BK196 hb; have GW196 := gE hg; have GE196 := gE hg; replace HB := hB hb; clear hb hg) | ((with_reducible refine gD 2 ?_); refine bxE #[.int .i64 0, .int .i64 0, .int .i64 0, .int .i64 0] 47 ?_; intro gb197 hg w23 BK197 hb; have GW197 := gE hg; have GE197 := gE hg; have NB196_197 := nL (g := gb196) hg; have NB197_196 := nG (g := gb196) hg; replace BK196 := kB (g := gb196) hb; replace HB := hB hb; clear hb hg; have hnb24 := NB196_197.out; have hnc24 := NB197_196.out; have hz25 := cz6 BK196) | ((with_reducible refine gC 58 ?_); refine cL (some 4) Tryz.func58 #[.agg #[.slice A0_0 l0_0.length c0_0, .int .i64 a0_1, .int .i64 a0_2, .int .i64 a0_3, .int .i64 a0_4, .int .i64 a0_5]] ?_; (with_reducible refine (spec_ObjectOk.calls k _ _ l0_0 a0_1 a0_2 a0_3 a0_4 a0_5 _ _ ?side1 ?side2 A2.out).mono ?_); (case side1 => exact cS (Kd.C_below HR0_0.out HB.out)); (case side2 => exact HC0_0.out); rintro e w26 ⟨rfl, hb⟩; refine ⟨_, rfl, ?_⟩; replace BK196 := kB (g := gb196) hb; replace BK197 := kB (g := gb197) hb; replace HB := hB hb; (try clear hb); (try clear hb2); (try clear hk); (try clear hi); have hz27 := cz4 BK197))
  refine bodyPost_ret (results_cell_row rfl _ _ gb197 47 #[.int .i64 0, .int .i64 0, .int .i64 0, .int .i64 0] (0, 0) _ rfl kS Tryz.underlying47 rfl (by kernel_rfl)) rfl ?_
  exact ⟨eS, bS⟩

/-! ### spec_CountDots: function 122 -/
def spec_CountDots.f (a0_0 : Int) (a0_1 : Int) (a0_2 : Int) (a0_3 : Int) : Option (Int) := (spec_BoxOk.f a0_0 a0_1 a0_2 a0_3).bind fun t216 => (if t216 = true then (some (wrap64 ((wrap64 (a0_2 - a0_0)) * (wrap64 (a0_3 - a0_1))))) else (some 0))
theorem spec_CountDots.calls (a0_0 : Int) (a0_1 : Int) (a0_2 : Int) (a0_3 : Int) (r : Int) (w : World) (h : spec_CountDots.f a0_0 a0_1 a0_2 a0_3 = some r) :
  Calls Tryz.prog 122 #[.agg #[.int .i64 a0_0, .int .i64 a0_1, .int .i64 a0_2, .int .i64 a0_3]] w fun e w' => e = .returned (.int .i64 r) ∧ Below w.heap.size w w' := by
 have hu47 := Tryz.underlying47
 have HB := Aside0.mk (Below.refl w.heap.size w)
 have H : ((spec_BoxOk.f a0_0 a0_1 a0_2 a0_3).bind fun t216 => (if t216 = true then (some (wrap64 ((wrap64 (a0_2 - a0_0)) * (wrap64 (a0_3 - a0_1))))) else (some 0))) = some r := h
 clear h
 replace H := bN H
 obtain ⟨t216, A2, H⟩ := H
 by_cases c3 : t216 = true
 ·subst c3
  rw [if_pos rfl] at H
  obtain rfl := Option.some.inj H
  simp only [Option.some.injEq, Prod.mk.injEq] at H
  obtain ⟨rfl⟩ := H
  go_enter Tryz.func122, Tryz.ntmps122
  go_wp2_with (first | ((with_reducible refine gD 1 ?_); refine bxE #[.int .i64 a0_0, .int .i64 a0_1, .int .i64 a0_2, .int .i64 a0_3] 47 ?_; intro gb215 hg w4 BK215 hb; have GW215 := gE hg; have GE215 := gE hg; replace HB := hB hb; clear hb hg; have hz5 := cz4 BK215) | ((with_reducible refine gC 171 ?_); refine cL (some 4) Tryz.func171 #[.agg #[.int .i64 a0_0, .int .i64 a0_1, .int .i64 a0_2, .int .i64 a0_3]] ?_; (with_reducible refine (spec_BoxOk.calls a0_0 a0_1 a0_2 a0_3 _ _ A2.out).mono ?_); rintro e w6 ⟨rfl, hb⟩; refine ⟨_, rfl, ?_⟩; replace BK215 := kB (g := gb215) hb; replace HB := hB hb; (try clear hb); (try clear hb2); (try clear hk); (try clear hi); have hz7 := cz4 BK215))
  go_ret
  exact ⟨eS, bS⟩
 ·obtain rfl := Bool.eq_false_iff.mpr c3
  rw [if_neg nF] at H
  obtain rfl := Option.some.inj H
  simp only [Option.some.injEq, Prod.mk.injEq] at H
  obtain ⟨rfl⟩ := H
  go_enter Tryz.func122, Tryz.ntmps122
  go_wp2_with (first | ((with_reducible refine gD 1 ?_); refine bxE #[.int .i64 a0_0, .int .i64 a0_1, .int .i64 a0_2, .int .i64 a0_3] 47 ?_; intro gb215 hg w8 BK215 hb; have GW215 := gE hg; have GE215 := gE hg; replace HB := hB hb; clear hb hg; have hz9 := cz4 BK215) | ((with_reducible refine gC 171 ?_); refine cL (some 4) Tryz.func171 #[.agg #[.int .i64 a0_0, .int .i64 a0_1, .int .i64 a0_2, .int .i64 a0_3]] ?_; (with_reducible refine (spec_BoxOk.calls a0_0 a0_1 a0_2 a0_3 _ _ A2.out).mono ?_); rintro e w10 ⟨rfl, hb⟩; refine ⟨_, rfl, ?_⟩; replace BK215 := kB (g := gb215) hb; replace HB := hB hb; (try clear hb); (try clear hb2); (try clear hk); (try clear hi)))
  go_ret
  exact ⟨eS, bS⟩

/-! ### spec_SpansOk: function 184 -/
def spec_SpansOk.l0 : Nat → List (S146) → Int → Option (Bool)
 | 0, _, _ => none
 | k + 1, x0, x3 => if x3 < (x0.length : Int) then (if 0 ≤ x3 then (if ((rd_T146 x0 x3).f0) ≥ ((rd_T146 x0 x3).f1) then (some false) else (if x3 > 0 then (if 0 ≤ (wrap64 (x3 - 1)) then (if (wrap64 (x3 - 1)) < (x0.length : Int) then (if ((rd_T146 x0 (wrap64 (x3 - 1))).f1) ≥ ((rd_T146 x0 x3).f0) then (some false) else (spec_SpansOk.l0 k x0 (wrap64 (x3 + 1)))) else (none)) else (none)) else (spec_SpansOk.l0 k x0 (wrap64 (x3 + 1))))) else (none)) else (some (decide ((x0.length : Int) ≤ 8)))
def spec_SpansOk.f (k : Nat) (l0 : List (S146)) : Option (Bool) := spec_SpansOk.l0 k l0 0
theorem spec_SpansOk.calls (k : Nat) (A0 : Option Addr) (c0 : Nat) (l0 : List (S146)) (r : Bool) (w : World) (hr0 : Kd.C k146 w A0 l0.length l0) (hc0 : l0.length ≤ c0) (h : spec_SpansOk.f k l0 = some r) :
  Calls Tryz.prog 184 #[.slice A0 l0.length c0] w fun e w' => e = .returned (.bool r) ∧ Drawn0 w w' := by
 have HR0 := Aside0.mk hr0
 have HC0 := Aside0.mk hc0
 clear hr0 hc0
 have H : (spec_SpansOk.l0 k l0 0) = some r := h
 clear h
 have H' := Aside0.mk H
 clear H
 go_enter Tryz.func184, Tryz.ntmps184
 go_wp2
 repeat (go_quiet (fail); try go_wp2)
 go_loopg [3] k (fun kq v3 w' => ∃ (x3_1 : Int), v3 = .int .i64 x3_1 ∧ Aside0 (spec_SpansOk.l0 kq l0 x3_1 = some r) ∧ Aside0 (kq ≤ k) ∧ Drawn0 w w')
 case atStart => exact ⟨(0), (by first | rfl | (simp; done) | (simp [*]; done)), H', ⟨Nat.le_refl _⟩, by repeat (first | exact Drawn0.refl _ | apply Drawn0.step)⟩
 case round =>
  clear H'
  try clear c1
  obtain ⟨x3_1, rfl, HA, HK1, ⟨m1, rfl⟩⟩ := hrel
  cases gk with
  | zero => exact absurd HA.out (by simp [spec_SpansOk.l0])
  | succ k1 =>
   have H := HA.out
   clear HA
   simp only [spec_SpansOk.l0] at H
   by_cases c2 : x3_1 < (l0.length : Int)
   ·rw [if_pos c2] at H
    have c2b0 : decide (x3_1 < (l0.length : Int)) = true := decide_eq_true c2
    clear c2
    by_cases c3 : 0 ≤ x3_1
    ·rw [if_pos c3] at H
     have c3b0 : decide (0 ≤ x3_1) = true := decide_eq_true c3
     clear c3
     by_cases c4 : ((rd_T146 l0 x3_1).f0) ≥ ((rd_T146 l0 x3_1).f1)
     ·rw [if_pos c4] at H
      have c4b0 : decide (((rd_T146 l0 x3_1).f1) ≤ ((rd_T146 l0 x3_1).f0)) = true := decide_eq_true c4
      clear c4
      obtain rfl := Option.some.inj H
      simp only [Option.some.injEq, Prod.mk.injEq] at H
      obtain ⟨rfl⟩ := H
      have p217 : 0 ≤ (x3_1 : Int) := of_decide_eq_true (by first | (with_reducible assumption) | assumption)
      have q217 : x3_1 < (l0.length : Int) := of_decide_eq_true (by first | (with_reducible assumption) | assumption)
      obtain ⟨ad217, e217, hx217_0, hx217_1⟩ := at_T146 HR0.out x3_1 p217 q217
      cases e217
      replace p217 := eq_true p217
      replace q217 := eq_true q217
      have p218 : 0 ≤ (x3_1 : Int) := of_decide_eq_true (by first | (with_reducible assumption) | assumption)
      have q218 : x3_1 < (l0.length : Int) := of_decide_eq_true (by first | (with_reducible assumption) | assumption)
      obtain ⟨ad218, e218, hx218_0, hx218_1⟩ := at_T146 HR0.out x3_1 p218 q218
      obtain rfl : ad217 = ad218 := (by injection e218)
      replace p218 := eq_true p218
      replace q218 := eq_true q218
      go_wp2
      repeat (go_quiet (fail); try go_wp2)
      go_ret
      exact ⟨by first | rfl | (simp; done) | (simp [*]; done), by repeat (first | exact Drawn0.refl _ | apply Drawn0.step)⟩
     ·rw [if_neg c4] at H
      have c4b0 : decide (((rd_T146 l0 x3_1).f1) ≤ ((rd_T146 l0 x3_1).f0)) = false := decide_eq_false c4
      clear c4
      by_cases c5 : x3_1 > 0
      ·rw [if_pos c5] at H
       have c5b0 : decide (0 < x3_1) = true := decide_eq_true c5
       clear c5
       obtain ⟨ji6, hji6⟩ : ∃ j_ : Int, (wrap64 (x3_1 - 1)) = j_ := ⟨_, rfl⟩
       replace H : (if 0 ≤ (ji6) then (if (ji6) < (l0.length : Int) then (if ((rd_T146 l0 (ji6)).f1) ≥ ((rd_T146 l0 x3_1).f0) then (some false) else (spec_SpansOk.l0 k1 l0 (wrap64 (x3_1 + 1)))) else (none)) else (none)) = some r := by first | (rw [hji6] at H; exact H) | (simp only [hji6] at H ⊢; exact H)
       have hji6w : (IntKind.i64.wrap (x3_1 - 1)) = ji6 := (i64_w _).trans hji6
       by_cases c7 : 0 ≤ (ji6)
       ·rw [if_pos c7] at H
        have c7b0 : decide (0 ≤ (ji6)) = true := decide_eq_true c7
        clear c7
        by_cases c8 : (ji6) < (l0.length : Int)
        ·rw [if_pos c8] at H
         have c8b0 : decide ((ji6) < (l0.length : Int)) = true := decide_eq_true c8
         clear c8
         by_cases c9 : ((rd_T146 l0 (ji6)).f1) ≥ ((rd_T146 l0 x3_1).f0)
         ·rw [if_pos c9] at H
          have c9b0 : decide (((rd_T146 l0 x3_1).f0) ≤ ((rd_T146 l0 (ji6)).f1)) = true := decide_eq_true c9
          clear c9
          obtain rfl := Option.some.inj H
          simp only [Option.some.injEq, Prod.mk.injEq] at H
          obtain ⟨rfl⟩ := H
          have p217 : 0 ≤ (x3_1 : Int) := of_decide_eq_true (by first | (with_reducible assumption) | assumption)
          have q217 : x3_1 < (l0.length : Int) := of_decide_eq_true (by first | (with_reducible assumption) | assumption)
          obtain ⟨ad217, e217, hx217_0, hx217_1⟩ := at_T146 HR0.out x3_1 p217 q217
          cases e217
          replace p217 := eq_true p217
          replace q217 := eq_true q217
          have p218 : 0 ≤ (x3_1 : Int) := of_decide_eq_true (by first | (with_reducible assumption) | assumption)
          have q218 : x3_1 < (l0.length : Int) := of_decide_eq_true (by first | (with_reducible assumption) | assumption)
          obtain ⟨ad218, e218, hx218_0, hx218_1⟩ := at_T146 HR0.out x3_1 p218 q218
          obtain rfl : ad217 = ad218 := (by injection e218)
          replace p218 := eq_true p218
          replace q218 := eq_true q218
          have p219 : 0 ≤ ((ji6) : Int) := of_decide_eq_true (by first | (with_reducible assumption) | assumption)
          have q219 : (ji6) < (l0.length : Int) := of_decide_eq_true (by first | (with_reducible assumption) | assumption)
          obtain ⟨ad219, e219, hx219_0, hx219_1⟩ := at_T146 HR0.out (ji6) p219 q219
          obtain rfl : ad217 = ad219 := (by injection e219)
          replace p219 := eq_true p219
          replace q219 := eq_true q219
          have p220 : 0 ≤ (x3_1 : Int) := of_decide_eq_true (by first | (with_reducible assumption) | assumption)
          have q220 : x3_1 < (l0.length : Int) := of_decide_eq_true (by first | (with_reducible assumption) | assumption)
          obtain ⟨ad220, e220, hx220_0, hx220_1⟩ := at_T146 HR0.out x3_1 p220 q220
          obtain rfl : ad217 = ad220 := (by injection e220)
          replace p220 := eq_true p220
          replace q220 := eq_true q220
          go_wp2
          repeat (go_quiet (fail); try go_wp2)
          go_ret
          exact ⟨by first | rfl | (simp; done) | (simp only [← hji6] <;> (first | rfl | simp)) | (simp [*]; done), by repeat (first | exact Drawn0.refl _ | apply Drawn0.step)⟩
         ·rw [if_neg c9] at H
          have c9b0 : decide (((rd_T146 l0 x3_1).f0) ≤ ((rd_T146 l0 (ji6)).f1)) = false := decide_eq_false c9
          clear c9
          have H' := Aside0.mk H
          clear H
          have p217 : 0 ≤ (x3_1 : Int) := of_decide_eq_true (by first | (with_reducible assumption) | assumption)
          have q217 : x3_1 < (l0.length : Int) := of_decide_eq_true (by first | (with_reducible assumption) | assumption)
          obtain ⟨ad217, e217, hx217_0, hx217_1⟩ := at_T146 HR0.out x3_1 p217 q217
          cases e217
          replace p217 := eq_true p217
          replace q217 := eq_true q217
          have p218 : 0 ≤ (x3_1 : Int) := of_decide_eq_true (by first | (with_reducible assumption) | assumption)
          have q218 : x3_1 < (l0.length : Int) := of_decide_eq_true (by first | (with_reducible assumption) | assumption)
          obtain ⟨ad218, e218, hx218_0, hx218_1⟩ := at_T146 HR0.out x3_1 p218 q218
          obtain rfl : ad217 = ad218 := (by injection e218)
          replace p218 := eq_true p218
          replace q218 := eq_true q218
          have p219 : 0 ≤ ((ji6) : Int) := of_decide_eq_true (by first | (with_reducible assumption) | assumption)
          have q219 : (ji6) < (l0.length : Int) := of_decide_eq_true (by first | (with_reducible assumption) | assumption)
          obtain ⟨ad219, e219, hx219_0, hx219_1⟩ := at_T146 HR0.out (ji6) p219 q219
          obtain rfl : ad217 = ad219 := (by injection e219)
          replace p219 := eq_true p219
          replace q219 := eq_true q219
          have p220 : 0 ≤ (x3_1 : Int) := of_decide_eq_true (by first | (with_reducible assumption) | assumption)
          have q220 : x3_1 < (l0.length : Int) := of_decide_eq_true (by first | (with_reducible assumption) | assumption)
          obtain ⟨ad220, e220, hx220_0, hx220_1⟩ := at_T146 HR0.out x3_1 p220 q220
          obtain rfl : ad217 = ad220 := (by injection e220)
          replace p220 := eq_true p220
          replace q220 := eq_true q220
          go_wp2
          repeat (go_quiet (fail); try go_wp2)
          go_roundg k1
          case measure => have := HK1.out; omega
          case rel => exact ⟨(wrap64 (x3_1 + 1)), (by first | rfl | (simp; done) | (simp [*]; done)), H', ⟨by have := HK1.out; omega⟩, by repeat (first | exact Drawn0.refl _ | apply Drawn0.step)⟩
        ·rw [if_neg c8] at H
         exact absurd H (by simp)
       ·rw [if_neg c7] at H
        exact absurd H (by simp)
      ·rw [if_neg c5] at H
       have c5b0 : decide (0 < x3_1) = false := decide_eq_false c5
       clear c5
       have H' := Aside0.mk H
       clear H
       have p217 : 0 ≤ (x3_1 : Int) := of_decide_eq_true (by first | (with_reducible assumption) | assumption)
       have q217 : x3_1 < (l0.length : Int) := of_decide_eq_true (by first | (with_reducible assumption) | assumption)
       obtain ⟨ad217, e217, hx217_0, hx217_1⟩ := at_T146 HR0.out x3_1 p217 q217
       cases e217
       replace p217 := eq_true p217
       replace q217 := eq_true q217
       have p218 : 0 ≤ (x3_1 : Int) := of_decide_eq_true (by first | (with_reducible assumption) | assumption)
       have q218 : x3_1 < (l0.length : Int) := of_decide_eq_true (by first | (with_reducible assumption) | assumption)
       obtain ⟨ad218, e218, hx218_0, hx218_1⟩ := at_T146 HR0.out x3_1 p218 q218
       obtain rfl : ad217 = ad218 := (by injection e218)
       replace p218 := eq_true p218
       replace q218 := eq_true q218
       go_wp2
       repeat (go_quiet (fail); try go_wp2)
       go_roundg k1
       case measure => have := HK1.out; omega
       case rel => exact ⟨(wrap64 (x3_1 + 1)), (by first | rfl | (simp; done) | (simp [*]; done)), H', ⟨by have := HK1.out; omega⟩, by repeat (first | exact Drawn0.refl _ | apply Drawn0.step)⟩
    ·rw [if_neg c3] at H
     exact absurd H (by simp)
   ·rw [if_neg c2] at H
    have c2b0 : decide (x3_1 < (l0.length : Int)) = false := decide_eq_false c2
    clear c2
    obtain rfl := Option.some.inj H
    simp only [Option.some.injEq, Prod.mk.injEq] at H
    obtain ⟨rfl⟩ := H
    go_wp2
    repeat (go_quiet (fail); try go_wp2)
    go_ret
    exact ⟨by first | rfl | (simp; done) | (simp [*]; done), by repeat (first | exact Drawn0.refl _ | apply Drawn0.step)⟩

end Go.Proofs.YtncfipboidmfbaaGreat.QFnExactRowsOfBand
