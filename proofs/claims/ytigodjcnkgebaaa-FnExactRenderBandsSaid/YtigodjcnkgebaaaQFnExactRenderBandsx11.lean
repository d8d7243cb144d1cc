-- Made out of the translation by a program of this session (a changed copy of the print). Not trusted: Lean checks it.
import Derived.Test.YtigodjcnkgebaaaQFnExactRenderBandsx0
import Derived.Test.YtigodjcnkgebaaaQFnExactRenderBandsx10
namespace Go.Proofs.Ytigodjcnkgebaaa.QFnExactRenderBands
open Go.RowKit Go.Proofs.YtigodjcnkgebaaaW.PrintWords Go.Proofs.YtigodjcnkgebaaaW.PrintLast Go.Proofs.YtigodjcnkgebaaaW.PrintMore
attribute [local go_sem] max2_int min2_int max_two min_two max_three min_three max_four min_four   -- for this text's walks alone
set_option linter.unusedVariables false
set_option linter.unusedSimpArgs false
set_option maxHeartbeats 8000000
set_option maxRecDepth 100000

/-! ### spec_BoxOf: function 143 -/
def spec_BoxOf.l0 : Nat → List (S171) → Int → Int → Int → Int → Int → Option (Int × Int × Int × Int)
 | 0, _, _, _, _, _, _ => none
 | k + 1, x0, x4, x369000, x369001, x369002, x369003 => if x4 < (x0.length : Int) then (if 0 ≤ x4 then ((spec_PointOk.f ((rd_T171 x0 x4).f0) ((rd_T171 x0 x4).f1)).bind fun t371 => (if t371 = true then (if x4 = 0 then (spec_BoxOf.l0 k x0 (wrap64 (x4 + 1)) ((rd_T171 x0 x4).f0) ((rd_T171 x0 x4).f1) ((rd_T171 x0 x4).f0) ((rd_T171 x0 x4).f1)) else (spec_BoxOf.l0 k x0 (wrap64 (x4 + 1)) (mn x369000 ((rd_T171 x0 x4).f0)) (mn x369001 ((rd_T171 x0 x4).f1)) (mx x369002 ((rd_T171 x0 x4).f0)) (mx x369003 ((rd_T171 x0 x4).f1)))) else (some (0, 0, 0, 0)))) else (none)) else (some (x369000, x369001, x369002, x369003))
def spec_BoxOf.f (k : Nat) (l0 : List (S171)) : Option (Int × Int × Int × Int) := spec_BoxOf.l0 k l0 0 0 0 0 0
theorem spec_BoxOf.calls (k : Nat) (A0 : Option Addr) (c0 : Nat) (l0 : List (S171)) (r1 : Int) (r2 : Int) (r3 : Int) (r4 : Int) (w : World) (hr0 : Kd.C k171 w A0 l0.length l0) (hc0 : l0.length ≤ c0) (h : spec_BoxOf.f k l0 = some (r1, r2, r3, r4)) :
  Calls Try.prog 143 #[.slice A0 l0.length c0] w fun e w' => e = .returned (.agg #[.int .i64 r1, .int .i64 r2, .int .i64 r3, .int .i64 r4]) ∧ Below w.heap.size w w' := by
 have hu43 := Try.underlying43
 have hu171 := Try.underlying171
 have HR0 := Aside0.mk hr0
 have HC0 := Aside0.mk hc0
 clear hr0 hc0
 have HB := Aside0.mk (Below.refl w.heap.size w)
 have H : (spec_BoxOf.l0 k l0 0 0 0 0 0) = some (r1, r2, r3, r4) := h
 clear h
 have H' := Aside0.mk H
 clear H
 go_enter Try.func143, Try.ntmps143
 go_wp2_with (first | ((with_reducible refine gD 2 ?_); refine bxE #[.int .i64 0, .int .i64 0, .int .i64 0, .int .i64 0] 43 ?_; intro gb367 hg w2 BK367 hb; have GW367 := gE hg; have GE367 := gE hg; replace HB := hB hb; clear hb hg) | ((with_reducible refine gD 3 ?_); refine bxE #[.int .i64 0, .int .i64 0, .int .i64 0, .int .i64 0] 43 ?_; intro gb368 hg w3 BK368 hb; have GW368 := gE hg; have GE368 := gE hg; have NB367_368 := nL (g := gb367) hg; have NB368_367 := nG (g := gb367) hg; replace BK367 := kB (g := gb367) hb; replace HB := hB hb; clear hb hg; have hnb4 := NB368_367.out; have hnc4 := NB367_368.out; have hcz5_0 : w3.cell? ⟨gb368, 0, none⟩ = some (.int .i64 0) := (blk_cell BK368.out 0).trans rfl; have hcz5_1 : w3.cell? ⟨gb368, 1, none⟩ = some (.int .i64 0) := (blk_cell BK368.out 1).trans rfl; have hcz5_2 : w3.cell? ⟨gb368, 2, none⟩ = some (.int .i64 0) := (blk_cell BK368.out 2).trans rfl; have hcz5_3 : w3.cell? ⟨gb368, 3, none⟩ = some (.int .i64 0) := (blk_cell BK368.out 3).trans rfl; have hfz5_0 := blk_frozen BK368.out 0; have hfz5_1 := blk_frozen BK368.out 1; have hfz5_2 := blk_frozen BK368.out 2; have hfz5_3 := blk_frozen BK368.out 3))
 go_loopg [4] k (fun kq v4 w' => ∃ (x4_1 : Int) (x368000_1 : Int) (x368001_1 : Int) (x368002_1 : Int) (x368003_1 : Int) (x369000_1 : Int) (x369001_1 : Int) (x369002_1 : Int) (x369003_1 : Int), v4 = .int .i64 x4_1 ∧ Aside0 (spec_BoxOf.l0 kq l0 x4_1 x369000_1 x369001_1 x369002_1 x369003_1 = some (r1, r2, r3, r4)) ∧ Aside0 (kq ≤ k) ∧ Aside0 (w'.heap[gb367]? = some (.cells #[.int .i64 x368000_1, .int .i64 x368001_1, .int .i64 x368002_1, .int .i64 x368003_1] 43 (0, 0))) ∧ Aside0 (w'.heap[gb368]? = some (.cells #[.int .i64 x369000_1, .int .i64 x369001_1, .int .i64 x369002_1, .int .i64 x369003_1] 43 (0, 0))) ∧ Aside0 (Below w.heap.size w w'))
 case atStart => exact ⟨(0), (0), (0), (0), (0), (0), (0), (0), (0), fS, H', ⟨Nat.le_refl _⟩, ⟨kS⟩, ⟨kS⟩, ⟨bS⟩⟩
 case round =>
  clear H'
  try clear c1
  try clear p2
  try clear c4
  try clear hcz5_0
  try clear hcz5_1
  try clear hcz5_2
  try clear hcz5_3
  try clear hfz5_0
  try clear hfz5_1
  try clear hfz5_2
  try clear hfz5_3
  obtain ⟨x4_1, x368000_1, x368001_1, x368002_1, x368003_1, x369000_1, x369001_1, x369002_1, x369003_1, rfl, HA, HK1, BK367, BK368, HB⟩ := hrel
  cases gk with
  | zero => exact absurd HA.out (by simp [spec_BoxOf.l0])
  | succ k1 =>
   have H := HA.out
   clear HA
   simp only [spec_BoxOf.l0] at H
   rcases iD H with ⟨c6b0, H⟩ | ⟨c6b0, H⟩
   ·obtain ⟨c7b0, H⟩ := iT H
    replace H := bN H
    obtain ⟨t371, A8, H⟩ := H
    by_cases c9 : t371 = true
    ·subst c9
     rw [if_pos rfl] at H
     by_cases c10 : x4_1 = 0
     ·rw [if_pos c10] at H
      have c10b0 : (x4_1 == 0) = true := beq_iff_eq.mpr c10
      have c10b1 : (x4_1 != 0) = false := bne_eq_false_iff_eq.mpr c10
      clear c10
      have H' := Aside0.mk H
      clear H
      have p369 : 0 ≤ (x4_1 : Int) := dA
      have q369 : x4_1 < (l0.length : Int) := dA
      obtain ⟨ad369, e369, hx369_0, hx369_1⟩ := at_T171 HR0.out x4_1 p369 q369
      cases e369
      replace hx369_0 := cB HB hx369_0
      replace hx369_1 := cB HB hx369_1
      replace p369 := eq_true p369
      replace q369 := eq_true q369
      go_wp2_with (first | ((with_reducible refine gD 5 ?_); refine bxE #[.int .i64 0, .int .i64 0] 171 ?_; intro gb370 hg w11 BK370 hb; have GW370 := gE hg; have GE370 := gE hg; have NB367_370 := nL (g := gb367) hg; have NB370_367 := nG (g := gb367) hg; have NB368_370 := nL (g := gb368) hg; have NB370_368 := nG (g := gb368) hg; replace BK367 := kB (g := gb367) hb; replace BK368 := kB (g := gb368) hb; replace HB := hB hb; clear hb hg; have hnb12 := NB370_367.out; have hnc12 := NB367_370.out; have hnb13 := NB370_368.out; have hnc13 := NB368_370.out; have hz14 := cz2 BK370) | ((with_reducible refine gC 186 ?_); refine cL (some 18) Try.func186 #[.agg #[.int .i64 ((rd_T171 l0 x4_1).f0), .int .i64 ((rd_T171 l0 x4_1).f1)]] ?_; (with_reducible refine (spec_PointOk.calls ((rd_T171 l0 x4_1).f0) ((rd_T171 l0 x4_1).f1) _ _ A8.out).mono ?_); rintro e w15 ⟨rfl, hb⟩; refine ⟨_, rfl, ?_⟩; replace BK367 := kB (g := gb367) hb; replace BK368 := kB (g := gb368) hb; replace BK370 := Aside0.mk (blk_below (g := gb370) (o := .cells #[.int .i64 ((rd_T171 l0 x4_1).f0), .int .i64 ((rd_T171 l0 x4_1).f1)] 171 (0, 0)) kS hb); replace HB := hB hb; (try clear hb); (try clear hb2); (try clear hk); (try clear hi); have hz16 := cz2 BK370; have hnb17 := NB368_367.out; have hnc17 := NB367_368.out; have hz18 := cz4 BK368))
      go_roundg k1
      case measure => have := HK1.out; omega
      case rel => exact ⟨(wrap64 (x4_1 + 1)), (x368000_1), (x368001_1), (x368002_1), (x368003_1), ((rd_T171 l0 x4_1).f0), ((rd_T171 l0 x4_1).f1), ((rd_T171 l0 x4_1).f0), ((rd_T171 l0 x4_1).f1), fS, H', ⟨by have := HK1.out; omega⟩, ⟨kS⟩, ⟨kS⟩, ⟨bS⟩⟩
     ·rw [if_neg c10] at H
      have c10b0 : (x4_1 == 0) = false := beq_eq_false_iff_ne.mpr c10
      have c10b1 : (x4_1 != 0) = true := bne_iff_ne.mpr c10
      obtain ⟨ji19, hji19⟩ : ∃ j_ : Int, (mn x369000_1 ((rd_T171 l0 x4_1).f0)) = j_ := ⟨_, rfl⟩
      replace H : (spec_BoxOf.l0 k1 l0 (wrap64 (x4_1 + 1)) ji19 (mn x369001_1 ((rd_T171 l0 x4_1).f1)) (mx x369002_1 ((rd_T171 l0 x4_1).f0)) (mx x369003_1 ((rd_T171 l0 x4_1).f1))) = some (r1, r2, r3, r4) := by first | (rw [hji19] at H; exact H) | (simp only [hji19] at H ⊢; exact H)
      (try rw [hji19] at A8)
      have hji19_ : (if ((rd_T171 l0 x4_1).f0) < x369000_1 then ((rd_T171 l0 x4_1).f0) else x369000_1) = ji19 := hji19
      obtain ⟨ji20, hji20⟩ : ∃ j_ : Int, (mn x369001_1 ((rd_T171 l0 x4_1).f1)) = j_ := ⟨_, rfl⟩
      replace H : (spec_BoxOf.l0 k1 l0 (wrap64 (x4_1 + 1)) ji19 ji20 (mx x369002_1 ((rd_T171 l0 x4_1).f0)) (mx x369003_1 ((rd_T171 l0 x4_1).f1))) = some (r1, r2, r3, r4) := by first | (rw [hji20] at H; exact H) | (simp only [hji20] at H ⊢; exact H)
      (try rw [hji20] at A8)
      have hji20_ : (if ((rd_T171 l0 x4_1).f1) < x369001_1 then ((rd_T171 l0 x4_1).f1) else x369001_1) = ji20 := hji20
      obtain ⟨ji21, hji21⟩ : ∃ j_ : Int, (mx x369002_1 ((rd_T171 l0 x4_1).f0)) = j_ := ⟨_, rfl⟩
      replace H : (spec_BoxOf.l0 k1 l0 (wrap64 (x4_1 + 1)) ji19 ji20 ji21 (mx x369003_1 ((rd_T171 l0 x4_1).f1))) = some (r1, r2, r3, r4) := by first | (rw [hji21] at H; exact H) | (simp only [hji21] at H ⊢; exact H)
      (try rw [hji21] at A8)
      have hji21_ : (if x369002_1 < ((rd_T171 l0 x4_1).f0) then ((rd_T171 l0 x4_1).f0) else x369002_1) = ji21 := hji21
      obtain ⟨ji22, hji22⟩ : ∃ j_ : Int, (mx x369003_1 ((rd_T171 l0 x4_1).f1)) = j_ := ⟨_, rfl⟩
      replace H : (spec_BoxOf.l0 k1 l0 (wrap64 (x4_1 + 1)) ji19 ji20 ji21 ji22) = some (r1, r2, r3, r4) := by first | (rw [hji22] at H; exact H) | (simp only [hji22] at H ⊢; exact H)
      (try rw [hji22] at A8)
      have hji22_ : (if x369003_1 < ((rd_T171 l0 x4_1).f1) then ((rd_T171 l0 x4_1).f1) else x369003_1) = ji22 := hji22
      have H' := Aside0.mk H
      clear H
      have p369 : 0 ≤ (x4_1 : Int) := dA
      have q369 : x4_1 < (l0.length : Int) := dA
      obtain ⟨ad369, e369, hx369_0, hx369_1⟩ := at_T171 HR0.out x4_1 p369 q369
      cases e369
      replace hx369_0 := cB HB hx369_0
      replace hx369_1 := cB HB hx369_1
      replace p369 := eq_true p369
      replace q369 := eq_true q369
      go_wp2_with (first | ((with_reducible refine gD 5 ?_); refine bxE #[.int .i64 0, .int .i64 0] 171 ?_; intro gb370 hg w23 BK370 hb; have GW370 := gE hg; have GE370 := gE hg; have NB367_370 := nL (g := gb367) hg; have NB370_367 := nG (g := gb367) hg; have NB368_370 := nL (g := gb368) hg; have NB370_368 := nG (g := gb368) hg; replace BK367 := kB (g := gb367) hb; replace BK368 := kB (g := gb368) hb; replace HB := hB hb; clear hb hg; have hnb24 := NB370_367.out; have hnc24 := NB367_370.out; have hnb25 := NB370_368.out; have hnc25 := NB368_370.out; have hz26 := cz2 BK370) | ((with_reducible refine gC 186 ?_); refine cL (some 18) Try.func186 #[.agg #[.int .i64 ((rd_T171 l0 x4_1).f0), .int .i64 ((rd_T171 l0 x4_1).f1)]] ?_; (with_reducible refine (spec_PointOk.calls ((rd_T171 l0 x4_1).f0) ((rd_T171 l0 x4_1).f1) _ _ A8.out).mono ?_); rintro e w27 ⟨rfl, hb⟩; refine ⟨_, rfl, ?_⟩; replace BK367 := kB (g := gb367) hb; replace BK368 := kB (g := gb368) hb; replace BK370 := Aside0.mk (blk_below (g := gb370) (o := .cells #[.int .i64 ((rd_T171 l0 x4_1).f0), .int .i64 ((rd_T171 l0 x4_1).f1)] 171 (0, 0)) kS hb); replace HB := hB hb; (try clear hb); (try clear hb2); (try clear hk); (try clear hi); have hnb28 := NB368_367.out; have hnc28 := NB367_368.out; have hz29 := cz4 BK368; have hz30 := cz2 BK370))
      go_roundg k1
      case measure => have := HK1.out; omega
      case rel => exact ⟨(wrap64 (x4_1 + 1)), (x368000_1), (x368001_1), (x368002_1), (x368003_1), (ji19), (ji20), (ji21), (ji22), fS, H', ⟨by have := HK1.out; omega⟩, ⟨kS⟩, ⟨kS⟩, ⟨bS⟩⟩
    ·obtain rfl := Bool.eq_false_iff.mpr c9
     rw [if_neg nF] at H
     obtain ⟨rfl, rfl, rfl, rfl⟩ := sI4 H
     have p369 : 0 ≤ (x4_1 : Int) := dA
     have q369 : x4_1 < (l0.length : Int) := dA
     obtain ⟨ad369, e369, hx369_0, hx369_1⟩ := at_T171 HR0.out x4_1 p369 q369
     cases e369
     replace hx369_0 := cB HB hx369_0
     replace hx369_1 := cB HB hx369_1
     replace p369 := eq_true p369
     replace q369 := eq_true q369
     go_wp2_with (first | ((with_reducible refine gD 5 ?_); refine bxE #[.int .i64 0, .int .i64 0] 171 ?_; intro gb370 hg w31 BK370 hb; have GW370 := gE hg; have GE370 := gE hg; have NB367_370 := nL (g := gb367) hg; have NB370_367 := nG (g := gb367) hg; have NB368_370 := nL (g := gb368) hg; have NB370_368 := nG (g := gb368) hg; replace BK367 := kB (g := gb367) hb; replace BK368 := kB (g := gb368) hb; replace HB := hB hb; clear hb hg; have hnb32 := NB370_367.out; have hnc32 := NB367_370.out; have hnb33 := NB370_368.out; have hnc33 := NB368_370.out; have hz34 := cz2 BK370) | ((with_reducible refine gC 186 ?_); refine cL (some 18) Try.func186 #[.agg #[.int .i64 ((rd_T171 l0 x4_1).f0), .int .i64 ((rd_T171 l0 x4_1).f1)]] ?_; (with_reducible refine (spec_PointOk.calls ((rd_T171 l0 x4_1).f0) ((rd_T171 l0 x4_1).f1) _ _ A8.out).mono ?_); rintro e w35 ⟨rfl, hb⟩; refine ⟨_, rfl, ?_⟩; replace BK367 := kB (g := gb367) hb; replace BK368 := kB (g := gb368) hb; replace BK370 := Aside0.mk (blk_below (g := gb370) (o := .cells #[.int .i64 ((rd_T171 l0 x4_1).f0), .int .i64 ((rd_T171 l0 x4_1).f1)] 171 (0, 0)) kS hb); replace HB := hB hb; (try clear hb); (try clear hb2); (try clear hk); (try clear hi); have hnb36 := NB367_368.out; have hnc36 := NB368_367.out; have hz37 := cz4 BK367))
     refine bodyPost_ret (results_cell_row rfl _ _ gb367 43 #[.int .i64 0, .int .i64 0, .int .i64 0, .int .i64 0] (0, 0) _ rfl kS Try.underlying43 rfl (by kernel_rfl)) rfl ?_
     exact ⟨eS, bS⟩
   ·obtain ⟨rfl, rfl, rfl, rfl⟩ := sI4 H
    have hnb38 := NB368_367.out
    have hnc38 := NB367_368.out
    have hz39 := cz4 BK368
    have hz40 := cz4 BK367
    go_wp2
    refine bodyPost_ret (results_cell_row rfl _ _ gb367 43 #[.int .i64 x369000_1, .int .i64 x369001_1, .int .i64 x369002_1, .int .i64 x369003_1] (0, 0) _ rfl kS Try.underlying43 rfl (by kernel_rfl)) rfl ?_
    exact ⟨eS, bS⟩

/-! ### spec_l07Full: function 144 -/
def spec_l07Full.f  : Option (Int × Int × Int × Int) := some (0, 0, 32, 32)
theorem spec_l07Full.calls  (r1 : Int) (r2 : Int) (r3 : Int) (r4 : Int) (w : World) (h : spec_l07Full.f  = some (r1, r2, r3, r4)) :
  Calls Try.prog 144 #[] w fun e w' => e = .returned (.agg #[.int .i64 r1, .int .i64 r2, .int .i64 r3, .int .i64 r4]) ∧ Below w.heap.size w w' := by
 have hu43 := Try.underlying43
 have HB := Aside0.mk (Below.refl w.heap.size w)
 have H : (some (0, 0, 32, 32)) = some (r1, r2, r3, r4) := h
 clear h
 obtain ⟨rfl, rfl, rfl, rfl⟩ := sI4 H
 go_enter Try.func144, Try.ntmps144
 go_wp2_with (first | ((with_reducible refine gD 0 ?_); refine bxE #[.int .i64 0, .int .i64 0, .int .i64 0, .int .i64 0] 43 ?_; intro gb372 hg w1 BK372 hb; have GW372 := gE hg; have GE372 := gE hg; replace HB := hB hb; clear hb hg; have hz2 := cz4 BK372))
 refine bodyPost_ret (results_cell_row rfl _ _ gb372 43 #[.int .i64 0, .int .i64 0, .int .i64 32, .int .i64 32] (0, 0) _ rfl kS Try.underlying43 rfl (by kernel_rfl)) rfl ?_
 exact ⟨eS, bS⟩

/-! ### spec_ObjectBox: function 81 -/
def spec_ObjectBox.f (k : Nat) (l0_0 : List (S171)) (a0_1 : Int) (a0_2 : Int) (a0_3 : Int) (a0_4 : Int) (a0_5 : Int) : Option (Int × Int × Int × Int) := (spec_ObjectOk.f k l0_0 a0_1 a0_2 a0_3 a0_4 a0_5).bind fun t375 => (if t375 = true then ((spec_BoxOf.f k l0_0).bind fun bt376 => ((spec_MeetBox.f bt376.1 bt376.2.1 bt376.2.2.1 bt376.2.2.2 a0_2 a0_3 a0_4 a0_5).bind fun bt380 => ((spec_l07Full.f).bind fun bt384 => ((spec_MeetBox.f bt380.1 bt380.2.1 bt380.2.2.1 bt380.2.2.2 bt384.1 bt384.2.1 bt384.2.2.1 bt384.2.2.2).bind fun bt388 => (some (bt388.1, bt388.2.1, bt388.2.2.1, bt388.2.2.2)))))) else (some (0, 0, 0, 0)))
def spec_ObjectBox.T3 : Bool × List (List Nat × List Nat) := (true, [([], []), ([0], [0]), ([1], [1]), ([], []), ([3], [3]), ([2, 4, 2], [2, 4]), ([5], []), ([5, 6, 6], [5, 6]), ([7, 7, 0, 1, 2, 3, 4, 5, 6, 7], [7])])
def spec_ObjectBox.B3 : List Nat := [0, 1, 3, 0, 8, 31, 63, 127, 255]
theorem spec_ObjectBox.tab3 : rtab .any (opsOf Try.f81 3) = spec_ObjectBox.T3 := by kernel_rfl
theorem spec_ObjectBox.bits3 : waitsOk spec_ObjectBox.T3.2 spec_ObjectBox.B3 = true := by kernel_rfl
theorem spec_ObjectBox.calls (k : Nat) (A0_0 : Option Addr) (c0_0 : Nat) (l0_0 : List (S171)) (a0_1 : Int) (a0_2 : Int) (a0_3 : Int) (a0_4 : Int) (a0_5 : Int) (r1 : Int) (r2 : Int) (r3 : Int) (r4 : Int) (w : World) (hr0_0 : Kd.C k171 w A0_0 l0_0.length l0_0) (hc0_0 : l0_0.length ≤ c0_0) (h : spec_ObjectBox.f k l0_0 a0_1 a0_2 a0_3 a0_4 a0_5 = some (r1, r2, r3, r4)) :
  Calls Try.prog 81 #[.agg #[.slice A0_0 l0_0.length c0_0, .int .i64 a0_1, .int .i64 a0_2, .int .i64 a0_3, .int .i64 a0_4, .int .i64 a0_5]] w fun e w' => e = .returned (.agg #[.int .i64 r1, .int .i64 r2, .int .i64 r3, .int .i64 r4]) ∧ Below w.heap.size w w' := by
 have hu45 := Try.underlying45
 have hu43 := Try.underlying43
 have HR0_0 := Aside0.mk hr0_0
 have HC0_0 := Aside0.mk hc0_0
 clear hr0_0 hc0_0
 have HB := Aside0.mk (Below.refl w.heap.size w)
 have H : ((spec_ObjectOk.f k l0_0 a0_1 a0_2 a0_3 a0_4 a0_5).bind fun t375 => (if t375 = true then ((spec_BoxOf.f k l0_0).bind fun bt376 => ((spec_MeetBox.f bt376.1 bt376.2.1 bt376.2.2.1 bt376.2.2.2 a0_2 a0_3 a0_4 a0_5).bind fun bt380 => ((spec_l07Full.f).bind fun bt384 => ((spec_MeetBox.f bt380.1 bt380.2.1 bt380.2.2.1 bt380.2.2.2 bt384.1 bt384.2.1 bt384.2.2.1 bt384.2.2.2).bind fun bt388 => (some (bt388.1, bt388.2.1, bt388.2.2.1, bt388.2.2.2)))))) else (some (0, 0, 0, 0)))) = some (r1, r2, r3, r4) := h
 clear h
 replace H := bN H
 obtain ⟨t375, A2, H⟩ := H
 by_cases c3 : t375 = true
 ·subst c3
  rw [if_pos rfl] at H
  replace H := bN H
  obtain ⟨⟨t376, t377, t378, t379⟩, A4, H⟩ := H
  replace H := bN H
  obtain ⟨⟨t380, t381, t382, t383⟩, A5, H⟩ := H
  replace H := bN H
  obtain ⟨⟨t384, t385, t386, t387⟩, A6, H⟩ := H
  replace H := bN H
  obtain ⟨⟨t388, t389, t390, t391⟩, A7, H⟩ := H
  obtain ⟨rfl, rfl, rfl, rfl⟩ := sI4 H
  go_enter Try.func81, Try.ntmps81
  try go_wp2_with (first | ((with_reducible refine gD 1 ?_); refine bxE #[.slice A0_0 l0_0.length c0_0, .int .i64 a0_1, .int .i64 a0_2, .int .i64 a0_3, .int .i64 a0_4, .int .i64 a0_5] 45 ?_; intro gb373 hg w8 BK373 hb; have GW373 := gE hg; have GE373 := gE hg; replace HB := hB hb; clear hb hg) | ((with_reducible refine gD 2 ?_); refine bxE #[.int .i64 0, .int .i64 0, .int .i64 0, .int .i64 0] 43 ?_; intro gb374 hg w9 BK374 hb; have GW374 := gE hg; have GE374 := gE hg; have NB373_374 := nL (g := gb373) hg; have NB374_373 := nG (g := gb373) hg; replace BK373 := kB (g := gb373) hb; replace HB := hB hb; clear hb hg; have hnb10 := NB373_374.out; have hnc10 := NB374_373.out; have hz11 := cz6 BK373) | ((with_reducible refine gC 95 ?_); refine cL (some 4) Try.func95 #[.agg #[.slice A0_0 l0_0.length c0_0, .int .i64 a0_1, .int .i64 a0_2, .int .i64 a0_3, .int .i64 a0_4, .int .i64 a0_5]] ?_; (with_reducible refine (spec_ObjectOk.calls k _ _ l0_0 a0_1 a0_2 a0_3 a0_4 a0_5 _ _ (cS (Kd.C_below HR0_0.out HB.out)) HC0_0.out A2.out).mono ?_); rintro e w12 ⟨rfl, hb⟩; refine ⟨_, rfl, ?_⟩; replace BK373 := kB (g := gb373) hb; replace BK374 := kB (g := gb374) hb; replace HB := hB hb; (try clear hb); (try clear hb2); (try clear hk); (try clear hi)))
  replace BK373 := Aside0.mk (blk_drew BK373.out)
  replace BK374 := Aside0.mk (blk_drew BK374.out)
  replace HB := Aside0.mk (below_drew1 HB.out)
  refine start_ (n := 9) (S := fun w' => w'.cell? ⟨gb373, 0, none⟩ = some (.slice A0_0 l0_0.length c0_0) ∧ w'.cell? ⟨gb373, 1, none⟩ = some (.int .i64 a0_1) ∧ w'.cell? ⟨gb373, 2, none⟩ = some (.int .i64 a0_2) ∧ w'.cell? ⟨gb373, 3, none⟩ = some (.int .i64 a0_3) ∧ w'.cell? ⟨gb373, 4, none⟩ = some (.int .i64 a0_4) ∧ w'.cell? ⟨gb373, 5, none⟩ = some (.int .i64 a0_5)) (ds := []) #[false, false, false, false, false, false, false, false, false] (by kernel_rfl) rfl rfl (cy6 BK373) (fun hHeld => ?_); refine with_tabW spec_ObjectBox.tab3 spec_ObjectBox.bits3 (fun HT_ HW_ => ?_)
  generalize w12.drew = w13 at BK373 BK374 HB hHeld ⊢
  refine pU 0 (some 7) #[true, false, false, false, false, false, false, false, false] ?_
  refine pU 3 (some 10) #[true, false, false, true, false, false, false, false, false] ?_
  refine tK 1 (some 8) #[true, true, false, true, false, false, false, false, false] ?_
  refine tK 4 (some 11) #[true, true, false, true, true, false, false, false, false] ?_
  refine one_ (i := 2) (N := some 9) #[true, true, true, true, true, false, false, false, false] rfl rfl (one_of HT_.out (by kernel_rfl)) (by decide) (fun K hK => ?_)
  refine goes_ Try.func143 (by kernel_rfl) rfl #[.slice A0_0 l0_0.length c0_0] (by rfl) rfl rfl (by (try simp only [List.map_toArray, List.map_cons, List.map_nil]); first | done | rfl | (simp only [List.length_drop, List.length_take]; rfl)) ?_
  with_reducible refine (spec_BoxOf.calls k _ _ l0_0 t376 t377 t378 t379 _ ?side1 ?side2 A4.out).mono ?_
  (case side1 => exact cS (Kd.C_below HR0_0.out HB.out))
  (case side2 => exact HC0_0.out)
  rintro e w14 ⟨rfl, hb⟩
  refine ⟨_, rfl, ?_⟩
  replace BK373 := kB (g := gb373) hb
  replace BK374 := kB (g := gb374) hb
  replace HB := hB hb
  (try clear hb)
  (try clear hb2)
  (try clear hk)
  (try clear hi)
  refine hK.out _ _ (cy6 BK373) (fun hHeld => ?_)
  clear hK K
  refine norm_ (a' := ?_) ?_ ?_
  rotate_left
  ·show Act.put _ (some 9) _ = _
   simp only [Act.put, List.setIfInBounds_toArray, List.set_cons_zero, List.set_cons_succ, i64_w, i32_w]
   rfl
  refine one_ (i := 5) (N := some 12) #[true, true, true, true, true, true, false, false, false] rfl rfl (one_of HT_.out (by kernel_rfl)) (by decide) (fun K hK => ?_)
  refine goes_ Try.func142 (by kernel_rfl) rfl #[.agg #[.int .i64 t376, .int .i64 t377, .int .i64 t378, .int .i64 t379], .agg #[.int .i64 a0_2, .int .i64 a0_3, .int .i64 a0_4, .int .i64 a0_5]] (by rfl) rfl rfl (by (try simp only [List.map_toArray, List.map_cons, List.map_nil]); first | done | rfl | (simp only [List.length_drop, List.length_take]; rfl)) ?_
  with_reducible refine (spec_MeetBox.calls t376 t377 t378 t379 a0_2 a0_3 a0_4 a0_5 t380 t381 t382 t383 _ A5.out).mono ?_
  rintro e w15 ⟨rfl, hb⟩
  refine ⟨_, rfl, ?_⟩
  replace BK373 := kB (g := gb373) hb
  replace BK374 := kB (g := gb374) hb
  replace HB := hB hb
  (try clear hb)
  (try clear hb2)
  (try clear hk)
  (try clear hi)
  refine hK.out _ _ (cy6 BK373) (fun hHeld => ?_)
  clear hK K
  refine norm_ (a' := ?_) ?_ ?_
  rotate_left
  ·show Act.put _ (some 12) _ = _
   simp only [Act.put, List.setIfInBounds_toArray, List.set_cons_zero, List.set_cons_succ, i64_w, i32_w]
   rfl
  refine one_ (i := 6) (N := some 13) #[true, true, true, true, true, true, true, false, false] rfl rfl (one_of HT_.out (by kernel_rfl)) (by decide) (fun K hK => ?_)
  refine goes_ Try.func144 (by kernel_rfl) rfl #[] (by rfl) rfl rfl (by (try simp only [List.map_toArray, List.map_cons, List.map_nil]); first | done | rfl | (simp only [List.length_drop, List.length_take]; rfl)) ?_
  with_reducible refine (spec_l07Full.calls  t384 t385 t386 t387 _ A6.out).mono ?_
  rintro e w16 ⟨rfl, hb⟩
  refine ⟨_, rfl, ?_⟩
  replace BK373 := kB (g := gb373) hb
  replace BK374 := kB (g := gb374) hb
  replace HB := hB hb
  (try clear hb)
  (try clear hb2)
  (try clear hk)
  (try clear hi)
  refine hK.out _ _ (cy6 BK373) (fun hHeld => ?_)
  clear hK K
  refine norm_ (a' := ?_) ?_ ?_
  rotate_left
  ·show Act.put _ (some 13) _ = _
   simp only [Act.put, List.setIfInBounds_toArray, List.set_cons_zero, List.set_cons_succ, i64_w, i32_w]
   rfl
  refine one_ (i := 7) (N := some 14) #[true, true, true, true, true, true, true, true, false] rfl rfl (one_of HT_.out (by kernel_rfl)) (by decide) (fun K hK => ?_)
  refine goes_ Try.func142 (by kernel_rfl) rfl #[.agg #[.int .i64 t380, .int .i64 t381, .int .i64 t382, .int .i64 t383], .agg #[.int .i64 t384, .int .i64 t385, .int .i64 t386, .int .i64 t387]] (by rfl) rfl rfl (by (try simp only [List.map_toArray, List.map_cons, List.map_nil]); first | done | rfl | (simp only [List.length_drop, List.length_take]; rfl)) ?_
  with_reducible refine (spec_MeetBox.calls t380 t381 t382 t383 t384 t385 t386 t387 t388 t389 t390 t391 _ A7.out).mono ?_
  rintro e w17 ⟨rfl, hb⟩
  refine ⟨_, rfl, ?_⟩
  replace BK373 := kB (g := gb373) hb
  replace BK374 := kB (g := gb374) hb
  replace HB := hB hb
  (try clear hb)
  (try clear hb2)
  (try clear hk)
  (try clear hi)
  refine hK.out _ _ (cy6 BK373) (fun hHeld => ?_)
  clear hK K
  refine norm_ (a' := ?_) ?_ ?_
  rotate_left
  ·show Act.put _ (some 14) _ = _
   simp only [Act.put, List.setIfInBounds_toArray, List.set_cons_zero, List.set_cons_succ, i64_w, i32_w]
   rfl
  refine one_ (i := 8) (N := none) #[true, true, true, true, true, true, true, true, true] rfl rfl (one_of HT_.out (by kernel_rfl)) (by decide) (fun K hK => ?_)
  have hs18 : w17.cell? ⟨gb374, 0, none⟩ = some (.int .i64 0) := (blk_cell BK374.out 0).trans rfl
  have hfs18 := blk_frozen BK374.out 0
  have hns18_0 := NB373_374.out
  have hms18_0 := NB374_373.out
  have hs19 : w17.cell? ⟨gb374, 1, none⟩ = some (.int .i64 0) := (blk_cell BK374.out 1).trans rfl
  have hfs19 := blk_frozen BK374.out 1
  have hns19_0 := NB373_374.out
  have hms19_0 := NB374_373.out
  have hs20 : w17.cell? ⟨gb374, 2, none⟩ = some (.int .i64 0) := (blk_cell BK374.out 2).trans rfl
  have hfs20 := blk_frozen BK374.out 2
  have hns20_0 := NB373_374.out
  have hms20_0 := NB374_373.out
  have hs21 : w17.cell? ⟨gb374, 3, none⟩ = some (.int .i64 0) := (blk_cell BK374.out 3).trans rfl
  have hfs21 := blk_frozen BK374.out 3
  have hns21_0 := NB373_374.out
  have hms21_0 := NB374_373.out
  refine skip_ (w1 := ?_) (by rfl) rfl ?_ ?_
  rotate_left
  ·go_simp
   rfl
  refine hK.out _ _ ⟨((cell_far (p := ⟨gb374, _, none⟩) NB373_374.out _).trans (((cell_far (p := ⟨gb374, _, none⟩) NB373_374.out _).trans (((cell_far (p := ⟨gb374, _, none⟩) NB373_374.out _).trans (((cell_far (p := ⟨gb374, _, none⟩) NB373_374.out _).trans (hHeld.1)))))))), ((cell_far (p := ⟨gb374, _, none⟩) NB373_374.out _).trans (((cell_far (p := ⟨gb374, _, none⟩) NB373_374.out _).trans (((cell_far (p := ⟨gb374, _, none⟩) NB373_374.out _).trans (((cell_far (p := ⟨gb374, _, none⟩) NB373_374.out _).trans (hHeld.2.1)))))))), ((cell_far (p := ⟨gb374, _, none⟩) NB373_374.out _).trans (((cell_far (p := ⟨gb374, _, none⟩) NB373_374.out _).trans (((cell_far (p := ⟨gb374, _, none⟩) NB373_374.out _).trans (((cell_far (p := ⟨gb374, _, none⟩) NB373_374.out _).trans (hHeld.2.2.1)))))))), ((cell_far (p := ⟨gb374, _, none⟩) NB373_374.out _).trans (((cell_far (p := ⟨gb374, _, none⟩) NB373_374.out _).trans (((cell_far (p := ⟨gb374, _, none⟩) NB373_374.out _).trans (((cell_far (p := ⟨gb374, _, none⟩) NB373_374.out _).trans (hHeld.2.2.2.1)))))))), ((cell_far (p := ⟨gb374, _, none⟩) NB373_374.out _).trans (((cell_far (p := ⟨gb374, _, none⟩) NB373_374.out _).trans (((cell_far (p := ⟨gb374, _, none⟩) NB373_374.out _).trans (((cell_far (p := ⟨gb374, _, none⟩) NB373_374.out _).trans (hHeld.2.2.2.2.1)))))))), ((cell_far (p := ⟨gb374, _, none⟩) NB373_374.out _).trans (((cell_far (p := ⟨gb374, _, none⟩) NB373_374.out _).trans (((cell_far (p := ⟨gb374, _, none⟩) NB373_374.out _).trans (((cell_far (p := ⟨gb374, _, none⟩) NB373_374.out _).trans (hHeld.2.2.2.2.2))))))))⟩ (fun hHeld => ?_)
  clear hK K
  refine done_ (done_of HT_.out (by kernel_rfl)) ?_
  try go_wp2
  refine bodyPost_ret (results_cell_row rfl _ _ gb374 43 #[.int .i64 t388, .int .i64 t389, .int .i64 t390, .int .i64 t391] (0, 0) _ rfl kS Try.underlying43 rfl (by kernel_rfl)) rfl ?_
  exact ⟨eS, bS⟩
 ·obtain rfl := Bool.eq_false_iff.mpr c3
  rw [if_neg nF] at H
  obtain ⟨rfl, rfl, rfl, rfl⟩ := sI4 H
  go_enter Try.func81, Try.ntmps81
  go_wp2_with (first | ((with_reducible refine gD 1 ?_); refine bxE #[.slice A0_0 l0_0.length c0_0, .int .i64 a0_1, .int .i64 a0_2, .int .i64 a0_3, .int .i64 a0_4, .int .i64 a0_5] 45 ?_; intro gb373 hg w22 BK373 hb; have GW373 := gE hg; have GE373 := gE hg; replace HB := hB hb; clear hb hg) | ((with_reducible refine gD 2 ?_); refine bxE #[.int .i64 0, .int .i64 0, .int .i64 0, .int .i64 0] 43 ?_; intro gb374 hg w23 BK374 hb; have GW374 := gE hg; have GE374 := gE hg; have NB373_374 := nL (g := gb373) hg; have NB374_373 := nG (g := gb373) hg; replace BK373 := kB (g := gb373) hb; replace HB := hB hb; clear hb hg; have hnb24 := NB373_374.out; have hnc24 := NB374_373.out; have hz25 := cz6 BK373) | ((with_reducible refine gC 95 ?_); refine cL (some 4) Try.func95 #[.agg #[.slice A0_0 l0_0.length c0_0, .int .i64 a0_1, .int .i64 a0_2, .int .i64 a0_3, .int .i64 a0_4, .int .i64 a0_5]] ?_; (with_reducible refine (spec_ObjectOk.calls k _ _ l0_0 a0_1 a0_2 a0_3 a0_4 a0_5 _ _ (cS (Kd.C_below HR0_0.out HB.out)) HC0_0.out A2.out).mono ?_); rintro e w26 ⟨rfl, hb⟩; refine ⟨_, rfl, ?_⟩; replace BK373 := kB (g := gb373) hb; replace BK374 := kB (g := gb374) hb; replace HB := hB hb; (try clear hb); (try clear hb2); (try clear hk); (try clear hi); have hz27 := cz4 BK374))
  refine bodyPost_ret (results_cell_row rfl _ _ gb374 43 #[.int .i64 0, .int .i64 0, .int .i64 0, .int .i64 0] (0, 0) _ rfl kS Try.underlying43 rfl (by kernel_rfl)) rfl ?_
  exact ⟨eS, bS⟩

/-! ### spec_CountDots: function 82 -/
def spec_CountDots.f (a0_0 : Int) (a0_1 : Int) (a0_2 : Int) (a0_3 : Int) : Option (Int) := (spec_BoxOk.f a0_0 a0_1 a0_2 a0_3).bind fun t393 => (if t393 = true then (some (wrap64 ((wrap64 (a0_2 - a0_0)) * (wrap64 (a0_3 - a0_1))))) else (some 0))
theorem spec_CountDots.calls (a0_0 : Int) (a0_1 : Int) (a0_2 : Int) (a0_3 : Int) (r : Int) (w : World) (h : spec_CountDots.f a0_0 a0_1 a0_2 a0_3 = some r) :
  Calls Try.prog 82 #[.agg #[.int .i64 a0_0, .int .i64 a0_1, .int .i64 a0_2, .int .i64 a0_3]] w fun e w' => e = .returned (.int .i64 r) ∧ Below w.heap.size w w' := by
 have hu43 := Try.underlying43
 have HB := Aside0.mk (Below.refl w.heap.size w)
 have H : ((spec_BoxOk.f a0_0 a0_1 a0_2 a0_3).bind fun t393 => (if t393 = true then (some (wrap64 ((wrap64 (a0_2 - a0_0)) * (wrap64 (a0_3 - a0_1))))) else (some 0))) = some r := h
 clear h
 replace H := bN H
 obtain ⟨t393, A2, H⟩ := H
 by_cases c3 : t393 = true
 ·subst c3
  rw [if_pos rfl] at H
  obtain rfl := Option.some.inj H
  go_enter Try.func82, Try.ntmps82
  go_wp2_with (first | ((with_reducible refine gD 1 ?_); refine bxE #[.int .i64 a0_0, .int .i64 a0_1, .int .i64 a0_2, .int .i64 a0_3] 43 ?_; intro gb392 hg w4 BK392 hb; have GW392 := gE hg; have GE392 := gE hg; replace HB := hB hb; clear hb hg; have hz5 := cz4 BK392) | ((with_reducible refine gC 145 ?_); refine cL (some 4) Try.func145 #[.agg #[.int .i64 a0_0, .int .i64 a0_1, .int .i64 a0_2, .int .i64 a0_3]] ?_; (with_reducible refine (spec_BoxOk.calls a0_0 a0_1 a0_2 a0_3 _ _ A2.out).mono ?_); rintro e w6 ⟨rfl, hb⟩; refine ⟨_, rfl, ?_⟩; replace BK392 := kB (g := gb392) hb; replace HB := hB hb; (try clear hb); (try clear hb2); (try clear hk); (try clear hi); have hz7 := cz4 BK392))
  go_ret
  exact ⟨eS, bS⟩
 ·obtain rfl := Bool.eq_false_iff.mpr c3
  rw [if_neg nF] at H
  obtain rfl := Option.some.inj H
  go_enter Try.func82, Try.ntmps82
  go_wp2_with (first | ((with_reducible refine gD 1 ?_); refine bxE #[.int .i64 a0_0, .int .i64 a0_1, .int .i64 a0_2, .int .i64 a0_3] 43 ?_; intro gb392 hg w8 BK392 hb; have GW392 := gE hg; have GE392 := gE hg; replace HB := hB hb; clear hb hg; have hz9 := cz4 BK392) | ((with_reducible refine gC 145 ?_); refine cL (some 4) Try.func145 #[.agg #[.int .i64 a0_0, .int .i64 a0_1, .int .i64 a0_2, .int .i64 a0_3]] ?_; (with_reducible refine (spec_BoxOk.calls a0_0 a0_1 a0_2 a0_3 _ _ A2.out).mono ?_); rintro e w10 ⟨rfl, hb⟩; refine ⟨_, rfl, ?_⟩; replace BK392 := kB (g := gb392) hb; replace HB := hB hb; (try clear hb); (try clear hb2); (try clear hk); (try clear hi)))
  go_ret
  exact ⟨eS, bS⟩

/-! ### spec_SpansOk: function 146 -/
def spec_SpansOk.l0 : Nat → List (S124) → Int → Option (Bool)
 | 0, _, _ => none
 | k + 1, x0, x3 => if x3 < (x0.length : Int) then (if 0 ≤ x3 then (if ((rd_T124 x0 x3).f0) ≥ ((rd_T124 x0 x3).f1) then (some false) else (if x3 > 0 then (if 0 ≤ (wrap64 (x3 - 1)) then (if (wrap64 (x3 - 1)) < (x0.length : Int) then (if ((rd_T124 x0 (wrap64 (x3 - 1))).f1) ≥ ((rd_T124 x0 x3).f0) then (some false) else (spec_SpansOk.l0 k x0 (wrap64 (x3 + 1)))) else (none)) else (none)) else (spec_SpansOk.l0 k x0 (wrap64 (x3 + 1))))) else (none)) else (some (decide ((x0.length : Int) ≤ 8)))
def spec_SpansOk.f (k : Nat) (l0 : List (S124)) : Option (Bool) := spec_SpansOk.l0 k l0 0
theorem spec_SpansOk.calls (k : Nat) (A0 : Option Addr) (c0 : Nat) (l0 : List (S124)) (r : Bool) (w : World) (hr0 : Kd.C k124 w A0 l0.length l0) (hc0 : l0.length ≤ c0) (h : spec_SpansOk.f k l0 = some r) :
  Calls Try.prog 146 #[.slice A0 l0.length c0] w fun e w' => e = .returned (.bool r) ∧ Drawn0 w w' := by
 have HR0 := Aside0.mk hr0
 have HC0 := Aside0.mk hc0
 clear hr0 hc0
 have H : (spec_SpansOk.l0 k l0 0) = some r := h
 clear h
 have H' := Aside0.mk H
 clear H
 go_enter Try.func146, Try.ntmps146
 go_wp2
 repeat (go_quiet (fail); try go_wp2)
 go_loopg [3] k (fun kq v3 w' => ∃ (x3_1 : Int), v3 = .int .i64 x3_1 ∧ Aside0 (spec_SpansOk.l0 kq l0 x3_1 = some r) ∧ Aside0 (kq ≤ k) ∧ Drawn0 w w')
 case atStart => exact ⟨(0), fS, H', ⟨Nat.le_refl _⟩, dS⟩
 case round =>
  clear H'
  try clear c1
  obtain ⟨x3_1, rfl, HA, HK1, ⟨m1, rfl⟩⟩ := hrel
  cases gk with
  | zero => exact absurd HA.out (by simp [spec_SpansOk.l0])
  | succ k1 =>
   have H := HA.out
   clear HA
   simp only [spec_SpansOk.l0] at H
   rcases iD H with ⟨c2b0, H⟩ | ⟨c2b0, H⟩
   ·obtain ⟨c3b0, H⟩ := iT H
    by_cases c4 : ((rd_T124 l0 x3_1).f0) ≥ ((rd_T124 l0 x3_1).f1)
    ·rw [if_pos c4] at H
     have c4b0 : decide (((rd_T124 l0 x3_1).f1) ≤ ((rd_T124 l0 x3_1).f0)) = true := decide_eq_true c4
     clear c4
     obtain rfl := Option.some.inj H
     have p394 : 0 ≤ (x3_1 : Int) := dA
     have q394 : x3_1 < (l0.length : Int) := dA
     obtain ⟨ad394, e394, hx394_0, hx394_1⟩ := at_T124 HR0.out x3_1 p394 q394
     cases e394
     replace p394 := eq_true p394
     replace q394 := eq_true q394
     have p395 : 0 ≤ (x3_1 : Int) := dA
     have q395 : x3_1 < (l0.length : Int) := dA
     obtain ⟨ad395, e395, hx395_0, hx395_1⟩ := at_T124 HR0.out x3_1 p395 q395
     obtain rfl : ad394 = ad395 := (by injection e395)
     replace p395 := eq_true p395
     replace q395 := eq_true q395
     go_wp2
     repeat (go_quiet (fail); try go_wp2)
     go_ret
     exact ⟨fS, dS⟩
    ·rw [if_neg c4] at H
     have c4b0 : decide (((rd_T124 l0 x3_1).f1) ≤ ((rd_T124 l0 x3_1).f0)) = false := decide_eq_false c4
     clear c4
     by_cases c5 : x3_1 > 0
     ·rw [if_pos c5] at H
      have c5b0 : decide (0 < x3_1) = true := decide_eq_true c5
      clear c5
      obtain ⟨ji6, hji6⟩ : ∃ j_ : Int, (wrap64 (x3_1 - 1)) = j_ := ⟨_, rfl⟩
      replace H : (if 0 ≤ (ji6) then (if (ji6) < (l0.length : Int) then (if ((rd_T124 l0 (ji6)).f1) ≥ ((rd_T124 l0 x3_1).f0) then (some false) else (spec_SpansOk.l0 k1 l0 (wrap64 (x3_1 + 1)))) else (none)) else (none)) = some r := by first | (rw [hji6] at H; exact H) | (simp only [hji6] at H ⊢; exact H)
      have hji6w : (IntKind.i64.wrap (x3_1 - 1)) = ji6 := (i64_w _).trans hji6
      obtain ⟨c7b0, H⟩ := iT H
      obtain ⟨c8b0, H⟩ := iT H
      by_cases c9 : ((rd_T124 l0 (ji6)).f1) ≥ ((rd_T124 l0 x3_1).f0)
      ·rw [if_pos c9] at H
       have c9b0 : decide (((rd_T124 l0 x3_1).f0) ≤ ((rd_T124 l0 (ji6)).f1)) = true := decide_eq_true c9
       clear c9
       obtain rfl := Option.some.inj H
       have p394 : 0 ≤ (x3_1 : Int) := dA
       have q394 : x3_1 < (l0.length : Int) := dA
       obtain ⟨ad394, e394, hx394_0, hx394_1⟩ := at_T124 HR0.out x3_1 p394 q394
       cases e394
       replace p394 := eq_true p394
       replace q394 := eq_true q394
       have p395 : 0 ≤ (x3_1 : Int) := dA
       have q395 : x3_1 < (l0.length : Int) := dA
       obtain ⟨ad395, e395, hx395_0, hx395_1⟩ := at_T124 HR0.out x3_1 p395 q395
       obtain rfl : ad394 = ad395 := (by injection e395)
       replace p395 := eq_true p395
       replace q395 := eq_true q395
       have p396 : 0 ≤ ((ji6) : Int) := dA
       have q396 : (ji6) < (l0.length : Int) := dA
       obtain ⟨ad396, e396, hx396_0, hx396_1⟩ := at_T124 HR0.out (ji6) p396 q396
       obtain rfl : ad394 = ad396 := (by injection e396)
       replace p396 := eq_true p396
       replace q396 := eq_true q396
       have p397 : 0 ≤ (x3_1 : Int) := dA
       have q397 : x3_1 < (l0.length : Int) := dA
       obtain ⟨ad397, e397, hx397_0, hx397_1⟩ := at_T124 HR0.out x3_1 p397 q397
       obtain rfl : ad394 = ad397 := (by injection e397)
       replace p397 := eq_true p397
       replace q397 := eq_true q397
       go_wp2
       repeat (go_quiet (fail); try go_wp2)
       go_ret
       exact ⟨by first | rfl | (simp; done) | (simp only [← hji6] <;> (first | rfl | simp)) | (simp [*]; done), dS⟩
      ·rw [if_neg c9] at H
       have c9b0 : decide (((rd_T124 l0 x3_1).f0) ≤ ((rd_T124 l0 (ji6)).f1)) = false := decide_eq_false c9
       clear c9
       have H' := Aside0.mk H
       clear H
       have p394 : 0 ≤ (x3_1 : Int) := dA
       have q394 : x3_1 < (l0.length : Int) := dA
       obtain ⟨ad394, e394, hx394_0, hx394_1⟩ := at_T124 HR0.out x3_1 p394 q394
       cases e394
       replace p394 := eq_true p394
       replace q394 := eq_true q394
       have p395 : 0 ≤ (x3_1 : Int) := dA
       have q395 : x3_1 < (l0.length : Int) := dA
       obtain ⟨ad395, e395, hx395_0, hx395_1⟩ := at_T124 HR0.out x3_1 p395 q395
       obtain rfl : ad394 = ad395 := (by injection e395)
       replace p395 := eq_true p395
       replace q395 := eq_true q395
       have p396 : 0 ≤ ((ji6) : Int) := dA
       have q396 : (ji6) < (l0.length : Int) := dA
       obtain ⟨ad396, e396, hx396_0, hx396_1⟩ := at_T124 HR0.out (ji6) p396 q396
       obtain rfl : ad394 = ad396 := (by injection e396)
       replace p396 := eq_true p396
       replace q396 := eq_true q396
       have p397 : 0 ≤ (x3_1 : Int) := dA
       have q397 : x3_1 < (l0.length : Int) := dA
       obtain ⟨ad397, e397, hx397_0, hx397_1⟩ := at_T124 HR0.out x3_1 p397 q397
       obtain rfl : ad394 = ad397 := (by injection e397)
       replace p397 := eq_true p397
       replace q397 := eq_true q397
       go_wp2
       repeat (go_quiet (fail); try go_wp2)
       go_roundg k1
       case measure => have := HK1.out; omega
       case rel => exact ⟨(wrap64 (x3_1 + 1)), fS, H', ⟨by have := HK1.out; omega⟩, dS⟩
     ·rw [if_neg c5] at H
      have c5b0 : decide (0 < x3_1) = false := decide_eq_false c5
      clear c5
      have H' := Aside0.mk H
      clear H
      have p394 : 0 ≤ (x3_1 : Int) := dA
      have q394 : x3_1 < (l0.length : Int) := dA
      obtain ⟨ad394, e394, hx394_0, hx394_1⟩ := at_T124 HR0.out x3_1 p394 q394
      cases e394
      replace p394 := eq_true p394
      replace q394 := eq_true q394
      have p395 : 0 ≤ (x3_1 : Int) := dA
      have q395 : x3_1 < (l0.length : Int) := dA
      obtain ⟨ad395, e395, hx395_0, hx395_1⟩ := at_T124 HR0.out x3_1 p395 q395
      obtain rfl : ad394 = ad395 := (by injection e395)
      replace p395 := eq_true p395
      replace q395 := eq_true q395
      go_wp2
      repeat (go_quiet (fail); try go_wp2)
      go_roundg k1
      case measure => have := HK1.out; omega
      case rel => exact ⟨(wrap64 (x3_1 + 1)), fS, H', ⟨by have := HK1.out; omega⟩, dS⟩
   ·obtain rfl := Option.some.inj H
    go_wp2
    repeat (go_quiet (fail); try go_wp2)
    go_ret
    exact ⟨fS, dS⟩

end Go.Proofs.Ytigodjcnkgebaaa.QFnExactRenderBands
