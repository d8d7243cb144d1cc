-- Made out of the translation by a program of this session (a changed copy of the print). Not trusted: Lean checks it.
import Derived.Test.YtigodjcnkgebaaaQFnExactRenderBandsx0
import Derived.Test.YtigodjcnkgebaaaQFnExactRenderBandsx1
namespace Go.Proofs.Ytigodjcnkgebaaa.QFnExactRenderBands
open Go.RowKit Go.Proofs.YtigodjcnkgebaaaW.PrintWords Go.Proofs.YtigodjcnkgebaaaW.PrintLast Go.Proofs.YtigodjcnkgebaaaW.PrintMore
attribute [local go_sem] max2_int min2_int max_two min_two max_three min_three max_four min_four   -- for this text's walks alone
set_option linter.unusedVariables false
set_option linter.unusedSimpArgs false
set_option maxHeartbeats 8000000
set_option maxRecDepth 100000

/-! ### impl_MeetBox: function 153 -/
def impl_MeetBox.j0 : Nat → Bool → Int → Int → Int → Int → Int → Int → Int → Int → Option (Int × Int × Int × Int)
 | 0, _, _, _, _, _, _, _, _, _ => none
 | k + 1, x13, x133000, x133001, x133002, x133003, x134000, x134001, x134002, x134003 => if x13 = true then (some (0, 0, 0, 0)) else (if (mx x133000 x134000) ≥ (mn x133002 x134002) then (some (0, 0, 0, 0)) else (if (mx x133001 x134001) ≥ (mn x133003 x134003) then (some (0, 0, 0, 0)) else (some (mx x133000 x134000, mx x133001 x134001, mn x133002 x134002, mn x133003 x134003))))
def impl_MeetBox.f (k : Nat) (a0_0 : Int) (a0_1 : Int) (a0_2 : Int) (a0_3 : Int) (a1_0 : Int) (a1_1 : Int) (a1_2 : Int) (a1_3 : Int) : Option (Int × Int × Int × Int) := (impl_BoxOk.f a0_0 a0_1 a0_2 a0_3).bind fun t135 => (if t135 = true then ((impl_BoxOk.f a1_0 a1_1 a1_2 a1_3).bind fun t136 => (impl_MeetBox.j0 k (!t136) a0_0 a0_1 a0_2 a0_3 a1_0 a1_1 a1_2 a1_3)) else (impl_MeetBox.j0 k true a0_0 a0_1 a0_2 a0_3 a1_0 a1_1 a1_2 a1_3))
theorem impl_MeetBox.calls (k : Nat) (a0_0 : Int) (a0_1 : Int) (a0_2 : Int) (a0_3 : Int) (a1_0 : Int) (a1_1 : Int) (a1_2 : Int) (a1_3 : Int) (r1 : Int) (r2 : Int) (r3 : Int) (r4 : Int) (w : World) (h : impl_MeetBox.f k a0_0 a0_1 a0_2 a0_3 a1_0 a1_1 a1_2 a1_3 = some (r1, r2, r3, r4)) :
  Calls Try.prog 153 #[.agg #[.int .i64 a0_0, .int .i64 a0_1, .int .i64 a0_2, .int .i64 a0_3], .agg #[.int .i64 a1_0, .int .i64 a1_1, .int .i64 a1_2, .int .i64 a1_3]] w fun e w' => e = .returned (.agg #[.int .i64 r1, .int .i64 r2, .int .i64 r3, .int .i64 r4]) ∧ Below w.heap.size w w' := by
 have hu43 := Try.underlying43
 have HB := Aside0.mk (Below.refl w.heap.size w)
 have H : ((impl_BoxOk.f a0_0 a0_1 a0_2 a0_3).bind fun t135 => (if t135 = true then ((impl_BoxOk.f a1_0 a1_1 a1_2 a1_3).bind fun t136 => (impl_MeetBox.j0 k (!t136) a0_0 a0_1 a0_2 a0_3 a1_0 a1_1 a1_2 a1_3)) else (impl_MeetBox.j0 k true a0_0 a0_1 a0_2 a0_3 a1_0 a1_1 a1_2 a1_3))) = some (r1, r2, r3, r4) := h
 clear h
 have HC3 := Aside0.mk H
 clear H
 go_enter Try.func153, Try.ntmps153
 go_upto_region 1 with (first | ((with_reducible refine gD 2 ?_); refine bxE #[.int .i64 a0_0, .int .i64 a0_1, .int .i64 a0_2, .int .i64 a0_3] 43 ?_; intro gb132 hg w4 BK132 hb; have GW132 := gE hg; have GE132 := gE hg; replace HB := hB hb; clear hb hg) | ((with_reducible refine gD 3 ?_); refine bxE #[.int .i64 a1_0, .int .i64 a1_1, .int .i64 a1_2, .int .i64 a1_3] 43 ?_; intro gb133 hg w5 BK133 hb; have GW133 := gE hg; have GE133 := gE hg; have NB132_133 := nL (g := gb132) hg; have NB133_132 := nG (g := gb132) hg; replace BK132 := kB (g := gb132) hb; replace HB := hB hb; clear hb hg) | ((with_reducible refine gD 4 ?_); refine bxE #[.int .i64 0, .int .i64 0, .int .i64 0, .int .i64 0] 43 ?_; intro gb134 hg w6 BK134 hb; have GW134 := gE hg; have GE134 := gE hg; have NB132_134 := nL (g := gb132) hg; have NB134_132 := nG (g := gb132) hg; have NB133_134 := nL (g := gb133) hg; have NB134_133 := nG (g := gb133) hg; replace BK132 := kB (g := gb132) hb; replace BK133 := kB (g := gb133) hb; replace HB := hB hb; clear hb hg))
 (try simp only [Act.put, List.setIfInBounds_toArray, List.set_cons_zero, List.set_cons_succ])
 go_cut [13] (fun v13 wc => ∃ (kq : Nat) (x13_2 : Bool), v13 = .bool x13_2 ∧ Aside0 (impl_MeetBox.j0 kq x13_2 a0_0 a0_1 a0_2 a0_3 a1_0 a1_1 a1_2 a1_3 = some (r1, r2, r3, r4)) ∧ Aside0 (kq ≤ k) ∧ Aside0 (wc.heap[gb132]? = some (.cells #[.int .i64 a0_0, .int .i64 a0_1, .int .i64 a0_2, .int .i64 a0_3] 43 (0, 0))) ∧ Aside0 (wc.heap[gb133]? = some (.cells #[.int .i64 a1_0, .int .i64 a1_1, .int .i64 a1_2, .int .i64 a1_3] 43 (0, 0))) ∧ Aside0 (wc.heap[gb134]? = some (.cells #[.int .i64 0, .int .i64 0, .int .i64 0, .int .i64 0] 43 (0, 0))) ∧ Aside0 (Below w.heap.size w wc))
 case first =>
  have H := HC3.out
  clear HC3
  replace H := bN H
  obtain ⟨t135, A7, H⟩ := H
  by_cases c8 : t135 = true
  ·subst c8
   rw [if_pos rfl] at H
   replace H := bN H
   obtain ⟨t136, A9, H⟩ := H
   have H' := Aside0.mk H
   clear H
   have hnb10 := NB132_133.out
   have hnc10 := NB133_132.out
   have hnb11 := NB132_134.out
   have hnc11 := NB134_132.out
   have hcz12_0 : w6.cell? ⟨gb132, 0, none⟩ = some (.int .i64 a0_0) := (blk_cell BK132.out 0).trans rfl
   have hcz12_1 : w6.cell? ⟨gb132, 1, none⟩ = some (.int .i64 a0_1) := (blk_cell BK132.out 1).trans rfl
   have hcz12_2 : w6.cell? ⟨gb132, 2, none⟩ = some (.int .i64 a0_2) := (blk_cell BK132.out 2).trans rfl
   have hcz12_3 : w6.cell? ⟨gb132, 3, none⟩ = some (.int .i64 a0_3) := (blk_cell BK132.out 3).trans rfl
   have hfz12_0 := blk_frozen BK132.out 0
   have hfz12_1 := blk_frozen BK132.out 1
   have hfz12_2 := blk_frozen BK132.out 2
   have hfz12_3 := blk_frozen BK132.out 3
   go_wp2_with (first | ((with_reducible refine gC 152 ?_); refine cL (some 7) Try.func152 #[.agg #[.int .i64 a0_0, .int .i64 a0_1, .int .i64 a0_2, .int .i64 a0_3]] ?_; (with_reducible refine (impl_BoxOk.calls a0_0 a0_1 a0_2 a0_3 _ _ A7.out).mono ?_); rintro e w13 ⟨rfl, hb⟩; refine ⟨_, rfl, ?_⟩; replace BK132 := kB (g := gb132) hb; replace BK133 := kB (g := gb133) hb; replace BK134 := kB (g := gb134) hb; replace HB := hB hb; (try clear hb); (try clear hb2); (try clear hk); (try clear hi); have hnb14 := NB133_134.out; have hnc14 := NB134_133.out; have hcz15_0 : w13.cell? ⟨gb133, 0, none⟩ = some (.int .i64 a1_0) := (blk_cell BK133.out 0).trans rfl; have hcz15_1 : w13.cell? ⟨gb133, 1, none⟩ = some (.int .i64 a1_1) := (blk_cell BK133.out 1).trans rfl; have hcz15_2 : w13.cell? ⟨gb133, 2, none⟩ = some (.int .i64 a1_2) := (blk_cell BK133.out 2).trans rfl; have hcz15_3 : w13.cell? ⟨gb133, 3, none⟩ = some (.int .i64 a1_3) := (blk_cell BK133.out 3).trans rfl; have hfz15_0 := blk_frozen BK133.out 0; have hfz15_1 := blk_frozen BK133.out 1; have hfz15_2 := blk_frozen BK133.out 2; have hfz15_3 := blk_frozen BK133.out 3) | (go_at_call 152; (with_reducible refine (impl_BoxOk.calls a1_0 a1_1 a1_2 a1_3 t136 _ A9.out).mono ?_); rintro e w16 ⟨rfl, hb⟩; replace BK132 := kB (g := gb132) hb; replace BK133 := kB (g := gb133) hb; replace BK134 := kB (g := gb134) hb; replace HB := hB hb; (try clear hb); (try clear hb2); (try clear hk); (try clear hi)))
   go_meet
   case rel => exact ⟨_, (!t136), fS, H', ⟨by first | omega | exact Nat.le_refl _⟩, ⟨kS⟩, ⟨kS⟩, ⟨kS⟩, ⟨bS⟩⟩
  ·obtain rfl := Bool.eq_false_iff.mpr c8
   rw [if_neg nF] at H
   have H' := Aside0.mk H
   clear H
   have hnb17 := NB132_133.out
   have hnc17 := NB133_132.out
   have hnb18 := NB132_134.out
   have hnc18 := NB134_132.out
   have hcz19_0 : w6.cell? ⟨gb132, 0, none⟩ = some (.int .i64 a0_0) := (blk_cell BK132.out 0).trans rfl
   have hcz19_1 : w6.cell? ⟨gb132, 1, none⟩ = some (.int .i64 a0_1) := (blk_cell BK132.out 1).trans rfl
   have hcz19_2 : w6.cell? ⟨gb132, 2, none⟩ = some (.int .i64 a0_2) := (blk_cell BK132.out 2).trans rfl
   have hcz19_3 : w6.cell? ⟨gb132, 3, none⟩ = some (.int .i64 a0_3) := (blk_cell BK132.out 3).trans rfl
   have hfz19_0 := blk_frozen BK132.out 0
   have hfz19_1 := blk_frozen BK132.out 1
   have hfz19_2 := blk_frozen BK132.out 2
   have hfz19_3 := blk_frozen BK132.out 3
   go_wp2_with (first | ((with_reducible refine gC 152 ?_); refine cL (some 7) Try.func152 #[.agg #[.int .i64 a0_0, .int .i64 a0_1, .int .i64 a0_2, .int .i64 a0_3]] ?_; (with_reducible refine (impl_BoxOk.calls a0_0 a0_1 a0_2 a0_3 _ _ A7.out).mono ?_); rintro e w20 ⟨rfl, hb⟩; refine ⟨_, rfl, ?_⟩; replace BK132 := kB (g := gb132) hb; replace BK133 := kB (g := gb133) hb; replace BK134 := kB (g := gb134) hb; replace HB := hB hb; (try clear hb); (try clear hb2); (try clear hk); (try clear hi)))
   go_meet
   case rel => exact ⟨_, (true), fS, H', ⟨by first | omega | exact Nat.le_refl _⟩, ⟨kS⟩, ⟨kS⟩, ⟨kS⟩, ⟨bS⟩⟩
 case rest =>
  clear HC3
  try clear c1
  try clear p2
  try clear c8
  try clear c10
  try clear c11
  try clear c14
  try clear c15
  try clear c17
  try clear c18
  try clear hcz12_0
  try clear hcz12_1
  try clear hcz12_2
  try clear hcz12_3
  try clear hcz15_0
  try clear hcz15_1
  try clear hcz15_2
  try clear hcz15_3
  try clear hcz19_0
  try clear hcz19_1
  try clear hcz19_2
  try clear hcz19_3
  try clear hfz12_0
  try clear hfz12_1
  try clear hfz12_2
  try clear hfz12_3
  try clear hfz15_0
  try clear hfz15_1
  try clear hfz15_2
  try clear hfz15_3
  try clear hfz19_0
  try clear hfz19_1
  try clear hfz19_2
  try clear hfz19_3
  obtain ⟨kq, x13_2, rfl, HA, HJ2, BK132, BK133, BK134, HB⟩ := hcut
  cases kq with
  | zero => exact absurd HA.out (by simp [impl_MeetBox.j0])
  | succ kj2 =>
   have H := HA.out
   clear HA
   simp only [impl_MeetBox.j0] at H
   by_cases c21 : x13_2 = true
   ·subst c21
    rw [if_pos rfl] at H
    obtain ⟨rfl, rfl, rfl, rfl⟩ := sI4 H
    have hnb22 := NB134_132.out
    have hnc22 := NB132_134.out
    have hnb23 := NB134_133.out
    have hnc23 := NB133_134.out
    have hz24 := cz4 BK134
    go_wp2
    refine bodyPost_ret (results_cell_row rfl _ _ gb134 43 #[.int .i64 0, .int .i64 0, .int .i64 0, .int .i64 0] (0, 0) _ rfl kS Try.underlying43 rfl (by kernel_rfl)) rfl ?_
    exact ⟨eS, bS⟩
   ·obtain rfl := Bool.eq_false_iff.mpr c21
    rw [if_neg nF] at H
    obtain ⟨ji25, hji25⟩ : ∃ j_ : Int, (mx a0_0 a1_0) = j_ := ⟨_, rfl⟩
    replace H : (if (ji25) ≥ (mn a0_2 a1_2) then (some (0, 0, 0, 0)) else (if (mx a0_1 a1_1) ≥ (mn a0_3 a1_3) then (some (0, 0, 0, 0)) else (some (ji25, mx a0_1 a1_1, mn a0_2 a1_2, mn a0_3 a1_3)))) = some (r1, r2, r3, r4) := by first | (rw [hji25] at H; exact H) | (simp only [hji25] at H ⊢; exact H)
    have hji25_ : (if a0_0 < a1_0 then a1_0 else a0_0) = ji25 := hji25
    obtain ⟨ji26, hji26⟩ : ∃ j_ : Int, (mx a0_1 a1_1) = j_ := ⟨_, rfl⟩
    replace H : (if (ji25) ≥ (mn a0_2 a1_2) then (some (0, 0, 0, 0)) else (if (ji26) ≥ (mn a0_3 a1_3) then (some (0, 0, 0, 0)) else (some (ji25, ji26, mn a0_2 a1_2, mn a0_3 a1_3)))) = some (r1, r2, r3, r4) := by first | (rw [hji26] at H; exact H) | (simp only [hji26] at H ⊢; exact H)
    have hji26_ : (if a0_1 < a1_1 then a1_1 else a0_1) = ji26 := hji26
    obtain ⟨ji27, hji27⟩ : ∃ j_ : Int, (mn a0_2 a1_2) = j_ := ⟨_, rfl⟩
    replace H : (if (ji25) ≥ (ji27) then (some (0, 0, 0, 0)) else (if (ji26) ≥ (mn a0_3 a1_3) then (some (0, 0, 0, 0)) else (some (ji25, ji26, ji27, mn a0_3 a1_3)))) = some (r1, r2, r3, r4) := by first | (rw [hji27] at H; exact H) | (simp only [hji27] at H ⊢; exact H)
    have hji27_ : (if a1_2 < a0_2 then a1_2 else a0_2) = ji27 := hji27
    obtain ⟨ji28, hji28⟩ : ∃ j_ : Int, (mn a0_3 a1_3) = j_ := ⟨_, rfl⟩
    replace H : (if (ji25) ≥ (ji27) then (some (0, 0, 0, 0)) else (if (ji26) ≥ (ji28) then (some (0, 0, 0, 0)) else (some (ji25, ji26, ji27, ji28)))) = some (r1, r2, r3, r4) := by first | (rw [hji28] at H; exact H) | (simp only [hji28] at H ⊢; exact H)
    have hji28_ : (if a1_3 < a0_3 then a1_3 else a0_3) = ji28 := hji28
    by_cases c29 : (ji25) ≥ (ji27)
    ·rw [if_pos c29] at H
     have c29b0 : decide ((ji27) ≤ (ji25)) = true := decide_eq_true c29
     clear c29
     obtain ⟨rfl, rfl, rfl, rfl⟩ := sI4 H
     have hnb30 := NB132_133.out
     have hnc30 := NB133_132.out
     have hnb31 := NB132_134.out
     have hnc31 := NB134_132.out
     have hz32 := cz4 BK132
     have hnb33 := NB133_134.out
     have hnc33 := NB134_133.out
     have hz34 := cz4 BK133
     go_wp2_with (first | ((with_reducible refine gD 5 ?_); refine bxE #[.int .i64 0, .int .i64 0, .int .i64 0, .int .i64 0] 43 ?_; intro gb137 hg w35 BK137 hb; have GW137 := gE hg; have GE137 := gE hg; have NB132_137 := nL (g := gb132) hg; have NB137_132 := nG (g := gb132) hg; have NB133_137 := nL (g := gb133) hg; have NB137_133 := nG (g := gb133) hg; have NB134_137 := nL (g := gb134) hg; have NB137_134 := nG (g := gb134) hg; replace BK132 := kB (g := gb132) hb; replace BK133 := kB (g := gb133) hb; replace BK134 := kB (g := gb134) hb; replace HB := hB hb; clear hb hg; have hnb36 := NB137_132.out; have hnc36 := NB132_137.out; have hnb37 := NB137_133.out; have hnc37 := NB133_137.out; have hnb38 := NB137_134.out; have hnc38 := NB134_137.out; have hz39 := cz4 BK137; have hz40 := cz4 BK134))
     refine bodyPost_ret (results_cell_row rfl _ _ gb134 43 #[.int .i64 0, .int .i64 0, .int .i64 0, .int .i64 0] (0, 0) _ rfl kS Try.underlying43 rfl (by kernel_rfl)) rfl ?_
     exact ⟨by first | rfl | (simp [errW_none, errW_some] <;> rfl) | (simp only [← hji25, ← hji26, ← hji27, ← hji28]; first | rfl | (simp [errW_none, errW_some] <;> rfl)) | (simp [*, errW_none, errW_some] <;> rfl), bS⟩
    ·rw [if_neg c29] at H
     have c29b0 : decide ((ji27) ≤ (ji25)) = false := decide_eq_false c29
     clear c29
     by_cases c41 : (ji26) ≥ (ji28)
     ·rw [if_pos c41] at H
      have c41b0 : decide ((ji28) ≤ (ji26)) = true := decide_eq_true c41
      clear c41
      obtain ⟨rfl, rfl, rfl, rfl⟩ := sI4 H
      have hnb42 := NB132_133.out
      have hnc42 := NB133_132.out
      have hnb43 := NB132_134.out
      have hnc43 := NB134_132.out
      have hz44 := cz4 BK132
      have hnb45 := NB133_134.out
      have hnc45 := NB134_133.out
      have hz46 := cz4 BK133
      go_wp2_with (first | ((with_reducible refine gD 5 ?_); refine bxE #[.int .i64 0, .int .i64 0, .int .i64 0, .int .i64 0] 43 ?_; intro gb137 hg w47 BK137 hb; have GW137 := gE hg; have GE137 := gE hg; have NB132_137 := nL (g := gb132) hg; have NB137_132 := nG (g := gb132) hg; have NB133_137 := nL (g := gb133) hg; have NB137_133 := nG (g := gb133) hg; have NB134_137 := nL (g := gb134) hg; have NB137_134 := nG (g := gb134) hg; replace BK132 := kB (g := gb132) hb; replace BK133 := kB (g := gb133) hb; replace BK134 := kB (g := gb134) hb; replace HB := hB hb; clear hb hg; have hnb48 := NB137_132.out; have hnc48 := NB132_137.out; have hnb49 := NB137_133.out; have hnc49 := NB133_137.out; have hnb50 := NB137_134.out; have hnc50 := NB134_137.out; have hz51 := cz4 BK137; have hz52 := cz4 BK134))
      refine bodyPost_ret (results_cell_row rfl _ _ gb134 43 #[.int .i64 0, .int .i64 0, .int .i64 0, .int .i64 0] (0, 0) _ rfl kS Try.underlying43 rfl (by kernel_rfl)) rfl ?_
      exact ⟨by first | rfl | (simp [errW_none, errW_some] <;> rfl) | (simp only [← hji25, ← hji26, ← hji27, ← hji28]; first | rfl | (simp [errW_none, errW_some] <;> rfl)) | (simp [*, errW_none, errW_some] <;> rfl), bS⟩
     ·rw [if_neg c41] at H
      have c41b0 : decide ((ji28) ≤ (ji26)) = false := decide_eq_false c41
      clear c41
      obtain ⟨rfl, rfl, rfl, rfl⟩ := sI4 H
      have hnb53 := NB132_133.out
      have hnc53 := NB133_132.out
      have hnb54 := NB132_134.out
      have hnc54 := NB134_132.out
      have hz55 := cz4 BK132
      have hnb56 := NB133_134.out
      have hnc56 := NB134_133.out
      have hz57 := cz4 BK133
      go_wp2_with (first | ((with_reducible refine gD 5 ?_); refine bxE #[.int .i64 0, .int .i64 0, .int .i64 0, .int .i64 0] 43 ?_; intro gb137 hg w58 BK137 hb; have GW137 := gE hg; have GE137 := gE hg; have NB132_137 := nL (g := gb132) hg; have NB137_132 := nG (g := gb132) hg; have NB133_137 := nL (g := gb133) hg; have NB137_133 := nG (g := gb133) hg; have NB134_137 := nL (g := gb134) hg; have NB137_134 := nG (g := gb134) hg; replace BK132 := kB (g := gb132) hb; replace BK133 := kB (g := gb133) hb; replace BK134 := kB (g := gb134) hb; replace HB := hB hb; clear hb hg; have hnb59 := NB137_132.out; have hnc59 := NB132_137.out; have hnb60 := NB137_133.out; have hnc60 := NB133_137.out; have hnb61 := NB137_134.out; have hnc61 := NB134_137.out; have hz62 := cz4 BK137; have hz63 := cz4 BK134))
      refine bodyPost_ret (results_cell_row rfl _ _ gb134 43 #[.int .i64 ji25, .int .i64 ji26, .int .i64 ji27, .int .i64 ji28] (0, 0) _ rfl kS Try.underlying43 rfl (by kernel_rfl)) rfl ?_
      exact ⟨by first | rfl | (simp [errW_none, errW_some] <;> rfl) | (simp only [← hji25, ← hji26, ← hji27, ← hji28]; first | rfl | (simp [errW_none, errW_some] <;> rfl)) | (simp [*, errW_none, errW_some] <;> rfl), bS⟩

end Go.Proofs.Ytigodjcnkgebaaa.QFnExactRenderBands
