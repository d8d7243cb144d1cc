-- Made out of the translation by a program of this session (a changed copy of the print). Not trusted: Lean checks it.
import Derived.Test.YtncfipboidmfbaaGreatQFnExactAddToBandx0
import Derived.Test.YtncfipboidmfbaaGreatQFnExactAddToBandx4
namespace Go.Proofs.YtncfipboidmfbaaGreat.QFnExactAddToBand
open Go.RowKit Go.Proofs.YtncfipboidmfbaaGreatW.PrintWords Go.Proofs.YtncfipboidmfbaaGreatW.PrintLast Go.Proofs.YtncfipboidmfbaaGreatW.PrintMore
attribute [local go_sem] max2_int min2_int max_two min_two max_three min_three max_four min_four   -- for this text's walks alone
set_option linter.unusedVariables false
set_option linter.unusedSimpArgs false
set_option maxHeartbeats 8000000
set_option maxRecDepth 100000

/-! ### impl_MeetBox: function 151 -/
def impl_MeetBox.j0 : Nat → Bool → Int → Int → Int → Int → Int → Int → Int → Int → Option (Int × Int × Int × Int)
 | 0, _, _, _, _, _, _, _, _, _ => none
 | k + 1, x13, x566000, x566001, x566002, x566003, x567000, x567001, x567002, x567003 => if x13 = true then (some (0, 0, 0, 0)) else (if (mx x566000 x567000) ≥ (mn x566002 x567002) then (some (0, 0, 0, 0)) else (if (mx x566001 x567001) ≥ (mn x566003 x567003) then (some (0, 0, 0, 0)) else (some (mx x566000 x567000, mx x566001 x567001, mn x566002 x567002, mn x566003 x567003))))
def impl_MeetBox.f (k : Nat) (a0_0 : Int) (a0_1 : Int) (a0_2 : Int) (a0_3 : Int) (a1_0 : Int) (a1_1 : Int) (a1_2 : Int) (a1_3 : Int) : Option (Int × Int × Int × Int) := (impl_BoxOk.f a0_0 a0_1 a0_2 a0_3).bind fun t568 => (if t568 = true then ((impl_BoxOk.f a1_0 a1_1 a1_2 a1_3).bind fun t569 => (impl_MeetBox.j0 k (!t569) a0_0 a0_1 a0_2 a0_3 a1_0 a1_1 a1_2 a1_3)) else (impl_MeetBox.j0 k true a0_0 a0_1 a0_2 a0_3 a1_0 a1_1 a1_2 a1_3))
theorem impl_MeetBox.calls (k : Nat) (a0_0 : Int) (a0_1 : Int) (a0_2 : Int) (a0_3 : Int) (a1_0 : Int) (a1_1 : Int) (a1_2 : Int) (a1_3 : Int) (r1 : Int) (r2 : Int) (r3 : Int) (r4 : Int) (w : World) (h : impl_MeetBox.f k a0_0 a0_1 a0_2 a0_3 a1_0 a1_1 a1_2 a1_3 = some (r1, r2, r3, r4)) :
  Calls Tryz.prog 151 #[.agg #[.int .i64 a0_0, .int .i64 a0_1, .int .i64 a0_2, .int .i64 a0_3], .agg #[.int .i64 a1_0, .int .i64 a1_1, .int .i64 a1_2, .int .i64 a1_3]] w fun e w' => e = .returned (.agg #[.int .i64 r1, .int .i64 r2, .int .i64 r3, .int .i64 r4]) ∧ Below w.heap.size w w' := by
 have hu47 := Tryz.underlying47
 have HB := aM (Below.refl w.heap.size w)
 have H := h
 clear h
 unfold impl_MeetBox.f at H
 have HC3 := aM H
 clear H
 go_enter Tryz.func151, Tryz.ntmps151
 go_upto_region 1 with (first | ((with_reducible refine gD 2 ?_); refine bxE #[.int .i64 a0_0, .int .i64 a0_1, .int .i64 a0_2, .int .i64 a0_3] 47 ?_; intro gb565 hg w4 BK565 hb; have GW565 := gE hg; have GE565 := gE hg; replace HB := hB hb; clear hb hg) | ((with_reducible refine gD 3 ?_); refine bxE #[.int .i64 a1_0, .int .i64 a1_1, .int .i64 a1_2, .int .i64 a1_3] 47 ?_; intro gb566 hg w5 BK566 hb; have GW566 := gE hg; have GE566 := gE hg; have NB565_566 := nL_ gb565 hg; have NB566_565 := nG_ gb565 hg; replace BK565 := kB_ gb565 hb; replace HB := hB hb; clear hb hg) | ((with_reducible refine gD 4 ?_); refine bxE #[.int .i64 0, .int .i64 0, .int .i64 0, .int .i64 0] 47 ?_; intro gb567 hg w6 BK567 hb; have GW567 := gE hg; have GE567 := gE hg; have NB565_567 := nL_ gb565 hg; have NB567_565 := nG_ gb565 hg; have NB566_567 := nL_ gb566 hg; have NB567_566 := nG_ gb566 hg; replace BK565 := kB_ gb565 hb; replace BK566 := kB_ gb566 hb; replace HB := hB hb; clear hb hg))
 (try simp only [Act.put, List.setIfInBounds_toArray, List.set_cons_zero, List.set_cons_succ])
 go_cut [13] (fun v13 wc => ∃ (kq : Nat) (x13_2 : Bool), v13 = .bool x13_2 ∧ Aside0 (impl_MeetBox.j0 kq x13_2 a0_0 a0_1 a0_2 a0_3 a1_0 a1_1 a1_2 a1_3 = some (r1, r2, r3, r4)) ∧ Aside0 (kq ≤ k) ∧ Aside0 (wc.heap[gb565]? = some (.cells #[.int .i64 a0_0, .int .i64 a0_1, .int .i64 a0_2, .int .i64 a0_3] 47 (0, 0))) ∧ Aside0 (wc.heap[gb566]? = some (.cells #[.int .i64 a1_0, .int .i64 a1_1, .int .i64 a1_2, .int .i64 a1_3] 47 (0, 0))) ∧ Aside0 (wc.heap[gb567]? = some (.cells #[.int .i64 0, .int .i64 0, .int .i64 0, .int .i64 0] 47 (0, 0))) ∧ Aside0 (Below w.heap.size w wc))
 case first =>
  have H := HC3.out
  clear HC3
  replace H := bN H
  obtain ⟨t568, A7, H⟩ := H
  by_cases c8 : t568 = true
  ·subst c8
   rw [if_pos rfl] at H
   replace H := bN H
   obtain ⟨t569, A9, H⟩ := H
   have H' := aM H
   clear H
   have hnb10 := NB565_566.out
   have hnc10 := NB566_565.out
   have hnb11 := NB565_567.out
   have hnc11 := NB567_565.out
   have hcz12_0 := cg0 BK565
   have hcz12_1 := cg1 BK565
   have hcz12_2 := cg2 BK565
   have hcz12_3 := cg3 BK565
   have hfz12_0 := blk_frozen BK565.out 0
   have hfz12_1 := blk_frozen BK565.out 1
   have hfz12_2 := blk_frozen BK565.out 2
   have hfz12_3 := blk_frozen BK565.out 3
   go_wp2_with (first | ((with_reducible refine gC 126 ?_); refine cM (some 7) Tryz.func126 (impl_BoxOk.calls a0_0 a0_1 a0_2 a0_3 _ _ A7.out) ?_; rintro e w13 ⟨rfl, hb⟩; refine ⟨_, rfl, ?_⟩; replace BK565 := kB_ gb565 hb; replace BK566 := kB_ gb566 hb; replace BK567 := kB_ gb567 hb; replace HB := hB hb; (try clear hb); have hnb14 := NB566_567.out; have hnc14 := NB567_566.out; have hcz15_0 := cg0 BK566; have hcz15_1 := cg1 BK566; have hcz15_2 := cg2 BK566; have hcz15_3 := cg3 BK566; have hfz15_0 := blk_frozen BK566.out 0; have hfz15_1 := blk_frozen BK566.out 1; have hfz15_2 := blk_frozen BK566.out 2; have hfz15_3 := blk_frozen BK566.out 3) | (go_at_call 126; (with_reducible refine (impl_BoxOk.calls a1_0 a1_1 a1_2 a1_3 t569 _ A9.out).mono ?_); rintro e w16 ⟨rfl, hb⟩; replace BK565 := kB_ gb565 hb; replace BK566 := kB_ gb566 hb; replace BK567 := kB_ gb567 hb; replace HB := hB hb; (try clear hb)))
   go_meet
   case rel => exact ⟨_, (!t569), fS, H', ⟨by first | omega | exact Nat.le_refl _⟩, ⟨kS⟩, ⟨kS⟩, ⟨kS⟩, ⟨bS⟩⟩
  ·obtain rfl := Bool.eq_false_iff.mpr c8
   rw [if_neg nF] at H
   have H' := aM H
   clear H
   have hnb17 := NB565_566.out
   have hnc17 := NB566_565.out
   have hnb18 := NB565_567.out
   have hnc18 := NB567_565.out
   have hcz19_0 := cg0 BK565
   have hcz19_1 := cg1 BK565
   have hcz19_2 := cg2 BK565
   have hcz19_3 := cg3 BK565
   have hfz19_0 := blk_frozen BK565.out 0
   have hfz19_1 := blk_frozen BK565.out 1
   have hfz19_2 := blk_frozen BK565.out 2
   have hfz19_3 := blk_frozen BK565.out 3
   go_wp2_with (first | ((with_reducible refine gC 126 ?_); refine cM (some 7) Tryz.func126 (impl_BoxOk.calls a0_0 a0_1 a0_2 a0_3 _ _ A7.out) ?_; rintro e w20 ⟨rfl, hb⟩; refine ⟨_, rfl, ?_⟩; replace BK565 := kB_ gb565 hb; replace BK566 := kB_ gb566 hb; replace BK567 := kB_ gb567 hb; replace HB := hB hb; (try clear hb)))
   go_meet
   case rel => exact ⟨_, (true), fS, H', ⟨by first | omega | exact Nat.le_refl _⟩, ⟨kS⟩, ⟨kS⟩, ⟨kS⟩, ⟨bS⟩⟩
 case rest =>
  clear HC3
  try clear c1
  try clear p2
  try clear c8
  try clear c10
  try clear c11
  try clear c12
  try clear c14
  try clear c15
  try clear c17
  try clear c18
  obtain ⟨kq, x13_2, rfl, HA, HJ2, BK565, BK566, BK567, HB⟩ := hcut
  cases kq with
  | zero => exact absurd HA.out (by simp [impl_MeetBox.j0])
  | succ kj2 =>
   have H := HA.out
   clear HA
   simp only [impl_MeetBox.j0] at H
   by_cases c21 : x13_2 = true
   ·subst c21
    rw [if_pos rfl] at H
    obtain ⟨rfl, rfl, rfl, rfl⟩ := sI4 H
    have hnb22 := NB567_565.out
    have hnc22 := NB565_567.out
    have hnb23 := NB567_566.out
    have hnc23 := NB566_567.out
    have hz24 := cz4 BK567
    go_wp2
    refine bodyPost_ret (results_cell_row rfl _ _ gb567 47 #[.int .i64 0, .int .i64 0, .int .i64 0, .int .i64 0] (0, 0) _ rfl kS Tryz.underlying47 rfl (by kernel_rfl)) rfl ?_
    exact ⟨eS, bS⟩
   ·obtain rfl := Bool.eq_false_iff.mpr c21
    rw [if_neg nF] at H
    obtain ⟨ji25, hji25⟩ : ∃ j_ : Int, (mx a0_0 a1_0) = j_ := ⟨_, rfl⟩
    replace H : (if (ji25) ≥ (mn a0_2 a1_2) then (some (0, 0, 0, 0)) else (if (mx a0_1 a1_1) ≥ (mn a0_3 a1_3) then (some (0, 0, 0, 0)) else (some (ji25, mx a0_1 a1_1, mn a0_2 a1_2, mn a0_3 a1_3)))) = some (r1, r2, r3, r4) := by first | (rw [hji25] at H; exact H) | (simp only [hji25] at H ⊢; exact H)
    have hji25_ : (if a0_0 < a1_0 then a1_0 else a0_0) = ji25 := hji25
    obtain ⟨ji26, hji26⟩ : ∃ j_ : Int, (mx a0_1 a1_1) = j_ := ⟨_, rfl⟩
    replace H : (if (ji25) ≥ (mn a0_2 a1_2) then (some (0, 0, 0, 0)) else (if (ji26) ≥ (mn a0_3 a1_3) then (some (0, 0, 0, 0)) else (some (ji25, ji26, mn a0_2 a1_2, mn a0_3 a1_3)))) = some (r1, r2, r3, r4) := by first | (rw [hji26] at H; exact H) | (simp only [hji26] at H ⊢; exact H)
    have hji26_ : (if a0_1 < a1_1 then a1_1 else a0_1) = ji26 := hji26
    obtain ⟨ji27, hji27⟩ : ∃ j_ : Int, (mn a0_2 a1_2) = j_ := ⟨_, rfl⟩
    replace H : (if (ji25) ≥ (ji27) then (some (0, 0, 0, 0)) else (if (ji26) ≥ (mn a0_3 a1_3) then (some (0, 0, 0, 0)) else (some (ji25, ji26, ji27, mn a0_3 a1_3)))) = some (r1, r2, r3, r4) := by first | (rw [hji27] at H; exact H) | (simp only [hji27] at H ⊢; exact H)
    have hji27_ : (if a1_2 < a0_2 then a1_2 else a0_2) = ji27 := hji27
    obtain ⟨ji28, hji28⟩ : ∃ j_ : Int, (mn a0_3 a1_3) = j_ := ⟨_, rfl⟩
    replace H : (if (ji25) ≥ (ji27) then (some (0, 0, 0, 0)) else (if (ji26) ≥ (ji28) then (some (0, 0, 0, 0)) else (some (ji25, ji26, ji27, ji28)))) = some (r1, r2, r3, r4) := by first | (rw [hji28] at H; exact H) | (simp only [hji28] at H ⊢; exact H)
    have hji28_ : (if a1_3 < a0_3 then a1_3 else a0_3) = ji28 := hji28
    by_cases c29 : (ji25) ≥ (ji27)
    ·rw [if_pos c29] at H
     have c29b0 : decide ((ji27) ≤ (ji25)) = true := decide_eq_true c29
     clear c29
     obtain ⟨rfl, rfl, rfl, rfl⟩ := sI4 H
     have hnb30 := NB565_566.out
     have hnc30 := NB566_565.out
     have hnb31 := NB565_567.out
     have hnc31 := NB567_565.out
     have hz32 := cz4 BK565
     have hnb33 := NB566_567.out
     have hnc33 := NB567_566.out
     have hz34 := cz4 BK566
     go_wp2_with (first | ((with_reducible refine gD 5 ?_); refine bxE #[.int .i64 0, .int .i64 0, .int .i64 0, .int .i64 0] 47 ?_; intro gb570 hg w35 BK570 hb; have GW570 := gE hg; have GE570 := gE hg; have NB565_570 := nL_ gb565 hg; have NB570_565 := nG_ gb565 hg; have NB566_570 := nL_ gb566 hg; have NB570_566 := nG_ gb566 hg; have NB567_570 := nL_ gb567 hg; have NB570_567 := nG_ gb567 hg; replace BK565 := kB_ gb565 hb; replace BK566 := kB_ gb566 hb; replace BK567 := kB_ gb567 hb; replace HB := hB hb; clear hb hg; have hnb36 := NB570_565.out; have hnc36 := NB565_570.out; have hnb37 := NB570_566.out; have hnc37 := NB566_570.out; have hnb38 := NB570_567.out; have hnc38 := NB567_570.out; have hz39 := cz4 BK570; have hz40 := cz4 BK567))
     refine bodyPost_ret (results_cell_row rfl _ _ gb567 47 #[.int .i64 0, .int .i64 0, .int .i64 0, .int .i64 0] (0, 0) _ rfl kS Tryz.underlying47 rfl (by kernel_rfl)) rfl ?_
     exact ⟨by first | rfl | (simp [errW_none, errW_some] <;> rfl) | (simp only [← hji25, ← hji26, ← hji27, ← hji28]; first | rfl | (simp [errW_none, errW_some] <;> rfl)) | (simp [*, errW_none, errW_some] <;> rfl), bS⟩
    ·rw [if_neg c29] at H
     have c29b0 : decide ((ji27) ≤ (ji25)) = false := decide_eq_false c29
     clear c29
     by_cases c41 : (ji26) ≥ (ji28)
     ·rw [if_pos c41] at H
      have c41b0 : decide ((ji28) ≤ (ji26)) = true := decide_eq_true c41
      clear c41
      obtain ⟨rfl, rfl, rfl, rfl⟩ := sI4 H
      have hnb42 := NB565_566.out
      have hnc42 := NB566_565.out
      have hnb43 := NB565_567.out
      have hnc43 := NB567_565.out
      have hz44 := cz4 BK565
      have hnb45 := NB566_567.out
      have hnc45 := NB567_566.out
      have hz46 := cz4 BK566
      go_wp2_with (first | ((with_reducible refine gD 5 ?_); refine bxE #[.int .i64 0, .int .i64 0, .int .i64 0, .int .i64 0] 47 ?_; intro gb570 hg w47 BK570 hb; have GW570 := gE hg; have GE570 := gE hg; have NB565_570 := nL_ gb565 hg; have NB570_565 := nG_ gb565 hg; have NB566_570 := nL_ gb566 hg; have NB570_566 := nG_ gb566 hg; have NB567_570 := nL_ gb567 hg; have NB570_567 := nG_ gb567 hg; replace BK565 := kB_ gb565 hb; replace BK566 := kB_ gb566 hb; replace BK567 := kB_ gb567 hb; replace HB := hB hb; clear hb hg; have hnb48 := NB570_565.out; have hnc48 := NB565_570.out; have hnb49 := NB570_566.out; have hnc49 := NB566_570.out; have hnb50 := NB570_567.out; have hnc50 := NB567_570.out; have hz51 := cz4 BK570; have hz52 := cz4 BK567))
      refine bodyPost_ret (results_cell_row rfl _ _ gb567 47 #[.int .i64 0, .int .i64 0, .int .i64 0, .int .i64 0] (0, 0) _ rfl kS Tryz.underlying47 rfl (by kernel_rfl)) rfl ?_
      exact ⟨by first | rfl | (simp [errW_none, errW_some] <;> rfl) | (simp only [← hji25, ← hji26, ← hji27, ← hji28]; first | rfl | (simp [errW_none, errW_some] <;> rfl)) | (simp [*, errW_none, errW_some] <;> rfl), bS⟩
     ·rw [if_neg c41] at H
      have c41b0 : decide ((ji28) ≤ (ji26)) = false := decide_eq_false c41
      clear c41
      obtain ⟨rfl, rfl, rfl, rfl⟩ := sI4 H
      have hnb53 := NB565_566.out
      have hnc53 := NB566_565.out
      have hnb54 := NB565_567.out
      have hnc54 := NB567_565.out
      have hz55 := cz4 BK565
      have hnb56 := NB566_567.out
      have hnc56 := NB567_566.out
      have hz57 := cz4 BK566
      go_wp2_with (first | ((with_reducible refine gD 5 ?_); refine bxE #[.int .i64 0, .int .i64 0, .int .i64 0, .int .i64 0] 47 ?_; intro gb570 hg w58 BK570 hb; have GW570 := gE hg; have GE570 := gE hg; have NB565_570 := nL_ gb565 hg; have NB570_565 := nG_ gb565 hg; have NB566_570 := nL_ gb566 hg; have NB570_566 := nG_ gb566 hg; have NB567_570 := nL_ gb567 hg; have NB570_567 := nG_ gb567 hg; replace BK565 := kB_ gb565 hb; replace BK566 := kB_ gb566 hb; replace BK567 := kB_ gb567 hb; replace HB := hB hb; clear hb hg; have hnb59 := NB570_565.out; have hnc59 := NB565_570.out; have hnb60 := NB570_566.out; have hnc60 := NB566_570.out; have hnb61 := NB570_567.out; have hnc61 := NB567_570.out; have hz62 := cz4 BK570; have hz63 := cz4 BK567))
      refine bodyPost_ret (results_cell_row rfl _ _ gb567 47 #[.int .i64 ji25, .int .i64 ji26, .int .i64 ji27, .int .i64 ji28] (0, 0) _ rfl kS Tryz.underlying47 rfl (by kernel_rfl)) rfl ?_
      exact ⟨by first | rfl | (simp [errW_none, errW_some] <;> rfl) | (simp only [← hji25, ← hji26, ← hji27, ← hji28]; first | rfl | (simp [errW_none, errW_some] <;> rfl)) | (simp [*, errW_none, errW_some] <;> rfl), bS⟩

/-! ### impl_BoxOf: function 152 -/
mutual
def impl_BoxOf.j0 : Nat → List (S151) → Bool → Option (Int × Int × Int × Int)
 | 0, _, _ => none
 | k + 1, x0, x13 => if x13 = true then (some (0, 0, 0, 0)) else (if 0 < (x0.length : Int) then (impl_BoxOf.l0 k x0 (x0.length : Int) 0 ((rd_T151 x0 0).f0) ((rd_T151 x0 0).f1) ((rd_T151 x0 0).f0) ((rd_T151 x0 0).f1)) else (none))
def impl_BoxOf.l0 : Nat → List (S151) → Int → Int → Int → Int → Int → Int → Option (Int × Int × Int × Int)
 | 0, _, _, _, _, _, _, _ => none
 | k + 1, x32, x33, x34, x578000, x578001, x578002, x578003 => if x34 < x33 then (if 0 ≤ x34 then (if x34 < (x32.length : Int) then (impl_BoxOf.l0 k x32 x33 (wrap64 (x34 + 1)) (mn x578000 ((rd_T151 x32 x34).f0)) (mn x578001 ((rd_T151 x32 x34).f1)) (mx x578002 ((rd_T151 x32 x34).f0)) (mx x578003 ((rd_T151 x32 x34).f1))) else (none)) else (none)) else (some (x578000, x578001, x578002, x578003))
end
def impl_BoxOf.f (k : Nat) (l0 : List (S151)) : Option (Int × Int × Int × Int) := if (l0.length : Int) = 0 then (impl_BoxOf.j0 k l0 true) else ((impl_pointsOk.f k l0).bind fun t572 => (impl_BoxOf.j0 k l0 (!t572)))
def impl_BoxOf.T3 : Bool × List (List Nat × List Nat) := (true, [([], []), ([0], [0]), ([1], [1]), ([2], [2]), ([], []), ([4], [4]), ([5], [5]), ([6], [6]), ([], []), ([8], [8]), ([9], [9]), ([10], [10]), ([], []), ([12], [12]), ([13], [13]), ([14], [14]), ([3, 7, 11, 15], [3, 7, 11, 15]), ([], []), ([17, 16, 0, 1, 2, 3, 4, 5, 6, 7, 8, 9, 10, 11, 12, 13, 14, 15, 16, 17], [16, 17])])
def impl_BoxOf.B3 : List Nat := [0, 1, 3, 7, 0, 16, 48, 112, 0, 256, 768, 1792, 0, 4096, 12288, 28672, 65535, 0, 262143]
theorem impl_BoxOf.tab3 : rtab .any (opsOf Tryz.f152 3) = impl_BoxOf.T3 := by kernel_rfl
theorem impl_BoxOf.bits3 : waitsOk impl_BoxOf.T3.2 impl_BoxOf.B3 = true := by kernel_rfl
def impl_BoxOf.T7 : Bool × List (List Nat × List Nat) := (true, [([], []), ([0], [0]), ([], []), ([2], [2]), ([1, 3], [1, 3]), ([], []), ([5], [5]), ([], []), ([7], [7]), ([6, 8], [6, 8]), ([0, 1, 2, 3, 4, 5, 6], []), ([10, 4, 0, 1, 2, 3, 4, 5, 6], [4, 10]), ([0, 1, 2, 3, 4, 5, 6, 7, 8, 9, 10, 11], []), ([12, 9, 11, 0, 1, 2, 3, 4, 5, 6, 7, 8, 9, 10, 11], [9, 12])])
def impl_BoxOf.B7 : List Nat := [0, 1, 0, 4, 15, 0, 32, 0, 128, 480, 127, 1151, 4095, 8191]
theorem impl_BoxOf.tab7 : rtab .any (opsOf Tryz.f152 7) = impl_BoxOf.T7 := by kernel_rfl
theorem impl_BoxOf.bits7 : waitsOk impl_BoxOf.T7.2 impl_BoxOf.B7 = true := by kernel_rfl
def impl_BoxOf.T8 : Bool × List (List Nat × List Nat) := (true, [([], []), ([0], [0]), ([], []), ([2], [2]), ([1, 3], [1, 3]), ([], []), ([5], [5]), ([], []), ([7], [7]), ([6, 8], [6, 8]), ([0, 1, 2, 3, 4, 5, 6], []), ([10, 4, 0, 1, 2, 3, 4, 5, 6], [4, 10]), ([0, 1, 2, 3, 4, 5, 6, 7, 8, 9, 10, 11], []), ([12, 9, 11, 0, 1, 2, 3, 4, 5, 6, 7, 8, 9, 10, 11], [9, 12])])
def impl_BoxOf.B8 : List Nat := [0, 1, 0, 4, 15, 0, 32, 0, 128, 480, 127, 1151, 4095, 8191]
theorem impl_BoxOf.tab8 : rtab .any (opsOf Tryz.f152 8) = impl_BoxOf.T8 := by kernel_rfl
theorem impl_BoxOf.bits8 : waitsOk impl_BoxOf.T8.2 impl_BoxOf.B8 = true := by kernel_rfl
theorem impl_BoxOf.calls (k : Nat) (A0 : Option Addr) (c0 : Nat) (l0 : List (S151)) (r1 : Int) (r2 : Int) (r3 : Int) (r4 : Int) (w : World) (hr0 : Kd.C k151 w A0 l0.length l0) (hc0 : l0.length ≤ c0) (h : impl_BoxOf.f k l0 = some (r1, r2, r3, r4)) :
  Calls Tryz.prog 152 #[.slice A0 l0.length c0] w fun e w' => e = .returned (.agg #[.int .i64 r1, .int .i64 r2, .int .i64 r3, .int .i64 r4]) ∧ Below w.heap.size w w' := by
 have hu47 := Tryz.underlying47
 have hu151 := Tryz.underlying151
 have HR0 := aM hr0
 have HC0 := aM hc0
 clear hr0 hc0
 have HB := aM (Below.refl w.heap.size w)
 have H := h
 clear h
 unfold impl_BoxOf.f at H
 have HC2 := aM H
 clear H
 go_enter Tryz.func152, Tryz.ntmps152
 go_upto_region 1 with (first | ((with_reducible refine gD 2 ?_); refine bxE #[.int .i64 0, .int .i64 0, .int .i64 0, .int .i64 0] 47 ?_; intro gb571 hg w3 BK571 hb; have GW571 := gE hg; have GE571 := gE hg; replace HB := hB hb; clear hb hg))
 (try simp only [Act.put, List.setIfInBounds_toArray, List.set_cons_zero, List.set_cons_succ])
 go_cut [13] (fun v13 wc => ∃ (kq : Nat) (x13_1 : Bool), v13 = .bool x13_1 ∧ Aside0 (impl_BoxOf.j0 kq l0 x13_1 = some (r1, r2, r3, r4)) ∧ Aside0 (kq ≤ k) ∧ Aside0 (wc.heap[gb571]? = some (.cells #[.int .i64 0, .int .i64 0, .int .i64 0, .int .i64 0] 47 (0, 0))) ∧ Aside0 (Below w.heap.size w wc))
 case first =>
  have H := HC2.out
  clear HC2
  by_cases c4 : (l0.length : Int) = 0
  ·rw [if_pos c4] at H
   have c4b0 : ((l0.length : Int) == 0) = true := beq_iff_eq.mpr c4
   have c4b1 : ((l0.length : Int) != 0) = false := bne_eq_false_iff_eq.mpr c4
   clear c4
   (first | rw [c4b0] | (simp only [i64_w, i32_w]; rw [c4b0]) | skip)
   have H' := aM H
   clear H
   go_wp2
   go_meet
   case rel => exact ⟨_, (true), fS, H', ⟨by first | omega | exact Nat.le_refl _⟩, ⟨kS⟩, ⟨bS⟩⟩
  ·rw [if_neg c4] at H
   have c4b0 : ((l0.length : Int) == 0) = false := beq_eq_false_iff_ne.mpr c4
   have c4b1 : ((l0.length : Int) != 0) = true := bne_iff_ne.mpr c4
   have c4b2 : ¬ (l0 = []) := fun h_ => c4 (by rw [h_]; rfl)
   (first | rw [c4b0] | (simp only [i64_w, i32_w]; rw [c4b0]) | skip)
   replace H := bN H
   obtain ⟨t572, A5, H⟩ := H
   have H' := aM H
   clear H
   go_wp2_with (first | (go_at_call 125; (with_reducible refine (impl_pointsOk.calls k _ _ l0 t572 _ (cC HR0 HB) HC0.out A5.out).mono ?_); rintro e w6 ⟨rfl, hb⟩; replace BK571 := kB_ gb571 hb; replace HB := hB hb; (try clear hb)))
   go_meet
   case rel => exact ⟨_, (!t572), fS, H', ⟨by first | omega | exact Nat.le_refl _⟩, ⟨kS⟩, ⟨bS⟩⟩
 case rest =>
  clear HC2
  try clear c1
  try clear p2
  try clear c4
  try clear c4b0
  try clear c4b1
  try clear c4b2
  obtain ⟨kq, x13_1, rfl, HA, HJ1, BK571, HB⟩ := hcut
  cases kq with
  | zero => exact absurd HA.out (by simp [impl_BoxOf.j0])
  | succ kj1 =>
   have H := HA.out
   clear HA
   simp only [impl_BoxOf.j0] at H
   by_cases c7 : x13_1 = true
   ·subst c7
    rw [if_pos rfl] at H
    obtain ⟨rfl, rfl, rfl, rfl⟩ := sI4 H
    have hcz8_0 : wc.cell? ⟨gb571, 0, none⟩ = some (.int .i64 0) := (blk_cell BK571.out 0).trans rfl
    have hcz8_1 : wc.cell? ⟨gb571, 1, none⟩ = some (.int .i64 0) := (blk_cell BK571.out 1).trans rfl
    have hcz8_2 : wc.cell? ⟨gb571, 2, none⟩ = some (.int .i64 0) := (blk_cell BK571.out 2).trans rfl
    have hcz8_3 : wc.cell? ⟨gb571, 3, none⟩ = some (.int .i64 0) := (blk_cell BK571.out 3).trans rfl
    have hfz8_0 := blk_frozen BK571.out 0
    have hfz8_1 := blk_frozen BK571.out 1
    have hfz8_2 := blk_frozen BK571.out 2
    have hfz8_3 := blk_frozen BK571.out 3
    go_wp2
    refine bodyPost_ret (results_cell_row rfl _ _ gb571 47 #[.int .i64 0, .int .i64 0, .int .i64 0, .int .i64 0] (0, 0) _ rfl kS Tryz.underlying47 rfl (by kernel_rfl)) rfl ?_
    exact ⟨eS, bS⟩
   ·obtain rfl := Bool.eq_false_iff.mpr c7
    rw [if_neg nF] at H
    by_cases c9 : 0 < (l0.length : Int)
    ·rw [if_pos c9] at H
     have c9b0 : decide (0 < (l0.length : Int)) = true := decide_eq_true c9
     have c9b1 : decide (0 < l0.length) = true := decide_eq_true (by omega)
     clear c9
     have H' := aM H
     clear H
     try go_wp2
     replace BK571 := aM (blk_drew BK571.out)
     replace HB := aM (below_drew1 HB.out)
     have p573 : 0 ≤ (0 : Int) := (by omega)
     have q573 : 0 < (l0.length : Int) := dA
     obtain ⟨ad573, e573, hx573_0, hx573_1⟩ := at_T151 HR0.out 0 p573 q573
     have hw573_1 := hx573_1
     (try rw [show ((0 : Int)).toNat = 0 from rfl] at hw573_1)
     (try rw [show 0 * 2 = 0 from rfl] at hw573_1)
     (try rw [Addr.add_zero'] at hw573_1)
     have hw573_0 := hx573_0
     (try rw [show ((0 : Int)).toNat = 0 from rfl] at hw573_0)
     (try rw [show 0 * 2 = 0 from rfl] at hw573_0)
     (try rw [Addr.add_zero'] at hw573_0)
     cases e573
     have qi573 : (0 < l0.length) = True := eq_true (by omega)
     (try rw [show ((0 : Int)).toNat = 0 from rfl] at hx573_0)
     (try rw [show 0 * 2 = 0 from rfl] at hx573_0)
     (try rw [Addr.add_zero'] at hx573_0)
     (try rw [show ((0 : Int)).toNat = 0 from rfl] at hx573_1)
     (try rw [show 0 * 2 = 0 from rfl] at hx573_1)
     (try rw [Addr.add_zero'] at hx573_1)
     replace hx573_0 := cB HB hx573_0
     replace hx573_1 := cB HB hx573_1
     replace p573 := eq_true p573
     replace q573 := eq_true q573
     have p574 : 0 ≤ (0 : Int) := (by omega)
     have q574 : 0 < (l0.length : Int) := dA
     obtain ⟨ad574, e574, hx574_0, hx574_1⟩ := at_T151 HR0.out 0 p574 q574
     have hw574_1 := hx574_1
     (try rw [show ((0 : Int)).toNat = 0 from rfl] at hw574_1)
     (try rw [show 0 * 2 = 0 from rfl] at hw574_1)
     (try rw [Addr.add_zero'] at hw574_1)
     have hw574_0 := hx574_0
     (try rw [show ((0 : Int)).toNat = 0 from rfl] at hw574_0)
     (try rw [show 0 * 2 = 0 from rfl] at hw574_0)
     (try rw [Addr.add_zero'] at hw574_0)
     obtain rfl : ad573 = ad574 := (by injection e574)
     have qi574 : (0 < l0.length) = True := eq_true (by omega)
     (try rw [show ((0 : Int)).toNat = 0 from rfl] at hx574_0)
     (try rw [show 0 * 2 = 0 from rfl] at hx574_0)
     (try rw [Addr.add_zero'] at hx574_0)
     (try rw [show ((0 : Int)).toNat = 0 from rfl] at hx574_1)
     (try rw [show 0 * 2 = 0 from rfl] at hx574_1)
     (try rw [Addr.add_zero'] at hx574_1)
     replace hx574_0 := cB HB hx574_0
     replace hx574_1 := cB HB hx574_1
     replace p574 := eq_true p574
     replace q574 := eq_true q574
     have p575 : 0 ≤ (0 : Int) := (by omega)
     have q575 : 0 < (l0.length : Int) := dA
     obtain ⟨ad575, e575, hx575_0, hx575_1⟩ := at_T151 HR0.out 0 p575 q575
     have hw575_1 := hx575_1
     (try rw [show ((0 : Int)).toNat = 0 from rfl] at hw575_1)
     (try rw [show 0 * 2 = 0 from rfl] at hw575_1)
     (try rw [Addr.add_zero'] at hw575_1)
     have hw575_0 := hx575_0
     (try rw [show ((0 : Int)).toNat = 0 from rfl] at hw575_0)
     (try rw [show 0 * 2 = 0 from rfl] at hw575_0)
     (try rw [Addr.add_zero'] at hw575_0)
     obtain rfl : ad573 = ad575 := (by injection e575)
     have qi575 : (0 < l0.length) = True := eq_true (by omega)
     (try rw [show ((0 : Int)).toNat = 0 from rfl] at hx575_0)
     (try rw [show 0 * 2 = 0 from rfl] at hx575_0)
     (try rw [Addr.add_zero'] at hx575_0)
     (try rw [show ((0 : Int)).toNat = 0 from rfl] at hx575_1)
     (try rw [show 0 * 2 = 0 from rfl] at hx575_1)
     (try rw [Addr.add_zero'] at hx575_1)
     replace hx575_0 := cB HB hx575_0
     replace hx575_1 := cB HB hx575_1
     replace p575 := eq_true p575
     replace q575 := eq_true q575
     have p576 : 0 ≤ (0 : Int) := (by omega)
     have q576 : 0 < (l0.length : Int) := dA
     obtain ⟨ad576, e576, hx576_0, hx576_1⟩ := at_T151 HR0.out 0 p576 q576
     have hw576_1 := hx576_1
     (try rw [show ((0 : Int)).toNat = 0 from rfl] at hw576_1)
     (try rw [show 0 * 2 = 0 from rfl] at hw576_1)
     (try rw [Addr.add_zero'] at hw576_1)
     have hw576_0 := hx576_0
     (try rw [show ((0 : Int)).toNat = 0 from rfl] at hw576_0)
     (try rw [show 0 * 2 = 0 from rfl] at hw576_0)
     (try rw [Addr.add_zero'] at hw576_0)
     obtain rfl : ad573 = ad576 := (by injection e576)
     have qi576 : (0 < l0.length) = True := eq_true (by omega)
     (try rw [show ((0 : Int)).toNat = 0 from rfl] at hx576_0)
     (try rw [show 0 * 2 = 0 from rfl] at hx576_0)
     (try rw [Addr.add_zero'] at hx576_0)
     (try rw [show ((0 : Int)).toNat = 0 from rfl] at hx576_1)
     (try rw [show 0 * 2 = 0 from rfl] at hx576_1)
     (try rw [Addr.add_zero'] at hx576_1)
     replace hx576_0 := cB HB hx576_0
     replace hx576_1 := cB HB hx576_1
     replace p576 := eq_true p576
     replace q576 := eq_true q576
     refine start_ (n := 19) (S := fun w' => w'.cell? ad573 = some (.int .i64 ((rd_T151 l0 0).f0)) ∧ w'.cell? ⟨ad573.block, ad573.off + 1, none⟩ = some (.int .i64 ((rd_T151 l0 0).f1)) ∧ w'.cell? ad573 = some (.int .i64 ((rd_T151 l0 0).f0)) ∧ w'.cell? ⟨ad573.block, ad573.off + 1, none⟩ = some (.int .i64 ((rd_T151 l0 0).f1)) ∧ w'.cell? ad573 = some (.int .i64 ((rd_T151 l0 0).f0)) ∧ w'.cell? ⟨ad573.block, ad573.off + 1, none⟩ = some (.int .i64 ((rd_T151 l0 0).f1)) ∧ w'.cell? ad573 = some (.int .i64 ((rd_T151 l0 0).f0)) ∧ w'.cell? ⟨ad573.block, ad573.off + 1, none⟩ = some (.int .i64 ((rd_T151 l0 0).f1))) (ds := []) (mB 19 0) (by kernel_rfl) rfl rfl ⟨(cB HB hw573_0), (cB HB hw573_1), (cB HB hw574_0), (cB HB hw574_1), (cB HB hw575_0), (cB HB hw575_1), (cB HB hw576_0), (cB HB hw576_1)⟩ (fun hHeld => ?_); refine with_tabW impl_BoxOf.tab3 impl_BoxOf.bits3 (fun HT_ HW_ => ?_)
     generalize wc.drew = w10 at BK571 HB hx573_0 hx573_1 hx574_0 hx574_1 hx575_0 hx575_1 hx576_0 hx576_1 hHeld ⊢
     refine pU 0 (some 15) (mB 19 1) ?_
     refine pU 1 (some 16) (mB 19 3) ?_
     refine pU 2 (some 17) (mB 19 7) ?_
     refine pU 4 (some 19) (mB 19 23) ?_
     refine pU 5 (some 20) (mB 19 55) ?_
     refine pU 6 (some 21) (mB 19 119) ?_
     refine pU 8 (some 23) (mB 19 375) ?_
     refine pU 9 (some 24) (mB 19 887) ?_
     refine pU 10 (some 25) (mB 19 1911) ?_
     refine pU 12 (some 27) (mB 19 6007) ?_
     refine pU 13 (some 28) (mB 19 14199) ?_
     refine pU 14 (some 29) (mB 19 30583) ?_
     refine tK 3 (some 18) (mB 19 30591) ?_
     refine tK 7 (some 22) (mB 19 30719) ?_
     refine tK 11 (some 26) (mB 19 32767) ?_
     refine tK 15 (some 30) (mB 19 65535) ?_
     refine pU 16 (some 31) (mB 19 131071) ?_
     refine one_ (i := 17) (N := some 3) (mB 19 262143) rfl rfl (one_of HT_.out (by kernel_rfl)) (by decide) (fun K hK => ?_)
     refine box_step ?hg (N := 3) ?hd (cs := #[.int .i64 0, .int .i64 0, .int .i64 0, .int .i64 0]) (t := 47) ?hr ?_; (case hd => rfl); (case hg => rfl); (case hr => first | (go_simp; done) | (go_simp; rfl))
     intro gb577 hg w11 hbox hb
     have BK577 := aM (hbox)
     have GW577 := gE hg
     have GE577 := gE hg
     have NB571_577 := nL_ gb571 hg
     have NB577_571 := nG_ gb571 hg
     replace BK571 := kB_ gb571 hb
     replace HB := hB hb
     clear hb hg
     refine hK.out _ _ ⟨(cB HB hw573_0), (cB HB hw573_1), (cB HB hw574_0), (cB HB hw574_1), (cB HB hw575_0), (cB HB hw575_1), (cB HB hw576_0), (cB HB hw576_1)⟩ (fun hHeld => ?_)
     clear hK K
     refine norm_ (a' := ?_) ?_ ?_
     rotate_left
     ·show Act.put _ (some 3) _ = _
      simp only [Act.put, List.setIfInBounds_toArray, List.set_cons_zero, List.set_cons_succ, i64_w, i32_w]
      rfl
     refine one_ (i := 18) (N := none) (mB 19 524287) rfl rfl (one_of HT_.out (by kernel_rfl)) (by decide) (fun K hK => ?_)
     have hs12 := cg0 BK577
     have hfs12 := blk_frozen BK577.out 0
     have hns12_0 := NB571_577.out
     have hms12_0 := NB577_571.out
     have hs13 := cg1 BK577
     have hfs13 := blk_frozen BK577.out 1
     have hns13_0 := NB571_577.out
     have hms13_0 := NB577_571.out
     have hs14 := cg2 BK577
     have hfs14 := blk_frozen BK577.out 2
     have hns14_0 := NB571_577.out
     have hms14_0 := NB577_571.out
     have hs15 := cg3 BK577
     have hfs15 := blk_frozen BK577.out 3
     have hns15_0 := NB571_577.out
     have hms15_0 := NB577_571.out
     refine skip_ (w1 := ?_) (by rfl) rfl ?_ ?_
     rotate_left
     ·go_simp
      rfl
     refine hK.out _ _ ⟨((cell_far (p := ⟨gb577, _, none⟩) (nA hw573_0 GW577) _).trans (((cell_far (p := ⟨gb577, _, none⟩) (nA hw573_0 GW577) _).trans (((cell_far (p := ⟨gb577, _, none⟩) (nA hw573_0 GW577) _).trans (((cell_far (p := ⟨gb577, _, none⟩) (nA hw573_0 GW577) _).trans (hHeld.1)))))))), ((cell_far (p := ⟨gb577, _, none⟩) (nA hw573_1 GW577) _).trans (((cell_far (p := ⟨gb577, _, none⟩) (nA hw573_1 GW577) _).trans (((cell_far (p := ⟨gb577, _, none⟩) (nA hw573_1 GW577) _).trans (((cell_far (p := ⟨gb577, _, none⟩) (nA hw573_1 GW577) _).trans (hHeld.2.1)))))))), ((cell_far (p := ⟨gb577, _, none⟩) (nA hw574_0 GW577) _).trans (((cell_far (p := ⟨gb577, _, none⟩) (nA hw574_0 GW577) _).trans (((cell_far (p := ⟨gb577, _, none⟩) (nA hw574_0 GW577) _).trans (((cell_far (p := ⟨gb577, _, none⟩) (nA hw574_0 GW577) _).trans (hHeld.2.2.1)))))))), ((cell_far (p := ⟨gb577, _, none⟩) (nA hw574_1 GW577) _).trans (((cell_far (p := ⟨gb577, _, none⟩) (nA hw574_1 GW577) _).trans (((cell_far (p := ⟨gb577, _, none⟩) (nA hw574_1 GW577) _).trans (((cell_far (p := ⟨gb577, _, none⟩) (nA hw574_1 GW577) _).trans (hHeld.2.2.2.1)))))))), ((cell_far (p := ⟨gb577, _, none⟩) (nA hw575_0 GW577) _).trans (((cell_far (p := ⟨gb577, _, none⟩) (nA hw575_0 GW577) _).trans (((cell_far (p := ⟨gb577, _, none⟩) (nA hw575_0 GW577) _).trans (((cell_far (p := ⟨gb577, _, none⟩) (nA hw575_0 GW577) _).trans (hHeld.2.2.2.2.1)))))))), ((cell_far (p := ⟨gb577, _, none⟩) (nA hw575_1 GW577) _).trans (((cell_far (p := ⟨gb577, _, none⟩) (nA hw575_1 GW577) _).trans (((cell_far (p := ⟨gb577, _, none⟩) (nA hw575_1 GW577) _).trans (((cell_far (p := ⟨gb577, _, none⟩) (nA hw575_1 GW577) _).trans (hHeld.2.2.2.2.2.1)))))))), ((cell_far (p := ⟨gb577, _, none⟩) (nA hw576_0 GW577) _).trans (((cell_far (p := ⟨gb577, _, none⟩) (nA hw576_0 GW577) _).trans (((cell_far (p := ⟨gb577, _, none⟩) (nA hw576_0 GW577) _).trans (((cell_far (p := ⟨gb577, _, none⟩) (nA hw576_0 GW577) _).trans (hHeld.2.2.2.2.2.2.1)))))))), ((cell_far (p := ⟨gb577, _, none⟩) (nA hw576_1 GW577) _).trans (((cell_far (p := ⟨gb577, _, none⟩) (nA hw576_1 GW577) _).trans (((cell_far (p := ⟨gb577, _, none⟩) (nA hw576_1 GW577) _).trans (((cell_far (p := ⟨gb577, _, none⟩) (nA hw576_1 GW577) _).trans (hHeld.2.2.2.2.2.2.2))))))))⟩ (fun hHeld => ?_)
     clear hK K
     refine done_ (done_of HT_.out (by kernel_rfl)) ?_
     try go_wp2
     go_loopg [34] kj1 (fun kq v34 w' => ∃ (x34_2 : Int) (x578000_2 : Int) (x578001_2 : Int) (x578002_2 : Int) (x578003_2 : Int), v34 = .int .i64 x34_2 ∧ Aside0 (impl_BoxOf.l0 kq l0 (l0.length : Int) x34_2 x578000_2 x578001_2 x578002_2 x578003_2 = some (r1, r2, r3, r4)) ∧ Aside0 (kq ≤ kj1) ∧ Aside0 (w'.heap[gb571]? = some (.cells #[.int .i64 0, .int .i64 0, .int .i64 0, .int .i64 0] 47 (0, 0))) ∧ Aside0 (w'.heap[gb577]? = some (.cells #[.int .i64 x578000_2, .int .i64 x578001_2, .int .i64 x578002_2, .int .i64 x578003_2] 47 (0, 0))) ∧ Aside0 (Below w.heap.size w w'))
     case atStart => exact ⟨(0), ((rd_T151 l0 0).f0), ((rd_T151 l0 0).f1), ((rd_T151 l0 0).f0), ((rd_T151 l0 0).f1), fS, H', ⟨Nat.le_refl _⟩, ⟨kS⟩, ⟨kS⟩, ⟨bS⟩⟩
     case round =>
      clear H'
      try clear c1
      try clear p2
      try clear c4
      try clear c4b0
      try clear c4b1
      try clear c4b2
      try clear p5
      try clear q5
      try clear hx5
      try clear qi5
      try clear c7
      try clear c9
      try clear c9b0
      try clear c9b1
      try clear c15
      try clear hx573_0
      try clear hx573_1
      try clear hx574_0
      try clear hx574_1
      try clear hx575_0
      try clear hx575_1
      try clear hx576_0
      try clear hx576_1
      try clear p2
      try clear p573
      try clear p574
      try clear p575
      try clear p576
      try clear q573
      try clear q574
      try clear q575
      try clear q576
      obtain ⟨x34_2, x578000_2, x578001_2, x578002_2, x578003_2, rfl, HA, HK2, BK571, BK577, HB⟩ := hrel
      cases gk with
      | zero => exact absurd HA.out (by simp [impl_BoxOf.l0])
      | succ k2 =>
       have H := HA.out
       clear HA
       simp only [impl_BoxOf.l0] at H
       rcases iD H with ⟨c16b0, H⟩ | ⟨c16b0, H⟩
       ·obtain ⟨c17b0, H⟩ := iT H
        obtain ⟨c18b0, H⟩ := iT H
        obtain ⟨ji19, hji19⟩ : ∃ j_ : Int, (mn x578000_2 ((rd_T151 l0 x34_2).f0)) = j_ := ⟨_, rfl⟩
        replace H : (impl_BoxOf.l0 k2 l0 (l0.length : Int) (wrap64 (x34_2 + 1)) ji19 (mn x578001_2 ((rd_T151 l0 x34_2).f1)) (mx x578002_2 ((rd_T151 l0 x34_2).f0)) (mx x578003_2 ((rd_T151 l0 x34_2).f1))) = some (r1, r2, r3, r4) := by first | (rw [hji19] at H; exact H) | (simp only [hji19] at H ⊢; exact H)
        have hji19_ : (if ((rd_T151 l0 x34_2).f0) < x578000_2 then ((rd_T151 l0 x34_2).f0) else x578000_2) = ji19 := hji19
        obtain ⟨ji20, hji20⟩ : ∃ j_ : Int, (mn x578001_2 ((rd_T151 l0 x34_2).f1)) = j_ := ⟨_, rfl⟩
        replace H : (impl_BoxOf.l0 k2 l0 (l0.length : Int) (wrap64 (x34_2 + 1)) ji19 ji20 (mx x578002_2 ((rd_T151 l0 x34_2).f0)) (mx x578003_2 ((rd_T151 l0 x34_2).f1))) = some (r1, r2, r3, r4) := by first | (rw [hji20] at H; exact H) | (simp only [hji20] at H ⊢; exact H)
        have hji20_ : (if ((rd_T151 l0 x34_2).f1) < x578001_2 then ((rd_T151 l0 x34_2).f1) else x578001_2) = ji20 := hji20
        obtain ⟨ji21, hji21⟩ : ∃ j_ : Int, (mx x578002_2 ((rd_T151 l0 x34_2).f0)) = j_ := ⟨_, rfl⟩
        replace H : (impl_BoxOf.l0 k2 l0 (l0.length : Int) (wrap64 (x34_2 + 1)) ji19 ji20 ji21 (mx x578003_2 ((rd_T151 l0 x34_2).f1))) = some (r1, r2, r3, r4) := by first | (rw [hji21] at H; exact H) | (simp only [hji21] at H ⊢; exact H)
        have hji21_ : (if x578002_2 < ((rd_T151 l0 x34_2).f0) then ((rd_T151 l0 x34_2).f0) else x578002_2) = ji21 := hji21
        obtain ⟨ji22, hji22⟩ : ∃ j_ : Int, (mx x578003_2 ((rd_T151 l0 x34_2).f1)) = j_ := ⟨_, rfl⟩
        replace H : (impl_BoxOf.l0 k2 l0 (l0.length : Int) (wrap64 (x34_2 + 1)) ji19 ji20 ji21 ji22) = some (r1, r2, r3, r4) := by first | (rw [hji22] at H; exact H) | (simp only [hji22] at H ⊢; exact H)
        have hji22_ : (if x578003_2 < ((rd_T151 l0 x34_2).f1) then ((rd_T151 l0 x34_2).f1) else x578003_2) = ji22 := hji22
        have H' := aM H
        clear H
        have p578 : 0 ≤ (x34_2 : Int) := dA
        have q578 : x34_2 < (l0.length : Int) := dA
        obtain ⟨ad578, e578, hx578_0, hx578_1⟩ := at_T151 HR0.out x34_2 p578 q578
        obtain rfl : ad573 = ad578 := (by injection e578)
        replace hx578_0 := cB HB hx578_0
        replace hx578_1 := cB HB hx578_1
        replace p578 := eq_true p578
        replace q578 := eq_true q578
        try go_wp2_with (first | ((with_reducible refine gD 5 ?_); refine bxE #[.int .i64 0, .int .i64 0] 151 ?_; intro gb579 hg w23 BK579 hb; have GW579 := gE hg; have GE579 := gE hg; have NB571_579 := nL_ gb571 hg; have NB579_571 := nG_ gb571 hg; have NB577_579 := nL_ gb577 hg; have NB579_577 := nG_ gb577 hg; replace BK571 := kB_ gb571 hb; replace BK577 := kB_ gb577 hb; replace HB := hB hb; clear hb hg; have hnb24 := NB579_571.out; have hnc24 := NB571_579.out; have hnb25 := NB579_577.out; have hnc25 := NB577_579.out; have hz26 := cz2 BK579))
        have n0_ : Aside0 (((w23.setCell ⟨gb579, 0, none⟩ (.int .i64 ((rd_T151 l0 x34_2).f0))).setCell ⟨gb579, 1, none⟩ (.int .i64 ((rd_T151 l0 x34_2).f1))).heap[gb571]? = some (.cells #[.int .i64 0, .int .i64 0, .int .i64 0, .int .i64 0] 47 (0, 0))) := ⟨kS⟩
        have n1_ : Aside0 (((w23.setCell ⟨gb579, 0, none⟩ (.int .i64 ((rd_T151 l0 x34_2).f0))).setCell ⟨gb579, 1, none⟩ (.int .i64 ((rd_T151 l0 x34_2).f1))).heap[gb577]? = some (.cells #[.int .i64 x578000_2, .int .i64 x578001_2, .int .i64 x578002_2, .int .i64 x578003_2] 47 (0, 0))) := ⟨kS⟩
        have n2_ : Aside0 (((w23.setCell ⟨gb579, 0, none⟩ (.int .i64 ((rd_T151 l0 x34_2).f0))).setCell ⟨gb579, 1, none⟩ (.int .i64 ((rd_T151 l0 x34_2).f1))).heap[gb579]? = some (.cells #[.int .i64 ((rd_T151 l0 x34_2).f0), .int .i64 ((rd_T151 l0 x34_2).f1)] 151 (0, 0))) := ⟨kS⟩
        have n3_ : Aside0 (Below w.heap.size w ((w23.setCell ⟨gb579, 0, none⟩ (.int .i64 ((rd_T151 l0 x34_2).f0))).setCell ⟨gb579, 1, none⟩ (.int .i64 ((rd_T151 l0 x34_2).f1)))) := ⟨bS⟩
        (try clear BK571)
        (try clear BK577)
        (try clear BK579)
        (try clear HB)
        generalize ((w23.setCell ⟨gb579, 0, none⟩ (.int .i64 ((rd_T151 l0 x34_2).f0))).setCell ⟨gb579, 1, none⟩ (.int .i64 ((rd_T151 l0 x34_2).f1))) = w27 at n0_ n1_ n2_ n3_ ⊢
        have BK571 := n0_
        have BK577 := n1_
        have BK579 := n2_
        have HB := n3_
        clear n0_ n1_ n2_ n3_
        replace BK571 := aM (blk_drew BK571.out)
        replace BK577 := aM (blk_drew BK577.out)
        replace BK579 := aM (blk_drew BK579.out)
        replace HB := aM (below_drew1 HB.out)
        refine start_ (n := 14) (S := fun w' => w'.cell? ⟨gb577, 1, none⟩ = some (.int .i64 x578001_2) ∧ w'.cell? ⟨gb577, 2, none⟩ = some (.int .i64 x578002_2) ∧ w'.cell? ⟨gb577, 3, none⟩ = some (.int .i64 x578003_2) ∧ w'.cell? ⟨gb579, 0, none⟩ = some (.int .i64 ((rd_T151 l0 x34_2).f0)) ∧ w'.cell? ⟨gb579, 1, none⟩ = some (.int .i64 ((rd_T151 l0 x34_2).f1))) (ds := [13]) (mB 14 0) (by kernel_rfl) rfl rfl ⟨(blk_cell BK577.out 1).trans rfl, ⟨(blk_cell BK577.out 2).trans rfl, ⟨(blk_cell BK577.out 3).trans rfl, cy2 BK579⟩⟩⟩ (fun hHeld => ?_); refine with_tabW impl_BoxOf.tab7 impl_BoxOf.bits7 (fun HT_ HW_ => ?_)
        generalize w27.drew = w28 at BK571 BK577 BK579 HB hHeld ⊢
        refine pU 0 (some 38) (mB 14 1) ?_
        refine pU 2 (some 40) (mB 14 5) ?_
        refine pU 5 (some 43) (mB 14 37) ?_
        refine pU 7 (some 45) (mB 14 165) ?_
        refine tK 3 (some 41) (mB 14 173) ?_
        refine tK 6 (some 44) (mB 14 237) ?_
        refine tK 8 (some 46) (mB 14 493) ?_
        refine pU 9 (some 47) (mB 14 1005) ?_
        refine one_ (i := 1) (N := some 39) (mB 14 1007) rfl rfl (one_of HT_.out (by kernel_rfl)) (by decide) (fun K hK => ?_)
        have hl1_ := (blk_cell BK577.out 0).trans (show _ = some (.int .i64 x578000_2) from rfl)
        refine value_ (w1 := ?_) (v := ?_) (by rfl) rfl ?_ ?_
        rotate_left 2
        ·go_simp
         constructor
         ·rfl
         ·rfl
        refine hK.out _ _ ⟨hHeld.1, hHeld.2.1, hHeld.2.2.1, hHeld.2.2.2.1, hHeld.2.2.2.2⟩ (fun hHeld => ?_)
        clear hK K
        refine norm_ (a' := ?_) ?_ ?_
        rotate_left
        ·show Act.put _ (some 39) _ = _
         simp only [Act.put, List.setIfInBounds_toArray, List.set_cons_zero, List.set_cons_succ, i64_w, i32_w]
         rfl
        refine pU 4 (some 42) (mB 14 1023) ?_
        refine pU 10 (some 48) (mB 14 2047) ?_
        refine one_ (i := 11) (N := none) (mB 14 4095) rfl rfl (one_of HT_.out (by kernel_rfl)) (by decide) (fun K hK => ?_)
        have hs29 := cg0 BK577
        have hfs29 := blk_frozen BK577.out 0
        have hns29_0 := NB571_577.out
        have hns29_2 := NB579_577.out
        have hms29_0 := NB577_571.out
        have hms29_2 := NB577_579.out
        refine skip_ (w1 := ?_) (by rfl) rfl ?_ ?_
        rotate_left
        ·go_simp
         rfl
        refine hK.out _ _ ⟨(cell_off (by decide) _).trans (hHeld.1), (cell_off (by decide) _).trans (hHeld.2.1), (cell_off (by decide) _).trans (hHeld.2.2.1), (cF NB579_577 hHeld.2.2.2.1), (cF NB579_577 hHeld.2.2.2.2)⟩ (fun hHeld => ?_)
        clear hK K
        refine pU 12 (some 49) (mB 14 8191) ?_
        refine last_ (i := 13) (N := none) (mB 14 16383) rfl rfl (one_of HT_.out (by kernel_rfl)) (by decide) (fun K hK => ?_)
        have hs30 := cg1 BK577
        have hfs30 := blk_frozen BK577.out 1
        have hns30_0 := NB571_577.out
        have hns30_2 := NB579_577.out
        have hms30_0 := NB577_571.out
        have hms30_2 := NB577_579.out
        refine skip_ (w1 := ?_) (by rfl) rfl ?_ ?_
        rotate_left
        ·go_simp
         rfl
        refine hK.out _ _ ?_
        clear hK K
        refine done_ (done_of HT_.out (by kernel_rfl)) ?_
        try go_wp2
        have n0_ : Aside0 (((w28.setCell ⟨gb577, 0, none⟩ (.int .i64 ji19)).setCell ⟨gb577, 1, none⟩ (.int .i64 ji20)).heap[gb571]? = some (.cells #[.int .i64 0, .int .i64 0, .int .i64 0, .int .i64 0] 47 (0, 0))) := ⟨kS⟩
        have n1_ : Aside0 (((w28.setCell ⟨gb577, 0, none⟩ (.int .i64 ji19)).setCell ⟨gb577, 1, none⟩ (.int .i64 ji20)).heap[gb577]? = some (.cells #[.int .i64 ji19, .int .i64 ji20, .int .i64 x578002_2, .int .i64 x578003_2] 47 (0, 0))) := ⟨kS⟩
        have n2_ : Aside0 (((w28.setCell ⟨gb577, 0, none⟩ (.int .i64 ji19)).setCell ⟨gb577, 1, none⟩ (.int .i64 ji20)).heap[gb579]? = some (.cells #[.int .i64 ((rd_T151 l0 x34_2).f0), .int .i64 ((rd_T151 l0 x34_2).f1)] 151 (0, 0))) := ⟨kS⟩
        have n3_ : Aside0 (Below w.heap.size w ((w28.setCell ⟨gb577, 0, none⟩ (.int .i64 ji19)).setCell ⟨gb577, 1, none⟩ (.int .i64 ji20))) := ⟨bS⟩
        (try clear BK571)
        (try clear BK577)
        (try clear BK579)
        (try clear HB)
        generalize ((w28.setCell ⟨gb577, 0, none⟩ (.int .i64 ji19)).setCell ⟨gb577, 1, none⟩ (.int .i64 ji20)) = w31 at n0_ n1_ n2_ n3_ ⊢
        have BK571 := n0_
        have BK577 := n1_
        have BK579 := n2_
        have HB := n3_
        clear n0_ n1_ n2_ n3_
        replace BK571 := aM (blk_drew BK571.out)
        replace BK577 := aM (blk_drew BK577.out)
        replace BK579 := aM (blk_drew BK579.out)
        replace HB := aM (below_drew1 HB.out)
        refine start_ (n := 14) (S := fun w' => w'.cell? ⟨gb577, 0, none⟩ = some (.int .i64 ji19) ∧ w'.cell? ⟨gb577, 1, none⟩ = some (.int .i64 ji20) ∧ w'.cell? ⟨gb577, 3, none⟩ = some (.int .i64 x578003_2) ∧ w'.cell? ⟨gb579, 0, none⟩ = some (.int .i64 ((rd_T151 l0 x34_2).f0)) ∧ w'.cell? ⟨gb579, 1, none⟩ = some (.int .i64 ((rd_T151 l0 x34_2).f1))) (ds := [13]) (mB 14 0) (by kernel_rfl) rfl rfl (⟨(blk_cell BK577.out 0).trans rfl, (blk_cell BK577.out 1).trans rfl, ⟨(blk_cell BK577.out 3).trans rfl, cy2 BK579⟩⟩) (fun hHeld => ?_); refine with_tabW impl_BoxOf.tab8 impl_BoxOf.bits8 (fun HT_ HW_ => ?_)
        generalize w31.drew = w32 at BK571 BK577 BK579 HB hHeld ⊢
        refine pU 0 (some 50) (mB 14 1) ?_
        refine pU 2 (some 52) (mB 14 5) ?_
        refine pU 5 (some 55) (mB 14 37) ?_
        refine pU 7 (some 57) (mB 14 165) ?_
        refine tK 3 (some 53) (mB 14 173) ?_
        refine tK 6 (some 56) (mB 14 237) ?_
        refine tK 8 (some 58) (mB 14 493) ?_
        refine pU 9 (some 59) (mB 14 1005) ?_
        refine one_ (i := 1) (N := some 51) (mB 14 1007) rfl rfl (one_of HT_.out (by kernel_rfl)) (by decide) (fun K hK => ?_)
        have hl1_ := (blk_cell BK577.out 2).trans (show _ = some (.int .i64 x578002_2) from rfl)
        refine value_ (w1 := ?_) (v := ?_) (by rfl) rfl ?_ ?_
        rotate_left 2
        ·go_simp
         constructor
         ·rfl
         ·rfl
        refine hK.out _ _ ⟨hHeld.1, hHeld.2.1, hHeld.2.2.1, hHeld.2.2.2.1, hHeld.2.2.2.2⟩ (fun hHeld => ?_)
        clear hK K
        refine norm_ (a' := ?_) ?_ ?_
        rotate_left
        ·show Act.put _ (some 51) _ = _
         simp only [Act.put, List.setIfInBounds_toArray, List.set_cons_zero, List.set_cons_succ, i64_w, i32_w]
         rfl
        refine pU 4 (some 54) (mB 14 1023) ?_
        refine pU 10 (some 60) (mB 14 2047) ?_
        refine one_ (i := 11) (N := none) (mB 14 4095) rfl rfl (one_of HT_.out (by kernel_rfl)) (by decide) (fun K hK => ?_)
        have hs33 := cg2 BK577
        have hfs33 := blk_frozen BK577.out 2
        have hns33_0 := NB571_577.out
        have hns33_2 := NB579_577.out
        have hms33_0 := NB577_571.out
        have hms33_2 := NB577_579.out
        refine skip_ (w1 := ?_) (by rfl) rfl ?_ ?_
        rotate_left
        ·go_simp
         rfl
        refine hK.out _ _ ⟨(cell_off (by decide) _).trans (hHeld.1), (cell_off (by decide) _).trans (hHeld.2.1), (cell_off (by decide) _).trans (hHeld.2.2.1), (cF NB579_577 hHeld.2.2.2.1), (cF NB579_577 hHeld.2.2.2.2)⟩ (fun hHeld => ?_)
        clear hK K
        refine pU 12 (some 61) (mB 14 8191) ?_
        refine last_ (i := 13) (N := none) (mB 14 16383) rfl rfl (one_of HT_.out (by kernel_rfl)) (by decide) (fun K hK => ?_)
        have hs34 := cg3 BK577
        have hfs34 := blk_frozen BK577.out 3
        have hns34_0 := NB571_577.out
        have hns34_2 := NB579_577.out
        have hms34_0 := NB577_571.out
        have hms34_2 := NB577_579.out
        refine skip_ (w1 := ?_) (by rfl) rfl ?_ ?_
        rotate_left
        ·go_simp
         rfl
        refine hK.out _ _ ?_
        clear hK K
        refine done_ (done_of HT_.out (by kernel_rfl)) ?_
        try go_wp2
        go_roundg k2
        case measure => have := HJ1.out; have := HK2.out; omega
        case rel => exact ⟨(wrap64 (x34_2 + 1)), (ji19), (ji20), (ji21), (ji22), fS, H', ⟨by have := HJ1.out; have := HK2.out; omega⟩, ⟨kS⟩, ⟨kS⟩, ⟨bS⟩⟩
       ·obtain ⟨rfl, rfl, rfl, rfl⟩ := sI4 H
        have hnb35 := NB577_571.out
        have hnc35 := NB571_577.out
        have hz36 := cz4 BK577
        have hz37 := cz4 BK571
        go_wp2
        refine bodyPost_ret (results_cell_row rfl _ _ gb571 47 #[.int .i64 x578000_2, .int .i64 x578001_2, .int .i64 x578002_2, .int .i64 x578003_2] (0, 0) _ rfl kS Tryz.underlying47 rfl (by kernel_rfl)) rfl ?_
        exact ⟨eS, bS⟩
    ·rw [if_neg c9] at H
     exact absurd H (by simp)

/-! ### impl_pageBox: function 161 -/
def impl_pageBox.f  : Option (Int × Int × Int × Int) := some (0, 0, 32, 32)
theorem impl_pageBox.calls  (r1 : Int) (r2 : Int) (r3 : Int) (r4 : Int) (w : World) (h : impl_pageBox.f  = some (r1, r2, r3, r4)) :
  Calls Tryz.prog 161 #[] w fun e w' => e = .returned (.agg #[.int .i64 r1, .int .i64 r2, .int .i64 r3, .int .i64 r4]) ∧ Below w.heap.size w w' := by
 have hu47 := Tryz.underlying47
 have HB := aM (Below.refl w.heap.size w)
 have H := h
 clear h
 unfold impl_pageBox.f at H
 obtain ⟨rfl, rfl, rfl, rfl⟩ := sI4 H
 go_enter Tryz.func161, Tryz.ntmps161
 go_wp2_with (first | ((with_reducible refine gD 0 ?_); refine bxE #[.int .i64 0, .int .i64 0, .int .i64 0, .int .i64 0] 47 ?_; intro gb580 hg w1 BK580 hb; have GW580 := gE hg; have GE580 := gE hg; replace HB := hB hb; clear hb hg; have hz2 := cz4 BK580))
 refine bodyPost_ret (results_cell_row rfl _ _ gb580 47 #[.int .i64 0, .int .i64 0, .int .i64 32, .int .i64 32] (0, 0) _ rfl kS Tryz.underlying47 rfl (by kernel_rfl)) rfl ?_
 exact ⟨eS, bS⟩

/-! ### impl_ObjectBox: function 129 -/
def impl_ObjectBox.f (k : Nat) (l0_0 : List (S151)) (a0_1 : Int) (a0_2 : Int) (a0_3 : Int) (a0_4 : Int) (a0_5 : Int) : Option (Int × Int × Int × Int) := (impl_ObjectOk.f k l0_0 a0_1 a0_2 a0_3 a0_4 a0_5).bind fun t583 => (if t583 = true then ((impl_BoxOf.f k l0_0).bind fun bt584 => ((impl_MeetBox.f k bt584.1 bt584.2.1 bt584.2.2.1 bt584.2.2.2 a0_2 a0_3 a0_4 a0_5).bind fun bt588 => ((impl_pageBox.f).bind fun bt592 => ((impl_MeetBox.f k bt588.1 bt588.2.1 bt588.2.2.1 bt588.2.2.2 bt592.1 bt592.2.1 bt592.2.2.1 bt592.2.2.2).bind fun bt596 => (some (bt596.1, bt596.2.1, bt596.2.2.1, bt596.2.2.2)))))) else (some (0, 0, 0, 0)))
def impl_ObjectBox.T3 : Bool × List (List Nat × List Nat) := (true, [([], []), ([0], [0]), ([1], [1]), ([], []), ([3], [3]), ([2, 4, 2], [2, 4]), ([5], []), ([5, 6, 6], [5, 6]), ([7, 7, 0, 1, 2, 3, 4, 5, 6, 7], [7])])
def impl_ObjectBox.B3 : List Nat := [0, 1, 3, 0, 8, 31, 63, 127, 255]
theorem impl_ObjectBox.tab3 : rtab .any (opsOf Tryz.f129 3) = impl_ObjectBox.T3 := by kernel_rfl
theorem impl_ObjectBox.bits3 : waitsOk impl_ObjectBox.T3.2 impl_ObjectBox.B3 = true := by kernel_rfl
theorem impl_ObjectBox.calls (k : Nat) (A0_0 : Option Addr) (c0_0 : Nat) (l0_0 : List (S151)) (a0_1 : Int) (a0_2 : Int) (a0_3 : Int) (a0_4 : Int) (a0_5 : Int) (r1 : Int) (r2 : Int) (r3 : Int) (r4 : Int) (w : World) (hr0_0 : Kd.C k151 w A0_0 l0_0.length l0_0) (hc0_0 : l0_0.length ≤ c0_0) (h : impl_ObjectBox.f k l0_0 a0_1 a0_2 a0_3 a0_4 a0_5 = some (r1, r2, r3, r4)) :
  Calls Tryz.prog 129 #[.agg #[.slice A0_0 l0_0.length c0_0, .int .i64 a0_1, .int .i64 a0_2, .int .i64 a0_3, .int .i64 a0_4, .int .i64 a0_5]] w fun e w' => e = .returned (.agg #[.int .i64 r1, .int .i64 r2, .int .i64 r3, .int .i64 r4]) ∧ Below w.heap.size w w' := by
 have hu49 := Tryz.underlying49
 have hu47 := Tryz.underlying47
 have HR0_0 := aM hr0_0
 have HC0_0 := aM hc0_0
 clear hr0_0 hc0_0
 have HB := aM (Below.refl w.heap.size w)
 have H := h
 clear h
 unfold impl_ObjectBox.f at H
 replace H := bN H
 obtain ⟨t583, A2, H⟩ := H
 by_cases c3 : t583 = true
 ·subst c3
  rw [if_pos rfl] at H
  replace H := bN H
  obtain ⟨⟨t584, t585, t586, t587⟩, A4, H⟩ := H
  replace H := bN H
  obtain ⟨⟨t588, t589, t590, t591⟩, A5, H⟩ := H
  replace H := bN H
  obtain ⟨⟨t592, t593, t594, t595⟩, A6, H⟩ := H
  replace H := bN H
  obtain ⟨⟨t596, t597, t598, t599⟩, A7, H⟩ := H
  obtain ⟨rfl, rfl, rfl, rfl⟩ := sI4 H
  go_enter Tryz.func129, Tryz.ntmps129
  try go_wp2_with (first | ((with_reducible refine gD 1 ?_); refine bxE #[.slice A0_0 l0_0.length c0_0, .int .i64 a0_1, .int .i64 a0_2, .int .i64 a0_3, .int .i64 a0_4, .int .i64 a0_5] 49 ?_; intro gb581 hg w8 BK581 hb; have GW581 := gE hg; have GE581 := gE hg; replace HB := hB hb; clear hb hg) | ((with_reducible refine gD 2 ?_); refine bxE #[.int .i64 0, .int .i64 0, .int .i64 0, .int .i64 0] 47 ?_; intro gb582 hg w9 BK582 hb; have GW582 := gE hg; have GE582 := gE hg; have NB581_582 := nL_ gb581 hg; have NB582_581 := nG_ gb581 hg; replace BK581 := kB_ gb581 hb; replace HB := hB hb; clear hb hg; have hnb10 := NB581_582.out; have hnc10 := NB582_581.out; have hz11 := cz6 BK581) | ((with_reducible refine gC 64 ?_); refine cM (some 4) Tryz.func64 (impl_ObjectOk.calls k _ _ l0_0 a0_1 a0_2 a0_3 a0_4 a0_5 _ _ (cC HR0_0 HB) HC0_0.out A2.out) ?_; rintro e w12 ⟨rfl, hb⟩; refine ⟨_, rfl, ?_⟩; replace BK581 := kB_ gb581 hb; replace BK582 := kB_ gb582 hb; replace HB := hB hb; (try clear hb)))
  replace BK581 := aM (blk_drew BK581.out)
  replace BK582 := aM (blk_drew BK582.out)
  replace HB := aM (below_drew1 HB.out)
  refine start_ (n := 9) (S := fun w' => w'.cell? ⟨gb581, 0, none⟩ = some (.slice A0_0 l0_0.length c0_0) ∧ w'.cell? ⟨gb581, 1, none⟩ = some (.int .i64 a0_1) ∧ w'.cell? ⟨gb581, 2, none⟩ = some (.int .i64 a0_2) ∧ w'.cell? ⟨gb581, 3, none⟩ = some (.int .i64 a0_3) ∧ w'.cell? ⟨gb581, 4, none⟩ = some (.int .i64 a0_4) ∧ w'.cell? ⟨gb581, 5, none⟩ = some (.int .i64 a0_5)) (ds := []) (mB 9 0) (by kernel_rfl) rfl rfl (cy6 BK581) (fun hHeld => ?_); refine with_tabW impl_ObjectBox.tab3 impl_ObjectBox.bits3 (fun HT_ HW_ => ?_)
  generalize w12.drew = w13 at BK581 BK582 HB hHeld ⊢
  refine pU 0 (some 7) (mB 9 1) ?_
  refine pU 3 (some 10) (mB 9 9) ?_
  refine tK 1 (some 8) (mB 9 11) ?_
  refine tK 4 (some 11) (mB 9 27) ?_
  refine one_ (i := 2) (N := some 9) (mB 9 31) rfl rfl (one_of HT_.out (by kernel_rfl)) (by decide) (fun K hK => ?_)
  refine goes_ Tryz.func152 (by kernel_rfl) rfl #[.slice A0_0 l0_0.length c0_0] (by rfl) rfl rfl mA ?_
  with_reducible refine (impl_BoxOf.calls k _ _ l0_0 t584 t585 t586 t587 _ ?side1 ?side2 A4.out).mono ?_
  (case side1 => exact cS (Kd.C_below HR0_0.out HB.out))
  (case side2 => exact HC0_0.out)
  rintro e w14 ⟨rfl, hb⟩
  refine ⟨_, rfl, ?_⟩
  replace BK581 := kB_ gb581 hb
  replace BK582 := kB_ gb582 hb
  replace HB := hB hb
  (try clear hb)
  (try clear hb2)
  (try clear hk)
  (try clear hi)
  refine hK.out _ _ (cy6 BK581) (fun hHeld => ?_)
  clear hK K
  refine norm_ (a' := ?_) ?_ ?_
  rotate_left
  ·show Act.put _ (some 9) _ = _
   simp only [Act.put, List.setIfInBounds_toArray, List.set_cons_zero, List.set_cons_succ, i64_w, i32_w]
   rfl
  refine one_ (i := 5) (N := some 12) (mB 9 63) rfl rfl (one_of HT_.out (by kernel_rfl)) (by decide) (fun K hK => ?_)
  refine goes_ Tryz.func151 (by kernel_rfl) rfl #[.agg #[.int .i64 t584, .int .i64 t585, .int .i64 t586, .int .i64 t587], .agg #[.int .i64 a0_2, .int .i64 a0_3, .int .i64 a0_4, .int .i64 a0_5]] (by rfl) rfl rfl mA ?_
  with_reducible refine (impl_MeetBox.calls k t584 t585 t586 t587 a0_2 a0_3 a0_4 a0_5 t588 t589 t590 t591 _ A5.out).mono ?_
  rintro e w15 ⟨rfl, hb⟩
  refine ⟨_, rfl, ?_⟩
  replace BK581 := kB_ gb581 hb
  replace BK582 := kB_ gb582 hb
  replace HB := hB hb
  (try clear hb)
  (try clear hb2)
  (try clear hk)
  (try clear hi)
  refine hK.out _ _ (cy6 BK581) (fun hHeld => ?_)
  clear hK K
  refine norm_ (a' := ?_) ?_ ?_
  rotate_left
  ·show Act.put _ (some 12) _ = _
   simp only [Act.put, List.setIfInBounds_toArray, List.set_cons_zero, List.set_cons_succ, i64_w, i32_w]
   rfl
  refine one_ (i := 6) (N := some 13) (mB 9 127) rfl rfl (one_of HT_.out (by kernel_rfl)) (by decide) (fun K hK => ?_)
  refine goes_ Tryz.func161 (by kernel_rfl) rfl #[] (by rfl) rfl rfl mA ?_
  with_reducible refine (impl_pageBox.calls  t592 t593 t594 t595 _ A6.out).mono ?_
  rintro e w16 ⟨rfl, hb⟩
  refine ⟨_, rfl, ?_⟩
  replace BK581 := kB_ gb581 hb
  replace BK582 := kB_ gb582 hb
  replace HB := hB hb
  (try clear hb)
  (try clear hb2)
  (try clear hk)
  (try clear hi)
  refine hK.out _ _ (cy6 BK581) (fun hHeld => ?_)
  clear hK K
  refine norm_ (a' := ?_) ?_ ?_
  rotate_left
  ·show Act.put _ (some 13) _ = _
   simp only [Act.put, List.setIfInBounds_toArray, List.set_cons_zero, List.set_cons_succ, i64_w, i32_w]
   rfl
  refine one_ (i := 7) (N := some 14) (mB 9 255) rfl rfl (one_of HT_.out (by kernel_rfl)) (by decide) (fun K hK => ?_)
  refine goes_ Tryz.func151 (by kernel_rfl) rfl #[.agg #[.int .i64 t588, .int .i64 t589, .int .i64 t590, .int .i64 t591], .agg #[.int .i64 t592, .int .i64 t593, .int .i64 t594, .int .i64 t595]] (by rfl) rfl rfl mA ?_
  with_reducible refine (impl_MeetBox.calls k t588 t589 t590 t591 t592 t593 t594 t595 t596 t597 t598 t599 _ A7.out).mono ?_
  rintro e w17 ⟨rfl, hb⟩
  refine ⟨_, rfl, ?_⟩
  replace BK581 := kB_ gb581 hb
  replace BK582 := kB_ gb582 hb
  replace HB := hB hb
  (try clear hb)
  (try clear hb2)
  (try clear hk)
  (try clear hi)
  refine hK.out _ _ (cy6 BK581) (fun hHeld => ?_)
  clear hK K
  refine norm_ (a' := ?_) ?_ ?_
  rotate_left
  ·show Act.put _ (some 14) _ = _
   simp only [Act.put, List.setIfInBounds_toArray, List.set_cons_zero, List.set_cons_succ, i64_w, i32_w]
   rfl
  refine one_ (i := 8) (N := none) (mB 9 511) rfl rfl (one_of HT_.out (by kernel_rfl)) (by decide) (fun K hK => ?_)
  have hs18 := cg0 BK582
  have hfs18 := blk_frozen BK582.out 0
  have hns18_0 := NB581_582.out
  have hms18_0 := NB582_581.out
  have hs19 := cg1 BK582
  have hfs19 := blk_frozen BK582.out 1
  have hns19_0 := NB581_582.out
  have hms19_0 := NB582_581.out
  have hs20 := cg2 BK582
  have hfs20 := blk_frozen BK582.out 2
  have hns20_0 := NB581_582.out
  have hms20_0 := NB582_581.out
  have hs21 := cg3 BK582
  have hfs21 := blk_frozen BK582.out 3
  have hns21_0 := NB581_582.out
  have hms21_0 := NB582_581.out
  refine skip_ (w1 := ?_) (by rfl) rfl ?_ ?_
  rotate_left
  ·go_simp
   rfl
  refine hK.out _ _ ⟨(cF NB581_582 hHeld.1), (cF NB581_582 hHeld.2.1), (cF NB581_582 hHeld.2.2.1), (cF NB581_582 hHeld.2.2.2.1), (cF NB581_582 hHeld.2.2.2.2.1), (cF NB581_582 hHeld.2.2.2.2.2)⟩ (fun hHeld => ?_)
  clear hK K
  refine done_ (done_of HT_.out (by kernel_rfl)) ?_
  try go_wp2
  refine bodyPost_ret (results_cell_row rfl _ _ gb582 47 #[.int .i64 t596, .int .i64 t597, .int .i64 t598, .int .i64 t599] (0, 0) _ rfl kS Tryz.underlying47 rfl (by kernel_rfl)) rfl ?_
  exact ⟨eS, bS⟩
 ·obtain rfl := Bool.eq_false_iff.mpr c3
  rw [if_neg nF] at H
  obtain ⟨rfl, rfl, rfl, rfl⟩ := sI4 H
  go_enter Tryz.func129, Tryz.ntmps129
  go_wp2_with (first | ((with_reducible refine gD 1 ?_); refine bxE #[.slice A0_0 l0_0.length c0_0, .int .i64 a0_1, .int .i64 a0_2, .int .i64 a0_3, .int .i64 a0_4, .int .i64 a0_5] 49 ?_; intro gb581 hg w22 BK581 hb; have GW581 := gE hg; have GE581 := gE hg; replace HB := hB hb; clear hb hg) | ((with_reducible refine gD 2 ?_); refine bxE #[.int .i64 0, .int .i64 0, .int .i64 0, .int .i64 0] 47 ?_; intro gb582 hg w23 BK582 hb; have GW582 := gE hg; have GE582 := gE hg; have NB581_582 := nL_ gb581 hg; have NB582_581 := nG_ gb581 hg; replace BK581 := kB_ gb581 hb; replace HB := hB hb; clear hb hg; have hnb24 := NB581_582.out; have hnc24 := NB582_581.out; have hz25 := cz6 BK581) | ((with_reducible refine gC 64 ?_); refine cM (some 4) Tryz.func64 (impl_ObjectOk.calls k _ _ l0_0 a0_1 a0_2 a0_3 a0_4 a0_5 _ _ (cC HR0_0 HB) HC0_0.out A2.out) ?_; rintro e w26 ⟨rfl, hb⟩; refine ⟨_, rfl, ?_⟩; replace BK581 := kB_ gb581 hb; replace BK582 := kB_ gb582 hb; replace HB := hB hb; (try clear hb); have hz27 := cz4 BK582))
  refine bodyPost_ret (results_cell_row rfl _ _ gb582 47 #[.int .i64 0, .int .i64 0, .int .i64 0, .int .i64 0] (0, 0) _ rfl kS Tryz.underlying47 rfl (by kernel_rfl)) rfl ?_
  exact ⟨eS, bS⟩

/-! ### impl_SpansOk: function 187 -/
def impl_SpansOk.l0 : Nat → List (S146) → List (S146) → Int → Int → Option (Bool)
 | 0, _, _, _, _ => none
 | k + 1, x0, x8, x9, x10 => if x10 < x9 then (if 0 ≤ x10 then (if x10 < (x8.length : Int) then (if ((rd_T146 x8 x10).f0) ≥ ((rd_T146 x8 x10).f1) then (some false) else (if x10 > 0 then (if 0 ≤ (wrap64 (x10 - 1)) then (if (wrap64 (x10 - 1)) < (x0.length : Int) then (if ((rd_T146 x0 (wrap64 (x10 - 1))).f1) ≥ ((rd_T146 x8 x10).f0) then (some false) else (impl_SpansOk.l0 k x0 x8 x9 (wrap64 (x10 + 1)))) else (none)) else (none)) else (impl_SpansOk.l0 k x0 x8 x9 (wrap64 (x10 + 1))))) else (none)) else (none)) else (some true)
def impl_SpansOk.f (k : Nat) (l0 : List (S146)) : Option (Bool) := if (l0.length : Int) > 8 then (some false) else (impl_SpansOk.l0 k l0 l0 (l0.length : Int) 0)
theorem impl_SpansOk.calls (k : Nat) (A0 : Option Addr) (c0 : Nat) (l0 : List (S146)) (r : Bool) (w : World) (hr0 : Kd.C k146 w A0 l0.length l0) (hc0 : l0.length ≤ c0) (h : impl_SpansOk.f k l0 = some r) :
  Calls Tryz.prog 187 #[.slice A0 l0.length c0] w fun e w' => e = .returned (.bool r) ∧ Below w.heap.size w w' := by
 have hu146 := Tryz.underlying146
 have HR0 := aM hr0
 have HC0 := aM hc0
 clear hr0 hc0
 have HB := aM (Below.refl w.heap.size w)
 have H := h
 clear h
 unfold impl_SpansOk.f at H
 by_cases c2 : (l0.length : Int) > 8
 ·rw [if_pos c2] at H
  have c2b0 : decide (8 < (l0.length : Int)) = true := decide_eq_true c2
  have c2b1 : decide (8 < l0.length) = true := decide_eq_true (by omega)
  clear c2
  obtain rfl := Option.some.inj H
  go_enter Tryz.func187, Tryz.ntmps187
  go_wp2
  repeat (go_quiet (fail); try go_wp2)
  go_ret
  exact ⟨eS, bS⟩
 ·rw [if_neg c2] at H
  have c2b0 : decide (8 < (l0.length : Int)) = false := decide_eq_false c2
  have c2b1 : decide (8 < l0.length) = false := decide_eq_false (by omega)
  clear c2
  have H' := aM H
  clear H
  go_enter Tryz.func187, Tryz.ntmps187
  go_wp2
  repeat (go_quiet (fail); try go_wp2)
  go_loopg [10] k (fun kq v10 w' => ∃ (x10_1 : Int), v10 = .int .i64 x10_1 ∧ Aside0 (impl_SpansOk.l0 kq l0 l0 (l0.length : Int) x10_1 = some r) ∧ Aside0 (kq ≤ k) ∧ Aside0 (Below w.heap.size w w'))
  case atStart => exact ⟨(0), fS, H', ⟨Nat.le_refl _⟩, ⟨bS⟩⟩
  case round =>
   clear H'
   try clear c1
   try clear c2
   try clear c2b0
   try clear c2b1
   try clear p2
   obtain ⟨x10_1, rfl, HA, HK1, HB⟩ := hrel
   cases gk with
   | zero => exact absurd HA.out (by simp [impl_SpansOk.l0])
   | succ k1 =>
    have H := HA.out
    clear HA
    simp only [impl_SpansOk.l0] at H
    rcases iD H with ⟨c3b0, H⟩ | ⟨c3b0, H⟩
    ·obtain ⟨c4b0, H⟩ := iT H
     obtain ⟨c5b0, H⟩ := iT H
     by_cases c6 : ((rd_T146 l0 x10_1).f0) ≥ ((rd_T146 l0 x10_1).f1)
     ·rw [if_pos c6] at H
      have c6b0 : decide (((rd_T146 l0 x10_1).f1) ≤ ((rd_T146 l0 x10_1).f0)) = true := decide_eq_true c6
      clear c6
      obtain rfl := Option.some.inj H
      have p600 : 0 ≤ (x10_1 : Int) := dA
      have q600 : x10_1 < (l0.length : Int) := dA
      obtain ⟨ad600, e600, hx600_0, hx600_1⟩ := at_T146 HR0.out x10_1 p600 q600
      cases e600
      replace hx600_0 := cB HB hx600_0
      replace hx600_1 := cB HB hx600_1
      replace p600 := eq_true p600
      replace q600 := eq_true q600
      go_wp2_with (first | ((with_reducible refine gD 4 ?_); refine bxE #[.int .i64 0, .int .i64 0] 146 ?_; intro gb601 hg w7 BK601 hb; have GW601 := gE hg; have GE601 := gE hg; replace HB := hB hb; clear hb hg; have hz8 := cz2 BK601))
      repeat (go_quiet (first | ((with_reducible refine gD 4 ?_); refine bxE #[.int .i64 0, .int .i64 0] 146 ?_; intro gb601 hg w7 BK601 hb; have GW601 := gE hg; have GE601 := gE hg; replace HB := hB hb; clear hb hg; have hz8 := cz2 BK601)); try go_wp2_with (first | ((with_reducible refine gD 4 ?_); refine bxE #[.int .i64 0, .int .i64 0] 146 ?_; intro gb601 hg w7 BK601 hb; have GW601 := gE hg; have GE601 := gE hg; replace HB := hB hb; clear hb hg; have hz8 := cz2 BK601)))
      go_ret
      exact ⟨eS, bS⟩
     ·rw [if_neg c6] at H
      have c6b0 : decide (((rd_T146 l0 x10_1).f1) ≤ ((rd_T146 l0 x10_1).f0)) = false := decide_eq_false c6
      clear c6
      by_cases c9 : x10_1 > 0
      ·rw [if_pos c9] at H
       have c9b0 : decide (0 < x10_1) = true := decide_eq_true c9
       clear c9
       obtain ⟨ji10, hji10⟩ : ∃ j_ : Int, (wrap64 (x10_1 - 1)) = j_ := ⟨_, rfl⟩
       replace H : (if 0 ≤ (ji10) then (if (ji10) < (l0.length : Int) then (if ((rd_T146 l0 (ji10)).f1) ≥ ((rd_T146 l0 x10_1).f0) then (some false) else (impl_SpansOk.l0 k1 l0 l0 (l0.length : Int) (wrap64 (x10_1 + 1)))) else (none)) else (none)) = some r := by first | (rw [hji10] at H; exact H) | (simp only [hji10] at H ⊢; exact H)
       have hji10w : (IntKind.i64.wrap (x10_1 - 1)) = ji10 := (i64_w _).trans hji10
       obtain ⟨c11b0, H⟩ := iT H
       obtain ⟨c12b0, H⟩ := iT H
       by_cases c13 : ((rd_T146 l0 (ji10)).f1) ≥ ((rd_T146 l0 x10_1).f0)
       ·rw [if_pos c13] at H
        have c13b0 : decide (((rd_T146 l0 x10_1).f0) ≤ ((rd_T146 l0 (ji10)).f1)) = true := decide_eq_true c13
        clear c13
        obtain rfl := Option.some.inj H
        have p600 : 0 ≤ (x10_1 : Int) := dA
        have q600 : x10_1 < (l0.length : Int) := dA
        obtain ⟨ad600, e600, hx600_0, hx600_1⟩ := at_T146 HR0.out x10_1 p600 q600
        cases e600
        replace hx600_0 := cB HB hx600_0
        replace hx600_1 := cB HB hx600_1
        replace p600 := eq_true p600
        replace q600 := eq_true q600
        go_wp2_with (first | ((with_reducible refine gD 4 ?_); refine bxE #[.int .i64 0, .int .i64 0] 146 ?_; intro gb601 hg w14 BK601 hb; have GW601 := gE hg; have GE601 := gE hg; replace HB := hB hb; clear hb hg; have hz15 := cz2 BK601; have p602 : 0 ≤ ((ji10) : Int) := dA; have q602 : (ji10) < (l0.length : Int) := dA; obtain ⟨ad602, e602, hx602_0, hx602_1⟩ := at_T146 HR0.out (ji10) p602 q602; obtain rfl : ad600 = ad602 := (by injection e602); have hn602_0 : ad600.block ≠ gb601 := nA hx602_0 GW601; have hn602_1 : ad600.block ≠ gb601 := nA hx602_0 GW601; replace hx602_0 := cB HB hx602_0; replace hx602_1 := cB HB hx602_1; replace hx602_0 := (cell_far (p := ⟨gb601, 0, none⟩) (by first | (rw [add_block]; exact hn602_0) | (show (Addr.add _ _).block ≠ _; rw [add_block]; exact hn602_0) | exact hn602_0) (.int .i64 ((rd_T146 l0 x10_1).f0))).trans hx602_0; replace hx602_1 := (cell_far (p := ⟨gb601, 0, none⟩) (by first | (rw [add_block]; exact hn602_0) | (show (Addr.add _ _).block ≠ _; rw [add_block]; exact hn602_0) | exact hn602_0) (.int .i64 ((rd_T146 l0 x10_1).f0))).trans hx602_1; replace hx602_0 := (cell_far (p := ⟨gb601, 1, none⟩) (by first | (rw [add_block]; exact hn602_1) | (show (Addr.add _ _).block ≠ _; rw [add_block]; exact hn602_1) | exact hn602_1) (.int .i64 ((rd_T146 l0 x10_1).f1))).trans hx602_0; replace hx602_1 := (cell_far (p := ⟨gb601, 1, none⟩) (by first | (rw [add_block]; exact hn602_1) | (show (Addr.add _ _).block ≠ _; rw [add_block]; exact hn602_1) | exact hn602_1) (.int .i64 ((rd_T146 l0 x10_1).f1))).trans hx602_1; (try have hy602_0 := fun (n_ : Nat) => (show ((((w14.drewN n_).setCell ⟨gb601, 0, none⟩ (.int .i64 ((rd_T146 l0 x10_1).f0))).setCell ⟨gb601, 1, none⟩ (.int .i64 ((rd_T146 l0 x10_1).f1)))).cell? _ = some _ from hx602_0)); (try have hy602_1 := fun (n_ : Nat) => (show ((((w14.drewN n_).setCell ⟨gb601, 0, none⟩ (.int .i64 ((rd_T146 l0 x10_1).f0))).setCell ⟨gb601, 1, none⟩ (.int .i64 ((rd_T146 l0 x10_1).f1)))).cell? _ = some _ from hx602_1)); clear hn602_0; clear hn602_1; replace p602 := eq_true p602; replace q602 := eq_true q602))
        repeat (go_quiet (first | ((with_reducible refine gD 4 ?_); refine bxE #[.int .i64 0, .int .i64 0] 146 ?_; intro gb601 hg w14 BK601 hb; have GW601 := gE hg; have GE601 := gE hg; replace HB := hB hb; clear hb hg; have hz15 := cz2 BK601; have p602 : 0 ≤ ((ji10) : Int) := dA; have q602 : (ji10) < (l0.length : Int) := dA; obtain ⟨ad602, e602, hx602_0, hx602_1⟩ := at_T146 HR0.out (ji10) p602 q602; obtain rfl : ad600 = ad602 := (by injection e602); have hn602_0 : ad600.block ≠ gb601 := nA hx602_0 GW601; have hn602_1 : ad600.block ≠ gb601 := nA hx602_0 GW601; replace hx602_0 := cB HB hx602_0; replace hx602_1 := cB HB hx602_1; replace hx602_0 := (cell_far (p := ⟨gb601, 0, none⟩) (by first | (rw [add_block]; exact hn602_0) | (show (Addr.add _ _).block ≠ _; rw [add_block]; exact hn602_0) | exact hn602_0) (.int .i64 ((rd_T146 l0 x10_1).f0))).trans hx602_0; replace hx602_1 := (cell_far (p := ⟨gb601, 0, none⟩) (by first | (rw [add_block]; exact hn602_0) | (show (Addr.add _ _).block ≠ _; rw [add_block]; exact hn602_0) | exact hn602_0) (.int .i64 ((rd_T146 l0 x10_1).f0))).trans hx602_1; replace hx602_0 := (cell_far (p := ⟨gb601, 1, none⟩) (by first | (rw [add_block]; exact hn602_1) | (show (Addr.add _ _).block ≠ _; rw [add_block]; exact hn602_1) | exact hn602_1) (.int .i64 ((rd_T146 l0 x10_1).f1))).trans hx602_0; replace hx602_1 := (cell_far (p := ⟨gb601, 1, none⟩) (by first | (rw [add_block]; exact hn602_1) | (show (Addr.add _ _).block ≠ _; rw [add_block]; exact hn602_1) | exact hn602_1) (.int .i64 ((rd_T146 l0 x10_1).f1))).trans hx602_1; (try have hy602_0 := fun (n_ : Nat) => (show ((((w14.drewN n_).setCell ⟨gb601, 0, none⟩ (.int .i64 ((rd_T146 l0 x10_1).f0))).setCell ⟨gb601, 1, none⟩ (.int .i64 ((rd_T146 l0 x10_1).f1)))).cell? _ = some _ from hx602_0)); (try have hy602_1 := fun (n_ : Nat) => (show ((((w14.drewN n_).setCell ⟨gb601, 0, none⟩ (.int .i64 ((rd_T146 l0 x10_1).f0))).setCell ⟨gb601, 1, none⟩ (.int .i64 ((rd_T146 l0 x10_1).f1)))).cell? _ = some _ from hx602_1)); clear hn602_0; clear hn602_1; replace p602 := eq_true p602; replace q602 := eq_true q602)); try go_wp2_with (first | ((with_reducible refine gD 4 ?_); refine bxE #[.int .i64 0, .int .i64 0] 146 ?_; intro gb601 hg w14 BK601 hb; have GW601 := gE hg; have GE601 := gE hg; replace HB := hB hb; clear hb hg; have hz15 := cz2 BK601; have p602 : 0 ≤ ((ji10) : Int) := dA; have q602 : (ji10) < (l0.length : Int) := dA; obtain ⟨ad602, e602, hx602_0, hx602_1⟩ := at_T146 HR0.out (ji10) p602 q602; obtain rfl : ad600 = ad602 := (by injection e602); have hn602_0 : ad600.block ≠ gb601 := nA hx602_0 GW601; have hn602_1 : ad600.block ≠ gb601 := nA hx602_0 GW601; replace hx602_0 := cB HB hx602_0; replace hx602_1 := cB HB hx602_1; replace hx602_0 := (cell_far (p := ⟨gb601, 0, none⟩) (by first | (rw [add_block]; exact hn602_0) | (show (Addr.add _ _).block ≠ _; rw [add_block]; exact hn602_0) | exact hn602_0) (.int .i64 ((rd_T146 l0 x10_1).f0))).trans hx602_0; replace hx602_1 := (cell_far (p := ⟨gb601, 0, none⟩) (by first | (rw [add_block]; exact hn602_0) | (show (Addr.add _ _).block ≠ _; rw [add_block]; exact hn602_0) | exact hn602_0) (.int .i64 ((rd_T146 l0 x10_1).f0))).trans hx602_1; replace hx602_0 := (cell_far (p := ⟨gb601, 1, none⟩) (by first | (rw [add_block]; exact hn602_1) | (show (Addr.add _ _).block ≠ _; rw [add_block]; exact hn602_1) | exact hn602_1) (.int .i64 ((rd_T146 l0 x10_1).f1))).trans hx602_0; replace hx602_1 := (cell_far (p := ⟨gb601, 1, none⟩) (by first | (rw [add_block]; exact hn602_1) | (show (Addr.add _ _).block ≠ _; rw [add_block]; exact hn602_1) | exact hn602_1) (.int .i64 ((rd_T146 l0 x10_1).f1))).trans hx602_1; (try have hy602_0 := fun (n_ : Nat) => (show ((((w14.drewN n_).setCell ⟨gb601, 0, none⟩ (.int .i64 ((rd_T146 l0 x10_1).f0))).setCell ⟨gb601, 1, none⟩ (.int .i64 ((rd_T146 l0 x10_1).f1)))).cell? _ = some _ from hx602_0)); (try have hy602_1 := fun (n_ : Nat) => (show ((((w14.drewN n_).setCell ⟨gb601, 0, none⟩ (.int .i64 ((rd_T146 l0 x10_1).f0))).setCell ⟨gb601, 1, none⟩ (.int .i64 ((rd_T146 l0 x10_1).f1)))).cell? _ = some _ from hx602_1)); clear hn602_0; clear hn602_1; replace p602 := eq_true p602; replace q602 := eq_true q602)))
        go_ret
        exact ⟨by first | rfl | (simp [errW_none, errW_some] <;> rfl) | (simp only [← hji10]; first | rfl | (simp [errW_none, errW_some] <;> rfl)) | (simp [*, errW_none, errW_some] <;> rfl), bS⟩
       ·rw [if_neg c13] at H
        have c13b0 : decide (((rd_T146 l0 x10_1).f0) ≤ ((rd_T146 l0 (ji10)).f1)) = false := decide_eq_false c13
        clear c13
        have H' := aM H
        clear H
        have p600 : 0 ≤ (x10_1 : Int) := dA
        have q600 : x10_1 < (l0.length : Int) := dA
        obtain ⟨ad600, e600, hx600_0, hx600_1⟩ := at_T146 HR0.out x10_1 p600 q600
        cases e600
        replace hx600_0 := cB HB hx600_0
        replace hx600_1 := cB HB hx600_1
        replace p600 := eq_true p600
        replace q600 := eq_true q600
        go_wp2_with (first | ((with_reducible refine gD 4 ?_); refine bxE #[.int .i64 0, .int .i64 0] 146 ?_; intro gb601 hg w16 BK601 hb; have GW601 := gE hg; have GE601 := gE hg; replace HB := hB hb; clear hb hg; have hz17 := cz2 BK601; have p602 : 0 ≤ ((ji10) : Int) := dA; have q602 : (ji10) < (l0.length : Int) := dA; obtain ⟨ad602, e602, hx602_0, hx602_1⟩ := at_T146 HR0.out (ji10) p602 q602; obtain rfl : ad600 = ad602 := (by injection e602); have hn602_0 : ad600.block ≠ gb601 := nA hx602_0 GW601; have hn602_1 : ad600.block ≠ gb601 := nA hx602_0 GW601; replace hx602_0 := cB HB hx602_0; replace hx602_1 := cB HB hx602_1; replace hx602_0 := (cell_far (p := ⟨gb601, 0, none⟩) (by first | (rw [add_block]; exact hn602_0) | (show (Addr.add _ _).block ≠ _; rw [add_block]; exact hn602_0) | exact hn602_0) (.int .i64 ((rd_T146 l0 x10_1).f0))).trans hx602_0; replace hx602_1 := (cell_far (p := ⟨gb601, 0, none⟩) (by first | (rw [add_block]; exact hn602_0) | (show (Addr.add _ _).block ≠ _; rw [add_block]; exact hn602_0) | exact hn602_0) (.int .i64 ((rd_T146 l0 x10_1).f0))).trans hx602_1; replace hx602_0 := (cell_far (p := ⟨gb601, 1, none⟩) (by first | (rw [add_block]; exact hn602_1) | (show (Addr.add _ _).block ≠ _; rw [add_block]; exact hn602_1) | exact hn602_1) (.int .i64 ((rd_T146 l0 x10_1).f1))).trans hx602_0; replace hx602_1 := (cell_far (p := ⟨gb601, 1, none⟩) (by first | (rw [add_block]; exact hn602_1) | (show (Addr.add _ _).block ≠ _; rw [add_block]; exact hn602_1) | exact hn602_1) (.int .i64 ((rd_T146 l0 x10_1).f1))).trans hx602_1; (try have hy602_0 := fun (n_ : Nat) => (show ((((w16.drewN n_).setCell ⟨gb601, 0, none⟩ (.int .i64 ((rd_T146 l0 x10_1).f0))).setCell ⟨gb601, 1, none⟩ (.int .i64 ((rd_T146 l0 x10_1).f1)))).cell? _ = some _ from hx602_0)); (try have hy602_1 := fun (n_ : Nat) => (show ((((w16.drewN n_).setCell ⟨gb601, 0, none⟩ (.int .i64 ((rd_T146 l0 x10_1).f0))).setCell ⟨gb601, 1, none⟩ (.int .i64 ((rd_T146 l0 x10_1).f1)))).cell? _ = some _ from hx602_1)); clear hn602_0; clear hn602_1; replace p602 := eq_true p602; replace q602 := eq_true q602))
        repeat (go_quiet (first | ((with_reducible refine gD 4 ?_); refine bxE #[.int .i64 0, .int .i64 0] 146 ?_; intro gb601 hg w16 BK601 hb; have GW601 := gE hg; have GE601 := gE hg; replace HB := hB hb; clear hb hg; have hz17 := cz2 BK601; have p602 : 0 ≤ ((ji10) : Int) := dA; have q602 : (ji10) < (l0.length : Int) := dA; obtain ⟨ad602, e602, hx602_0, hx602_1⟩ := at_T146 HR0.out (ji10) p602 q602; obtain rfl : ad600 = ad602 := (by injection e602); have hn602_0 : ad600.block ≠ gb601 := nA hx602_0 GW601; have hn602_1 : ad600.block ≠ gb601 := nA hx602_0 GW601; replace hx602_0 := cB HB hx602_0; replace hx602_1 := cB HB hx602_1; replace hx602_0 := (cell_far (p := ⟨gb601, 0, none⟩) (by first | (rw [add_block]; exact hn602_0) | (show (Addr.add _ _).block ≠ _; rw [add_block]; exact hn602_0) | exact hn602_0) (.int .i64 ((rd_T146 l0 x10_1).f0))).trans hx602_0; replace hx602_1 := (cell_far (p := ⟨gb601, 0, none⟩) (by first | (rw [add_block]; exact hn602_0) | (show (Addr.add _ _).block ≠ _; rw [add_block]; exact hn602_0) | exact hn602_0) (.int .i64 ((rd_T146 l0 x10_1).f0))).trans hx602_1; replace hx602_0 := (cell_far (p := ⟨gb601, 1, none⟩) (by first | (rw [add_block]; exact hn602_1) | (show (Addr.add _ _).block ≠ _; rw [add_block]; exact hn602_1) | exact hn602_1) (.int .i64 ((rd_T146 l0 x10_1).f1))).trans hx602_0; replace hx602_1 := (cell_far (p := ⟨gb601, 1, none⟩) (by first | (rw [add_block]; exact hn602_1) | (show (Addr.add _ _).block ≠ _; rw [add_block]; exact hn602_1) | exact hn602_1) (.int .i64 ((rd_T146 l0 x10_1).f1))).trans hx602_1; (try have hy602_0 := fun (n_ : Nat) => (show ((((w16.drewN n_).setCell ⟨gb601, 0, none⟩ (.int .i64 ((rd_T146 l0 x10_1).f0))).setCell ⟨gb601, 1, none⟩ (.int .i64 ((rd_T146 l0 x10_1).f1)))).cell? _ = some _ from hx602_0)); (try have hy602_1 := fun (n_ : Nat) => (show ((((w16.drewN n_).setCell ⟨gb601, 0, none⟩ (.int .i64 ((rd_T146 l0 x10_1).f0))).setCell ⟨gb601, 1, none⟩ (.int .i64 ((rd_T146 l0 x10_1).f1)))).cell? _ = some _ from hx602_1)); clear hn602_0; clear hn602_1; replace p602 := eq_true p602; replace q602 := eq_true q602)); try go_wp2_with (first | ((with_reducible refine gD 4 ?_); refine bxE #[.int .i64 0, .int .i64 0] 146 ?_; intro gb601 hg w16 BK601 hb; have GW601 := gE hg; have GE601 := gE hg; replace HB := hB hb; clear hb hg; have hz17 := cz2 BK601; have p602 : 0 ≤ ((ji10) : Int) := dA; have q602 : (ji10) < (l0.length : Int) := dA; obtain ⟨ad602, e602, hx602_0, hx602_1⟩ := at_T146 HR0.out (ji10) p602 q602; obtain rfl : ad600 = ad602 := (by injection e602); have hn602_0 : ad600.block ≠ gb601 := nA hx602_0 GW601; have hn602_1 : ad600.block ≠ gb601 := nA hx602_0 GW601; replace hx602_0 := cB HB hx602_0; replace hx602_1 := cB HB hx602_1; replace hx602_0 := (cell_far (p := ⟨gb601, 0, none⟩) (by first | (rw [add_block]; exact hn602_0) | (show (Addr.add _ _).block ≠ _; rw [add_block]; exact hn602_0) | exact hn602_0) (.int .i64 ((rd_T146 l0 x10_1).f0))).trans hx602_0; replace hx602_1 := (cell_far (p := ⟨gb601, 0, none⟩) (by first | (rw [add_block]; exact hn602_0) | (show (Addr.add _ _).block ≠ _; rw [add_block]; exact hn602_0) | exact hn602_0) (.int .i64 ((rd_T146 l0 x10_1).f0))).trans hx602_1; replace hx602_0 := (cell_far (p := ⟨gb601, 1, none⟩) (by first | (rw [add_block]; exact hn602_1) | (show (Addr.add _ _).block ≠ _; rw [add_block]; exact hn602_1) | exact hn602_1) (.int .i64 ((rd_T146 l0 x10_1).f1))).trans hx602_0; replace hx602_1 := (cell_far (p := ⟨gb601, 1, none⟩) (by first | (rw [add_block]; exact hn602_1) | (show (Addr.add _ _).block ≠ _; rw [add_block]; exact hn602_1) | exact hn602_1) (.int .i64 ((rd_T146 l0 x10_1).f1))).trans hx602_1; (try have hy602_0 := fun (n_ : Nat) => (show ((((w16.drewN n_).setCell ⟨gb601, 0, none⟩ (.int .i64 ((rd_T146 l0 x10_1).f0))).setCell ⟨gb601, 1, none⟩ (.int .i64 ((rd_T146 l0 x10_1).f1)))).cell? _ = some _ from hx602_0)); (try have hy602_1 := fun (n_ : Nat) => (show ((((w16.drewN n_).setCell ⟨gb601, 0, none⟩ (.int .i64 ((rd_T146 l0 x10_1).f0))).setCell ⟨gb601, 1, none⟩ (.int .i64 ((rd_T146 l0 x10_1).f1)))).cell? _ = some _ from hx602_1)); clear hn602_0; clear hn602_1; replace p602 := eq_true p602; replace q602 := eq_true q602)))
        go_roundg k1
        case measure => have := HK1.out; omega
        case rel => exact ⟨(wrap64 (x10_1 + 1)), fS, H', ⟨by have := HK1.out; omega⟩, ⟨bS⟩⟩
      ·rw [if_neg c9] at H
       have c9b0 : decide (0 < x10_1) = false := decide_eq_false c9
       clear c9
       have H' := aM H
       clear H
       have p600 : 0 ≤ (x10_1 : Int) := dA
       have q600 : x10_1 < (l0.length : Int) := dA
       obtain ⟨ad600, e600, hx600_0, hx600_1⟩ := at_T146 HR0.out x10_1 p600 q600
       cases e600
       replace hx600_0 := cB HB hx600_0
       replace hx600_1 := cB HB hx600_1
       replace p600 := eq_true p600
       replace q600 := eq_true q600
       go_wp2_with (first | ((with_reducible refine gD 4 ?_); refine bxE #[.int .i64 0, .int .i64 0] 146 ?_; intro gb601 hg w18 BK601 hb; have GW601 := gE hg; have GE601 := gE hg; replace HB := hB hb; clear hb hg; have hz19 := cz2 BK601))
       repeat (go_quiet (first | ((with_reducible refine gD 4 ?_); refine bxE #[.int .i64 0, .int .i64 0] 146 ?_; intro gb601 hg w18 BK601 hb; have GW601 := gE hg; have GE601 := gE hg; replace HB := hB hb; clear hb hg; have hz19 := cz2 BK601)); try go_wp2_with (first | ((with_reducible refine gD 4 ?_); refine bxE #[.int .i64 0, .int .i64 0] 146 ?_; intro gb601 hg w18 BK601 hb; have GW601 := gE hg; have GE601 := gE hg; replace HB := hB hb; clear hb hg; have hz19 := cz2 BK601)))
       go_roundg k1
       case measure => have := HK1.out; omega
       case rel => exact ⟨(wrap64 (x10_1 + 1)), fS, H', ⟨by have := HK1.out; omega⟩, ⟨bS⟩⟩
    ·obtain rfl := Option.some.inj H
     go_wp2
     repeat (go_quiet (fail); try go_wp2)
     go_ret
     exact ⟨eS, bS⟩

/-! ### impl_MeetSpans: function 168 -/
def impl_MeetSpans.l0 : Nat → Int → Int → List (S146) → List (S146) → Int → Int → Option ((List (S146)))
 | 0, _, _, _, _, _, _ => none
 | k + 1, x1, x2, x7, x14, x15, x16 => if x16 < x15 then (if 0 ≤ x16 then (if x16 < (x14.length : Int) then (if (mx ((rd_T146 x14 x16).f0) x1) < (mn ((rd_T146 x14 x16).f1) x2) then (if x7.length < 8796093022208 then (impl_MeetSpans.l0 k x1 x2 (x7 ++ [(⟨mx ((rd_T146 x14 x16).f0) x1, mn ((rd_T146 x14 x16).f1) x2⟩ : S146)]) x14 x15 (wrap64 (x16 + 1))) else (none)) else (impl_MeetSpans.l0 k x1 x2 x7 x14 x15 (wrap64 (x16 + 1)))) else (none)) else (none)) else (some x7)
def impl_MeetSpans.f (k : Nat) (l0 : List (S146)) (a1 : Int) (a2 : Int) : Option ((List (S146))) := (impl_SpansOk.f k l0).bind fun t603 => (if t603 = true then (impl_MeetSpans.l0 k a1 a2 ([] : List (S146)) l0 (l0.length : Int) 0) else (some ([] : List (S146))))
theorem impl_MeetSpans.calls (k : Nat) (A0 : Option Addr) (c0 : Nat) (l0 : List (S146)) (a1 : Int) (a2 : Int) (r : List (S146)) (w : World) (hr0 : Kd.C k146 w A0 l0.length l0) (hc0 : l0.length ≤ c0) (h : impl_MeetSpans.f k l0 a1 a2 = some r) :
  Calls Tryz.prog 168 #[.slice A0 l0.length c0, .int .i64 a1, .int .i64 a2] w fun e w' => ∃ v0_ : Value, e = .returned (v0_) ∧ Kd.R k146 146 w' w.heap.size (fun _ => True) v0_ r ∧ Below w.heap.size w w' := by
 have hu146 := Tryz.underlying146
 have HR0 := aM hr0
 have HC0 := aM hc0
 clear hr0 hc0
 have HB := aM (Below.refl w.heap.size w)
 have H := h
 clear h
 unfold impl_MeetSpans.f at H
 replace H := bN H
 obtain ⟨t603, A4, H⟩ := H
 by_cases c5 : t603 = true
 ·subst c5
  rw [if_pos rfl] at H
  have H' := aM H
  clear H
  go_enter Tryz.func168, Tryz.ntmps168
  go_wp2_with (first | ((with_reducible refine gC 187 ?_); refine cL (some 12) Tryz.func187 #[.slice A0 l0.length c0] ?_; (with_reducible refine (impl_SpansOk.calls k _ _ l0 _ _ ?side1 ?side2 A4.out).mono ?_); (case side1 => exact cS HR0.out); (case side2 => exact HC0.out); rintro e w6 ⟨rfl, hb⟩; refine ⟨_, rfl, ?_⟩; replace HB := hB hb; (try clear hb)))
  go_loopg [7, 16] k (fun kq v7 v16 w' => ∃ (x7_1 : List (S146)) (x16_1 : Int), v16 = .int .i64 x16_1 ∧ Aside0 (impl_MeetSpans.l0 kq a1 a2 x7_1 l0 (l0.length : Int) x16_1 = some r) ∧ Aside0 (kq ≤ k) ∧ Aside0 (Kd.R k146 146 w' w.heap.size (fun _ => True) v7 x7_1) ∧ Aside0 (Below w.heap.size w w'))
  case atStart => exact ⟨(([] : List (S146))), (0), fS, H', ⟨Nat.le_refl _⟩, ⟨by first | exact Kd.R_nil _ _ _ _ _ | exact Kd.N_nil _ _ _ _ _ | exact Kd.V_nil _ _ _ _ _ | exact Kd.Q_nil _ _ _ _ _ | exact Kd.S_nil _ _ _ _ _⟩, ⟨bS⟩⟩
  case round =>
   clear H'
   try clear c1
   try clear p2
   try clear c5
   obtain ⟨x7_1, x16_1, rfl, HA, HK1, HO_7, HB⟩ := hrel
   cases gk with
   | zero => exact absurd HA.out (by simp [impl_MeetSpans.l0])
   | succ k1 =>
    have H := HA.out
    clear HA
    simp only [impl_MeetSpans.l0] at H
    rcases iD H with ⟨c7b0, H⟩ | ⟨c7b0, H⟩
    ·obtain ⟨c8b0, H⟩ := iT H
     obtain ⟨c9b0, H⟩ := iT H
     obtain ⟨ji10, hji10⟩ : ∃ j_ : Int, (mx ((rd_T146 l0 x16_1).f0) a1) = j_ := ⟨_, rfl⟩
     replace H : (if (ji10) < (mn ((rd_T146 l0 x16_1).f1) a2) then (if x7_1.length < 8796093022208 then (impl_MeetSpans.l0 k1 a1 a2 (x7_1 ++ [(⟨ji10, mn ((rd_T146 l0 x16_1).f1) a2⟩ : S146)]) l0 (l0.length : Int) (wrap64 (x16_1 + 1))) else (none)) else (impl_MeetSpans.l0 k1 a1 a2 x7_1 l0 (l0.length : Int) (wrap64 (x16_1 + 1)))) = some r := by first | (rw [hji10] at H; exact H) | (simp only [hji10] at H ⊢; exact H)
     have hji10_ : (if ((rd_T146 l0 x16_1).f0) < a1 then a1 else ((rd_T146 l0 x16_1).f0)) = ji10 := hji10
     obtain ⟨ji11, hji11⟩ : ∃ j_ : Int, (mn ((rd_T146 l0 x16_1).f1) a2) = j_ := ⟨_, rfl⟩
     replace H : (if (ji10) < (ji11) then (if x7_1.length < 8796093022208 then (impl_MeetSpans.l0 k1 a1 a2 (x7_1 ++ [(⟨ji10, ji11⟩ : S146)]) l0 (l0.length : Int) (wrap64 (x16_1 + 1))) else (none)) else (impl_MeetSpans.l0 k1 a1 a2 x7_1 l0 (l0.length : Int) (wrap64 (x16_1 + 1)))) = some r := by first | (rw [hji11] at H; exact H) | (simp only [hji11] at H ⊢; exact H)
     have hji11_ : (if a2 < ((rd_T146 l0 x16_1).f1) then a2 else ((rd_T146 l0 x16_1).f1)) = ji11 := hji11
     rcases iD H with ⟨c12b0, H⟩ | ⟨c12b0, H⟩
     ·obtain ⟨LMc13, H⟩ := iL H
      obtain ⟨y607, hy_⟩ : ∃ y_ : List (S146), y_ = (x7_1 ++ [(⟨ji10, ji11⟩ : S146)]) := ⟨_, rfl⟩
      replace H : (impl_MeetSpans.l0 k1 a1 a2 y607 l0 (l0.length : Int) (wrap64 (x16_1 + 1))) = some r := yS
      have Ny607 := aM hy_
      clear hy_
      have H' := aM H
      clear H
      have p604 : 0 ≤ (x16_1 : Int) := dA
      have q604 : x16_1 < (l0.length : Int) := dA
      obtain ⟨ad604, e604, hx604_0, hx604_1⟩ := at_T146 HR0.out x16_1 p604 q604
      cases e604
      replace hx604_0 := cB HB hx604_0
      replace hx604_1 := cB HB hx604_1
      replace p604 := eq_true p604
      replace q604 := eq_true q604
      go_wp2_with (first | ((with_reducible refine gD 9 ?_); refine bxE #[.int .i64 0, .int .i64 0] 146 ?_; intro gb605 hg w14 BK605 hb; have GW605 := gE hg; have GE605 := gE hg; replace HO_7 := aM (Kd.R_below (Kd.R_elderB (rS HO_7) gb605 (Nat.le_of_eq hg.symm)) hb); replace HB := hB hb; clear hb hg; have hz15 := cz2 BK605) | ((with_reducible refine gD 10 ?_); refine bxE #[.int .i64 0, .int .i64 0] 146 ?_; intro gb606 hg w16 BK606 hb; have GW606 := gE hg; have GE606 := gE hg; have NB605_606 := aM ((by rw [hg]; exact Nat.ne_of_lt (blk_lt (g := gb605) (o := .cells #[.int .i64 ((rd_T146 l0 x16_1).f0), .int .i64 ((rd_T146 l0 x16_1).f1)] 146 (0, 0)) kS) : gb605 ≠ gb606)); have NB606_605 := aM ((by rw [hg]; exact Nat.ne_of_gt (blk_lt (g := gb605) (o := .cells #[.int .i64 ((rd_T146 l0 x16_1).f0), .int .i64 ((rd_T146 l0 x16_1).f1)] 146 (0, 0)) kS) : gb606 ≠ gb605)); replace HO_7 := aM (Kd.R_below (Kd.R_elderB (by exact rT (Kd.R_mono (Kd.R_far (p := ⟨gb605, 1, none⟩) (Kd.R_far (p := ⟨gb605, 0, none⟩) (Kd.R_mono HO_7.out (fun k_ hk => (⟨hk, hk.2⟩ : _ ∧ k_ ≠ gb605))) (fun _ hk => hk.2) (.int .i64 ((rd_T146 l0 x16_1).f0))) (fun _ hk => hk.2) (.int .i64 ((rd_T146 l0 x16_1).f1))) (fun _ h_ => h_.1))) gb606 (Nat.le_of_eq hg.symm)) hb); replace BK605 := kO gb605 #[.int .i64 ((rd_T146 l0 x16_1).f0), .int .i64 ((rd_T146 l0 x16_1).f1)] 146 hb; replace HB := hB hb; clear hb hg; have hnb17 := NB606_605.out; have hnc17 := NB605_606.out; have hz18 := cz2 BK606) | ((with_reducible refine gate_builtin (b := .append) (xs := #[.tmp 34, .tmp 36]) rfl ?_); at_builtin; refine Kd.R_append k146 (w0 := w) w.heap.size rfl (.tmp 34) (.tmp 36) 143 146 (.agg #[(.int .i64 0), (.int .i64 0)]) 16 rfl Tryz.underlying143 info146 rfl (by decide) (by omega) u7 x7_1 (⟨ji10, ji11⟩ : S146) [.int .i64 ji10, .int .i64 ji11] (fun k_ => k_ ≠ gb605 ∧ k_ ≠ gb606) (fun _ => False) rfl (by first | (go_simp; done) | (go_simp; rfl)) ?aP (fun _ hk => hk.elim) ?aF ?aO ?aB ?aS ?aL ?_; (case aP => exact k146_mkM _ _ _ (⟨ji10, ji11⟩ : S146)); (case aB => exact bS); (case aF => exact (fun k_ hk => ⟨Kd.freshB (g := gb605) kS k_ hk, Kd.freshB (g := gb606) (o := .cells #[.int .i64 ji10, .int .i64 ji11] 146 (0, 0)) kS k_ hk⟩)); (case aO => exact (by exact rT (Kd.R_mono (Kd.R_far (p := ⟨gb606, 1, none⟩) (Kd.R_far (p := ⟨gb606, 0, none⟩) (Kd.R_mono HO_7.out (fun k_ hk => (⟨hk, hk.2⟩ : _ ∧ k_ ≠ gb606))) (fun _ hk => hk.2) (.int .i64 ji10)) (fun _ hk => hk.2) (.int .i64 ji11)) (fun _ hk => ⟨hk.1.1.2, hk.1.2⟩)))); (case aS => exact (below_size bS)); (case aL => have := LMc13.out; omega); intro v608 w19 ho hb hg hat; rw [← Ny607.out] at ho; have HO609 := aM (ho); replace BK605 := aM (blk_grown (g := gb605) kS hg (Kd.R_away HO_7.out (fun _ hk => hk.1.2))); replace BK606 := aM (blk_grown (g := gb606) (o := .cells #[.int .i64 ji10, .int .i64 ji11] 146 (0, 0)) kS hg (Kd.R_away HO_7.out (fun _ hk => hk.2))); replace HB := aM (hb); clear HO_7; clear ho hb hg hat))
      go_roundg k1
      case measure => have := HK1.out; omega
      case rel => exact ⟨(y607), (wrap64 (x16_1 + 1)), fS, H', ⟨by have := HK1.out; omega⟩, ⟨by exact rT (Kd.R_mono HO609.out (fun _ hk => trivial))⟩, ⟨bS⟩⟩
     ·have H' := aM H
      clear H
      have p604 : 0 ≤ (x16_1 : Int) := dA
      have q604 : x16_1 < (l0.length : Int) := dA
      obtain ⟨ad604, e604, hx604_0, hx604_1⟩ := at_T146 HR0.out x16_1 p604 q604
      cases e604
      replace hx604_0 := cB HB hx604_0
      replace hx604_1 := cB HB hx604_1
      replace p604 := eq_true p604
      replace q604 := eq_true q604
      go_wp2_with (first | ((with_reducible refine gD 9 ?_); refine bxE #[.int .i64 0, .int .i64 0] 146 ?_; intro gb605 hg w20 BK605 hb; have GW605 := gE hg; have GE605 := gE hg; replace HO_7 := aM (Kd.R_below (Kd.R_elderB (rS HO_7) gb605 (Nat.le_of_eq hg.symm)) hb); replace HB := hB hb; clear hb hg; have hz21 := cz2 BK605) | ((with_reducible refine gD 10 ?_); refine bxE #[.int .i64 0, .int .i64 0] 146 ?_; intro gb606 hg w22 BK606 hb; have GW606 := gE hg; have GE606 := gE hg; have NB605_606 := aM ((by rw [hg]; exact Nat.ne_of_lt (blk_lt (g := gb605) (o := .cells #[.int .i64 ((rd_T146 l0 x16_1).f0), .int .i64 ((rd_T146 l0 x16_1).f1)] 146 (0, 0)) kS) : gb605 ≠ gb606)); have NB606_605 := aM ((by rw [hg]; exact Nat.ne_of_gt (blk_lt (g := gb605) (o := .cells #[.int .i64 ((rd_T146 l0 x16_1).f0), .int .i64 ((rd_T146 l0 x16_1).f1)] 146 (0, 0)) kS) : gb606 ≠ gb605)); replace HO_7 := aM (Kd.R_below (Kd.R_elderB (by exact rT (Kd.R_mono (Kd.R_far (p := ⟨gb605, 1, none⟩) (Kd.R_far (p := ⟨gb605, 0, none⟩) (Kd.R_mono HO_7.out (fun k_ hk => (⟨hk, hk.2⟩ : _ ∧ k_ ≠ gb605))) (fun _ hk => hk.2) (.int .i64 ((rd_T146 l0 x16_1).f0))) (fun _ hk => hk.2) (.int .i64 ((rd_T146 l0 x16_1).f1))) (fun _ h_ => h_.1))) gb606 (Nat.le_of_eq hg.symm)) hb); replace BK605 := kO gb605 #[.int .i64 ((rd_T146 l0 x16_1).f0), .int .i64 ((rd_T146 l0 x16_1).f1)] 146 hb; replace HB := hB hb; clear hb hg; have hnb23 := NB606_605.out; have hnc23 := NB605_606.out; have hz24 := cz2 BK606))
      go_roundg k1
      case measure => have := HK1.out; omega
      case rel => exact ⟨(x7_1), (wrap64 (x16_1 + 1)), fS, H', ⟨by have := HK1.out; omega⟩, ⟨by exact rT (Kd.R_mono (Kd.R_far (p := ⟨gb606, 1, none⟩) (Kd.R_far (p := ⟨gb606, 0, none⟩) (Kd.R_mono HO_7.out (fun k_ hk => (⟨hk, hk.2⟩ : _ ∧ k_ ≠ gb606))) (fun _ hk => hk.2) (.int .i64 ji10)) (fun _ hk => hk.2) (.int .i64 ji11)) (fun _ hk => trivial))⟩, ⟨bS⟩⟩
    ·obtain rfl := Option.some.inj H
     go_wp2
     go_ret
     exact ⟨_, eS, rS HO_7, bS⟩
 ·obtain rfl := Bool.eq_false_iff.mpr c5
  rw [if_neg nF] at H
  obtain rfl := Option.some.inj H
  go_enter Tryz.func168, Tryz.ntmps168
  go_wp2_with (first | ((with_reducible refine gC 187 ?_); refine cL (some 12) Tryz.func187 #[.slice A0 l0.length c0] ?_; (with_reducible refine (impl_SpansOk.calls k _ _ l0 _ _ ?side1 ?side2 A4.out).mono ?_); (case side1 => exact cS HR0.out); (case side2 => exact HC0.out); rintro e w25 ⟨rfl, hb⟩; refine ⟨_, rfl, ?_⟩; replace HB := hB hb; (try clear hb)))
  go_ret
  exact ⟨_, eS, by first | exact Kd.R_nil _ _ _ _ _ | exact Kd.N_nil _ _ _ _ _ | exact Kd.V_nil _ _ _ _ _ | exact Kd.Q_nil _ _ _ _ _ | exact Kd.S_nil _ _ _ _ _, bS⟩

/-! ### impl_pathOk: function 188 -/
def impl_pathOk.f (k : Nat) (l0 : List (S151)) : Option (Bool) := if (l0.length : Int) ≤ 8 then ((impl_pointsOk.f k l0).bind fun t610 => (some t610)) else (some false)
theorem impl_pathOk.calls (k : Nat) (A0 : Option Addr) (c0 : Nat) (l0 : List (S151)) (r : Bool) (w : World) (hr0 : Kd.C k151 w A0 l0.length l0) (hc0 : l0.length ≤ c0) (h : impl_pathOk.f k l0 = some r) :
  Calls Tryz.prog 188 #[.slice A0 l0.length c0] w fun e w' => e = .returned (.bool r) ∧ Below w.heap.size w w' := by
 have HR0 := aM hr0
 have HC0 := aM hc0
 clear hr0 hc0
 have HB := aM (Below.refl w.heap.size w)
 have H := h
 clear h
 unfold impl_pathOk.f at H
 by_cases c2 : (l0.length : Int) ≤ 8
 ·rw [if_pos c2] at H
  have c2b0 : decide ((l0.length : Int) ≤ 8) = true := decide_eq_true c2
  have c2b1 : decide (l0.length ≤ 8) = true := decide_eq_true (by omega)
  clear c2
  replace H := bN H
  obtain ⟨t610, A3, H⟩ := H
  obtain rfl := Option.some.inj H
  go_enter Tryz.func188, Tryz.ntmps188
  go_wp2_with (first | (go_at_call 125; (with_reducible refine (impl_pointsOk.calls k _ _ l0 t610 _ ?side1 ?side2 A3.out).mono ?_); (case side1 => exact cS HR0.out); (case side2 => exact HC0.out); rintro e w4 ⟨rfl, hb⟩; replace HB := hB hb; (try clear hb)))
  go_ret
  exact ⟨eS, bS⟩
 ·rw [if_neg c2] at H
  have c2b0 : decide ((l0.length : Int) ≤ 8) = false := decide_eq_false c2
  have c2b1 : decide (l0.length ≤ 8) = false := decide_eq_false (by omega)
  clear c2
  obtain rfl := Option.some.inj H
  go_enter Tryz.func188, Tryz.ntmps188
  go_wp2
  go_ret
  exact ⟨eS, bS⟩

/-! ### impl_crosses: function 193 -/
def impl_crosses.f (a0_0 : Int) (a0_1 : Int) (a1_0 : Int) (a1_1 : Int) (a2 : Int) (a3 : Int) : Option (Bool) := if ((decide (a0_1 > a3)) == (decide (a1_1 > a3))) = true then (some false) else (if (wrap64 (a1_1 - a0_1)) < 0 then (some (decide ((wrap64 ((wrap64 ((wrap64 (2 * a0_0)) * (wrap64 (a1_1 - a0_1)))) + (wrap64 ((wrap64 ((wrap64 ((wrap64 (2 * a3)) + 1)) - (wrap64 (2 * a0_1)))) * (wrap64 (a1_0 - a0_0)))))) < (wrap64 ((wrap64 ((wrap64 (2 * a2)) + 1)) * (wrap64 (a1_1 - a0_1))))))) else (some (decide ((wrap64 ((wrap64 ((wrap64 (2 * a0_0)) * (wrap64 (a1_1 - a0_1)))) + (wrap64 ((wrap64 ((wrap64 ((wrap64 (2 * a3)) + 1)) - (wrap64 (2 * a0_1)))) * (wrap64 (a1_0 - a0_0)))))) > (wrap64 ((wrap64 ((wrap64 (2 * a2)) + 1)) * (wrap64 (a1_1 - a0_1))))))))
theorem impl_crosses.lf0 {p : Prop} (h : p := by
 go_enter Tryz.func193, Tryz.ntmps193
 go_wp2_with (first | ((with_reducible refine gD 4 ?_); refine bxE #[.int .i64 a0_0, .int .i64 a0_1] 151 ?_; intro gb611 hg w12 BK611 hb; have GW611 := gE hg; have GE611 := gE hg; replace HB := hB hb; clear hb hg) | ((with_reducible refine gD 5 ?_); refine bxE #[.int .i64 a1_0, .int .i64 a1_1] 151 ?_; intro gb612 hg w13 BK612 hb; have GW612 := gE hg; have GE612 := gE hg; have NB611_612 := nL_ gb611 hg; have NB612_611 := nG_ gb611 hg; replace BK611 := kB_ gb611 hb; replace HB := hB hb; clear hb hg; have hnb14 := NB611_612.out; have hnc14 := NB612_611.out; have hz15 := cz2 BK611; have hz16 := cz2 BK612))
 go_ret
 exact ⟨eS, bS⟩) : p := h
theorem impl_crosses.calls (a0_0 : Int) (a0_1 : Int) (a1_0 : Int) (a1_1 : Int) (a2 : Int) (a3 : Int) (r : Bool) (w : World) (h : impl_crosses.f a0_0 a0_1 a1_0 a1_1 a2 a3 = some r) :
  Calls Tryz.prog 193 #[.agg #[.int .i64 a0_0, .int .i64 a0_1], .agg #[.int .i64 a1_0, .int .i64 a1_1], .int .i64 a2, .int .i64 a3] w fun e w' => e = .returned (.bool r) ∧ Below w.heap.size w w' := by
 have hu151 := Tryz.underlying151
 have HB := aM (Below.refl w.heap.size w)
 have H := h
 clear h
 unfold impl_crosses.f at H
 by_cases c5 : ((decide (a0_1 > a3)) == (decide (a1_1 > a3))) = true
 ·rw [if_pos c5] at H
  have c5b0 : ((decide (a0_1 > a3)) == (decide (a1_1 > a3))) = true := c5
  (try (have c5b1 : decide ((decide (a0_1 > a3)) = (decide (a1_1 > a3))) = true := by simpa using c5))
  (try (have c5b2 : ((decide (a0_1 > a3)) == (decide (a1_1 > a3))) = true := by simpa using c5))
  clear c5
  obtain rfl := Option.some.inj H
  exact impl_crosses.lf0
 ·rw [if_neg c5] at H
  have c5b0 : ((decide (a0_1 > a3)) == (decide (a1_1 > a3))) = false := by simpa using c5
  (try (have c5b1 : decide ((decide (a0_1 > a3)) = (decide (a1_1 > a3))) = false := by simpa using c5))
  (try (have c5b2 : ((decide (a0_1 > a3)) == (decide (a1_1 > a3))) = false := by simpa using c5))
  (try (have c5b3 : ¬ ((decide (a0_1 > a3)) = (decide (a1_1 > a3))) := by simpa using c5))
  clear c5
  rcases iD H with ⟨c11b0, H⟩ | ⟨c11b0, H⟩
  ·obtain rfl := Option.some.inj H
   exact impl_crosses.lf0
  ·obtain rfl := Option.some.inj H
   exact impl_crosses.lf0

/-! ### impl_InsidePath: function 189 -/
mutual
def impl_InsidePath.j0 : Nat → List (S151) → Int → Int → Bool → Option (Bool)
 | 0, _, _, _, _ => none
 | k + 1, x0, x1, x2, x22 => if x22 = true then (some false) else (impl_InsidePath.l0 k x0 x1 x2 false x0 (x0.length : Int) 0)
def impl_InsidePath.l0 : Nat → List (S151) → Int → Int → Bool → List (S151) → Int → Int → Option (Bool)
 | 0, _, _, _, _, _, _, _ => none
 | k + 1, x0, x1, x2, x7, x23, x24, x25 => if x25 < x24 then (if 0 ≤ x25 then (if x25 < (x23.length : Int) then (if (x0.length : Int) = 0 then (none) else (if 0 ≤ (Int.tmod (wrap64 (x25 + 1)) (x0.length : Int)) then (if (Int.tmod (wrap64 (x25 + 1)) (x0.length : Int)) < (x0.length : Int) then ((impl_crosses.f ((rd_T151 x23 x25).f0) ((rd_T151 x23 x25).f1) ((rd_T151 x0 (Int.tmod (wrap64 (x25 + 1)) (x0.length : Int))).f0) ((rd_T151 x0 (Int.tmod (wrap64 (x25 + 1)) (x0.length : Int))).f1) x1 x2).bind fun t619 => (if t619 = true then (impl_InsidePath.l0 k x0 x1 x2 (!x7) x23 x24 (wrap64 (x25 + 1))) else (impl_InsidePath.l0 k x0 x1 x2 x7 x23 x24 (wrap64 (x25 + 1))))) else (none)) else (none))) else (none)) else (none)) else (some x7)
end
def impl_InsidePath.f (k : Nat) (l0 : List (S151)) (a1 : Int) (a2 : Int) : Option (Bool) := (impl_pathOk.f k l0).bind fun t613 => (if t613 = true then ((impl_coordOk.f a1).bind fun t614 => (if t614 = true then ((impl_coordOk.f a2).bind fun t615 => (impl_InsidePath.j0 k l0 a1 a2 (!t615))) else (impl_InsidePath.j0 k l0 a1 a2 true))) else (impl_InsidePath.j0 k l0 a1 a2 true))
def impl_InsidePath.T7 : Bool × List (List Nat × List Nat) := (true, [([], []), ([], []), ([], []), ([2], [2]), ([], []), ([4], [4]), ([3, 5], [3, 5]), ([1, 6], [1, 6]), ([7], [7]), ([], []), ([], []), ([0, 8, 9, 10], [0, 8, 9, 10])])
def impl_InsidePath.B7 : List Nat := [0, 0, 0, 4, 0, 16, 60, 126, 254, 0, 0, 2047]
theorem impl_InsidePath.tab7 : rtab .any (opsOf Tryz.f189 7) = impl_InsidePath.T7 := by kernel_rfl
theorem impl_InsidePath.bits7 : waitsOk impl_InsidePath.T7.2 impl_InsidePath.B7 = true := by kernel_rfl
theorem impl_InsidePath.calls (k : Nat) (A0 : Option Addr) (c0 : Nat) (l0 : List (S151)) (a1 : Int) (a2 : Int) (r : Bool) (w : World) (hr0 : Kd.C k151 w A0 l0.length l0) (hc0 : l0.length ≤ c0) (h : impl_InsidePath.f k l0 a1 a2 = some r) :
  Calls Tryz.prog 189 #[.slice A0 l0.length c0, .int .i64 a1, .int .i64 a2] w fun e w' => e = .returned (.bool r) ∧ Below w.heap.size w w' := by
 have hu151 := Tryz.underlying151
 have HR0 := aM hr0
 have HC0 := aM hc0
 clear hr0 hc0
 have HB := aM (Below.refl w.heap.size w)
 have H := h
 clear h
 unfold impl_InsidePath.f at H
 have HC4 := aM H
 clear H
 go_enter Tryz.func189, Tryz.ntmps189
 go_upto_region 1 with (fail)
 go_cut [22] (fun v22 wc => ∃ (kq : Nat) (x22_3 : Bool), v22 = .bool x22_3 ∧ Aside0 (impl_InsidePath.j0 kq l0 a1 a2 x22_3 = some r) ∧ Aside0 (kq ≤ k) ∧ Aside0 (Below w.heap.size w wc))
 case first =>
  have H := HC4.out
  clear HC4
  replace H := bN H
  obtain ⟨t613, A5, H⟩ := H
  by_cases c6 : t613 = true
  ·subst c6
   rw [if_pos rfl] at H
   replace H := bN H
   obtain ⟨t614, A7, H⟩ := H
   by_cases c8 : t614 = true
   ·subst c8
    rw [if_pos rfl] at H
    replace H := bN H
    obtain ⟨t615, A9, H⟩ := H
    have H' := aM H
    clear H
    go_wp2_with (first | ((with_reducible refine gC 188 ?_); refine cM (some 11) Tryz.func188 (impl_pathOk.calls k _ _ l0 _ _ (cC HR0 HB) HC0.out A5.out) ?_; rintro e w10 ⟨rfl, hb⟩; refine ⟨_, rfl, ?_⟩; replace HB := hB hb; (try clear hb)) | (go_at_call 173; (with_reducible refine (impl_coordOk.calls a1 _ _ A7.out).mono ?_); rintro e w' ⟨rfl, ⟨nd, rfl⟩⟩) | (go_at_call 173; (with_reducible refine (impl_coordOk.calls a2 t615 _ A9.out).mono ?_); rintro e w' ⟨rfl, ⟨nd, rfl⟩⟩))
    go_meet
    case rel => exact ⟨_, (!t615), fS, H', ⟨by first | omega | exact Nat.le_refl _⟩, ⟨bS⟩⟩
   ·obtain rfl := Bool.eq_false_iff.mpr c8
    rw [if_neg nF] at H
    have H' := aM H
    clear H
    go_wp2_with (first | ((with_reducible refine gC 188 ?_); refine cM (some 11) Tryz.func188 (impl_pathOk.calls k _ _ l0 _ _ (cC HR0 HB) HC0.out A5.out) ?_; rintro e w11 ⟨rfl, hb⟩; refine ⟨_, rfl, ?_⟩; replace HB := hB hb; (try clear hb)) | (go_at_call 173; (with_reducible refine (impl_coordOk.calls a1 _ _ A7.out).mono ?_); rintro e w' ⟨rfl, ⟨nd, rfl⟩⟩))
    go_meet
    case rel => exact ⟨_, (true), fS, H', ⟨by first | omega | exact Nat.le_refl _⟩, ⟨bS⟩⟩
  ·obtain rfl := Bool.eq_false_iff.mpr c6
   rw [if_neg nF] at H
   have H' := aM H
   clear H
   go_wp2_with (first | ((with_reducible refine gC 188 ?_); refine cM (some 11) Tryz.func188 (impl_pathOk.calls k _ _ l0 _ _ (cC HR0 HB) HC0.out A5.out) ?_; rintro e w12 ⟨rfl, hb⟩; refine ⟨_, rfl, ?_⟩; replace HB := hB hb; (try clear hb)))
   go_meet
   case rel => exact ⟨_, (true), fS, H', ⟨by first | omega | exact Nat.le_refl _⟩, ⟨bS⟩⟩
 case rest =>
  clear HC4
  try clear c1
  try clear p2
  try clear c6
  try clear c8
  obtain ⟨kq, x22_3, rfl, HA, HJ3, HB⟩ := hcut
  cases kq with
  | zero => exact absurd HA.out (by simp [impl_InsidePath.j0])
  | succ kj3 =>
   have H := HA.out
   clear HA
   simp only [impl_InsidePath.j0] at H
   by_cases c13 : x22_3 = true
   ·subst c13
    rw [if_pos rfl] at H
    obtain rfl := Option.some.inj H
    go_wp2
    go_ret
    exact ⟨eS, bS⟩
   ·obtain rfl := Bool.eq_false_iff.mpr c13
    rw [if_neg nF] at H
    have H' := aM H
    clear H
    go_wp2
    go_loopg [7, 25] kj3 (fun kq v7 v25 w' => ∃ (x7_2 : Bool) (x25_2 : Int), v7 = .bool x7_2 ∧ v25 = .int .i64 x25_2 ∧ Aside0 (impl_InsidePath.l0 kq l0 a1 a2 x7_2 l0 (l0.length : Int) x25_2 = some r) ∧ Aside0 (kq ≤ kj3) ∧ Aside0 (Below w.heap.size w w'))
    case atStart => exact ⟨(false), (0), fS, fS, H', ⟨Nat.le_refl _⟩, ⟨bS⟩⟩
    case round =>
     clear H'
     try clear c1
     try clear p2
     try clear c6
     try clear c8
     try clear c13
     try clear p2
     obtain ⟨x7_2, x25_2, rfl, rfl, HA, HK2, HB⟩ := hrel
     cases gk with
     | zero => exact absurd HA.out (by simp [impl_InsidePath.l0])
     | succ k2 =>
      have H := HA.out
      clear HA
      simp only [impl_InsidePath.l0] at H
      rcases iD H with ⟨c14b0, H⟩ | ⟨c14b0, H⟩
      ·obtain ⟨c15b0, H⟩ := iT H
       obtain ⟨c16b0, H⟩ := iT H
       by_cases c17 : (l0.length : Int) = 0
       ·rw [if_pos c17] at H
        exact absurd H (by simp)
       ·rw [if_neg c17] at H
        have c17b0 : ((l0.length : Int) == 0) = false := beq_eq_false_iff_ne.mpr c17
        have c17b1 : ((l0.length : Int) != 0) = true := bne_iff_ne.mpr c17
        have c17b2 : ¬ (l0 = []) := fun h_ => c17 (by rw [h_]; rfl)
        obtain ⟨ji18, hji18⟩ : ∃ j_ : Int, (Int.tmod (wrap64 (x25_2 + 1)) (l0.length : Int)) = j_ := ⟨_, rfl⟩
        replace H : (if 0 ≤ (ji18) then (if (ji18) < (l0.length : Int) then ((impl_crosses.f ((rd_T151 l0 x25_2).f0) ((rd_T151 l0 x25_2).f1) ((rd_T151 l0 (ji18)).f0) ((rd_T151 l0 (ji18)).f1) a1 a2).bind fun t619 => (if t619 = true then (impl_InsidePath.l0 k2 l0 a1 a2 (!x7_2) l0 (l0.length : Int) (wrap64 (x25_2 + 1))) else (impl_InsidePath.l0 k2 l0 a1 a2 x7_2 l0 (l0.length : Int) (wrap64 (x25_2 + 1))))) else (none)) else (none)) = some r := by first | (rw [hji18] at H; exact H) | (simp only [hji18] at H ⊢; exact H)
        obtain ⟨c19b0, H⟩ := iT H
        obtain ⟨c20b0, H⟩ := iT H
        replace H := bN H
        obtain ⟨t619, A21, H⟩ := H
        by_cases c22 : t619 = true
        ·subst c22
         rw [if_pos rfl] at H
         have H' := aM H
         clear H
         have p616 : 0 ≤ (x25_2 : Int) := dA
         have q616 : x25_2 < (l0.length : Int) := dA
         obtain ⟨ad616, e616, hx616_0, hx616_1⟩ := at_T151 HR0.out x25_2 p616 q616
         cases e616
         replace hx616_0 := cB HB hx616_0
         replace hx616_1 := cB HB hx616_1
         replace p616 := eq_true p616
         replace q616 := eq_true q616
         try go_wp2_with (first | ((with_reducible refine gD 9 ?_); refine bxE #[.int .i64 0, .int .i64 0] 151 ?_; intro gb617 hg w23 BK617 hb; have GW617 := gE hg; have GE617 := gE hg; replace HB := hB hb; clear hb hg; have hz24 := cz2 BK617))
         have n0_ : Aside0 (((w23.setCell ⟨gb617, 0, none⟩ (.int .i64 ((rd_T151 l0 x25_2).f0))).setCell ⟨gb617, 1, none⟩ (.int .i64 ((rd_T151 l0 x25_2).f1))).heap[gb617]? = some (.cells #[.int .i64 ((rd_T151 l0 x25_2).f0), .int .i64 ((rd_T151 l0 x25_2).f1)] 151 (0, 0))) := ⟨kS⟩
         have n1_ : Aside0 (Below w.heap.size w ((w23.setCell ⟨gb617, 0, none⟩ (.int .i64 ((rd_T151 l0 x25_2).f0))).setCell ⟨gb617, 1, none⟩ (.int .i64 ((rd_T151 l0 x25_2).f1)))) := ⟨bS⟩
         (try clear BK617)
         (try clear HB)
         generalize ((w23.setCell ⟨gb617, 0, none⟩ (.int .i64 ((rd_T151 l0 x25_2).f0))).setCell ⟨gb617, 1, none⟩ (.int .i64 ((rd_T151 l0 x25_2).f1))) = w25 at n0_ n1_ ⊢
         have BK617 := n0_
         have HB := n1_
         clear n0_ n1_
         replace BK617 := aM (blk_drew BK617.out)
         replace HB := aM (below_drew1 HB.out)
         have p618 : 0 ≤ ((ji18) : Int) := dA
         have q618 : (ji18) < (l0.length : Int) := dA
         obtain ⟨ad618, e618, hx618_0, hx618_1⟩ := at_T151 HR0.out (ji18) p618 q618
         have hw618_1 := hx618_1
         have hw618_0 := hx618_0
         obtain rfl : ad616 = ad618 := (by injection e618)
         replace hx618_0 := cB HB hx618_0
         replace hx618_1 := cB HB hx618_1
         replace p618 := eq_true p618
         replace q618 := eq_true q618
         refine start_ (n := 12) (S := fun w' => w'.cell? ⟨gb617, 0, none⟩ = some (.int .i64 ((rd_T151 l0 x25_2).f0)) ∧ w'.cell? ⟨gb617, 1, none⟩ = some (.int .i64 ((rd_T151 l0 x25_2).f1)) ∧ w'.cell? (ad616.add (((ji18)).toNat * 2)) = some (.int .i64 ((rd_T151 l0 (ji18)).f0)) ∧ w'.cell? ⟨(ad616.add (((ji18)).toNat * 2)).block, (ad616.add (((ji18)).toNat * 2)).off + 1, none⟩ = some (.int .i64 ((rd_T151 l0 (ji18)).f1))) (ds := []) (mB 12 0) (by kernel_rfl) rfl rfl (cx2 BK617 ⟨(cB HB hw618_0), (cB HB hw618_1)⟩) (fun hHeld => ?_); refine with_tabW impl_InsidePath.tab7 impl_InsidePath.bits7 (fun HT_ HW_ => ?_)
         generalize w25.drew = w26 at BK617 HB hx618_0 hx618_1 hHeld ⊢
         refine pU 1 (some 31) (mB 12 2) ?_
         refine pU 2 (some 32) (mB 12 6) ?_
         refine pU 3 (some 33) (mB 12 14) ?_
         refine pU 4 (some 34) (mB 12 30) ?_
         refine pU 5 (some 35) (mB 12 62) ?_
         refine pU 6 (some 36) (mB 12 126) ?_
         refine pU 7 (some 37) (mB 12 254) ?_
         refine pU 9 (some 39) (mB 12 766) ?_
         refine pU 10 (some 40) (mB 12 1790) ?_
         refine tK 0 (some 30) (mB 12 1791) ?_
         refine tK 8 (some 38) (mB 12 2047) ?_
         refine one_ (i := 11) (N := some 41) (mB 12 4095) rfl rfl (one_of HT_.out (by kernel_rfl)) (by decide) (fun K hK => ?_)
         refine goes_ Tryz.func193 (by kernel_rfl) rfl #[.agg #[.int .i64 ((rd_T151 l0 x25_2).f0), .int .i64 ((rd_T151 l0 x25_2).f1)], .agg #[.int .i64 ((rd_T151 l0 (ji18)).f0), .int .i64 ((rd_T151 l0 (ji18)).f1)], .int .i64 a1, .int .i64 a2] (by rfl) rfl rfl (by (try simp only [List.map_toArray, List.map_cons, List.map_nil]); first | done | (simp only [hji18]; rfl) | rfl | (simp only [List.length_drop, List.length_take]; rfl)) ?_
         with_reducible refine (impl_crosses.calls ((rd_T151 l0 x25_2).f0) ((rd_T151 l0 x25_2).f1) ((rd_T151 l0 (ji18)).f0) ((rd_T151 l0 (ji18)).f1) a1 a2 _ _ A21.out).mono ?_
         rintro e w27 ⟨rfl, hb⟩
         refine ⟨_, rfl, ?_⟩
         replace BK617 := kB_ gb617 hb
         replace HB := hB hb
         (try clear hb)
         (try clear hb2)
         (try clear hk)
         (try clear hi)
         refine hK.out _ _ (cx2 BK617 ⟨(cB HB hw618_0), (cB HB hw618_1)⟩) (fun hHeld => ?_)
         clear hK K
         refine norm_ (a' := ?_) ?_ ?_
         rotate_left
         ·show Act.put _ (some 41) _ = _
          simp only [Act.put, List.setIfInBounds_toArray, List.set_cons_zero, List.set_cons_succ, i64_w, i32_w]
          rfl
         refine done_ (done_of HT_.out (by kernel_rfl)) ?_
         try go_wp2
         go_roundg k2
         case measure => have := HJ3.out; have := HK2.out; omega
         case rel => exact ⟨(!x7_2), (wrap64 (x25_2 + 1)), fS, fS, H', ⟨by have := HJ3.out; have := HK2.out; omega⟩, ⟨bS⟩⟩
        ·obtain rfl := Bool.eq_false_iff.mpr c22
         rw [if_neg nF] at H
         have H' := aM H
         clear H
         have p616 : 0 ≤ (x25_2 : Int) := dA
         have q616 : x25_2 < (l0.length : Int) := dA
         obtain ⟨ad616, e616, hx616_0, hx616_1⟩ := at_T151 HR0.out x25_2 p616 q616
         cases e616
         replace hx616_0 := cB HB hx616_0
         replace hx616_1 := cB HB hx616_1
         replace p616 := eq_true p616
         replace q616 := eq_true q616
         try go_wp2_with (first | ((with_reducible refine gD 9 ?_); refine bxE #[.int .i64 0, .int .i64 0] 151 ?_; intro gb617 hg w28 BK617 hb; have GW617 := gE hg; have GE617 := gE hg; replace HB := hB hb; clear hb hg; have hz29 := cz2 BK617))
         have n0_ : Aside0 (((w28.setCell ⟨gb617, 0, none⟩ (.int .i64 ((rd_T151 l0 x25_2).f0))).setCell ⟨gb617, 1, none⟩ (.int .i64 ((rd_T151 l0 x25_2).f1))).heap[gb617]? = some (.cells #[.int .i64 ((rd_T151 l0 x25_2).f0), .int .i64 ((rd_T151 l0 x25_2).f1)] 151 (0, 0))) := ⟨kS⟩
         have n1_ : Aside0 (Below w.heap.size w ((w28.setCell ⟨gb617, 0, none⟩ (.int .i64 ((rd_T151 l0 x25_2).f0))).setCell ⟨gb617, 1, none⟩ (.int .i64 ((rd_T151 l0 x25_2).f1)))) := ⟨bS⟩
         (try clear BK617)
         (try clear HB)
         generalize ((w28.setCell ⟨gb617, 0, none⟩ (.int .i64 ((rd_T151 l0 x25_2).f0))).setCell ⟨gb617, 1, none⟩ (.int .i64 ((rd_T151 l0 x25_2).f1))) = w30 at n0_ n1_ ⊢
         have BK617 := n0_
         have HB := n1_
         clear n0_ n1_
         replace BK617 := aM (blk_drew BK617.out)
         replace HB := aM (below_drew1 HB.out)
         have p618 : 0 ≤ ((ji18) : Int) := dA
         have q618 : (ji18) < (l0.length : Int) := dA
         obtain ⟨ad618, e618, hx618_0, hx618_1⟩ := at_T151 HR0.out (ji18) p618 q618
         have hw618_1 := hx618_1
         have hw618_0 := hx618_0
         obtain rfl : ad616 = ad618 := (by injection e618)
         replace hx618_0 := cB HB hx618_0
         replace hx618_1 := cB HB hx618_1
         replace p618 := eq_true p618
         replace q618 := eq_true q618
         refine start_ (n := 12) (S := fun w' => w'.cell? ⟨gb617, 0, none⟩ = some (.int .i64 ((rd_T151 l0 x25_2).f0)) ∧ w'.cell? ⟨gb617, 1, none⟩ = some (.int .i64 ((rd_T151 l0 x25_2).f1)) ∧ w'.cell? (ad616.add (((ji18)).toNat * 2)) = some (.int .i64 ((rd_T151 l0 (ji18)).f0)) ∧ w'.cell? ⟨(ad616.add (((ji18)).toNat * 2)).block, (ad616.add (((ji18)).toNat * 2)).off + 1, none⟩ = some (.int .i64 ((rd_T151 l0 (ji18)).f1))) (ds := []) (mB 12 0) (by kernel_rfl) rfl rfl (cx2 BK617 ⟨(cB HB hw618_0), (cB HB hw618_1)⟩) (fun hHeld => ?_); refine with_tabW impl_InsidePath.tab7 impl_InsidePath.bits7 (fun HT_ HW_ => ?_)
         generalize w30.drew = w31 at BK617 HB hx618_0 hx618_1 hHeld ⊢
         refine pU 1 (some 31) (mB 12 2) ?_
         refine pU 2 (some 32) (mB 12 6) ?_
         refine pU 3 (some 33) (mB 12 14) ?_
         refine pU 4 (some 34) (mB 12 30) ?_
         refine pU 5 (some 35) (mB 12 62) ?_
         refine pU 6 (some 36) (mB 12 126) ?_
         refine pU 7 (some 37) (mB 12 254) ?_
         refine pU 9 (some 39) (mB 12 766) ?_
         refine pU 10 (some 40) (mB 12 1790) ?_
         refine tK 0 (some 30) (mB 12 1791) ?_
         refine tK 8 (some 38) (mB 12 2047) ?_
         refine one_ (i := 11) (N := some 41) (mB 12 4095) rfl rfl (one_of HT_.out (by kernel_rfl)) (by decide) (fun K hK => ?_)
         refine goes_ Tryz.func193 (by kernel_rfl) rfl #[.agg #[.int .i64 ((rd_T151 l0 x25_2).f0), .int .i64 ((rd_T151 l0 x25_2).f1)], .agg #[.int .i64 ((rd_T151 l0 (ji18)).f0), .int .i64 ((rd_T151 l0 (ji18)).f1)], .int .i64 a1, .int .i64 a2] (by rfl) rfl rfl (by (try simp only [List.map_toArray, List.map_cons, List.map_nil]); first | done | (simp only [hji18]; rfl) | rfl | (simp only [List.length_drop, List.length_take]; rfl)) ?_
         with_reducible refine (impl_crosses.calls ((rd_T151 l0 x25_2).f0) ((rd_T151 l0 x25_2).f1) ((rd_T151 l0 (ji18)).f0) ((rd_T151 l0 (ji18)).f1) a1 a2 _ _ A21.out).mono ?_
         rintro e w32 ⟨rfl, hb⟩
         refine ⟨_, rfl, ?_⟩
         replace BK617 := kB_ gb617 hb
         replace HB := hB hb
         (try clear hb)
         (try clear hb2)
         (try clear hk)
         (try clear hi)
         refine hK.out _ _ (cx2 BK617 ⟨(cB HB hw618_0), (cB HB hw618_1)⟩) (fun hHeld => ?_)
         clear hK K
         refine norm_ (a' := ?_) ?_ ?_
         rotate_left
         ·show Act.put _ (some 41) _ = _
          simp only [Act.put, List.setIfInBounds_toArray, List.set_cons_zero, List.set_cons_succ, i64_w, i32_w]
          rfl
         refine done_ (done_of HT_.out (by kernel_rfl)) ?_
         try go_wp2
         go_roundg k2
         case measure => have := HJ3.out; have := HK2.out; omega
         case rel => exact ⟨(x7_2), (wrap64 (x25_2 + 1)), fS, fS, H', ⟨by have := HJ3.out; have := HK2.out; omega⟩, ⟨bS⟩⟩
      ·obtain rfl := Option.some.inj H
       go_wp2
       go_ret
       exact ⟨eS, bS⟩

/-! ### impl_SpansAt: function 169 -/
mutual
def impl_SpansAt.j0 : Nat → List (S151) → Int → Bool → Option ((List (S146)))
 | 0, _, _, _ => none
 | k + 1, x0, x1, x14 => if x14 = true then (some ([] : List (S146))) else (impl_SpansAt.l0 k x0 x1 ([] : List (S146)) (-200))
def impl_SpansAt.l0 : Nat → List (S151) → Int → List (S146) → Int → Option ((List (S146)))
 | 0, _, _, _, _ => none
 | k + 1, x0, x1, x5, x6 => if x6 ≤ 200 then ((impl_InsidePath.f k x0 x6 x1).bind fun t622 => (if t622 = true then (if (x5.length : Int) > 0 then (if 0 ≤ (wrap64 ((x5.length : Int) - 1)) then (if (wrap64 ((x5.length : Int) - 1)) < (x5.length : Int) then (if ((rd_T146 x5 (wrap64 ((x5.length : Int) - 1))).f1) = x6 then (impl_SpansAt.l0 k x0 x1 (x5.set ((wrap64 ((x5.length : Int) - 1)) : Int).toNat (⟨(rd_T146 x5 (wrap64 ((x5.length : Int) - 1))).f0, wrap64 (((rd_T146 x5 (wrap64 ((x5.length : Int) - 1))).f1) + 1)⟩ : S146)) (wrap64 (x6 + 1))) else (if x5.length < 8796093022208 then (impl_SpansAt.l0 k x0 x1 (x5 ++ [(⟨x6, wrap64 (x6 + 1)⟩ : S146)]) (wrap64 (x6 + 1))) else (none))) else (none)) else (none)) else (if x5.length < 8796093022208 then (impl_SpansAt.l0 k x0 x1 (x5 ++ [(⟨x6, wrap64 (x6 + 1)⟩ : S146)]) (wrap64 (x6 + 1))) else (none))) else (impl_SpansAt.l0 k x0 x1 x5 (wrap64 (x6 + 1))))) else (some x5)
end
def impl_SpansAt.f (k : Nat) (l0 : List (S151)) (a1 : Int) : Option ((List (S146))) := (impl_pathOk.f k l0).bind fun t620 => (if t620 = true then ((impl_coordOk.f a1).bind fun t621 => (impl_SpansAt.j0 k l0 a1 (!t621))) else (impl_SpansAt.j0 k l0 a1 true))
theorem impl_SpansAt.calls (k : Nat) (A0 : Option Addr) (c0 : Nat) (l0 : List (S151)) (a1 : Int) (r : List (S146)) (w : World) (hr0 : Kd.C k151 w A0 l0.length l0) (hc0 : l0.length ≤ c0) (h : impl_SpansAt.f k l0 a1 = some r) :
  Calls Tryz.prog 169 #[.slice A0 l0.length c0, .int .i64 a1] w fun e w' => ∃ v0_ : Value, e = .returned (v0_) ∧ Kd.R k146 146 w' w.heap.size (fun _ => True) v0_ r ∧ Below w.heap.size w w' := by
 have hu146 := Tryz.underlying146
 have HR0 := aM hr0
 have HC0 := aM hc0
 clear hr0 hc0
 have HB := aM (Below.refl w.heap.size w)
 have H := h
 clear h
 unfold impl_SpansAt.f at H
 have HC3 := aM H
 clear H
 go_enter Tryz.func169, Tryz.ntmps169
 go_upto_region 1 with (fail)
 go_cut [14] (fun v14 wc => ∃ (kq : Nat) (x14_2 : Bool), v14 = .bool x14_2 ∧ Aside0 (impl_SpansAt.j0 kq l0 a1 x14_2 = some r) ∧ Aside0 (kq ≤ k) ∧ Aside0 (Below w.heap.size w wc))
 case first =>
  have H := HC3.out
  clear HC3
  replace H := bN H
  obtain ⟨t620, A4, H⟩ := H
  by_cases c5 : t620 = true
  ·subst c5
   rw [if_pos rfl] at H
   replace H := bN H
   obtain ⟨t621, A6, H⟩ := H
   have H' := aM H
   clear H
   go_wp2_with (first | ((with_reducible refine gC 188 ?_); refine cM (some 8) Tryz.func188 (impl_pathOk.calls k _ _ l0 _ _ (cC HR0 HB) HC0.out A4.out) ?_; rintro e w7 ⟨rfl, hb⟩; refine ⟨_, rfl, ?_⟩; replace HB := hB hb; (try clear hb)) | (go_at_call 173; (with_reducible refine (impl_coordOk.calls a1 t621 _ A6.out).mono ?_); rintro e w' ⟨rfl, ⟨nd, rfl⟩⟩))
   go_meet
   case rel => exact ⟨_, (!t621), fS, H', ⟨by first | omega | exact Nat.le_refl _⟩, ⟨bS⟩⟩
  ·obtain rfl := Bool.eq_false_iff.mpr c5
   rw [if_neg nF] at H
   have H' := aM H
   clear H
   go_wp2_with (first | ((with_reducible refine gC 188 ?_); refine cM (some 8) Tryz.func188 (impl_pathOk.calls k _ _ l0 _ _ (cC HR0 HB) HC0.out A4.out) ?_; rintro e w8 ⟨rfl, hb⟩; refine ⟨_, rfl, ?_⟩; replace HB := hB hb; (try clear hb)))
   go_meet
   case rel => exact ⟨_, (true), fS, H', ⟨by first | omega | exact Nat.le_refl _⟩, ⟨bS⟩⟩
 case rest =>
  clear HC3
  try clear c1
  try clear p2
  try clear c5
  obtain ⟨kq, x14_2, rfl, HA, HJ2, HB⟩ := hcut
  cases kq with
  | zero => exact absurd HA.out (by simp [impl_SpansAt.j0])
  | succ kj2 =>
   have H := HA.out
   clear HA
   simp only [impl_SpansAt.j0] at H
   by_cases c9 : x14_2 = true
   ·subst c9
    rw [if_pos rfl] at H
    obtain rfl := Option.some.inj H
    go_wp2
    go_ret
    exact ⟨_, eS, by first | exact Kd.R_nil _ _ _ _ _ | exact Kd.N_nil _ _ _ _ _ | exact Kd.V_nil _ _ _ _ _ | exact Kd.Q_nil _ _ _ _ _ | exact Kd.S_nil _ _ _ _ _, bS⟩
   ·obtain rfl := Bool.eq_false_iff.mpr c9
    rw [if_neg nF] at H
    have H' := aM H
    clear H
    go_wp2
    go_loopg [5, 6] kj2 (fun kq v5 v6 w' => ∃ (x5_2 : List (S146)) (x6_2 : Int), v6 = .int .i64 x6_2 ∧ Aside0 (impl_SpansAt.l0 kq l0 a1 x5_2 x6_2 = some r) ∧ Aside0 (kq ≤ kj2) ∧ Aside0 (Kd.R k146 146 w' w.heap.size (fun _ => True) v5 x5_2) ∧ Aside0 (Below w.heap.size w w'))
    case atStart => exact ⟨(([] : List (S146))), ((-200)), fS, H', ⟨Nat.le_refl _⟩, ⟨by first | exact Kd.R_nil _ _ _ _ _ | exact Kd.N_nil _ _ _ _ _ | exact Kd.V_nil _ _ _ _ _ | exact Kd.Q_nil _ _ _ _ _ | exact Kd.S_nil _ _ _ _ _⟩, ⟨bS⟩⟩
    case round =>
     clear H'
     try clear c1
     try clear p2
     try clear c5
     try clear c9
     try clear p2
     obtain ⟨x5_2, x6_2, rfl, HA, HK2, HO_5, HB⟩ := hrel
     cases gk with
     | zero => exact absurd HA.out (by simp [impl_SpansAt.l0])
     | succ k2 =>
      have H := HA.out
      clear HA
      simp only [impl_SpansAt.l0] at H
      rcases iD H with ⟨c10b0, H⟩ | ⟨c10b0, H⟩
      ·replace H := bN H
       obtain ⟨t622, A11, H⟩ := H
       by_cases c12 : t622 = true
       ·subst c12
        rw [if_pos rfl] at H
        by_cases c13 : (x5_2.length : Int) > 0
        ·rw [if_pos c13] at H
         have c13b0 : decide (0 < (x5_2.length : Int)) = true := decide_eq_true c13
         have c13b1 : decide (0 < x5_2.length) = true := decide_eq_true (by omega)
         clear c13
         obtain ⟨ji14, hji14⟩ : ∃ j_ : Int, (wrap64 ((x5_2.length : Int) - 1)) = j_ := ⟨_, rfl⟩
         replace H : (if 0 ≤ (ji14) then (if (ji14) < (x5_2.length : Int) then (if ((rd_T146 x5_2 (ji14)).f1) = x6_2 then (impl_SpansAt.l0 k2 l0 a1 (x5_2.set ((ji14) : Int).toNat (⟨(rd_T146 x5_2 (ji14)).f0, wrap64 (((rd_T146 x5_2 (ji14)).f1) + 1)⟩ : S146)) (wrap64 (x6_2 + 1))) else (if x5_2.length < 8796093022208 then (impl_SpansAt.l0 k2 l0 a1 (x5_2 ++ [(⟨x6_2, wrap64 (x6_2 + 1)⟩ : S146)]) (wrap64 (x6_2 + 1))) else (none))) else (none)) else (none)) = some r := by first | (rw [hji14] at H; exact H) | (simp only [hji14] at H ⊢; exact H)
         (try rw [hji14] at A11)
         have hji14w : (IntKind.i64.wrap ((x5_2.length : Int) - 1)) = ji14 := (i64_w _).trans hji14
         obtain ⟨c15b0, H⟩ := iT H
         obtain ⟨c16b0, H⟩ := iT H
         by_cases c17 : ((rd_T146 x5_2 (ji14)).f1) = x6_2
         ·rw [if_pos c17] at H
          have c17b0 : (((rd_T146 x5_2 (ji14)).f1) == x6_2) = true := beq_iff_eq.mpr c17
          have c17b1 : (((rd_T146 x5_2 (ji14)).f1) != x6_2) = false := bne_eq_false_iff_eq.mpr c17
          clear c17
          obtain ⟨y625, hy_⟩ : ∃ y_ : List (S146), y_ = (x5_2.set ((ji14) : Int).toNat (⟨(rd_T146 x5_2 (ji14)).f0, wrap64 (((rd_T146 x5_2 (ji14)).f1) + 1)⟩ : S146)) := ⟨_, rfl⟩
          replace H : (impl_SpansAt.l0 k2 l0 a1 y625 (wrap64 (x6_2 + 1))) = some r := yS
          have Ny625 := aM hy_
          clear hy_
          have H' := aM H
          clear H
          go_wp2_with (first | ((with_reducible refine gC 189 ?_); refine cM (some 22) Tryz.func189 (impl_InsidePath.calls k2 _ _ l0 x6_2 a1 _ _ (cC HR0 HB) HC0.out A11.out) ?_; rintro e w19 ⟨rfl, hb⟩; refine ⟨_, rfl, ?_⟩; replace HO_5 := aM (Kd.R_below (rS HO_5) hb); replace HB := hB hb; (try clear hb hk); obtain ⟨Ao20, co20, eo20⟩ := Kd.R_slice HO_5.out; subst eo20; have p623 : 0 ≤ ((ji14) : Int) := dA; have q623 : (ji14) < (x5_2.length : Int) := dA; obtain ⟨ad623, e623, hx623_0, hx623_1⟩ := at_T146 (Kd.R_reads' HO_5.out).2.2 (ji14) p623 q623; cases e623; replace p623 := eq_true p623; replace q623 := eq_true q623; have p624 : 0 ≤ ((ji14) : Int) := dA; have q624 : (ji14) < (x5_2.length : Int) := dA; obtain ⟨ad624, e624, hx624_0, hx624_1⟩ := at_T146 (Kd.R_reads' HO_5.out).2.2 (ji14) p624 q624; obtain rfl : ad623 = ad624 := (by injection e624); replace p624 := eq_true p624; replace q624 := eq_true q624; have p18 : 0 ≤ ((ji14) : Int) := dA; have q18 : ((ji14) : Int) < ((x5_2.length : Int) : Int) := dA; obtain ⟨go18, co18, eo18, gb18, gl18, cl18, HG18⟩ := Kd.R_form HO_5.out (by omega); (first | cases eo18 | (injection eo18 with ea_ en_ ec_; (first | subst ea_ | (injection ea_ with ea_; subst ea_)); subst ec_; clear en_)); have GB18 := aM gb18; have GG18 := aM HG18; clear gb18 gl18 HG18; (first | simp only [add_plain] at hx623_0 | skip); (first | simp only [add_plain] at hx623_1 | skip); (first | simp only [add_plain] at hx624_0 | skip); (first | simp only [add_plain] at hx624_1 | skip); obtain ⟨ce18, hcl18, hM18, hcc18, hfr18⟩ := Kd.R_elem HO_5.out z146 ((ji14) : Int) p18 q18; obtain rfl := k146_openM hM18; have hx18_0 : w19.cell? ⟨go18, ((ji14) : Int).toNat * 2, none⟩ = some (.int .i64 ((rd_T146 x5_2 (ji14)).f0)) := hcc18 0 _ rfl; have hx18_1 : w19.cell? ⟨go18, ((ji14) : Int).toNat * 2 + 1, none⟩ = some (.int .i64 ((rd_T146 x5_2 (ji14)).f1)) := hcc18 1 _ rfl; have hf18_0 : w19.frozen? ⟨go18, ((ji14) : Int).toNat * 2, none⟩ = false := hfr18 0; have hf18_1 : w19.frozen? ⟨go18, ((ji14) : Int).toNat * 2 + 1, none⟩ = false := hfr18 1; (try clear hM18); clear hcl18 hcc18 hfr18; replace p18 := eq_true p18; replace q18 := eq_true q18; have HX21 := aM (show Kd.R k146 146 w19 w.heap.size (fun _ => True) (.slice (some ⟨go18, 0, none⟩) x5_2.length co20) x5_2 from (rS HO_5)); obtain ⟨ce21, hcl21, hM21, hcc21, hfr21⟩ := Kd.R_elem HX21.out z146 ((ji14) : Int) (dA) (by have h_ : ((ji14) : Int) < ((x5_2.length : Int) : Int) := dA; first | exact h_ | (have e_ := (Kd.R_reads' HO_5.out).1; omega) | simpa using h_); obtain rfl := k146_openM hM21; have HP21 := Kd.R_seg HX21.out ((ji14) : Int) (dA) (by have h_ : ((ji14) : Int) < ((x5_2.length : Int) : Int) := dA; first | exact h_ | (have e_ := (Kd.R_reads' HO_5.out).1; omega) | simpa using h_) (seg := [.int .i64 (wrap64 (((rd_T146 x5_2 (ji14)).f1) + 1))]) (j := 1) hcl21 hcc21 (show 2 ≤ 2 from by decide) (x' := (⟨(rd_T146 x5_2 (ji14)).f0, wrap64 (((rd_T146 x5_2 (ji14)).f1) + 1)⟩ : S146)) (k146_mkM _ _ _ (⟨(rd_T146 x5_2 (ji14)).f0, wrap64 (((rd_T146 x5_2 (ji14)).f1) + 1)⟩ : S146) ) (fun _ hk => hk); have hx21_1 := hcc21 1 _ rfl; (try simp only [show (k146).sz = 2 from rfl, Nat.mul_one, Nat.add_zero] at hx21_1); have hf21_1 := hfr21 1; (try simp only [show (k146).sz = 2 from rfl, Nat.mul_one, Nat.add_zero] at hf21_1); (try clear hM21); clear hcl21 hcc21 hfr21) | ((with_reducible refine gate_store (t := 3) (p := 47) rfl ?_); refine store_event (t := 3) (p := 47) (v := ?vo_w22) (w1 := (w19.setCell ⟨go18, ((ji14) : Int).toNat * 2 + 1, none⟩ (.int .i64 (wrap64 (((rd_T146 x5_2 (ji14)).f1) + 1))))) ?hg ?ho ?hn ?hr ?_; (case ho => rfl); (case hg => rfl); (case hn => rfl); (case hr => first | (go_simp; done) | (go_simp; rfl)); intro w22 hw; have hg : w19.grownBy w22 (some go18) := (by rw [hw]; exact HP21.2); have hp_ : Kd.R k146 146 w22 w.heap.size (fun _ => True) (.slice (some ⟨go18, 0, none⟩) x5_2.length co20) y625 := (by rw [hw, Ny625.out]; exact HP21.1); clear HP21; replace HO_5 := aM (hp_); replace HB := aM ((by rw [hw]; exact below_set (HB.out) GB18.out : Below w.heap.size w w22)); clear hg hw hp_))
          go_roundg k2
          case measure => have := HJ2.out; have := HK2.out; omega
          case rel => exact ⟨(y625), (wrap64 (x6_2 + 1)), fS, H', ⟨by have := HJ2.out; have := HK2.out; omega⟩, ⟨rS HO_5⟩, ⟨bS⟩⟩
         ·rw [if_neg c17] at H
          have c17b0 : (((rd_T146 x5_2 (ji14)).f1) == x6_2) = false := beq_eq_false_iff_ne.mpr c17
          have c17b1 : (((rd_T146 x5_2 (ji14)).f1) != x6_2) = true := bne_iff_ne.mpr c17
          obtain ⟨LMc23, H⟩ := iL H
          obtain ⟨y626, hy_⟩ : ∃ y_ : List (S146), y_ = (x5_2 ++ [(⟨x6_2, wrap64 (x6_2 + 1)⟩ : S146)]) := ⟨_, rfl⟩
          replace H : (impl_SpansAt.l0 k2 l0 a1 y626 (wrap64 (x6_2 + 1))) = some r := yS
          have Ny626 := aM hy_
          clear hy_
          have H' := aM H
          clear H
          go_wp2_with (first | ((with_reducible refine gC 189 ?_); refine cM (some 22) Tryz.func189 (impl_InsidePath.calls k2 _ _ l0 x6_2 a1 _ _ (cC HR0 HB) HC0.out A11.out) ?_; rintro e w24 ⟨rfl, hb⟩; refine ⟨_, rfl, ?_⟩; replace HO_5 := aM (Kd.R_below (rS HO_5) hb); replace HB := hB hb; (try clear hb); obtain ⟨Ao25, co25, eo25⟩ := Kd.R_slice HO_5.out; subst eo25; have p623 : 0 ≤ ((ji14) : Int) := dA; have q623 : (ji14) < (x5_2.length : Int) := dA; obtain ⟨ad623, e623, hx623_0, hx623_1⟩ := at_T146 (Kd.R_reads' HO_5.out).2.2 (ji14) p623 q623; cases e623; replace p623 := eq_true p623; replace q623 := eq_true q623) | ((with_reducible refine gate_builtin (b := .append) (xs := #[.tmp 48, .tmp 53]) rfl ?_); (try (refine gG (by rfl) (by rfl) ?_; dsimp only)); at_builtin; refine Kd.R_append k146 (w0 := w) w.heap.size rfl (.tmp 48) (.tmp 53) 143 146 (.agg #[(.int .i64 0), (.int .i64 0)]) 16 rfl Tryz.underlying143 info146 rfl (by decide) (by omega) (.slice (some ad623) x5_2.length co25) x5_2 (⟨x6_2, wrap64 (x6_2 + 1)⟩ : S146) [.int .i64 x6_2, .int .i64 (wrap64 (x6_2 + 1))] (fun _ => True) (fun _ => False) rfl rfl ?aP (fun _ hk => hk.elim) ?aF ?aO ?aB ?aS ?aL ?_; (case aP => exact k146_mkM _ _ _ (⟨x6_2, wrap64 (x6_2 + 1)⟩ : S146)); (case aB => exact bS); (case aF => exact (fun _ _ => trivial)); (case aO => exact (rS HO_5)); (case aS => exact (below_size bS)); (case aL => have := LMc23.out; omega); intro v627 w26 ho hb hg hat; rw [← Ny626.out] at ho; have HO628 := aM (ho); replace HB := aM (hb); clear HO_5; clear ho hb hg hat))
          go_roundg k2
          case measure => have := HJ2.out; have := HK2.out; omega
          case rel => exact ⟨(y626), (wrap64 (x6_2 + 1)), fS, H', ⟨by have := HJ2.out; have := HK2.out; omega⟩, ⟨rS HO628⟩, ⟨bS⟩⟩
        ·rw [if_neg c13] at H
         have c13b0 : decide (0 < (x5_2.length : Int)) = false := decide_eq_false c13
         have c13b1 : decide (0 < x5_2.length) = false := decide_eq_false (by omega)
         clear c13
         obtain ⟨LMc27, H⟩ := iL H
         obtain ⟨y629, hy_⟩ : ∃ y_ : List (S146), y_ = (x5_2 ++ [(⟨x6_2, wrap64 (x6_2 + 1)⟩ : S146)]) := ⟨_, rfl⟩
         replace H : (impl_SpansAt.l0 k2 l0 a1 y629 (wrap64 (x6_2 + 1))) = some r := yS
         have Ny629 := aM hy_
         clear hy_
         have H' := aM H
         clear H
         go_wp2_with (first | ((with_reducible refine gC 189 ?_); refine cM (some 22) Tryz.func189 (impl_InsidePath.calls k2 _ _ l0 x6_2 a1 _ _ (cC HR0 HB) HC0.out A11.out) ?_; rintro e w28 ⟨rfl, hb⟩; refine ⟨_, rfl, ?_⟩; replace HO_5 := aM (Kd.R_below (rS HO_5) hb); replace HB := hB hb; (try clear hb); obtain ⟨Ao29, co29, eo29⟩ := Kd.R_slice HO_5.out; subst eo29) | ((with_reducible refine gate_builtin (b := .append) (xs := #[.tmp 48, .tmp 53]) rfl ?_); (try (refine gG (by rfl) (by rfl) ?_; dsimp only)); at_builtin; refine Kd.R_append k146 (w0 := w) w.heap.size rfl (.tmp 48) (.tmp 53) 143 146 (.agg #[(.int .i64 0), (.int .i64 0)]) 16 rfl Tryz.underlying143 info146 rfl (by decide) (by omega) (.slice Ao29 x5_2.length co29) x5_2 (⟨x6_2, wrap64 (x6_2 + 1)⟩ : S146) [.int .i64 x6_2, .int .i64 (wrap64 (x6_2 + 1))] (fun _ => True) (fun _ => False) rfl rfl ?aP (fun _ hk => hk.elim) ?aF ?aO ?aB ?aS ?aL ?_; (case aP => exact k146_mkM _ _ _ (⟨x6_2, wrap64 (x6_2 + 1)⟩ : S146)); (case aB => exact bS); (case aF => exact (fun _ _ => trivial)); (case aO => exact (rS HO_5)); (case aS => exact (below_size bS)); (case aL => have := LMc27.out; omega); intro v630 w30 ho hb hg hat; rw [← Ny629.out] at ho; have HO631 := aM (ho); replace HB := aM (hb); clear HO_5; clear ho hb hg hat))
         go_roundg k2
         case measure => have := HJ2.out; have := HK2.out; omega
         case rel => exact ⟨(y629), (wrap64 (x6_2 + 1)), fS, H', ⟨by have := HJ2.out; have := HK2.out; omega⟩, ⟨rS HO631⟩, ⟨bS⟩⟩
       ·obtain rfl := Bool.eq_false_iff.mpr c12
        rw [if_neg nF] at H
        have H' := aM H
        clear H
        go_wp2_with (first | ((with_reducible refine gC 189 ?_); refine cM (some 22) Tryz.func189 (impl_InsidePath.calls k2 _ _ l0 x6_2 a1 _ _ (cC HR0 HB) HC0.out A11.out) ?_; rintro e w31 ⟨rfl, hb⟩; refine ⟨_, rfl, ?_⟩; replace HO_5 := aM (Kd.R_below (rS HO_5) hb); replace HB := hB hb; (try clear hb)))
        go_roundg k2
        case measure => have := HJ2.out; have := HK2.out; omega
        case rel => exact ⟨(x5_2), (wrap64 (x6_2 + 1)), fS, H', ⟨by have := HJ2.out; have := HK2.out; omega⟩, ⟨rS HO_5⟩, ⟨bS⟩⟩
      ·obtain rfl := Option.some.inj H
       go_wp2
       go_ret
       exact ⟨_, eS, rS HO_5, bS⟩

/-! ### impl_ObjectRow: function 118 -/
def impl_ObjectRow.j0 : Nat → Int → Bool → List (S151) → Int → Int → Int → Int → Int → Int → Int → Int → Int → Option ((List (S146)))
 | 0, _, _, _, _, _, _, _, _, _, _, _, _ => none
 | k + 1, x1, x20, x633000, x633001, x633002, x633003, x633004, x633005, x639000, x639001, x639002, x639003 => if x20 = true then (some ([] : List (S146))) else ((impl_SpansAt.f k x633000 x1).bind fun t639 => ((impl_MeetSpans.f k t639 x639000 x639002).bind fun t642 => (some t642)))
def impl_ObjectRow.f (k : Nat) (l0_0 : List (S151)) (a0_1 : Int) (a0_2 : Int) (a0_3 : Int) (a0_4 : Int) (a0_5 : Int) (a1 : Int) : Option ((List (S146))) := (impl_ObjectOk.f k l0_0 a0_1 a0_2 a0_3 a0_4 a0_5).bind fun t633 => (if t633 = true then ((impl_ObjectBox.f k l0_0 a0_1 a0_2 a0_3 a0_4 a0_5).bind fun bt634 => (if a1 < bt634.2.1 then (impl_ObjectRow.j0 k a1 true l0_0 a0_1 a0_2 a0_3 a0_4 a0_5 bt634.1 bt634.2.1 bt634.2.2.1 bt634.2.2.2) else (impl_ObjectRow.j0 k a1 (decide (a1 ≥ bt634.2.2.2)) l0_0 a0_1 a0_2 a0_3 a0_4 a0_5 bt634.1 bt634.2.1 bt634.2.2.1 bt634.2.2.2))) else (some ([] : List (S146))))
def impl_ObjectRow.T6 : Bool × List (List Nat × List Nat) := (true, [([], []), ([0], [0]), ([], []), ([1, 2], [1, 2]), ([], []), ([4], [4]), ([], []), ([6], [6]), ([3, 5, 7, 3], [3, 5, 7]), ([8, 8, 0, 1, 2, 3, 4, 5, 6, 7, 8], [8])])
def impl_ObjectRow.B6 : List Nat := [0, 1, 0, 7, 0, 16, 0, 64, 255, 511]
theorem impl_ObjectRow.tab6 : rtab .any (opsOf Tryz.f118 6) = impl_ObjectRow.T6 := by kernel_rfl
theorem impl_ObjectRow.bits6 : waitsOk impl_ObjectRow.T6.2 impl_ObjectRow.B6 = true := by kernel_rfl
theorem impl_ObjectRow.calls (k : Nat) (A0_0 : Option Addr) (c0_0 : Nat) (l0_0 : List (S151)) (a0_1 : Int) (a0_2 : Int) (a0_3 : Int) (a0_4 : Int) (a0_5 : Int) (a1 : Int) (r : List (S146)) (w : World) (hr0_0 : Kd.C k151 w A0_0 l0_0.length l0_0) (hc0_0 : l0_0.length ≤ c0_0) (h : impl_ObjectRow.f k l0_0 a0_1 a0_2 a0_3 a0_4 a0_5 a1 = some r) :
  Calls Tryz.prog 118 #[.agg #[.slice A0_0 l0_0.length c0_0, .int .i64 a0_1, .int .i64 a0_2, .int .i64 a0_3, .int .i64 a0_4, .int .i64 a0_5], .int .i64 a1] w fun e w' => ∃ v0_ : Value, e = .returned (v0_) ∧ Kd.R k146 146 w' w.heap.size (fun _ => True) v0_ r ∧ Below w.heap.size w w' := by
 have hu49 := Tryz.underlying49
 have hu47 := Tryz.underlying47
 have HR0_0 := aM hr0_0
 have HC0_0 := aM hc0_0
 clear hr0_0 hc0_0
 have HB := aM (Below.refl w.heap.size w)
 have H := h
 clear h
 unfold impl_ObjectRow.f at H
 replace H := bN H
 obtain ⟨t633, A3, H⟩ := H
 by_cases c4 : t633 = true
 ·subst c4
  rw [if_pos rfl] at H
  replace H := bN H
  obtain ⟨⟨t634, t635, t636, t637⟩, A5, H⟩ := H
  have HC6 := aM H
  clear H
  go_enter Tryz.func118, Tryz.ntmps118
  go_upto_region 4 with (first | ((with_reducible refine gD 2 ?_); refine bxE #[.slice A0_0 l0_0.length c0_0, .int .i64 a0_1, .int .i64 a0_2, .int .i64 a0_3, .int .i64 a0_4, .int .i64 a0_5] 49 ?_; intro gb632 hg w7 BK632 hb; have GW632 := gE hg; have GE632 := gE hg; replace HB := hB hb; clear hb hg; have hcz8_0 := cg0 BK632; have hcz8_1 := cg1 BK632; have hcz8_2 := cg2 BK632; have hcz8_3 := cg3 BK632; have hcz8_4 := cg4 BK632; have hcz8_5 := cg5 BK632; have hfz8_0 := blk_frozen BK632.out 0; have hfz8_1 := blk_frozen BK632.out 1; have hfz8_2 := blk_frozen BK632.out 2; have hfz8_3 := blk_frozen BK632.out 3; have hfz8_4 := blk_frozen BK632.out 4; have hfz8_5 := blk_frozen BK632.out 5) | ((with_reducible refine gC 64 ?_); refine cM (some 7) Tryz.func64 (impl_ObjectOk.calls k _ _ l0_0 a0_1 a0_2 a0_3 a0_4 a0_5 _ _ (cC HR0_0 HB) HC0_0.out A3.out) ?_; rintro e w9 ⟨rfl, hb⟩; refine ⟨_, rfl, ?_⟩; replace BK632 := kB_ gb632 hb; replace HB := hB hb; (try clear hb); have hcz10_0 := cg0 BK632; have hcz10_1 := cg1 BK632; have hcz10_2 := cg2 BK632; have hcz10_3 := cg3 BK632; have hcz10_4 := cg4 BK632; have hcz10_5 := cg5 BK632; have hfz10_0 := blk_frozen BK632.out 0; have hfz10_1 := blk_frozen BK632.out 1; have hfz10_2 := blk_frozen BK632.out 2; have hfz10_3 := blk_frozen BK632.out 3; have hfz10_4 := blk_frozen BK632.out 4; have hfz10_5 := blk_frozen BK632.out 5) | ((with_reducible refine gC 129 ?_); refine cM (some 10) Tryz.func129 (impl_ObjectBox.calls k _ _ l0_0 a0_1 a0_2 a0_3 a0_4 a0_5 t634 t635 t636 t637 _ (cC HR0_0 HB) HC0_0.out A5.out) ?_; rintro e w11 ⟨rfl, hb⟩; refine ⟨_, rfl, ?_⟩; replace BK632 := kB_ gb632 hb; replace HB := hB hb; (try clear hb)) | ((with_reducible refine gD 5 ?_); refine bxE #[.int .i64 0, .int .i64 0, .int .i64 0, .int .i64 0] 47 ?_; intro gb638 hg w12 BK638 hb; have GW638 := gE hg; have GE638 := gE hg; have NB632_638 := nL_ gb632 hg; have NB638_632 := nG_ gb632 hg; replace BK632 := kB_ gb632 hb; replace HB := hB hb; clear hb hg; have hnb13 := NB638_632.out; have hnc13 := NB632_638.out; have hcz14_0 := cg0 BK638; have hcz14_1 := cg1 BK638; have hcz14_2 := cg2 BK638; have hcz14_3 := cg3 BK638; have hfz14_0 := blk_frozen BK638.out 0; have hfz14_1 := blk_frozen BK638.out 1; have hfz14_2 := blk_frozen BK638.out 2; have hfz14_3 := blk_frozen BK638.out 3))
  (try simp only [Act.put, List.setIfInBounds_toArray, List.set_cons_zero, List.set_cons_succ])
  go_cut [20] (fun v20 wc => ∃ (kq : Nat) (x20_5 : Bool), v20 = .bool x20_5 ∧ Aside0 (impl_ObjectRow.j0 kq a1 x20_5 l0_0 a0_1 a0_2 a0_3 a0_4 a0_5 t634 t635 t636 t637 = some r) ∧ Aside0 (kq ≤ k) ∧ Aside0 (wc.heap[gb632]? = some (.cells #[(.slice A0_0 l0_0.length c0_0), .int .i64 a0_1, .int .i64 a0_2, .int .i64 a0_3, .int .i64 a0_4, .int .i64 a0_5] 49 (0, 0))) ∧ Aside0 (wc.heap[gb638]? = some (.cells #[.int .i64 t634, .int .i64 t635, .int .i64 t636, .int .i64 t637] 47 (0, 0))) ∧ Aside0 (Below w.heap.size w wc))
  case first =>
   have H := HC6.out
   clear HC6
   rcases iD H with ⟨c15b0, H⟩ | ⟨c15b0, H⟩
   ·(first | rw [c15b0] | (simp only [i64_w, i32_w]; rw [c15b0]) | skip)
    have H' := aM H
    clear H
    have hnb16 := NB638_632.out
    have hnc16 := NB632_638.out
    have hcz17_0 := cg0 BK638
    have hcz17_1 := cg1 BK638
    have hcz17_2 := cg2 BK638
    have hcz17_3 := cg3 BK638
    have hfz17_0 := blk_frozen BK638.out 0
    have hfz17_1 := blk_frozen BK638.out 1
    have hfz17_2 := blk_frozen BK638.out 2
    have hfz17_3 := blk_frozen BK638.out 3
    go_wp2
    go_meet
    case rel => exact ⟨_, (true), fS, H', ⟨by first | omega | exact Nat.le_refl _⟩, ⟨kS⟩, ⟨kS⟩, ⟨bS⟩⟩
   ·(first | rw [c15b0] | (simp only [i64_w, i32_w]; rw [c15b0]) | skip)
    have H' := aM H
    clear H
    have hnb18 := NB638_632.out
    have hnc18 := NB632_638.out
    have hcz19_0 := cg0 BK638
    have hcz19_1 := cg1 BK638
    have hcz19_2 := cg2 BK638
    have hcz19_3 := cg3 BK638
    have hfz19_0 := blk_frozen BK638.out 0
    have hfz19_1 := blk_frozen BK638.out 1
    have hfz19_2 := blk_frozen BK638.out 2
    have hfz19_3 := blk_frozen BK638.out 3
    go_wp2
    go_meet
    case rel => exact ⟨_, (decide (a1 ≥ t637)), fS, H', ⟨by first | omega | exact Nat.le_refl _⟩, ⟨kS⟩, ⟨kS⟩, ⟨bS⟩⟩
  case rest =>
   clear HC6
   try clear c1
   try clear p2
   try clear c4
   try clear c6
   try clear c11
   try clear c12
   try clear c13
   try clear c15
   try clear c15b0
   try clear c16
   try clear c18
   obtain ⟨kq, x20_5, rfl, HA, HJ5, BK632, BK638, HB⟩ := hcut
   cases kq with
   | zero => exact absurd HA.out (by simp [impl_ObjectRow.j0])
   | succ kj5 =>
    have H := HA.out
    clear HA
    simp only [impl_ObjectRow.j0] at H
    by_cases c20 : x20_5 = true
    ·subst c20
     rw [if_pos rfl] at H
     obtain rfl := Option.some.inj H
     go_wp2
     go_ret
     exact ⟨_, eS, by first | exact Kd.R_nil _ _ _ _ _ | exact Kd.N_nil _ _ _ _ _ | exact Kd.V_nil _ _ _ _ _ | exact Kd.Q_nil _ _ _ _ _ | exact Kd.S_nil _ _ _ _ _, bS⟩
    ·obtain rfl := Bool.eq_false_iff.mpr c20
     rw [if_neg nF] at H
     replace H := bN H
     obtain ⟨t639, A21, H⟩ := H
     replace H := bN H
     obtain ⟨t642, A22, H⟩ := H
     obtain rfl := Option.some.inj H
     try go_wp2
     replace BK632 := aM (blk_drew BK632.out)
     replace BK638 := aM (blk_drew BK638.out)
     replace HB := aM (below_drew1 HB.out)
     refine start_ (n := 10) (S := fun w' => w'.cell? ⟨gb632, 0, none⟩ = some (.slice A0_0 l0_0.length c0_0) ∧ w'.cell? ⟨gb632, 1, none⟩ = some (.int .i64 a0_1) ∧ w'.cell? ⟨gb632, 2, none⟩ = some (.int .i64 a0_2) ∧ w'.cell? ⟨gb632, 3, none⟩ = some (.int .i64 a0_3) ∧ w'.cell? ⟨gb632, 4, none⟩ = some (.int .i64 a0_4) ∧ w'.cell? ⟨gb632, 5, none⟩ = some (.int .i64 a0_5) ∧ w'.cell? ⟨gb638, 0, none⟩ = some (.int .i64 t634) ∧ w'.cell? ⟨gb638, 1, none⟩ = some (.int .i64 t635) ∧ w'.cell? ⟨gb638, 2, none⟩ = some (.int .i64 t636) ∧ w'.cell? ⟨gb638, 3, none⟩ = some (.int .i64 t637)) (ds := []) (mB 10 0) (by kernel_rfl) rfl rfl (cx6 BK632 (cy4 BK638)) (fun hHeld => ?_); refine with_tabW impl_ObjectRow.tab6 impl_ObjectRow.bits6 (fun HT_ HW_ => ?_)
     generalize wc.drew = w23 at BK632 BK638 HB hHeld ⊢
     refine pU 0 (some 21) (mB 10 1) ?_
     refine pU 2 (some 23) (mB 10 5) ?_
     refine pU 4 (some 25) (mB 10 21) ?_
     refine pU 6 (some 27) (mB 10 85) ?_
     refine tK 1 (some 22) (mB 10 87) ?_
     refine tK 5 (some 26) (mB 10 119) ?_
     refine tK 7 (some 28) (mB 10 247) ?_
     refine one_ (i := 3) (N := some 24) (mB 10 255) rfl rfl (one_of HT_.out (by kernel_rfl)) (by decide) (fun K hK => ?_)
     refine goes_ Tryz.func169 (by kernel_rfl) rfl #[.slice A0_0 l0_0.length c0_0, .int .i64 a1] (by rfl) rfl rfl mA ?_
     with_reducible refine (impl_SpansAt.calls kj5 _ _ l0_0 a1 t639 _ ?side1 ?side2 A21.out).mono ?_
     (case side1 => exact cS (Kd.C_below HR0_0.out HB.out))
     (case side2 => exact HC0_0.out)
     rintro e w24 ⟨v640, rfl, ho0, hb⟩
     refine ⟨_, rfl, ?_⟩
     have HO641 := aM (Kd.R_lower ho0 (below_size bS))
     replace BK632 := kB_ gb632 hb
     replace BK638 := kB_ gb638 hb
     replace HB := hB hb
     (try clear hb)
     (try clear hb2)
     (try clear hk)
     (try clear hi)
     (try clear ho0)
     obtain ⟨Ao25, co25, eo25⟩ := Kd.R_slice HO641.out
     (first | subst eo25 | obtain ⟨rfl, rfl⟩ := slE eo25)
     refine hK.out _ _ (cx6 BK632 (cy4 BK638)) (fun hHeld => ?_)
     clear hK K
     refine norm_ (a' := ?_) ?_ ?_
     rotate_left
     ·show Act.put _ (some 24) _ = _
      simp only [Act.put, List.setIfInBounds_toArray, List.set_cons_zero, List.set_cons_succ, i64_w, i32_w]
      rfl
     refine one_ (i := 8) (N := some 29) (mB 10 511) rfl rfl (one_of HT_.out (by kernel_rfl)) (by decide) (fun K hK => ?_)
     refine goes_ Tryz.func168 (by kernel_rfl) rfl #[.slice Ao25 t639.length co25, .int .i64 t634, .int .i64 t636] (by rfl) rfl rfl mA ?_
     with_reducible refine (impl_MeetSpans.calls kj5 _ _ t639 t634 t636 t642 _ ?side1 ?side2 A22.out).mono ?_
     (case side1 => exact cS (Kd.R_reads' HO641.out).2.2)
     (case side2 => exact (Kd.R_reads' HO641.out).2.1)
     rintro e w26 ⟨v643, rfl, ho0, hb⟩
     refine ⟨_, rfl, ?_⟩
     have HO644 := aM (Kd.R_lower (Kd.R_new' ho0 (Kd.R_lt (rS HO641))) (below_size bS))
     replace HO641 := aM (Kd.R_elder' (rS HO641) (Kd.R_base ho0) hb)
     replace BK632 := kB_ gb632 hb
     replace BK638 := kB_ gb638 hb
     replace HB := hB hb
     (try clear hb)
     (try clear hb2)
     (try clear hk)
     (try clear hi)
     (try clear ho0)
     refine hK.out _ _ (cx6 BK632 (cy4 BK638)) (fun hHeld => ?_)
     clear hK K
     refine norm_ (a' := ?_) ?_ ?_
     rotate_left
     ·show Act.put _ (some 29) _ = _
      simp only [Act.put, List.setIfInBounds_toArray, List.set_cons_zero, List.set_cons_succ, i64_w, i32_w]
      rfl
     refine pU 9 (some 4) (mB 10 1023) ?_
     refine done_ (done_of HT_.out (by kernel_rfl)) ?_
     try go_wp2
     go_ret
     exact ⟨_, eS, by exact rT (Kd.R_mono HO644.out (fun _ hk => trivial)), bS⟩
 ·obtain rfl := Bool.eq_false_iff.mpr c4
  rw [if_neg nF] at H
  obtain rfl := Option.some.inj H
  go_enter Tryz.func118, Tryz.ntmps118
  go_wp2_with (first | ((with_reducible refine gD 2 ?_); refine bxE #[.slice A0_0 l0_0.length c0_0, .int .i64 a0_1, .int .i64 a0_2, .int .i64 a0_3, .int .i64 a0_4, .int .i64 a0_5] 49 ?_; intro gb632 hg w27 BK632 hb; have GW632 := gE hg; have GE632 := gE hg; replace HB := hB hb; clear hb hg; have hz28 := cz6 BK632) | ((with_reducible refine gC 64 ?_); refine cM (some 7) Tryz.func64 (impl_ObjectOk.calls k _ _ l0_0 a0_1 a0_2 a0_3 a0_4 a0_5 _ _ (cC HR0_0 HB) HC0_0.out A3.out) ?_; rintro e w29 ⟨rfl, hb⟩; refine ⟨_, rfl, ?_⟩; replace BK632 := kB_ gb632 hb; replace HB := hB hb; (try clear hb)))
  go_ret
  exact ⟨_, eS, by first | exact Kd.R_nil _ _ _ _ _ | exact Kd.N_nil _ _ _ _ _ | exact Kd.V_nil _ _ _ _ _ | exact Kd.Q_nil _ _ _ _ _ | exact Kd.S_nil _ _ _ _ _, bS⟩

end Go.Proofs.YtncfipboidmfbaaGreat.QFnExactAddToBand
