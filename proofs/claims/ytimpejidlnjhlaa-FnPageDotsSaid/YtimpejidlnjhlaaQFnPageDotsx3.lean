-- Made out of the translation by a program of this session (a changed copy of the print). Not trusted: Lean checks it.
import Derived.Test.YtimpejidlnjhlaaQFnPageDotsx0
import Derived.Test.YtimpejidlnjhlaaQFnPageDotsx2
namespace Go.Proofs.Ytimpejidlnjhlaa.QFnPageDots
open Go.RowKit Go.Proofs.YtimpejidlnjhlaaW.PrintWords Go.Proofs.YtimpejidlnjhlaaW.PrintLast Go.Proofs.YtimpejidlnjhlaaW.PrintMore
attribute [local go_sem] max2_int min2_int max_two min_two max_three min_three max_four min_four   -- for this text's walks alone
set_option linter.unusedVariables false
set_option linter.unusedSimpArgs false
set_option maxHeartbeats 8000000
set_option maxRecDepth 100000

/-! ### impl_MeetBox: function 150 -/
def impl_MeetBox.j0 : Nat → Bool → Int → Int → Int → Int → Int → Int → Int → Int → Option (Int × Int × Int × Int)
 | 0, _, _, _, _, _, _, _, _, _ => none
 | k + 1, x13, x269000, x269001, x269002, x269003, x270000, x270001, x270002, x270003 => if x13 = true then (some (0, 0, 0, 0)) else (if (mx x269000 x270000) ≥ (mn x269002 x270002) then (some (0, 0, 0, 0)) else (if (mx x269001 x270001) ≥ (mn x269003 x270003) then (some (0, 0, 0, 0)) else (some (mx x269000 x270000, mx x269001 x270001, mn x269002 x270002, mn x269003 x270003))))
def impl_MeetBox.f (k : Nat) (a0_0 : Int) (a0_1 : Int) (a0_2 : Int) (a0_3 : Int) (a1_0 : Int) (a1_1 : Int) (a1_2 : Int) (a1_3 : Int) : Option (Int × Int × Int × Int) := (impl_BoxOk.f a0_0 a0_1 a0_2 a0_3).bind fun t271 => (if t271 = true then ((impl_BoxOk.f a1_0 a1_1 a1_2 a1_3).bind fun t272 => (impl_MeetBox.j0 k (!t272) a0_0 a0_1 a0_2 a0_3 a1_0 a1_1 a1_2 a1_3)) else (impl_MeetBox.j0 k true a0_0 a0_1 a0_2 a0_3 a1_0 a1_1 a1_2 a1_3))
theorem impl_MeetBox.calls (k : Nat) (a0_0 : Int) (a0_1 : Int) (a0_2 : Int) (a0_3 : Int) (a1_0 : Int) (a1_1 : Int) (a1_2 : Int) (a1_3 : Int) (r1 : Int) (r2 : Int) (r3 : Int) (r4 : Int) (w : World) (h : impl_MeetBox.f k a0_0 a0_1 a0_2 a0_3 a1_0 a1_1 a1_2 a1_3 = some (r1, r2, r3, r4)) :
  Calls Try.prog 150 #[.agg #[.int .i64 a0_0, .int .i64 a0_1, .int .i64 a0_2, .int .i64 a0_3], .agg #[.int .i64 a1_0, .int .i64 a1_1, .int .i64 a1_2, .int .i64 a1_3]] w fun e w' => e = .returned (.agg #[.int .i64 r1, .int .i64 r2, .int .i64 r3, .int .i64 r4]) ∧ Below w.heap.size w w' := by
 have hu39 := Try.underlying39
 have HB := Aside0.mk (Below.refl w.heap.size w)
 have H : ((impl_BoxOk.f a0_0 a0_1 a0_2 a0_3).bind fun t271 => (if t271 = true then ((impl_BoxOk.f a1_0 a1_1 a1_2 a1_3).bind fun t272 => (impl_MeetBox.j0 k (!t272) a0_0 a0_1 a0_2 a0_3 a1_0 a1_1 a1_2 a1_3)) else (impl_MeetBox.j0 k true a0_0 a0_1 a0_2 a0_3 a1_0 a1_1 a1_2 a1_3))) = some (r1, r2, r3, r4) := h
 clear h
 have HC3 := Aside0.mk H
 clear H
 go_enter Try.func150, Try.ntmps150
 go_upto_region 1 with (first | ((with_reducible refine gD 2 ?_); refine bxE #[.int .i64 a0_0, .int .i64 a0_1, .int .i64 a0_2, .int .i64 a0_3] 39 ?_; intro gb268 hg w4 BK268 hb; have GW268 := gE hg; have GE268 := gE hg; replace HB := hB hb; clear hb hg) | ((with_reducible refine gD 3 ?_); refine bxE #[.int .i64 a1_0, .int .i64 a1_1, .int .i64 a1_2, .int .i64 a1_3] 39 ?_; intro gb269 hg w5 BK269 hb; have GW269 := gE hg; have GE269 := gE hg; have NB268_269 := nL (g := gb268) hg; have NB269_268 := nG (g := gb268) hg; replace BK268 := kB (g := gb268) hb; replace HB := hB hb; clear hb hg) | ((with_reducible refine gD 4 ?_); refine bxE #[.int .i64 0, .int .i64 0, .int .i64 0, .int .i64 0] 39 ?_; intro gb270 hg w6 BK270 hb; have GW270 := gE hg; have GE270 := gE hg; have NB268_270 := nL (g := gb268) hg; have NB270_268 := nG (g := gb268) hg; have NB269_270 := nL (g := gb269) hg; have NB270_269 := nG (g := gb269) hg; replace BK268 := kB (g := gb268) hb; replace BK269 := kB (g := gb269) hb; replace HB := hB hb; clear hb hg))
 (try simp only [Act.put, List.setIfInBounds_toArray, List.set_cons_zero, List.set_cons_succ])
 go_cut [13] (fun v13 wc => ∃ (kq : Nat) (x13_2 : Bool), v13 = .bool x13_2 ∧ Aside0 (impl_MeetBox.j0 kq x13_2 a0_0 a0_1 a0_2 a0_3 a1_0 a1_1 a1_2 a1_3 = some (r1, r2, r3, r4)) ∧ Aside0 (kq ≤ k) ∧ Aside0 (wc.heap[gb268]? = some (.cells #[.int .i64 a0_0, .int .i64 a0_1, .int .i64 a0_2, .int .i64 a0_3] 39 (0, 0))) ∧ Aside0 (wc.heap[gb269]? = some (.cells #[.int .i64 a1_0, .int .i64 a1_1, .int .i64 a1_2, .int .i64 a1_3] 39 (0, 0))) ∧ Aside0 (wc.heap[gb270]? = some (.cells #[.int .i64 0, .int .i64 0, .int .i64 0, .int .i64 0] 39 (0, 0))) ∧ Aside0 (Below w.heap.size w wc))
 case first =>
  have H := HC3.out
  clear HC3
  replace H := bN H
  obtain ⟨t271, A7, H⟩ := H
  by_cases c8 : t271 = true
  ·subst c8
   rw [if_pos rfl] at H
   replace H := bN H
   obtain ⟨t272, A9, H⟩ := H
   have H' := Aside0.mk H
   clear H
   have hnb10 := NB268_269.out
   have hnc10 := NB269_268.out
   have hnb11 := NB268_270.out
   have hnc11 := NB270_268.out
   have hcz12_0 : w6.cell? ⟨gb268, 0, none⟩ = some (.int .i64 a0_0) := (blk_cell BK268.out 0).trans rfl
   have hcz12_1 : w6.cell? ⟨gb268, 1, none⟩ = some (.int .i64 a0_1) := (blk_cell BK268.out 1).trans rfl
   have hcz12_2 : w6.cell? ⟨gb268, 2, none⟩ = some (.int .i64 a0_2) := (blk_cell BK268.out 2).trans rfl
   have hcz12_3 : w6.cell? ⟨gb268, 3, none⟩ = some (.int .i64 a0_3) := (blk_cell BK268.out 3).trans rfl
   have hfz12_0 := blk_frozen BK268.out 0
   have hfz12_1 := blk_frozen BK268.out 1
   have hfz12_2 := blk_frozen BK268.out 2
   have hfz12_3 := blk_frozen BK268.out 3
   go_wp2_with (first | ((with_reducible refine gC 153 ?_); refine cL (some 7) Try.func153 #[.agg #[.int .i64 a0_0, .int .i64 a0_1, .int .i64 a0_2, .int .i64 a0_3]] ?_; (with_reducible refine (impl_BoxOk.calls a0_0 a0_1 a0_2 a0_3 _ _ A7.out).mono ?_); rintro e w13 ⟨rfl, hb⟩; refine ⟨_, rfl, ?_⟩; replace BK268 := kB (g := gb268) hb; replace BK269 := kB (g := gb269) hb; replace BK270 := kB (g := gb270) hb; replace HB := hB hb; (try clear hb); (try clear hb2); (try clear hk); (try clear hi); have hnb14 := NB269_270.out; have hnc14 := NB270_269.out; have hcz15_0 : w13.cell? ⟨gb269, 0, none⟩ = some (.int .i64 a1_0) := (blk_cell BK269.out 0).trans rfl; have hcz15_1 : w13.cell? ⟨gb269, 1, none⟩ = some (.int .i64 a1_1) := (blk_cell BK269.out 1).trans rfl; have hcz15_2 : w13.cell? ⟨gb269, 2, none⟩ = some (.int .i64 a1_2) := (blk_cell BK269.out 2).trans rfl; have hcz15_3 : w13.cell? ⟨gb269, 3, none⟩ = some (.int .i64 a1_3) := (blk_cell BK269.out 3).trans rfl; have hfz15_0 := blk_frozen BK269.out 0; have hfz15_1 := blk_frozen BK269.out 1; have hfz15_2 := blk_frozen BK269.out 2; have hfz15_3 := blk_frozen BK269.out 3) | (go_at_call 153; (with_reducible refine (impl_BoxOk.calls a1_0 a1_1 a1_2 a1_3 t272 _ A9.out).mono ?_); rintro e w16 ⟨rfl, hb⟩; replace BK268 := kB (g := gb268) hb; replace BK269 := kB (g := gb269) hb; replace BK270 := kB (g := gb270) hb; replace HB := hB hb; (try clear hb); (try clear hb2); (try clear hk); (try clear hi)))
   go_meet
   case rel => exact ⟨_, (!t272), fS, H', ⟨by first | omega | exact Nat.le_refl _⟩, ⟨kS⟩, ⟨kS⟩, ⟨kS⟩, ⟨bS⟩⟩
  ·obtain rfl := Bool.eq_false_iff.mpr c8
   rw [if_neg nF] at H
   have H' := Aside0.mk H
   clear H
   have hnb17 := NB268_269.out
   have hnc17 := NB269_268.out
   have hnb18 := NB268_270.out
   have hnc18 := NB270_268.out
   have hcz19_0 : w6.cell? ⟨gb268, 0, none⟩ = some (.int .i64 a0_0) := (blk_cell BK268.out 0).trans rfl
   have hcz19_1 : w6.cell? ⟨gb268, 1, none⟩ = some (.int .i64 a0_1) := (blk_cell BK268.out 1).trans rfl
   have hcz19_2 : w6.cell? ⟨gb268, 2, none⟩ = some (.int .i64 a0_2) := (blk_cell BK268.out 2).trans rfl
   have hcz19_3 : w6.cell? ⟨gb268, 3, none⟩ = some (.int .i64 a0_3) := (blk_cell BK268.out 3).trans rfl
   have hfz19_0 := blk_frozen BK268.out 0
   have hfz19_1 := blk_frozen BK268.out 1
   have hfz19_2 := blk_frozen BK268.out 2
   have hfz19_3 := blk_frozen BK268.out 3
   go_wp2_with (first | ((with_reducible refine gC 153 ?_); refine cL (some 7) Try.func153 #[.agg #[.int .i64 a0_0, .int .i64 a0_1, .int .i64 a0_2, .int .i64 a0_3]] ?_; (with_reducible refine (impl_BoxOk.calls a0_0 a0_1 a0_2 a0_3 _ _ A7.out).mono ?_); rintro e w20 ⟨rfl, hb⟩; refine ⟨_, rfl, ?_⟩; replace BK268 := kB (g := gb268) hb; replace BK269 := kB (g := gb269) hb; replace BK270 := kB (g := gb270) hb; replace HB := hB hb; (try clear hb); (try clear hb2); (try clear hk); (try clear hi)))
   go_meet
   case rel => exact ⟨_, (true), fS, H', ⟨by first | omega | exact Nat.le_refl _⟩, ⟨kS⟩, ⟨kS⟩, ⟨kS⟩, ⟨bS⟩⟩
 case rest =>
  clear HC3
  try clear c1
  try clear p2
  try clear c8
  try clear c10
  try clear c11
  try clear c14
  try clear c15
  try clear c17
  try clear c18
  try clear hcz12_0
  try clear hcz12_1
  try clear hcz12_2
  try clear hcz12_3
  try clear hcz15_0
  try clear hcz15_1
  try clear hcz15_2
  try clear hcz15_3
  try clear hcz19_0
  try clear hcz19_1
  try clear hcz19_2
  try clear hcz19_3
  try clear hfz12_0
  try clear hfz12_1
  try clear hfz12_2
  try clear hfz12_3
  try clear hfz15_0
  try clear hfz15_1
  try clear hfz15_2
  try clear hfz15_3
  try clear hfz19_0
  try clear hfz19_1
  try clear hfz19_2
  try clear hfz19_3
  obtain ⟨kq, x13_2, rfl, HA, HJ2, BK268, BK269, BK270, HB⟩ := hcut
  cases kq with
  | zero => exact absurd HA.out (by simp [impl_MeetBox.j0])
  | succ kj2 =>
   have H := HA.out
   clear HA
   simp only [impl_MeetBox.j0] at H
   by_cases c21 : x13_2 = true
   ·subst c21
    rw [if_pos rfl] at H
    obtain ⟨rfl, rfl, rfl, rfl⟩ := sI4 H
    have hnb22 := NB270_268.out
    have hnc22 := NB268_270.out
    have hnb23 := NB270_269.out
    have hnc23 := NB269_270.out
    have hz24 := cz4 BK270
    go_wp2
    refine bodyPost_ret (results_cell_row rfl _ _ gb270 39 #[.int .i64 0, .int .i64 0, .int .i64 0, .int .i64 0] (0, 0) _ rfl kS Try.underlying39 rfl (by kernel_rfl)) rfl ?_
    exact ⟨eS, bS⟩
   ·obtain rfl := Bool.eq_false_iff.mpr c21
    rw [if_neg nF] at H
    obtain ⟨ji25, hji25⟩ : ∃ j_ : Int, (mx a0_0 a1_0) = j_ := ⟨_, rfl⟩
    replace H : (if (ji25) ≥ (mn a0_2 a1_2) then (some (0, 0, 0, 0)) else (if (mx a0_1 a1_1) ≥ (mn a0_3 a1_3) then (some (0, 0, 0, 0)) else (some (ji25, mx a0_1 a1_1, mn a0_2 a1_2, mn a0_3 a1_3)))) = some (r1, r2, r3, r4) := by first | (rw [hji25] at H; exact H) | (simp only [hji25] at H ⊢; exact H)
    have hji25_ : (if a0_0 < a1_0 then a1_0 else a0_0) = ji25 := hji25
    obtain ⟨ji26, hji26⟩ : ∃ j_ : Int, (mx a0_1 a1_1) = j_ := ⟨_, rfl⟩
    replace H : (if (ji25) ≥ (mn a0_2 a1_2) then (some (0, 0, 0, 0)) else (if (ji26) ≥ (mn a0_3 a1_3) then (some (0, 0, 0, 0)) else (some (ji25, ji26, mn a0_2 a1_2, mn a0_3 a1_3)))) = some (r1, r2, r3, r4) := by first | (rw [hji26] at H; exact H) | (simp only [hji26] at H ⊢; exact H)
    have hji26_ : (if a0_1 < a1_1 then a1_1 else a0_1) = ji26 := hji26
    obtain ⟨ji27, hji27⟩ : ∃ j_ : Int, (mn a0_2 a1_2) = j_ := ⟨_, rfl⟩
    replace H : (if (ji25) ≥ (ji27) then (some (0, 0, 0, 0)) else (if (ji26) ≥ (mn a0_3 a1_3) then (some (0, 0, 0, 0)) else (some (ji25, ji26, ji27, mn a0_3 a1_3)))) = some (r1, r2, r3, r4) := by first | (rw [hji27] at H; exact H) | (simp only [hji27] at H ⊢; exact H)
    have hji27_ : (if a1_2 < a0_2 then a1_2 else a0_2) = ji27 := hji27
    obtain ⟨ji28, hji28⟩ : ∃ j_ : Int, (mn a0_3 a1_3) = j_ := ⟨_, rfl⟩
    replace H : (if (ji25) ≥ (ji27) then (some (0, 0, 0, 0)) else (if (ji26) ≥ (ji28) then (some (0, 0, 0, 0)) else (some (ji25, ji26, ji27, ji28)))) = some (r1, r2, r3, r4) := by first | (rw [hji28] at H; exact H) | (simp only [hji28] at H ⊢; exact H)
    have hji28_ : (if a1_3 < a0_3 then a1_3 else a0_3) = ji28 := hji28
    by_cases c29 : (ji25) ≥ (ji27)
    ·rw [if_pos c29] at H
     have c29b0 : decide ((ji27) ≤ (ji25)) = true := decide_eq_true c29
     clear c29
     obtain ⟨rfl, rfl, rfl, rfl⟩ := sI4 H
     have hnb30 := NB268_269.out
     have hnc30 := NB269_268.out
     have hnb31 := NB268_270.out
     have hnc31 := NB270_268.out
     have hz32 := cz4 BK268
     have hnb33 := NB269_270.out
     have hnc33 := NB270_269.out
     have hz34 := cz4 BK269
     go_wp2_with (first | ((with_reducible refine gD 5 ?_); refine bxE #[.int .i64 0, .int .i64 0, .int .i64 0, .int .i64 0] 39 ?_; intro gb273 hg w35 BK273 hb; have GW273 := gE hg; have GE273 := gE hg; have NB268_273 := nL (g := gb268) hg; have NB273_268 := nG (g := gb268) hg; have NB269_273 := nL (g := gb269) hg; have NB273_269 := nG (g := gb269) hg; have NB270_273 := nL (g := gb270) hg; have NB273_270 := nG (g := gb270) hg; replace BK268 := kB (g := gb268) hb; replace BK269 := kB (g := gb269) hb; replace BK270 := kB (g := gb270) hb; replace HB := hB hb; clear hb hg; have hnb36 := NB273_268.out; have hnc36 := NB268_273.out; have hnb37 := NB273_269.out; have hnc37 := NB269_273.out; have hnb38 := NB273_270.out; have hnc38 := NB270_273.out; have hz39 := cz4 BK273; have hz40 := cz4 BK270))
     refine bodyPost_ret (results_cell_row rfl _ _ gb270 39 #[.int .i64 0, .int .i64 0, .int .i64 0, .int .i64 0] (0, 0) _ rfl kS Try.underlying39 rfl (by kernel_rfl)) rfl ?_
     exact ⟨by first | rfl | (simp [errW_none, errW_some] <;> rfl) | (simp only [← hji25, ← hji26, ← hji27, ← hji28]; first | rfl | (simp [errW_none, errW_some] <;> rfl)) | (simp [*, errW_none, errW_some] <;> rfl), bS⟩
    ·rw [if_neg c29] at H
     have c29b0 : decide ((ji27) ≤ (ji25)) = false := decide_eq_false c29
     clear c29
     by_cases c41 : (ji26) ≥ (ji28)
     ·rw [if_pos c41] at H
      have c41b0 : decide ((ji28) ≤ (ji26)) = true := decide_eq_true c41
      clear c41
      obtain ⟨rfl, rfl, rfl, rfl⟩ := sI4 H
      have hnb42 := NB268_269.out
      have hnc42 := NB269_268.out
      have hnb43 := NB268_270.out
      have hnc43 := NB270_268.out
      have hz44 := cz4 BK268
      have hnb45 := NB269_270.out
      have hnc45 := NB270_269.out
      have hz46 := cz4 BK269
      go_wp2_with (first | ((with_reducible refine gD 5 ?_); refine bxE #[.int .i64 0, .int .i64 0, .int .i64 0, .int .i64 0] 39 ?_; intro gb273 hg w47 BK273 hb; have GW273 := gE hg; have GE273 := gE hg; have NB268_273 := nL (g := gb268) hg; have NB273_268 := nG (g := gb268) hg; have NB269_273 := nL (g := gb269) hg; have NB273_269 := nG (g := gb269) hg; have NB270_273 := nL (g := gb270) hg; have NB273_270 := nG (g := gb270) hg; replace BK268 := kB (g := gb268) hb; replace BK269 := kB (g := gb269) hb; replace BK270 := kB (g := gb270) hb; replace HB := hB hb; clear hb hg; have hnb48 := NB273_268.out; have hnc48 := NB268_273.out; have hnb49 := NB273_269.out; have hnc49 := NB269_273.out; have hnb50 := NB273_270.out; have hnc50 := NB270_273.out; have hz51 := cz4 BK273; have hz52 := cz4 BK270))
      refine bodyPost_ret (results_cell_row rfl _ _ gb270 39 #[.int .i64 0, .int .i64 0, .int .i64 0, .int .i64 0] (0, 0) _ rfl kS Try.underlying39 rfl (by kernel_rfl)) rfl ?_
      exact ⟨by first | rfl | (simp [errW_none, errW_some] <;> rfl) | (simp only [← hji25, ← hji26, ← hji27, ← hji28]; first | rfl | (simp [errW_none, errW_some] <;> rfl)) | (simp [*, errW_none, errW_some] <;> rfl), bS⟩
     ·rw [if_neg c41] at H
      have c41b0 : decide ((ji28) ≤ (ji26)) = false := decide_eq_false c41
      clear c41
      obtain ⟨rfl, rfl, rfl, rfl⟩ := sI4 H
      have hnb53 := NB268_269.out
      have hnc53 := NB269_268.out
      have hnb54 := NB268_270.out
      have hnc54 := NB270_268.out
      have hz55 := cz4 BK268
      have hnb56 := NB269_270.out
      have hnc56 := NB270_269.out
      have hz57 := cz4 BK269
      go_wp2_with (first | ((with_reducible refine gD 5 ?_); refine bxE #[.int .i64 0, .int .i64 0, .int .i64 0, .int .i64 0] 39 ?_; intro gb273 hg w58 BK273 hb; have GW273 := gE hg; have GE273 := gE hg; have NB268_273 := nL (g := gb268) hg; have NB273_268 := nG (g := gb268) hg; have NB269_273 := nL (g := gb269) hg; have NB273_269 := nG (g := gb269) hg; have NB270_273 := nL (g := gb270) hg; have NB273_270 := nG (g := gb270) hg; replace BK268 := kB (g := gb268) hb; replace BK269 := kB (g := gb269) hb; replace BK270 := kB (g := gb270) hb; replace HB := hB hb; clear hb hg; have hnb59 := NB273_268.out; have hnc59 := NB268_273.out; have hnb60 := NB273_269.out; have hnc60 := NB269_273.out; have hnb61 := NB273_270.out; have hnc61 := NB270_273.out; have hz62 := cz4 BK273; have hz63 := cz4 BK270))
      refine bodyPost_ret (results_cell_row rfl _ _ gb270 39 #[.int .i64 ji25, .int .i64 ji26, .int .i64 ji27, .int .i64 ji28] (0, 0) _ rfl kS Try.underlying39 rfl (by kernel_rfl)) rfl ?_
      exact ⟨by first | rfl | (simp [errW_none, errW_some] <;> rfl) | (simp only [← hji25, ← hji26, ← hji27, ← hji28]; first | rfl | (simp [errW_none, errW_some] <;> rfl)) | (simp [*, errW_none, errW_some] <;> rfl), bS⟩

end Go.Proofs.Ytimpejidlnjhlaa.QFnPageDots
