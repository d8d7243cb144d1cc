-- Made out of the translation by a program of this session (a changed copy of the print). Not trusted: Lean checks it.
import Derived.Test.YtimpejidlnjhlaaQFnEstimatesx0
import Derived.Test.YtimpejidlnjhlaaQFnEstimatesx2
import Derived.Test.YtimpejidlnjhlaaQFnEstimatesx3
import Derived.Test.YtimpejidlnjhlaaQFnEstimatesx4
namespace Go.Proofs.Ytimpejidlnjhlaa.QFnEstimates
open Go.RowKit Go.Proofs.YtimpejidlnjhlaaW.PrintWords Go.Proofs.YtimpejidlnjhlaaW.PrintLast Go.Proofs.YtimpejidlnjhlaaW.PrintMore
attribute [local go_sem] max2_int min2_int max_two min_two max_three min_three max_four min_four   -- for this text's walks alone
set_option linter.unusedVariables false
set_option linter.unusedSimpArgs false
set_option maxHeartbeats 8000000
set_option maxRecDepth 100000

/-! ### impl_ObjectBox: function 100 -/
def impl_ObjectBox.f (k : Nat) (l0_0 : List (S166)) (a0_1 : Int) (a0_2 : Int) (a0_3 : Int) (a0_4 : Int) (a0_5 : Int) : Option (Int × Int × Int × Int) := (impl_ObjectOk.f k l0_0 a0_1 a0_2 a0_3 a0_4 a0_5).bind fun t314 => (if t314 = true then ((impl_BoxOf.f k l0_0).bind fun bt315 => ((impl_MeetBox.f k bt315.1 bt315.2.1 bt315.2.2.1 bt315.2.2.2 a0_2 a0_3 a0_4 a0_5).bind fun bt319 => ((impl_pageBox.f).bind fun bt323 => ((impl_MeetBox.f k bt319.1 bt319.2.1 bt319.2.2.1 bt319.2.2.2 bt323.1 bt323.2.1 bt323.2.2.1 bt323.2.2.2).bind fun bt327 => (some (bt327.1, bt327.2.1, bt327.2.2.1, bt327.2.2.2)))))) else (some (0, 0, 0, 0)))
def impl_ObjectBox.T3 : Bool × List (List Nat × List Nat) := (true, [([], []), ([0], [0]), ([1], [1]), ([], []), ([3], [3]), ([2, 4, 2], [2, 4]), ([5], []), ([5, 6, 6], [5, 6]), ([7, 7, 0, 1, 2, 3, 4, 5, 6, 7], [7])])
def impl_ObjectBox.B3 : List Nat := [0, 1, 3, 0, 8, 31, 63, 127, 255]
theorem impl_ObjectBox.tab3 : rtab .any (opsOf Try.f100 3) = impl_ObjectBox.T3 := by kernel_rfl
theorem impl_ObjectBox.bits3 : waitsOk impl_ObjectBox.T3.2 impl_ObjectBox.B3 = true := by kernel_rfl
theorem impl_ObjectBox.calls (k : Nat) (A0_0 : Option Addr) (c0_0 : Nat) (l0_0 : List (S166)) (a0_1 : Int) (a0_2 : Int) (a0_3 : Int) (a0_4 : Int) (a0_5 : Int) (r1 : Int) (r2 : Int) (r3 : Int) (r4 : Int) (w : World) (hr0_0 : Kd.C k166 w A0_0 l0_0.length l0_0) (hc0_0 : l0_0.length ≤ c0_0) (h : impl_ObjectBox.f k l0_0 a0_1 a0_2 a0_3 a0_4 a0_5 = some (r1, r2, r3, r4)) :
  Calls Try.prog 100 #[.agg #[.slice A0_0 l0_0.length c0_0, .int .i64 a0_1, .int .i64 a0_2, .int .i64 a0_3, .int .i64 a0_4, .int .i64 a0_5]] w fun e w' => e = .returned (.agg #[.int .i64 r1, .int .i64 r2, .int .i64 r3, .int .i64 r4]) ∧ Below w.heap.size w w' := by
 have hu41 := Try.underlying41
 have hu39 := Try.underlying39
 have HR0_0 := Aside0.mk hr0_0
 have HC0_0 := Aside0.mk hc0_0
 clear hr0_0 hc0_0
 have HB := Aside0.mk (Below.refl w.heap.size w)
 have H : ((impl_ObjectOk.f k l0_0 a0_1 a0_2 a0_3 a0_4 a0_5).bind fun t314 => (if t314 = true then ((impl_BoxOf.f k l0_0).bind fun bt315 => ((impl_MeetBox.f k bt315.1 bt315.2.1 bt315.2.2.1 bt315.2.2.2 a0_2 a0_3 a0_4 a0_5).bind fun bt319 => ((impl_pageBox.f).bind fun bt323 => ((impl_MeetBox.f k bt319.1 bt319.2.1 bt319.2.2.1 bt319.2.2.2 bt323.1 bt323.2.1 bt323.2.2.1 bt323.2.2.2).bind fun bt327 => (some (bt327.1, bt327.2.1, bt327.2.2.1, bt327.2.2.2)))))) else (some (0, 0, 0, 0)))) = some (r1, r2, r3, r4) := h
 clear h
 replace H := bN H
 obtain ⟨t314, A2, H⟩ := H
 by_cases c3 : t314 = true
 ·subst c3
  rw [if_pos rfl] at H
  replace H := bN H
  obtain ⟨⟨t315, t316, t317, t318⟩, A4, H⟩ := H
  replace H := bN H
  obtain ⟨⟨t319, t320, t321, t322⟩, A5, H⟩ := H
  replace H := bN H
  obtain ⟨⟨t323, t324, t325, t326⟩, A6, H⟩ := H
  replace H := bN H
  obtain ⟨⟨t327, t328, t329, t330⟩, A7, H⟩ := H
  simp only [Option.some.injEq, Prod.mk.injEq] at H
  obtain ⟨rfl, rfl, rfl, rfl⟩ := H
  go_enter Try.func100, Try.ntmps100
  try go_wp2_with (first | ((with_reducible refine gD 1 ?_); refine bxE #[.slice A0_0 l0_0.length c0_0, .int .i64 a0_1, .int .i64 a0_2, .int .i64 a0_3, .int .i64 a0_4, .int .i64 a0_5] 41 ?_; intro gb312 hg w8 BK312 hb; have GW312 := gE hg; have GE312 := gE hg; replace HB := hB hb; clear hb hg) | ((with_reducible refine gD 2 ?_); refine bxE #[.int .i64 0, .int .i64 0, .int .i64 0, .int .i64 0] 39 ?_; intro gb313 hg w9 BK313 hb; have GW313 := gE hg; have GE313 := gE hg; have NB312_313 := nL (g := gb312) hg; have NB313_312 := nG (g := gb312) hg; replace BK312 := kB (g := gb312) hb; replace HB := hB hb; clear hb hg; have hnb10 := NB312_313.out; have hnc10 := NB313_312.out; have hz11 := cz6 BK312) | ((with_reducible refine gC 107 ?_); refine cL (some 4) Try.func107 #[.agg #[.slice A0_0 l0_0.length c0_0, .int .i64 a0_1, .int .i64 a0_2, .int .i64 a0_3, .int .i64 a0_4, .int .i64 a0_5]] ?_; (with_reducible refine (impl_ObjectOk.calls k _ _ l0_0 a0_1 a0_2 a0_3 a0_4 a0_5 _ _ ?side1 ?side2 A2.out).mono ?_); (case side1 => exact cS (Kd.C_below HR0_0.out HB.out)); (case side2 => exact HC0_0.out); rintro e w12 ⟨rfl, hb⟩; refine ⟨_, rfl, ?_⟩; replace BK312 := kB (g := gb312) hb; replace BK313 := kB (g := gb313) hb; replace HB := hB hb; (try clear hb); (try clear hb2); (try clear hk); (try clear hi)))
  replace BK312 := Aside0.mk (blk_drew BK312.out)
  replace BK313 := Aside0.mk (blk_drew BK313.out)
  replace HB := Aside0.mk (below_drew1 HB.out)
  refine start_ (n := 9) (S := fun w' => w'.cell? ⟨gb312, 0, none⟩ = some (.slice A0_0 l0_0.length c0_0) ∧ w'.cell? ⟨gb312, 1, none⟩ = some (.int .i64 a0_1) ∧ w'.cell? ⟨gb312, 2, none⟩ = some (.int .i64 a0_2) ∧ w'.cell? ⟨gb312, 3, none⟩ = some (.int .i64 a0_3) ∧ w'.cell? ⟨gb312, 4, none⟩ = some (.int .i64 a0_4) ∧ w'.cell? ⟨gb312, 5, none⟩ = some (.int .i64 a0_5)) (ds := []) #[false, false, false, false, false, false, false, false, false] (by kernel_rfl) rfl rfl ⟨(blk_cell BK312.out 0).trans rfl, (blk_cell BK312.out 1).trans rfl, (blk_cell BK312.out 2).trans rfl, (blk_cell BK312.out 3).trans rfl, (blk_cell BK312.out 4).trans rfl, (blk_cell BK312.out 5).trans rfl⟩ (fun hHeld => ?_); refine with_tabW impl_ObjectBox.tab3 impl_ObjectBox.bits3 (fun HT_ HW_ => ?_)
  generalize w12.drew = w13 at BK312 BK313 HB hHeld ⊢
  refine pU 0 (some 7) #[true, false, false, false, false, false, false, false, false] ?_
  refine pU 3 (some 10) #[true, false, false, true, false, false, false, false, false] ?_
  refine tK 1 (some 8) #[true, true, false, true, false, false, false, false, false] ?_
  refine tK 4 (some 11) #[true, true, false, true, true, false, false, false, false] ?_
  refine one_ (i := 2) (N := some 9) #[true, true, true, true, true, false, false, false, false] rfl rfl (one_of HT_.out (by kernel_rfl)) (by decide) (fun K hK => ?_)
  refine goes_ Try.func151 (by kernel_rfl) rfl #[.slice A0_0 l0_0.length c0_0] (by rfl) rfl rfl (by (try simp only [List.map_toArray, List.map_cons, List.map_nil]); first | done | rfl | (simp only [List.length_drop, List.length_take]; rfl)) ?_
  with_reducible refine (impl_BoxOf.calls k _ _ l0_0 t315 t316 t317 t318 _ ?side1 ?side2 A4.out).mono ?_
  (case side1 => exact cS (Kd.C_below HR0_0.out HB.out))
  (case side2 => exact HC0_0.out)
  rintro e w14 ⟨rfl, hb⟩
  refine ⟨_, rfl, ?_⟩
  replace BK312 := kB (g := gb312) hb
  replace BK313 := kB (g := gb313) hb
  replace HB := hB hb
  (try clear hb)
  (try clear hb2)
  (try clear hk)
  (try clear hi)
  refine hK.out _ _ ⟨(blk_cell BK312.out 0).trans rfl, (blk_cell BK312.out 1).trans rfl, (blk_cell BK312.out 2).trans rfl, (blk_cell BK312.out 3).trans rfl, (blk_cell BK312.out 4).trans rfl, (blk_cell BK312.out 5).trans rfl⟩ (fun hHeld => ?_)
  clear hK K
  refine norm_ (a' := ?_) ?_ ?_
  rotate_left
  ·show Act.put _ (some 9) _ = _
   simp only [Act.put, List.setIfInBounds_toArray, List.set_cons_zero, List.set_cons_succ, i64_w, i32_w]
   rfl
  refine one_ (i := 5) (N := some 12) #[true, true, true, true, true, true, false, false, false] rfl rfl (one_of HT_.out (by kernel_rfl)) (by decide) (fun K hK => ?_)
  refine goes_ Try.func150 (by kernel_rfl) rfl #[.agg #[.int .i64 t315, .int .i64 t316, .int .i64 t317, .int .i64 t318], .agg #[.int .i64 a0_2, .int .i64 a0_3, .int .i64 a0_4, .int .i64 a0_5]] (by rfl) rfl rfl (by (try simp only [List.map_toArray, List.map_cons, List.map_nil]); first | done | rfl | (simp only [List.length_drop, List.length_take]; rfl)) ?_
  with_reducible refine (impl_MeetBox.calls k t315 t316 t317 t318 a0_2 a0_3 a0_4 a0_5 t319 t320 t321 t322 _ A5.out).mono ?_
  rintro e w15 ⟨rfl, hb⟩
  refine ⟨_, rfl, ?_⟩
  replace BK312 := kB (g := gb312) hb
  replace BK313 := kB (g := gb313) hb
  replace HB := hB hb
  (try clear hb)
  (try clear hb2)
  (try clear hk)
  (try clear hi)
  refine hK.out _ _ ⟨(blk_cell BK312.out 0).trans rfl, (blk_cell BK312.out 1).trans rfl, (blk_cell BK312.out 2).trans rfl, (blk_cell BK312.out 3).trans rfl, (blk_cell BK312.out 4).trans rfl, (blk_cell BK312.out 5).trans rfl⟩ (fun hHeld => ?_)
  clear hK K
  refine norm_ (a' := ?_) ?_ ?_
  rotate_left
  ·show Act.put _ (some 12) _ = _
   simp only [Act.put, List.setIfInBounds_toArray, List.set_cons_zero, List.set_cons_succ, i64_w, i32_w]
   rfl
  refine one_ (i := 6) (N := some 13) #[true, true, true, true, true, true, true, false, false] rfl rfl (one_of HT_.out (by kernel_rfl)) (by decide) (fun K hK => ?_)
  refine goes_ Try.func152 (by kernel_rfl) rfl #[] (by rfl) rfl rfl (by (try simp only [List.map_toArray, List.map_cons, List.map_nil]); first | done | rfl | (simp only [List.length_drop, List.length_take]; rfl)) ?_
  with_reducible refine (impl_pageBox.calls  t323 t324 t325 t326 _ A6.out).mono ?_
  rintro e w16 ⟨rfl, hb⟩
  refine ⟨_, rfl, ?_⟩
  replace BK312 := kB (g := gb312) hb
  replace BK313 := kB (g := gb313) hb
  replace HB := hB hb
  (try clear hb)
  (try clear hb2)
  (try clear hk)
  (try clear hi)
  refine hK.out _ _ ⟨(blk_cell BK312.out 0).trans rfl, (blk_cell BK312.out 1).trans rfl, (blk_cell BK312.out 2).trans rfl, (blk_cell BK312.out 3).trans rfl, (blk_cell BK312.out 4).trans rfl, (blk_cell BK312.out 5).trans rfl⟩ (fun hHeld => ?_)
  clear hK K
  refine norm_ (a' := ?_) ?_ ?_
  rotate_left
  ·show Act.put _ (some 13) _ = _
   simp only [Act.put, List.setIfInBounds_toArray, List.set_cons_zero, List.set_cons_succ, i64_w, i32_w]
   rfl
  refine one_ (i := 7) (N := some 14) #[true, true, true, true, true, true, true, true, false] rfl rfl (one_of HT_.out (by kernel_rfl)) (by decide) (fun K hK => ?_)
  refine goes_ Try.func150 (by kernel_rfl) rfl #[.agg #[.int .i64 t319, .int .i64 t320, .int .i64 t321, .int .i64 t322], .agg #[.int .i64 t323, .int .i64 t324, .int .i64 t325, .int .i64 t326]] (by rfl) rfl rfl (by (try simp only [List.map_toArray, List.map_cons, List.map_nil]); first | done | rfl | (simp only [List.length_drop, List.length_take]; rfl)) ?_
  with_reducible refine (impl_MeetBox.calls k t319 t320 t321 t322 t323 t324 t325 t326 t327 t328 t329 t330 _ A7.out).mono ?_
  rintro e w17 ⟨rfl, hb⟩
  refine ⟨_, rfl, ?_⟩
  replace BK312 := kB (g := gb312) hb
  replace BK313 := kB (g := gb313) hb
  replace HB := hB hb
  (try clear hb)
  (try clear hb2)
  (try clear hk)
  (try clear hi)
  refine hK.out _ _ ⟨(blk_cell BK312.out 0).trans rfl, (blk_cell BK312.out 1).trans rfl, (blk_cell BK312.out 2).trans rfl, (blk_cell BK312.out 3).trans rfl, (blk_cell BK312.out 4).trans rfl, (blk_cell BK312.out 5).trans rfl⟩ (fun hHeld => ?_)
  clear hK K
  refine norm_ (a' := ?_) ?_ ?_
  rotate_left
  ·show Act.put _ (some 14) _ = _
   simp only [Act.put, List.setIfInBounds_toArray, List.set_cons_zero, List.set_cons_succ, i64_w, i32_w]
   rfl
  refine one_ (i := 8) (N := none) #[true, true, true, true, true, true, true, true, true] rfl rfl (one_of HT_.out (by kernel_rfl)) (by decide) (fun K hK => ?_)
  have hs18 : w17.cell? ⟨gb313, 0, none⟩ = some (.int .i64 0) := (blk_cell BK313.out 0).trans rfl
  have hfs18 := blk_frozen BK313.out 0
  have hns18_0 := NB312_313.out
  have hms18_0 := NB313_312.out
  have hs19 : w17.cell? ⟨gb313, 1, none⟩ = some (.int .i64 0) := (blk_cell BK313.out 1).trans rfl
  have hfs19 := blk_frozen BK313.out 1
  have hns19_0 := NB312_313.out
  have hms19_0 := NB313_312.out
  have hs20 : w17.cell? ⟨gb313, 2, none⟩ = some (.int .i64 0) := (blk_cell BK313.out 2).trans rfl
  have hfs20 := blk_frozen BK313.out 2
  have hns20_0 := NB312_313.out
  have hms20_0 := NB313_312.out
  have hs21 : w17.cell? ⟨gb313, 3, none⟩ = some (.int .i64 0) := (blk_cell BK313.out 3).trans rfl
  have hfs21 := blk_frozen BK313.out 3
  have hns21_0 := NB312_313.out
  have hms21_0 := NB313_312.out
  refine skip_ (w1 := ?_) (by rfl) rfl ?_ ?_
  rotate_left
  ·go_simp
   rfl
  refine hK.out _ _ ⟨((cell_far (p := ⟨gb313, _, none⟩) NB312_313.out _).trans (((cell_far (p := ⟨gb313, _, none⟩) NB312_313.out _).trans (((cell_far (p := ⟨gb313, _, none⟩) NB312_313.out _).trans (((cell_far (p := ⟨gb313, _, none⟩) NB312_313.out _).trans (hHeld.1)))))))), ((cell_far (p := ⟨gb313, _, none⟩) NB312_313.out _).trans (((cell_far (p := ⟨gb313, _, none⟩) NB312_313.out _).trans (((cell_far (p := ⟨gb313, _, none⟩) NB312_313.out _).trans (((cell_far (p := ⟨gb313, _, none⟩) NB312_313.out _).trans (hHeld.2.1)))))))), ((cell_far (p := ⟨gb313, _, none⟩) NB312_313.out _).trans (((cell_far (p := ⟨gb313, _, none⟩) NB312_313.out _).trans (((cell_far (p := ⟨gb313, _, none⟩) NB312_313.out _).trans (((cell_far (p := ⟨gb313, _, none⟩) NB312_313.out _).trans (hHeld.2.2.1)))))))), ((cell_far (p := ⟨gb313, _, none⟩) NB312_313.out _).trans (((cell_far (p := ⟨gb313, _, none⟩) NB312_313.out _).trans (((cell_far (p := ⟨gb313, _, none⟩) NB312_313.out _).trans (((cell_far (p := ⟨gb313, _, none⟩) NB312_313.out _).trans (hHeld.2.2.2.1)))))))), ((cell_far (p := ⟨gb313, _, none⟩) NB312_313.out _).trans (((cell_far (p := ⟨gb313, _, none⟩) NB312_313.out _).trans (((cell_far (p := ⟨gb313, _, none⟩) NB312_313.out _).trans (((cell_far (p := ⟨gb313, _, none⟩) NB312_313.out _).trans (hHeld.2.2.2.2.1)))))))), ((cell_far (p := ⟨gb313, _, none⟩) NB312_313.out _).trans (((cell_far (p := ⟨gb313, _, none⟩) NB312_313.out _).trans (((cell_far (p := ⟨gb313, _, none⟩) NB312_313.out _).trans (((cell_far (p := ⟨gb313, _, none⟩) NB312_313.out _).trans (hHeld.2.2.2.2.2))))))))⟩ (fun hHeld => ?_)
  clear hK K
  refine done_ (done_of HT_.out (by kernel_rfl)) ?_
  try go_wp2
  refine bodyPost_ret (results_cell_row rfl _ _ gb313 39 #[.int .i64 t327, .int .i64 t328, .int .i64 t329, .int .i64 t330] (0, 0) _ rfl kS Try.underlying39 rfl (by kernel_rfl)) rfl ?_
  exact ⟨eS, bS⟩
 ·obtain rfl := Bool.eq_false_iff.mpr c3
  rw [if_neg nF] at H
  simp only [Option.some.injEq, Prod.mk.injEq] at H
  obtain ⟨rfl, rfl, rfl, rfl⟩ := H
  go_enter Try.func100, Try.ntmps100
  go_wp2_with (first | ((with_reducible refine gD 1 ?_); refine bxE #[.slice A0_0 l0_0.length c0_0, .int .i64 a0_1, .int .i64 a0_2, .int .i64 a0_3, .int .i64 a0_4, .int .i64 a0_5] 41 ?_; intro gb312 hg w22 BK312 hb; have GW312 := gE hg; have GE312 := gE hg; replace HB := hB hb; clear hb hg) | ((with_reducible refine gD 2 ?_); refine bxE #[.int .i64 0, .int .i64 0, .int .i64 0, .int .i64 0] 39 ?_; intro gb313 hg w23 BK313 hb; have GW313 := gE hg; have GE313 := gE hg; have NB312_313 := nL (g := gb312) hg; have NB313_312 := nG (g := gb312) hg; replace BK312 := kB (g := gb312) hb; replace HB := hB hb; clear hb hg; have hnb24 := NB312_313.out; have hnc24 := NB313_312.out; have hz25 := cz6 BK312) | ((with_reducible refine gC 107 ?_); refine cL (some 4) Try.func107 #[.agg #[.slice A0_0 l0_0.length c0_0, .int .i64 a0_1, .int .i64 a0_2, .int .i64 a0_3, .int .i64 a0_4, .int .i64 a0_5]] ?_; (with_reducible refine (impl_ObjectOk.calls k _ _ l0_0 a0_1 a0_2 a0_3 a0_4 a0_5 _ _ ?side1 ?side2 A2.out).mono ?_); (case side1 => exact cS (Kd.C_below HR0_0.out HB.out)); (case side2 => exact HC0_0.out); rintro e w26 ⟨rfl, hb⟩; refine ⟨_, rfl, ?_⟩; replace BK312 := kB (g := gb312) hb; replace BK313 := kB (g := gb313) hb; replace HB := hB hb; (try clear hb); (try clear hb2); (try clear hk); (try clear hi); have hz27 := cz4 BK313))
  refine bodyPost_ret (results_cell_row rfl _ _ gb313 39 #[.int .i64 0, .int .i64 0, .int .i64 0, .int .i64 0] (0, 0) _ rfl kS Try.underlying39 rfl (by kernel_rfl)) rfl ?_
  exact ⟨eS, bS⟩

/-! ### impl_CountDots: function 102 -/
def impl_CountDots.f (a0_0 : Int) (a0_1 : Int) (a0_2 : Int) (a0_3 : Int) : Option (Int) := (impl_BoxOk.f a0_0 a0_1 a0_2 a0_3).bind fun t332 => (if t332 = true then (some (wrap64 ((wrap64 (a0_2 - a0_0)) * (wrap64 (a0_3 - a0_1))))) else (some 0))
theorem impl_CountDots.calls (a0_0 : Int) (a0_1 : Int) (a0_2 : Int) (a0_3 : Int) (r : Int) (w : World) (h : impl_CountDots.f a0_0 a0_1 a0_2 a0_3 = some r) :
  Calls Try.prog 102 #[.agg #[.int .i64 a0_0, .int .i64 a0_1, .int .i64 a0_2, .int .i64 a0_3]] w fun e w' => e = .returned (.int .i64 r) ∧ Below w.heap.size w w' := by
 have hu39 := Try.underlying39
 have HB := Aside0.mk (Below.refl w.heap.size w)
 have H : ((impl_BoxOk.f a0_0 a0_1 a0_2 a0_3).bind fun t332 => (if t332 = true then (some (wrap64 ((wrap64 (a0_2 - a0_0)) * (wrap64 (a0_3 - a0_1))))) else (some 0))) = some r := h
 clear h
 replace H := bN H
 obtain ⟨t332, A2, H⟩ := H
 by_cases c3 : t332 = true
 ·subst c3
  rw [if_pos rfl] at H
  obtain rfl := Option.some.inj H
  simp only [Option.some.injEq, Prod.mk.injEq] at H
  obtain ⟨rfl⟩ := H
  go_enter Try.func102, Try.ntmps102
  go_wp2_with (first | ((with_reducible refine gD 1 ?_); refine bxE #[.int .i64 a0_0, .int .i64 a0_1, .int .i64 a0_2, .int .i64 a0_3] 39 ?_; intro gb331 hg w4 BK331 hb; have GW331 := gE hg; have GE331 := gE hg; replace HB := hB hb; clear hb hg; have hz5 := cz4 BK331) | ((with_reducible refine gC 153 ?_); refine cL (some 4) Try.func153 #[.agg #[.int .i64 a0_0, .int .i64 a0_1, .int .i64 a0_2, .int .i64 a0_3]] ?_; (with_reducible refine (impl_BoxOk.calls a0_0 a0_1 a0_2 a0_3 _ _ A2.out).mono ?_); rintro e w6 ⟨rfl, hb⟩; refine ⟨_, rfl, ?_⟩; replace BK331 := kB (g := gb331) hb; replace HB := hB hb; (try clear hb); (try clear hb2); (try clear hk); (try clear hi); have hz7 := cz4 BK331))
  go_ret
  exact ⟨eS, bS⟩
 ·obtain rfl := Bool.eq_false_iff.mpr c3
  rw [if_neg nF] at H
  obtain rfl := Option.some.inj H
  simp only [Option.some.injEq, Prod.mk.injEq] at H
  obtain ⟨rfl⟩ := H
  go_enter Try.func102, Try.ntmps102
  go_wp2_with (first | ((with_reducible refine gD 1 ?_); refine bxE #[.int .i64 a0_0, .int .i64 a0_1, .int .i64 a0_2, .int .i64 a0_3] 39 ?_; intro gb331 hg w8 BK331 hb; have GW331 := gE hg; have GE331 := gE hg; replace HB := hB hb; clear hb hg; have hz9 := cz4 BK331) | ((with_reducible refine gC 153 ?_); refine cL (some 4) Try.func153 #[.agg #[.int .i64 a0_0, .int .i64 a0_1, .int .i64 a0_2, .int .i64 a0_3]] ?_; (with_reducible refine (impl_BoxOk.calls a0_0 a0_1 a0_2 a0_3 _ _ A2.out).mono ?_); rintro e w10 ⟨rfl, hb⟩; refine ⟨_, rfl, ?_⟩; replace BK331 := kB (g := gb331) hb; replace HB := hB hb; (try clear hb); (try clear hb2); (try clear hk); (try clear hi)))
  go_ret
  exact ⟨eS, bS⟩

/-! ### impl_TouchesBand: function 32 -/
def impl_TouchesBand.j0 : Nat → Int → Int → Bool → List (S166) → Int → Int → Int → Int → Int → Option (Bool)
 | 0, _, _, _, _, _, _, _, _, _ => none
 | k + 1, x1, x2, x18, x334000, x334001, x334002, x334003, x334004, x334005 => if x18 = true then (some false) else ((impl_ObjectBox.f k x334000 x334001 x334002 x334003 x334004 x334005).bind fun bt337 => ((impl_CountDots.f bt337.1 bt337.2.1 bt337.2.2.1 bt337.2.2.2).bind fun t342 => (if t342 > 0 then (if bt337.2.1 < (wrap64 ((wrap64 (x2 * x1)) + x1)) then (some (decide (bt337.2.2.2 > (wrap64 (x2 * x1))))) else (some false)) else (some false))))
def impl_TouchesBand.f (k : Nat) (l0_0 : List (S166)) (a0_1 : Int) (a0_2 : Int) (a0_3 : Int) (a0_4 : Int) (a0_5 : Int) (a1 : Int) (a2 : Int) : Option (Bool) := (impl_IsHeight.f a1).bind fun t334 => (if t334 = true then ((impl_CountBands.f a1).bind fun t335 => ((impl_within.f a2 0 (wrap64 (t335 - 1))).bind fun t336 => (impl_TouchesBand.j0 k a1 a2 (!t336) l0_0 a0_1 a0_2 a0_3 a0_4 a0_5))) else (impl_TouchesBand.j0 k a1 a2 true l0_0 a0_1 a0_2 a0_3 a0_4 a0_5))
theorem impl_TouchesBand.calls (k : Nat) (A0_0 : Option Addr) (c0_0 : Nat) (l0_0 : List (S166)) (a0_1 : Int) (a0_2 : Int) (a0_3 : Int) (a0_4 : Int) (a0_5 : Int) (a1 : Int) (a2 : Int) (r : Bool) (w : World) (hr0_0 : Kd.C k166 w A0_0 l0_0.length l0_0) (hc0_0 : l0_0.length ≤ c0_0) (h : impl_TouchesBand.f k l0_0 a0_1 a0_2 a0_3 a0_4 a0_5 a1 a2 = some r) :
  Calls Try.prog 32 #[.agg #[.slice A0_0 l0_0.length c0_0, .int .i64 a0_1, .int .i64 a0_2, .int .i64 a0_3, .int .i64 a0_4, .int .i64 a0_5], .int .i64 a1, .int .i64 a2] w fun e w' => e = .returned (.bool r) ∧ Below w.heap.size w w' := by
 have hu41 := Try.underlying41
 have hu39 := Try.underlying39
 have HR0_0 := Aside0.mk hr0_0
 have HC0_0 := Aside0.mk hc0_0
 clear hr0_0 hc0_0
 have HB := Aside0.mk (Below.refl w.heap.size w)
 have H : ((impl_IsHeight.f a1).bind fun t334 => (if t334 = true then ((impl_CountBands.f a1).bind fun t335 => ((impl_within.f a2 0 (wrap64 (t335 - 1))).bind fun t336 => (impl_TouchesBand.j0 k a1 a2 (!t336) l0_0 a0_1 a0_2 a0_3 a0_4 a0_5))) else (impl_TouchesBand.j0 k a1 a2 true l0_0 a0_1 a0_2 a0_3 a0_4 a0_5))) = some r := h
 clear h
 have HC4 := Aside0.mk H
 clear H
 go_enter Try.func32, Try.ntmps32
 go_upto_region 1 with (first | ((with_reducible refine gD 3 ?_); refine bxE #[.slice A0_0 l0_0.length c0_0, .int .i64 a0_1, .int .i64 a0_2, .int .i64 a0_3, .int .i64 a0_4, .int .i64 a0_5] 41 ?_; intro gb333 hg w5 BK333 hb; have GW333 := gE hg; have GE333 := gE hg; replace HB := hB hb; clear hb hg))
 (try simp only [Act.put, List.setIfInBounds_toArray, List.set_cons_zero, List.set_cons_succ])
 go_cut [18] (fun v18 wc => ∃ (kq : Nat) (x18_3 : Bool), v18 = .bool x18_3 ∧ Aside0 (impl_TouchesBand.j0 kq a1 a2 x18_3 l0_0 a0_1 a0_2 a0_3 a0_4 a0_5 = some r) ∧ Aside0 (kq ≤ k) ∧ Aside0 (wc.heap[gb333]? = some (.cells #[(.slice A0_0 l0_0.length c0_0), .int .i64 a0_1, .int .i64 a0_2, .int .i64 a0_3, .int .i64 a0_4, .int .i64 a0_5] 41 (0, 0))) ∧ Aside0 (Below w.heap.size w wc))
 case first =>
  have H := HC4.out
  clear HC4
  replace H := bN H
  obtain ⟨t334, A6, H⟩ := H
  by_cases c7 : t334 = true
  ·subst c7
   rw [if_pos rfl] at H
   replace H := bN H
   obtain ⟨t335, A8, H⟩ := H
   replace H := bN H
   obtain ⟨t336, A9, H⟩ := H
   have H' := Aside0.mk H
   clear H
   go_wp2_with (first | ((with_reducible refine gC 97 ?_); refine cL (some 9) Try.func97 #[.int .i64 a1] ?_; (with_reducible refine (impl_IsHeight.calls a1 _ _ A6.out).mono ?_); rintro e w' ⟨rfl, ⟨nd, rfl⟩⟩; refine ⟨_, rfl, ?_⟩) | (go_at_call 29; (with_reducible refine (impl_CountBands.calls a1 t335 _ A8.out).mono ?_); rintro e w' ⟨rfl, ⟨nd, rfl⟩⟩) | (go_at_call 101; (with_reducible refine (impl_within.calls a2 0 (wrap64 (t335 - 1)) t336 _ A9.out).mono ?_); rintro e w' ⟨rfl, ⟨nd, rfl⟩⟩))
   go_meet
   case rel => exact ⟨_, (!t336), (by first | rfl | (simp; done) | (simp [*]; done)), H', ⟨by first | omega | exact Nat.le_refl _⟩, ⟨kS⟩, ⟨bS⟩⟩
  ·obtain rfl := Bool.eq_false_iff.mpr c7
   rw [if_neg nF] at H
   have H' := Aside0.mk H
   clear H
   go_wp2_with (first | ((with_reducible refine gC 97 ?_); refine cL (some 9) Try.func97 #[.int .i64 a1] ?_; (with_reducible refine (impl_IsHeight.calls a1 _ _ A6.out).mono ?_); rintro e w' ⟨rfl, ⟨nd, rfl⟩⟩; refine ⟨_, rfl, ?_⟩))
   go_meet
   case rel => exact ⟨_, (true), (by first | rfl | (simp; done) | (simp [*]; done)), H', ⟨by first | omega | exact Nat.le_refl _⟩, ⟨kS⟩, ⟨bS⟩⟩
 case rest =>
  clear HC4
  try clear p2
  try clear c3
  try clear p6
  try clear c7
  try clear c9
  obtain ⟨kq, x18_3, rfl, HA, HJ3, BK333, HB⟩ := hcut
  cases kq with
  | zero => exact absurd HA.out (by simp [impl_TouchesBand.j0])
  | succ kj3 =>
   have H := HA.out
   clear HA
   simp only [impl_TouchesBand.j0] at H
   by_cases c10 : x18_3 = true
   ·subst c10
    rw [if_pos rfl] at H
    obtain rfl := Option.some.inj H
    simp only [Option.some.injEq, Prod.mk.injEq] at H
    obtain ⟨rfl⟩ := H
    go_wp2
    go_ret
    exact ⟨eS, bS⟩
   ·obtain rfl := Bool.eq_false_iff.mpr c10
    rw [if_neg nF] at H
    replace H := bN H
    obtain ⟨⟨t337, t338, t339, t340⟩, A11, H⟩ := H
    replace H := bN H
    obtain ⟨t342, A12, H⟩ := H
    by_cases c13 : t342 > 0
    ·rw [if_pos c13] at H
     have c13b0 : decide (0 < t342) = true := decide_eq_true c13
     clear c13
     by_cases c14 : t338 < (wrap64 ((wrap64 (a2 * a1)) + a1))
     ·rw [if_pos c14] at H
      have c14b0 : decide (t338 < (wrap64 ((wrap64 (a2 * a1)) + a1))) = true := decide_eq_true c14
      clear c14
      obtain rfl := Option.some.inj H
      simp only [Option.some.injEq, Prod.mk.injEq] at H
      obtain ⟨rfl⟩ := H
      have hz15 := cz6 BK333
      go_wp2_with (first | ((with_reducible refine gC 100 ?_); refine cL (some 20) Try.func100 #[.agg #[.slice A0_0 l0_0.length c0_0, .int .i64 a0_1, .int .i64 a0_2, .int .i64 a0_3, .int .i64 a0_4, .int .i64 a0_5]] ?_; (with_reducible refine (impl_ObjectBox.calls kj3 _ _ l0_0 a0_1 a0_2 a0_3 a0_4 a0_5 t337 t338 t339 t340 _ ?side1 ?side2 A11.out).mono ?_); (case side1 => exact cS (Kd.C_below HR0_0.out HB.out)); (case side2 => exact HC0_0.out); rintro e w16 ⟨rfl, hb⟩; refine ⟨_, rfl, ?_⟩; replace BK333 := kB (g := gb333) hb; replace HB := hB hb; (try clear hb); (try clear hb2); (try clear hk); (try clear hi)) | ((with_reducible refine gD 7 ?_); refine bxE #[.int .i64 0, .int .i64 0, .int .i64 0, .int .i64 0] 39 ?_; intro gb341 hg w17 BK341 hb; have GW341 := gE hg; have GE341 := gE hg; have NB333_341 := nL (g := gb333) hg; have NB341_333 := nG (g := gb333) hg; replace BK333 := kB (g := gb333) hb; replace HB := hB hb; clear hb hg; have hnb18 := NB341_333.out; have hnc18 := NB333_341.out; have hz19 := cz4 BK341) | ((with_reducible refine gC 102 ?_); refine cL (some 22) Try.func102 #[.agg #[.int .i64 t337, .int .i64 t338, .int .i64 t339, .int .i64 t340]] ?_; (with_reducible refine (impl_CountDots.calls t337 t338 t339 t340 t342 _ A12.out).mono ?_); rintro e w20 ⟨rfl, hb⟩; refine ⟨_, rfl, ?_⟩; replace BK333 := kB (g := gb333) hb; replace BK341 := Aside0.mk (blk_below (g := gb341) (o := .cells #[.int .i64 t337, .int .i64 t338, .int .i64 t339, .int .i64 t340] 39 (0, 0)) kS hb); replace HB := hB hb; (try clear hb); (try clear hb2); (try clear hk); (try clear hi); have hz21 := cz4 BK341))
      go_ret
      exact ⟨eS, bS⟩
     ·rw [if_neg c14] at H
      have c14b0 : decide (t338 < (wrap64 ((wrap64 (a2 * a1)) + a1))) = false := decide_eq_false c14
      clear c14
      obtain rfl := Option.some.inj H
      simp only [Option.some.injEq, Prod.mk.injEq] at H
      obtain ⟨rfl⟩ := H
      have hz22 := cz6 BK333
      go_wp2_with (first | ((with_reducible refine gC 100 ?_); refine cL (some 20) Try.func100 #[.agg #[.slice A0_0 l0_0.length c0_0, .int .i64 a0_1, .int .i64 a0_2, .int .i64 a0_3, .int .i64 a0_4, .int .i64 a0_5]] ?_; (with_reducible refine (impl_ObjectBox.calls kj3 _ _ l0_0 a0_1 a0_2 a0_3 a0_4 a0_5 t337 t338 t339 t340 _ ?side1 ?side2 A11.out).mono ?_); (case side1 => exact cS (Kd.C_below HR0_0.out HB.out)); (case side2 => exact HC0_0.out); rintro e w23 ⟨rfl, hb⟩; refine ⟨_, rfl, ?_⟩; replace BK333 := kB (g := gb333) hb; replace HB := hB hb; (try clear hb); (try clear hb2); (try clear hk); (try clear hi)) | ((with_reducible refine gD 7 ?_); refine bxE #[.int .i64 0, .int .i64 0, .int .i64 0, .int .i64 0] 39 ?_; intro gb341 hg w24 BK341 hb; have GW341 := gE hg; have GE341 := gE hg; have NB333_341 := nL (g := gb333) hg; have NB341_333 := nG (g := gb333) hg; replace BK333 := kB (g := gb333) hb; replace HB := hB hb; clear hb hg; have hnb25 := NB341_333.out; have hnc25 := NB333_341.out; have hz26 := cz4 BK341) | ((with_reducible refine gC 102 ?_); refine cL (some 22) Try.func102 #[.agg #[.int .i64 t337, .int .i64 t338, .int .i64 t339, .int .i64 t340]] ?_; (with_reducible refine (impl_CountDots.calls t337 t338 t339 t340 t342 _ A12.out).mono ?_); rintro e w27 ⟨rfl, hb⟩; refine ⟨_, rfl, ?_⟩; replace BK333 := kB (g := gb333) hb; replace BK341 := Aside0.mk (blk_below (g := gb341) (o := .cells #[.int .i64 t337, .int .i64 t338, .int .i64 t339, .int .i64 t340] 39 (0, 0)) kS hb); replace HB := hB hb; (try clear hb); (try clear hb2); (try clear hk); (try clear hi); have hz28 := cz4 BK341))
      go_ret
      exact ⟨eS, bS⟩
    ·rw [if_neg c13] at H
     have c13b0 : decide (0 < t342) = false := decide_eq_false c13
     clear c13
     obtain rfl := Option.some.inj H
     simp only [Option.some.injEq, Prod.mk.injEq] at H
     obtain ⟨rfl⟩ := H
     have hz29 := cz6 BK333
     go_wp2_with (first | ((with_reducible refine gC 100 ?_); refine cL (some 20) Try.func100 #[.agg #[.slice A0_0 l0_0.length c0_0, .int .i64 a0_1, .int .i64 a0_2, .int .i64 a0_3, .int .i64 a0_4, .int .i64 a0_5]] ?_; (with_reducible refine (impl_ObjectBox.calls kj3 _ _ l0_0 a0_1 a0_2 a0_3 a0_4 a0_5 t337 t338 t339 t340 _ ?side1 ?side2 A11.out).mono ?_); (case side1 => exact cS (Kd.C_below HR0_0.out HB.out)); (case side2 => exact HC0_0.out); rintro e w30 ⟨rfl, hb⟩; refine ⟨_, rfl, ?_⟩; replace BK333 := kB (g := gb333) hb; replace HB := hB hb; (try clear hb); (try clear hb2); (try clear hk); (try clear hi)) | ((with_reducible refine gD 7 ?_); refine bxE #[.int .i64 0, .int .i64 0, .int .i64 0, .int .i64 0] 39 ?_; intro gb341 hg w31 BK341 hb; have GW341 := gE hg; have GE341 := gE hg; have NB333_341 := nL (g := gb333) hg; have NB341_333 := nG (g := gb333) hg; replace BK333 := kB (g := gb333) hb; replace HB := hB hb; clear hb hg; have hnb32 := NB341_333.out; have hnc32 := NB333_341.out; have hz33 := cz4 BK341) | ((with_reducible refine gC 102 ?_); refine cL (some 22) Try.func102 #[.agg #[.int .i64 t337, .int .i64 t338, .int .i64 t339, .int .i64 t340]] ?_; (with_reducible refine (impl_CountDots.calls t337 t338 t339 t340 t342 _ A12.out).mono ?_); rintro e w34 ⟨rfl, hb⟩; refine ⟨_, rfl, ?_⟩; replace BK333 := kB (g := gb333) hb; replace BK341 := Aside0.mk (blk_below (g := gb341) (o := .cells #[.int .i64 t337, .int .i64 t338, .int .i64 t339, .int .i64 t340] 39 (0, 0)) kS hb); replace HB := hB hb; (try clear hb); (try clear hb2); (try clear hk); (try clear hi)))
     go_ret
     exact ⟨eS, bS⟩

/-! ### impl_SpansOk: function 149 -/
def impl_SpansOk.l0 : Nat → List (S140) → List (S140) → Int → Int → Option (Bool)
 | 0, _, _, _, _ => none
 | k + 1, x0, x8, x9, x10 => if x10 < x9 then (if 0 ≤ x10 then (if x10 < (x8.length : Int) then (if ((rd_T140 x8 x10).f0) ≥ ((rd_T140 x8 x10).f1) then (some false) else (if x10 > 0 then (if 0 ≤ (wrap64 (x10 - 1)) then (if (wrap64 (x10 - 1)) < (x0.length : Int) then (if ((rd_T140 x0 (wrap64 (x10 - 1))).f1) ≥ ((rd_T140 x8 x10).f0) then (some false) else (impl_SpansOk.l0 k x0 x8 x9 (wrap64 (x10 + 1)))) else (none)) else (none)) else (impl_SpansOk.l0 k x0 x8 x9 (wrap64 (x10 + 1))))) else (none)) else (none)) else (some true)
def impl_SpansOk.f (k : Nat) (l0 : List (S140)) : Option (Bool) := if (l0.length : Int) > 8 then (some false) else (impl_SpansOk.l0 k l0 l0 (l0.length : Int) 0)
theorem impl_SpansOk.calls (k : Nat) (A0 : Option Addr) (c0 : Nat) (l0 : List (S140)) (r : Bool) (w : World) (hr0 : Kd.C k140 w A0 l0.length l0) (hc0 : l0.length ≤ c0) (h : impl_SpansOk.f k l0 = some r) :
  Calls Try.prog 149 #[.slice A0 l0.length c0] w fun e w' => e = .returned (.bool r) ∧ Below w.heap.size w w' := by
 have hu140 := Try.underlying140
 have HR0 := Aside0.mk hr0
 have HC0 := Aside0.mk hc0
 clear hr0 hc0
 have HB := Aside0.mk (Below.refl w.heap.size w)
 have H : (if (l0.length : Int) > 8 then (some false) else (impl_SpansOk.l0 k l0 l0 (l0.length : Int) 0)) = some r := h
 clear h
 by_cases c2 : (l0.length : Int) > 8
 ·rw [if_pos c2] at H
  have c2b0 : decide (8 < (l0.length : Int)) = true := decide_eq_true c2
  have c2b1 : decide (8 < l0.length) = true := decide_eq_true (by omega)
  clear c2
  obtain rfl := Option.some.inj H
  simp only [Option.some.injEq, Prod.mk.injEq] at H
  obtain ⟨rfl⟩ := H
  go_enter Try.func149, Try.ntmps149
  go_wp2
  repeat (go_quiet (fail); try go_wp2)
  go_ret
  exact ⟨eS, bS⟩
 ·rw [if_neg c2] at H
  have c2b0 : decide (8 < (l0.length : Int)) = false := decide_eq_false c2
  have c2b1 : decide (8 < l0.length) = false := decide_eq_false (by omega)
  clear c2
  have H' := Aside0.mk H
  clear H
  go_enter Try.func149, Try.ntmps149
  go_wp2
  repeat (go_quiet (fail); try go_wp2)
  go_loopg [10] k (fun kq v10 w' => ∃ (x10_1 : Int), v10 = .int .i64 x10_1 ∧ Aside0 (impl_SpansOk.l0 kq l0 l0 (l0.length : Int) x10_1 = some r) ∧ Aside0 (kq ≤ k) ∧ Aside0 (Below w.heap.size w w'))
  case atStart => exact ⟨(0), (by first | rfl | (simp; done) | (simp [*]; done)), H', ⟨Nat.le_refl _⟩, ⟨bS⟩⟩
  case round =>
   clear H'
   try clear c1
   try clear c2
   try clear c2b0
   try clear c2b1
   try clear p2
   obtain ⟨x10_1, rfl, HA, HK1, HB⟩ := hrel
   cases gk with
   | zero => exact absurd HA.out (by simp [impl_SpansOk.l0])
   | succ k1 =>
    have H := HA.out
    clear HA
    simp only [impl_SpansOk.l0] at H
    by_cases c3 : x10_1 < (l0.length : Int)
    ·rw [if_pos c3] at H
     have c3b0 : decide (x10_1 < (l0.length : Int)) = true := decide_eq_true c3
     clear c3
     by_cases c4 : 0 ≤ x10_1
     ·rw [if_pos c4] at H
      have c4b0 : decide (0 ≤ x10_1) = true := decide_eq_true c4
      clear c4
      by_cases c5 : x10_1 < (l0.length : Int)
      ·rw [if_pos c5] at H
       have c5b0 : decide (x10_1 < (l0.length : Int)) = true := decide_eq_true c5
       clear c5
       by_cases c6 : ((rd_T140 l0 x10_1).f0) ≥ ((rd_T140 l0 x10_1).f1)
       ·rw [if_pos c6] at H
        have c6b0 : decide (((rd_T140 l0 x10_1).f1) ≤ ((rd_T140 l0 x10_1).f0)) = true := decide_eq_true c6
        clear c6
        obtain rfl := Option.some.inj H
        simp only [Option.some.injEq, Prod.mk.injEq] at H
        obtain ⟨rfl⟩ := H
        have p343 : 0 ≤ (x10_1 : Int) := of_decide_eq_true (by first | (with_reducible assumption) | assumption)
        have q343 : x10_1 < (l0.length : Int) := of_decide_eq_true (by first | (with_reducible assumption) | assumption)
        obtain ⟨ad343, e343, hx343_0, hx343_1⟩ := at_T140 HR0.out x10_1 p343 q343
        cases e343
        replace hx343_0 := (HB.out.cell (World.block_lt_of_cell? w _ hx343_0)).trans hx343_0
        replace hx343_1 := (HB.out.cell (World.block_lt_of_cell? w _ hx343_1)).trans hx343_1
        replace p343 := eq_true p343
        replace q343 := eq_true q343
        go_wp2_with (first | ((with_reducible refine gD 4 ?_); refine bxE #[.int .i64 0, .int .i64 0] 140 ?_; intro gb344 hg w7 BK344 hb; have GW344 := gE hg; have GE344 := gE hg; replace HB := hB hb; clear hb hg; have hz8 := cz2 BK344))
        repeat (go_quiet (first | ((with_reducible refine gD 4 ?_); refine bxE #[.int .i64 0, .int .i64 0] 140 ?_; intro gb344 hg w7 BK344 hb; have GW344 := gE hg; have GE344 := gE hg; replace HB := hB hb; clear hb hg; have hz8 := cz2 BK344)); try go_wp2_with (first | ((with_reducible refine gD 4 ?_); refine bxE #[.int .i64 0, .int .i64 0] 140 ?_; intro gb344 hg w7 BK344 hb; have GW344 := gE hg; have GE344 := gE hg; replace HB := hB hb; clear hb hg; have hz8 := cz2 BK344)))
        go_ret
        exact ⟨eS, bS⟩
       ·rw [if_neg c6] at H
        have c6b0 : decide (((rd_T140 l0 x10_1).f1) ≤ ((rd_T140 l0 x10_1).f0)) = false := decide_eq_false c6
        clear c6
        by_cases c9 : x10_1 > 0
        ·rw [if_pos c9] at H
         have c9b0 : decide (0 < x10_1) = true := decide_eq_true c9
         clear c9
         obtain ⟨ji10, hji10⟩ : ∃ j_ : Int, (wrap64 (x10_1 - 1)) = j_ := ⟨_, rfl⟩
         replace H : (if 0 ≤ (ji10) then (if (ji10) < (l0.length : Int) then (if ((rd_T140 l0 (ji10)).f1) ≥ ((rd_T140 l0 x10_1).f0) then (some false) else (impl_SpansOk.l0 k1 l0 l0 (l0.length : Int) (wrap64 (x10_1 + 1)))) else (none)) else (none)) = some r := by first | (rw [hji10] at H; exact H) | (simp only [hji10] at H ⊢; exact H)
         have hji10w : (IntKind.i64.wrap (x10_1 - 1)) = ji10 := (i64_w _).trans hji10
         by_cases c11 : 0 ≤ (ji10)
         ·rw [if_pos c11] at H
          have c11b0 : decide (0 ≤ (ji10)) = true := decide_eq_true c11
          clear c11
          by_cases c12 : (ji10) < (l0.length : Int)
          ·rw [if_pos c12] at H
           have c12b0 : decide ((ji10) < (l0.length : Int)) = true := decide_eq_true c12
           clear c12
           by_cases c13 : ((rd_T140 l0 (ji10)).f1) ≥ ((rd_T140 l0 x10_1).f0)
           ·rw [if_pos c13] at H
            have c13b0 : decide (((rd_T140 l0 x10_1).f0) ≤ ((rd_T140 l0 (ji10)).f1)) = true := decide_eq_true c13
            clear c13
            obtain rfl := Option.some.inj H
            simp only [Option.some.injEq, Prod.mk.injEq] at H
            obtain ⟨rfl⟩ := H
            have p343 : 0 ≤ (x10_1 : Int) := of_decide_eq_true (by first | (with_reducible assumption) | assumption)
            have q343 : x10_1 < (l0.length : Int) := of_decide_eq_true (by first | (with_reducible assumption) | assumption)
            obtain ⟨ad343, e343, hx343_0, hx343_1⟩ := at_T140 HR0.out x10_1 p343 q343
            cases e343
            replace hx343_0 := (HB.out.cell (World.block_lt_of_cell? w _ hx343_0)).trans hx343_0
            replace hx343_1 := (HB.out.cell (World.block_lt_of_cell? w _ hx343_1)).trans hx343_1
            replace p343 := eq_true p343
            replace q343 := eq_true q343
            go_wp2_with (first | ((with_reducible refine gD 4 ?_); refine bxE #[.int .i64 0, .int .i64 0] 140 ?_; intro gb344 hg w14 BK344 hb; have GW344 := gE hg; have GE344 := gE hg; replace HB := hB hb; clear hb hg; have hz15 := cz2 BK344; have p345 : 0 ≤ ((ji10) : Int) := of_decide_eq_true (by first | (with_reducible assumption) | assumption); have q345 : (ji10) < (l0.length : Int) := of_decide_eq_true (by first | (with_reducible assumption) | assumption); obtain ⟨ad345, e345, hx345_0, hx345_1⟩ := at_T140 HR0.out (ji10) p345 q345; obtain rfl : ad343 = ad345 := (by injection e345); have hn345_0 : ad343.block ≠ gb344 := nA hx345_0 GW344; have hn345_1 : ad343.block ≠ gb344 := nA hx345_0 GW344; replace hx345_0 := (HB.out.cell (World.block_lt_of_cell? w _ hx345_0)).trans hx345_0; replace hx345_1 := (HB.out.cell (World.block_lt_of_cell? w _ hx345_1)).trans hx345_1; replace hx345_0 := (cell_far (p := ⟨gb344, 0, none⟩) (by first | (rw [add_block]; exact hn345_0) | (show (Addr.add _ _).block ≠ _; rw [add_block]; exact hn345_0) | exact hn345_0) (.int .i64 ((rd_T140 l0 x10_1).f0))).trans hx345_0; replace hx345_1 := (cell_far (p := ⟨gb344, 0, none⟩) (by first | (rw [add_block]; exact hn345_0) | (show (Addr.add _ _).block ≠ _; rw [add_block]; exact hn345_0) | exact hn345_0) (.int .i64 ((rd_T140 l0 x10_1).f0))).trans hx345_1; replace hx345_0 := (cell_far (p := ⟨gb344, 1, none⟩) (by first | (rw [add_block]; exact hn345_1) | (show (Addr.add _ _).block ≠ _; rw [add_block]; exact hn345_1) | exact hn345_1) (.int .i64 ((rd_T140 l0 x10_1).f1))).trans hx345_0; replace hx345_1 := (cell_far (p := ⟨gb344, 1, none⟩) (by first | (rw [add_block]; exact hn345_1) | (show (Addr.add _ _).block ≠ _; rw [add_block]; exact hn345_1) | exact hn345_1) (.int .i64 ((rd_T140 l0 x10_1).f1))).trans hx345_1; (try have hy345_0 := fun (n_ : Nat) => (show ((((w14.drewN n_).setCell ⟨gb344, 0, none⟩ (.int .i64 ((rd_T140 l0 x10_1).f0))).setCell ⟨gb344, 1, none⟩ (.int .i64 ((rd_T140 l0 x10_1).f1)))).cell? _ = some _ from hx345_0)); (try have hy345_1 := fun (n_ : Nat) => (show ((((w14.drewN n_).setCell ⟨gb344, 0, none⟩ (.int .i64 ((rd_T140 l0 x10_1).f0))).setCell ⟨gb344, 1, none⟩ (.int .i64 ((rd_T140 l0 x10_1).f1)))).cell? _ = some _ from hx345_1)); clear hn345_0; clear hn345_1; replace p345 := eq_true p345; replace q345 := eq_true q345))
            repeat (go_quiet (first | ((with_reducible refine gD 4 ?_); refine bxE #[.int .i64 0, .int .i64 0] 140 ?_; intro gb344 hg w14 BK344 hb; have GW344 := gE hg; have GE344 := gE hg; replace HB := hB hb; clear hb hg; have hz15 := cz2 BK344; have p345 : 0 ≤ ((ji10) : Int) := of_decide_eq_true (by first | (with_reducible assumption) | assumption); have q345 : (ji10) < (l0.length : Int) := of_decide_eq_true (by first | (with_reducible assumption) | assumption); obtain ⟨ad345, e345, hx345_0, hx345_1⟩ := at_T140 HR0.out (ji10) p345 q345; obtain rfl : ad343 = ad345 := (by injection e345); have hn345_0 : ad343.block ≠ gb344 := nA hx345_0 GW344; have hn345_1 : ad343.block ≠ gb344 := nA hx345_0 GW344; replace hx345_0 := (HB.out.cell (World.block_lt_of_cell? w _ hx345_0)).trans hx345_0; replace hx345_1 := (HB.out.cell (World.block_lt_of_cell? w _ hx345_1)).trans hx345_1; replace hx345_0 := (cell_far (p := ⟨gb344, 0, none⟩) (by first | (rw [add_block]; exact hn345_0) | (show (Addr.add _ _).block ≠ _; rw [add_block]; exact hn345_0) | exact hn345_0) (.int .i64 ((rd_T140 l0 x10_1).f0))).trans hx345_0; replace hx345_1 := (cell_far (p := ⟨gb344, 0, none⟩) (by first | (rw [add_block]; exact hn345_0) | (show (Addr.add _ _).block ≠ _; rw [add_block]; exact hn345_0) | exact hn345_0) (.int .i64 ((rd_T140 l0 x10_1).f0))).trans hx345_1; replace hx345_0 := (cell_far (p := ⟨gb344, 1, none⟩) (by first | (rw [add_block]; exact hn345_1) | (show (Addr.add _ _).block ≠ _; rw [add_block]; exact hn345_1) | exact hn345_1) (.int .i64 ((rd_T140 l0 x10_1).f1))).trans hx345_0; replace hx345_1 := (cell_far (p := ⟨gb344, 1, none⟩) (by first | (rw [add_block]; exact hn345_1) | (show (Addr.add _ _).block ≠ _; rw [add_block]; exact hn345_1) | exact hn345_1) (.int .i64 ((rd_T140 l0 x10_1).f1))).trans hx345_1; (try have hy345_0 := fun (n_ : Nat) => (show ((((w14.drewN n_).setCell ⟨gb344, 0, none⟩ (.int .i64 ((rd_T140 l0 x10_1).f0))).setCell ⟨gb344, 1, none⟩ (.int .i64 ((rd_T140 l0 x10_1).f1)))).cell? _ = some _ from hx345_0)); (try have hy345_1 := fun (n_ : Nat) => (show ((((w14.drewN n_).setCell ⟨gb344, 0, none⟩ (.int .i64 ((rd_T140 l0 x10_1).f0))).setCell ⟨gb344, 1, none⟩ (.int .i64 ((rd_T140 l0 x10_1).f1)))).cell? _ = some _ from hx345_1)); clear hn345_0; clear hn345_1; replace p345 := eq_true p345; replace q345 := eq_true q345)); try go_wp2_with (first | ((with_reducible refine gD 4 ?_); refine bxE #[.int .i64 0, .int .i64 0] 140 ?_; intro gb344 hg w14 BK344 hb; have GW344 := gE hg; have GE344 := gE hg; replace HB := hB hb; clear hb hg; have hz15 := cz2 BK344; have p345 : 0 ≤ ((ji10) : Int) := of_decide_eq_true (by first | (with_reducible assumption) | assumption); have q345 : (ji10) < (l0.length : Int) := of_decide_eq_true (by first | (with_reducible assumption) | assumption); obtain ⟨ad345, e345, hx345_0, hx345_1⟩ := at_T140 HR0.out (ji10) p345 q345; obtain rfl : ad343 = ad345 := (by injection e345); have hn345_0 : ad343.block ≠ gb344 := nA hx345_0 GW344; have hn345_1 : ad343.block ≠ gb344 := nA hx345_0 GW344; replace hx345_0 := (HB.out.cell (World.block_lt_of_cell? w _ hx345_0)).trans hx345_0; replace hx345_1 := (HB.out.cell (World.block_lt_of_cell? w _ hx345_1)).trans hx345_1; replace hx345_0 := (cell_far (p := ⟨gb344, 0, none⟩) (by first | (rw [add_block]; exact hn345_0) | (show (Addr.add _ _).block ≠ _; rw [add_block]; exact hn345_0) | exact hn345_0) (.int .i64 ((rd_T140 l0 x10_1).f0))).trans hx345_0; replace hx345_1 := (cell_far (p := ⟨gb344, 0, none⟩) (by first | (rw [add_block]; exact hn345_0) | (show (Addr.add _ _).block ≠ _; rw [add_block]; exact hn345_0) | exact hn345_0) (.int .i64 ((rd_T140 l0 x10_1).f0))).trans hx345_1; replace hx345_0 := (cell_far (p := ⟨gb344, 1, none⟩) (by first | (rw [add_block]; exact hn345_1) | (show (Addr.add _ _).block ≠ _; rw [add_block]; exact hn345_1) | exact hn345_1) (.int .i64 ((rd_T140 l0 x10_1).f1))).trans hx345_0; replace hx345_1 := (cell_far (p := ⟨gb344, 1, none⟩) (by first | (rw [add_block]; exact hn345_1) | (show (Addr.add _ _).block ≠ _; rw [add_block]; exact hn345_1) | exact hn345_1) (.int .i64 ((rd_T140 l0 x10_1).f1))).trans hx345_1; (try have hy345_0 := fun (n_ : Nat) => (show ((((w14.drewN n_).setCell ⟨gb344, 0, none⟩ (.int .i64 ((rd_T140 l0 x10_1).f0))).setCell ⟨gb344, 1, none⟩ (.int .i64 ((rd_T140 l0 x10_1).f1)))).cell? _ = some _ from hx345_0)); (try have hy345_1 := fun (n_ : Nat) => (show ((((w14.drewN n_).setCell ⟨gb344, 0, none⟩ (.int .i64 ((rd_T140 l0 x10_1).f0))).setCell ⟨gb344, 1, none⟩ (.int .i64 ((rd_T140 l0 x10_1).f1)))).cell? _ = some _ from hx345_1)); clear hn345_0; clear hn345_1; replace p345 := eq_true p345; replace q345 := eq_true q345)))
            go_ret
            exact ⟨by first | rfl | (simp [errW_none, errW_some] <;> rfl) | (simp only [← hji10]; first | rfl | (simp [errW_none, errW_some] <;> rfl)) | (simp [*, errW_none, errW_some] <;> rfl), bS⟩
           ·rw [if_neg c13] at H
            have c13b0 : decide (((rd_T140 l0 x10_1).f0) ≤ ((rd_T140 l0 (ji10)).f1)) = false := decide_eq_false c13
            clear c13
            have H' := Aside0.mk H
            clear H
            have p343 : 0 ≤ (x10_1 : Int) := of_decide_eq_true (by first | (with_reducible assumption) | assumption)
            have q343 : x10_1 < (l0.length : Int) := of_decide_eq_true (by first | (with_reducible assumption) | assumption)
            obtain ⟨ad343, e343, hx343_0, hx343_1⟩ := at_T140 HR0.out x10_1 p343 q343
            cases e343
            replace hx343_0 := (HB.out.cell (World.block_lt_of_cell? w _ hx343_0)).trans hx343_0
            replace hx343_1 := (HB.out.cell (World.block_lt_of_cell? w _ hx343_1)).trans hx343_1
            replace p343 := eq_true p343
            replace q343 := eq_true q343
            go_wp2_with (first | ((with_reducible refine gD 4 ?_); refine bxE #[.int .i64 0, .int .i64 0] 140 ?_; intro gb344 hg w16 BK344 hb; have GW344 := gE hg; have GE344 := gE hg; replace HB := hB hb; clear hb hg; have hz17 := cz2 BK344; have p345 : 0 ≤ ((ji10) : Int) := of_decide_eq_true (by first | (with_reducible assumption) | assumption); have q345 : (ji10) < (l0.length : Int) := of_decide_eq_true (by first | (with_reducible assumption) | assumption); obtain ⟨ad345, e345, hx345_0, hx345_1⟩ := at_T140 HR0.out (ji10) p345 q345; obtain rfl : ad343 = ad345 := (by injection e345); have hn345_0 : ad343.block ≠ gb344 := nA hx345_0 GW344; have hn345_1 : ad343.block ≠ gb344 := nA hx345_0 GW344; replace hx345_0 := (HB.out.cell (World.block_lt_of_cell? w _ hx345_0)).trans hx345_0; replace hx345_1 := (HB.out.cell (World.block_lt_of_cell? w _ hx345_1)).trans hx345_1; replace hx345_0 := (cell_far (p := ⟨gb344, 0, none⟩) (by first | (rw [add_block]; exact hn345_0) | (show (Addr.add _ _).block ≠ _; rw [add_block]; exact hn345_0) | exact hn345_0) (.int .i64 ((rd_T140 l0 x10_1).f0))).trans hx345_0; replace hx345_1 := (cell_far (p := ⟨gb344, 0, none⟩) (by first | (rw [add_block]; exact hn345_0) | (show (Addr.add _ _).block ≠ _; rw [add_block]; exact hn345_0) | exact hn345_0) (.int .i64 ((rd_T140 l0 x10_1).f0))).trans hx345_1; replace hx345_0 := (cell_far (p := ⟨gb344, 1, none⟩) (by first | (rw [add_block]; exact hn345_1) | (show (Addr.add _ _).block ≠ _; rw [add_block]; exact hn345_1) | exact hn345_1) (.int .i64 ((rd_T140 l0 x10_1).f1))).trans hx345_0; replace hx345_1 := (cell_far (p := ⟨gb344, 1, none⟩) (by first | (rw [add_block]; exact hn345_1) | (show (Addr.add _ _).block ≠ _; rw [add_block]; exact hn345_1) | exact hn345_1) (.int .i64 ((rd_T140 l0 x10_1).f1))).trans hx345_1; (try have hy345_0 := fun (n_ : Nat) => (show ((((w16.drewN n_).setCell ⟨gb344, 0, none⟩ (.int .i64 ((rd_T140 l0 x10_1).f0))).setCell ⟨gb344, 1, none⟩ (.int .i64 ((rd_T140 l0 x10_1).f1)))).cell? _ = some _ from hx345_0)); (try have hy345_1 := fun (n_ : Nat) => (show ((((w16.drewN n_).setCell ⟨gb344, 0, none⟩ (.int .i64 ((rd_T140 l0 x10_1).f0))).setCell ⟨gb344, 1, none⟩ (.int .i64 ((rd_T140 l0 x10_1).f1)))).cell? _ = some _ from hx345_1)); clear hn345_0; clear hn345_1; replace p345 := eq_true p345; replace q345 := eq_true q345))
            repeat (go_quiet (first | ((with_reducible refine gD 4 ?_); refine bxE #[.int .i64 0, .int .i64 0] 140 ?_; intro gb344 hg w16 BK344 hb; have GW344 := gE hg; have GE344 := gE hg; replace HB := hB hb; clear hb hg; have hz17 := cz2 BK344; have p345 : 0 ≤ ((ji10) : Int) := of_decide_eq_true (by first | (with_reducible assumption) | assumption); have q345 : (ji10) < (l0.length : Int) := of_decide_eq_true (by first | (with_reducible assumption) | assumption); obtain ⟨ad345, e345, hx345_0, hx345_1⟩ := at_T140 HR0.out (ji10) p345 q345; obtain rfl : ad343 = ad345 := (by injection e345); have hn345_0 : ad343.block ≠ gb344 := nA hx345_0 GW344; have hn345_1 : ad343.block ≠ gb344 := nA hx345_0 GW344; replace hx345_0 := (HB.out.cell (World.block_lt_of_cell? w _ hx345_0)).trans hx345_0; replace hx345_1 := (HB.out.cell (World.block_lt_of_cell? w _ hx345_1)).trans hx345_1; replace hx345_0 := (cell_far (p := ⟨gb344, 0, none⟩) (by first | (rw [add_block]; exact hn345_0) | (show (Addr.add _ _).block ≠ _; rw [add_block]; exact hn345_0) | exact hn345_0) (.int .i64 ((rd_T140 l0 x10_1).f0))).trans hx345_0; replace hx345_1 := (cell_far (p := ⟨gb344, 0, none⟩) (by first | (rw [add_block]; exact hn345_0) | (show (Addr.add _ _).block ≠ _; rw [add_block]; exact hn345_0) | exact hn345_0) (.int .i64 ((rd_T140 l0 x10_1).f0))).trans hx345_1; replace hx345_0 := (cell_far (p := ⟨gb344, 1, none⟩) (by first | (rw [add_block]; exact hn345_1) | (show (Addr.add _ _).block ≠ _; rw [add_block]; exact hn345_1) | exact hn345_1) (.int .i64 ((rd_T140 l0 x10_1).f1))).trans hx345_0; replace hx345_1 := (cell_far (p := ⟨gb344, 1, none⟩) (by first | (rw [add_block]; exact hn345_1) | (show (Addr.add _ _).block ≠ _; rw [add_block]; exact hn345_1) | exact hn345_1) (.int .i64 ((rd_T140 l0 x10_1).f1))).trans hx345_1; (try have hy345_0 := fun (n_ : Nat) => (show ((((w16.drewN n_).setCell ⟨gb344, 0, none⟩ (.int .i64 ((rd_T140 l0 x10_1).f0))).setCell ⟨gb344, 1, none⟩ (.int .i64 ((rd_T140 l0 x10_1).f1)))).cell? _ = some _ from hx345_0)); (try have hy345_1 := fun (n_ : Nat) => (show ((((w16.drewN n_).setCell ⟨gb344, 0, none⟩ (.int .i64 ((rd_T140 l0 x10_1).f0))).setCell ⟨gb344, 1, none⟩ (.int .i64 ((rd_T140 l0 x10_1).f1)))).cell? _ = some _ from hx345_1)); clear hn345_0; clear hn345_1; replace p345 := eq_true p345; replace q345 := eq_true q345)); try go_wp2_with (first | ((with_reducible refine gD 4 ?_); refine bxE #[.int .i64 0, .int .i64 0] 140 ?_; intro gb344 hg w16 BK344 hb; have GW344 := gE hg; have GE344 := gE hg; replace HB := hB hb; clear hb hg; have hz17 := cz2 BK344; have p345 : 0 ≤ ((ji10) : Int) := of_decide_eq_true (by first | (with_reducible assumption) | assumption); have q345 : (ji10) < (l0.length : Int) := of_decide_eq_true (by first | (with_reducible assumption) | assumption); obtain ⟨ad345, e345, hx345_0, hx345_1⟩ := at_T140 HR0.out (ji10) p345 q345; obtain rfl : ad343 = ad345 := (by injection e345); have hn345_0 : ad343.block ≠ gb344 := nA hx345_0 GW344; have hn345_1 : ad343.block ≠ gb344 := nA hx345_0 GW344; replace hx345_0 := (HB.out.cell (World.block_lt_of_cell? w _ hx345_0)).trans hx345_0; replace hx345_1 := (HB.out.cell (World.block_lt_of_cell? w _ hx345_1)).trans hx345_1; replace hx345_0 := (cell_far (p := ⟨gb344, 0, none⟩) (by first | (rw [add_block]; exact hn345_0) | (show (Addr.add _ _).block ≠ _; rw [add_block]; exact hn345_0) | exact hn345_0) (.int .i64 ((rd_T140 l0 x10_1).f0))).trans hx345_0; replace hx345_1 := (cell_far (p := ⟨gb344, 0, none⟩) (by first | (rw [add_block]; exact hn345_0) | (show (Addr.add _ _).block ≠ _; rw [add_block]; exact hn345_0) | exact hn345_0) (.int .i64 ((rd_T140 l0 x10_1).f0))).trans hx345_1; replace hx345_0 := (cell_far (p := ⟨gb344, 1, none⟩) (by first | (rw [add_block]; exact hn345_1) | (show (Addr.add _ _).block ≠ _; rw [add_block]; exact hn345_1) | exact hn345_1) (.int .i64 ((rd_T140 l0 x10_1).f1))).trans hx345_0; replace hx345_1 := (cell_far (p := ⟨gb344, 1, none⟩) (by first | (rw [add_block]; exact hn345_1) | (show (Addr.add _ _).block ≠ _; rw [add_block]; exact hn345_1) | exact hn345_1) (.int .i64 ((rd_T140 l0 x10_1).f1))).trans hx345_1; (try have hy345_0 := fun (n_ : Nat) => (show ((((w16.drewN n_).setCell ⟨gb344, 0, none⟩ (.int .i64 ((rd_T140 l0 x10_1).f0))).setCell ⟨gb344, 1, none⟩ (.int .i64 ((rd_T140 l0 x10_1).f1)))).cell? _ = some _ from hx345_0)); (try have hy345_1 := fun (n_ : Nat) => (show ((((w16.drewN n_).setCell ⟨gb344, 0, none⟩ (.int .i64 ((rd_T140 l0 x10_1).f0))).setCell ⟨gb344, 1, none⟩ (.int .i64 ((rd_T140 l0 x10_1).f1)))).cell? _ = some _ from hx345_1)); clear hn345_0; clear hn345_1; replace p345 := eq_true p345; replace q345 := eq_true q345)))
            go_roundg k1
            case measure => have := HK1.out; omega
            case rel => exact ⟨(wrap64 (x10_1 + 1)), (by first | rfl | (simp; done) | (simp [*]; done)), H', ⟨by have := HK1.out; omega⟩, ⟨bS⟩⟩
          ·rw [if_neg c12] at H
           exact absurd H (by simp)
         ·rw [if_neg c11] at H
          exact absurd H (by simp)
        ·rw [if_neg c9] at H
         have c9b0 : decide (0 < x10_1) = false := decide_eq_false c9
         clear c9
         have H' := Aside0.mk H
         clear H
         have p343 : 0 ≤ (x10_1 : Int) := of_decide_eq_true (by first | (with_reducible assumption) | assumption)
         have q343 : x10_1 < (l0.length : Int) := of_decide_eq_true (by first | (with_reducible assumption) | assumption)
         obtain ⟨ad343, e343, hx343_0, hx343_1⟩ := at_T140 HR0.out x10_1 p343 q343
         cases e343
         replace hx343_0 := (HB.out.cell (World.block_lt_of_cell? w _ hx343_0)).trans hx343_0
         replace hx343_1 := (HB.out.cell (World.block_lt_of_cell? w _ hx343_1)).trans hx343_1
         replace p343 := eq_true p343
         replace q343 := eq_true q343
         go_wp2_with (first | ((with_reducible refine gD 4 ?_); refine bxE #[.int .i64 0, .int .i64 0] 140 ?_; intro gb344 hg w18 BK344 hb; have GW344 := gE hg; have GE344 := gE hg; replace HB := hB hb; clear hb hg; have hz19 := cz2 BK344))
         repeat (go_quiet (first | ((with_reducible refine gD 4 ?_); refine bxE #[.int .i64 0, .int .i64 0] 140 ?_; intro gb344 hg w18 BK344 hb; have GW344 := gE hg; have GE344 := gE hg; replace HB := hB hb; clear hb hg; have hz19 := cz2 BK344)); try go_wp2_with (first | ((with_reducible refine gD 4 ?_); refine bxE #[.int .i64 0, .int .i64 0] 140 ?_; intro gb344 hg w18 BK344 hb; have GW344 := gE hg; have GE344 := gE hg; replace HB := hB hb; clear hb hg; have hz19 := cz2 BK344)))
         go_roundg k1
         case measure => have := HK1.out; omega
         case rel => exact ⟨(wrap64 (x10_1 + 1)), (by first | rfl | (simp; done) | (simp [*]; done)), H', ⟨by have := HK1.out; omega⟩, ⟨bS⟩⟩
      ·rw [if_neg c5] at H
       exact absurd H (by simp)
     ·rw [if_neg c4] at H
      exact absurd H (by simp)
    ·rw [if_neg c3] at H
     have c3b0 : decide (x10_1 < (l0.length : Int)) = false := decide_eq_false c3
     clear c3
     obtain rfl := Option.some.inj H
     simp only [Option.some.injEq, Prod.mk.injEq] at H
     obtain ⟨rfl⟩ := H
     go_wp2
     repeat (go_quiet (fail); try go_wp2)
     go_ret
     exact ⟨eS, bS⟩

/-! ### impl_MeetSpans: function 111 -/
def impl_MeetSpans.l0 : Nat → Int → Int → List (S140) → List (S140) → Int → Int → Option ((List (S140)))
 | 0, _, _, _, _, _, _ => none
 | k + 1, x1, x2, x7, x14, x15, x16 => if x16 < x15 then (if 0 ≤ x16 then (if x16 < (x14.length : Int) then (if (mx ((rd_T140 x14 x16).f0) x1) < (mn ((rd_T140 x14 x16).f1) x2) then (if x7.length < 8796093022208 then (impl_MeetSpans.l0 k x1 x2 (x7 ++ [(⟨mx ((rd_T140 x14 x16).f0) x1, mn ((rd_T140 x14 x16).f1) x2⟩ : S140)]) x14 x15 (wrap64 (x16 + 1))) else (none)) else (impl_MeetSpans.l0 k x1 x2 x7 x14 x15 (wrap64 (x16 + 1)))) else (none)) else (none)) else (some x7)
def impl_MeetSpans.f (k : Nat) (l0 : List (S140)) (a1 : Int) (a2 : Int) : Option ((List (S140))) := (impl_SpansOk.f k l0).bind fun t346 => (if t346 = true then (impl_MeetSpans.l0 k a1 a2 ([] : List (S140)) l0 (l0.length : Int) 0) else (some ([] : List (S140))))
theorem impl_MeetSpans.calls (k : Nat) (A0 : Option Addr) (c0 : Nat) (l0 : List (S140)) (a1 : Int) (a2 : Int) (r : List (S140)) (w : World) (hr0 : Kd.C k140 w A0 l0.length l0) (hc0 : l0.length ≤ c0) (h : impl_MeetSpans.f k l0 a1 a2 = some r) :
  Calls Try.prog 111 #[.slice A0 l0.length c0, .int .i64 a1, .int .i64 a2] w fun e w' => ∃ v0_ : Value, e = .returned (v0_) ∧ Kd.R k140 140 w' w.heap.size (fun _ => True) v0_ r ∧ Below w.heap.size w w' := by
 have hu140 := Try.underlying140
 have HR0 := Aside0.mk hr0
 have HC0 := Aside0.mk hc0
 clear hr0 hc0
 have HB := Aside0.mk (Below.refl w.heap.size w)
 have H : ((impl_SpansOk.f k l0).bind fun t346 => (if t346 = true then (impl_MeetSpans.l0 k a1 a2 ([] : List (S140)) l0 (l0.length : Int) 0) else (some ([] : List (S140))))) = some r := h
 clear h
 replace H := bN H
 obtain ⟨t346, A4, H⟩ := H
 by_cases c5 : t346 = true
 ·subst c5
  rw [if_pos rfl] at H
  have H' := Aside0.mk H
  clear H
  go_enter Try.func111, Try.ntmps111
  go_wp2_with (first | ((with_reducible refine gC 149 ?_); refine cL (some 12) Try.func149 #[.slice A0 l0.length c0] ?_; (with_reducible refine (impl_SpansOk.calls k _ _ l0 _ _ ?side1 ?side2 A4.out).mono ?_); (case side1 => repeat (first | exact HR0.out | (with_reducible refine Kd.C_alloc ?_ _) | (with_reducible refine Kd.C_drewN ?_ _) | (with_reducible refine Kd.C_drew ?_))); (case side2 => exact HC0.out); rintro e w6 ⟨rfl, hb⟩; refine ⟨_, rfl, ?_⟩; replace HB := hB hb; (try clear hb); (try clear hb2); (try clear hk); (try clear hi)))
  go_loopg [7, 16] k (fun kq v7 v16 w' => ∃ (x7_1 : List (S140)) (x16_1 : Int), v16 = .int .i64 x16_1 ∧ Aside0 (impl_MeetSpans.l0 kq a1 a2 x7_1 l0 (l0.length : Int) x16_1 = some r) ∧ Aside0 (kq ≤ k) ∧ Aside0 (Kd.R k140 140 w' w.heap.size (fun _ => True) v7 x7_1) ∧ Aside0 (Below w.heap.size w w'))
  case atStart => exact ⟨(([] : List (S140))), (0), (by first | rfl | (simp; done) | (simp [*]; done)), H', ⟨Nat.le_refl _⟩, ⟨by first | exact Kd.R_nil _ _ _ _ _ | exact Kd.N_nil _ _ _ _ _ | exact Kd.V_nil _ _ _ _ _ | exact Kd.Q_nil _ _ _ _ _ | exact Kd.S_nil _ _ _ _ _⟩, ⟨bS⟩⟩
  case round =>
   clear H'
   try clear c1
   try clear p2
   try clear c5
   obtain ⟨x7_1, x16_1, rfl, HA, HK1, HO_7, HB⟩ := hrel
   cases gk with
   | zero => exact absurd HA.out (by simp [impl_MeetSpans.l0])
   | succ k1 =>
    have H := HA.out
    clear HA
    simp only [impl_MeetSpans.l0] at H
    by_cases c7 : x16_1 < (l0.length : Int)
    ·rw [if_pos c7] at H
     have c7b0 : decide (x16_1 < (l0.length : Int)) = true := decide_eq_true c7
     clear c7
     by_cases c8 : 0 ≤ x16_1
     ·rw [if_pos c8] at H
      have c8b0 : decide (0 ≤ x16_1) = true := decide_eq_true c8
      clear c8
      by_cases c9 : x16_1 < (l0.length : Int)
      ·rw [if_pos c9] at H
       have c9b0 : decide (x16_1 < (l0.length : Int)) = true := decide_eq_true c9
       clear c9
       obtain ⟨ji10, hji10⟩ : ∃ j_ : Int, (mx ((rd_T140 l0 x16_1).f0) a1) = j_ := ⟨_, rfl⟩
       replace H : (if (ji10) < (mn ((rd_T140 l0 x16_1).f1) a2) then (if x7_1.length < 8796093022208 then (impl_MeetSpans.l0 k1 a1 a2 (x7_1 ++ [(⟨ji10, mn ((rd_T140 l0 x16_1).f1) a2⟩ : S140)]) l0 (l0.length : Int) (wrap64 (x16_1 + 1))) else (none)) else (impl_MeetSpans.l0 k1 a1 a2 x7_1 l0 (l0.length : Int) (wrap64 (x16_1 + 1)))) = some r := by first | (rw [hji10] at H; exact H) | (simp only [hji10] at H ⊢; exact H)
       have hji10_ : (if ((rd_T140 l0 x16_1).f0) < a1 then a1 else ((rd_T140 l0 x16_1).f0)) = ji10 := hji10
       obtain ⟨ji11, hji11⟩ : ∃ j_ : Int, (mn ((rd_T140 l0 x16_1).f1) a2) = j_ := ⟨_, rfl⟩
       replace H : (if (ji10) < (ji11) then (if x7_1.length < 8796093022208 then (impl_MeetSpans.l0 k1 a1 a2 (x7_1 ++ [(⟨ji10, ji11⟩ : S140)]) l0 (l0.length : Int) (wrap64 (x16_1 + 1))) else (none)) else (impl_MeetSpans.l0 k1 a1 a2 x7_1 l0 (l0.length : Int) (wrap64 (x16_1 + 1)))) = some r := by first | (rw [hji11] at H; exact H) | (simp only [hji11] at H ⊢; exact H)
       have hji11_ : (if a2 < ((rd_T140 l0 x16_1).f1) then a2 else ((rd_T140 l0 x16_1).f1)) = ji11 := hji11
       by_cases c12 : (ji10) < (ji11)
       ·rw [if_pos c12] at H
        have c12b0 : decide ((ji10) < (ji11)) = true := decide_eq_true c12
        clear c12
        by_cases c13 : x7_1.length < 8796093022208
        ·rw [if_pos c13] at H
         have LMc13 := Aside0.mk c13
         clear c13
         obtain ⟨y350, hy350⟩ : ∃ y_ : List (S140), y_ = (x7_1 ++ [(⟨ji10, ji11⟩ : S140)]) := ⟨_, rfl⟩
         replace H : (impl_MeetSpans.l0 k1 a1 a2 y350 l0 (l0.length : Int) (wrap64 (x16_1 + 1))) = some r := by first | (rw [hy350]; with_reducible exact H) | (have H2_ := (Option.bind_some _ _).symm.trans H; rw [hy350]; with_reducible exact H2_) | (have H2_ := (Option.bind_some _ _).symm.trans H; with_reducible exact H2_) | with_reducible exact H | (rw [hy350]; exact H) | exact H
         have Ny350 := Aside0.mk hy350
         clear hy350
         have H' := Aside0.mk H
         clear H
         have p347 : 0 ≤ (x16_1 : Int) := of_decide_eq_true (by first | (with_reducible assumption) | assumption)
         have q347 : x16_1 < (l0.length : Int) := of_decide_eq_true (by first | (with_reducible assumption) | assumption)
         obtain ⟨ad347, e347, hx347_0, hx347_1⟩ := at_T140 HR0.out x16_1 p347 q347
         cases e347
         replace hx347_0 := (HB.out.cell (World.block_lt_of_cell? w _ hx347_0)).trans hx347_0
         replace hx347_1 := (HB.out.cell (World.block_lt_of_cell? w _ hx347_1)).trans hx347_1
         replace p347 := eq_true p347
         replace q347 := eq_true q347
         go_wp2_with (first | ((with_reducible refine gD 9 ?_); refine bxE #[.int .i64 0, .int .i64 0] 140 ?_; intro gb348 hg w14 BK348 hb; have GW348 := gE hg; have GE348 := gE hg; replace HO_7 := Aside0.mk (Kd.R_below (Kd.R_elderB (rS HO_7) gb348 (Nat.le_of_eq hg.symm)) hb); replace HB := hB hb; clear hb hg; have hz15 := cz2 BK348) | ((with_reducible refine gD 10 ?_); refine bxE #[.int .i64 0, .int .i64 0] 140 ?_; intro gb349 hg w16 BK349 hb; have GW349 := gE hg; have GE349 := gE hg; have NB348_349 := Aside0.mk ((by rw [hg]; exact Nat.ne_of_lt (blk_lt (g := gb348) (o := .cells #[.int .i64 ((rd_T140 l0 x16_1).f0), .int .i64 ((rd_T140 l0 x16_1).f1)] 140 (0, 0)) kS) : gb348 ≠ gb349)); have NB349_348 := Aside0.mk ((by rw [hg]; exact Nat.ne_of_gt (blk_lt (g := gb348) (o := .cells #[.int .i64 ((rd_T140 l0 x16_1).f0), .int .i64 ((rd_T140 l0 x16_1).f1)] 140 (0, 0)) kS) : gb349 ≠ gb348)); replace HO_7 := Aside0.mk (Kd.R_below (Kd.R_elderB (by (with_reducible repeat (first | apply Kd.R_alloc | apply Kd.R_drewN | apply Kd.R_drew)); exact (Kd.R_mono (Kd.R_far (p := ⟨gb348, 1, none⟩) (Kd.R_far (p := ⟨gb348, 0, none⟩) (Kd.R_mono HO_7.out (fun k_ hk => (⟨hk, hk.2⟩ : _ ∧ k_ ≠ gb348))) (fun _ hk => hk.2) (.int .i64 ((rd_T140 l0 x16_1).f0))) (fun _ hk => hk.2) (.int .i64 ((rd_T140 l0 x16_1).f1))) (fun _ h_ => h_.1))) gb349 (Nat.le_of_eq hg.symm)) hb); replace BK348 := Aside0.mk (blk_below (g := gb348) (o := .cells #[.int .i64 ((rd_T140 l0 x16_1).f0), .int .i64 ((rd_T140 l0 x16_1).f1)] 140 (0, 0)) kS hb); replace HB := hB hb; clear hb hg; have hnb17 := NB349_348.out; have hnc17 := NB348_349.out; have hz18 := cz2 BK349) | ((with_reducible refine gate_builtin (b := .append) (xs := #[.tmp 34, .tmp 36]) rfl ?_); at_builtin; refine Kd.R_append k140 (w0 := w) w.heap.size rfl (.tmp 34) (.tmp 36) 63 140 (.agg #[(.int .i64 0), (.int .i64 0)]) 16 rfl Try.underlying63 info140 rfl (by decide) (by omega) u7 x7_1 (⟨ji10, ji11⟩ : S140) [.int .i64 ji10, .int .i64 ji11] (fun k_ => k_ ≠ gb348 ∧ k_ ≠ gb349) (fun _ => False) rfl (by first | (go_simp; done) | (go_simp; rfl)) ?aP (fun _ hk => hk.elim) ?aF ?aO ?aB ?aS ?aL ?_; (case aP => exact k140_mkM _ _ _ (⟨ji10, ji11⟩ : S140)); (case aB => exact bS); (case aF => exact (fun k_ hk => ⟨Kd.freshB (g := gb348) kS k_ hk, Kd.freshB (g := gb349) (o := .cells #[.int .i64 ji10, .int .i64 ji11] 140 (0, 0)) kS k_ hk⟩)); (case aO => exact (by (with_reducible repeat (first | apply Kd.R_alloc | apply Kd.R_drewN | apply Kd.R_drew)); exact Kd.R_mono (Kd.R_far (p := ⟨gb349, 1, none⟩) (Kd.R_far (p := ⟨gb349, 0, none⟩) (Kd.R_mono HO_7.out (fun k_ hk => (⟨hk, hk.2⟩ : _ ∧ k_ ≠ gb349))) (fun _ hk => hk.2) (.int .i64 ji10)) (fun _ hk => hk.2) (.int .i64 ji11)) (fun _ hk => ⟨hk.1.1.2, hk.1.2⟩))); (case aS => exact (below_size bS)); (case aL => have := LMc13.out; omega); intro v351 w19 ho hb hg hat; rw [← Ny350.out] at ho; have HO352 := Aside0.mk (ho); replace BK348 := Aside0.mk (blk_grown (g := gb348) kS hg (Kd.R_away HO_7.out (fun _ hk => hk.1.2))); replace BK349 := Aside0.mk (blk_grown (g := gb349) (o := .cells #[.int .i64 ji10, .int .i64 ji11] 140 (0, 0)) kS hg (Kd.R_away HO_7.out (fun _ hk => hk.2))); replace HB := Aside0.mk (hb); clear HO_7; clear ho hb hg hat))
         go_roundg k1
         case measure => have := HK1.out; omega
         case rel => exact ⟨(y350), (wrap64 (x16_1 + 1)), (by first | rfl | (simp; done) | (simp [*]; done)), H', ⟨by have := HK1.out; omega⟩, ⟨by (with_reducible repeat (first | apply Kd.R_alloc | apply Kd.R_drewN | apply Kd.R_drew)); exact Kd.R_mono HO352.out (fun _ hk => trivial)⟩, ⟨bS⟩⟩
        ·rw [if_neg c13] at H
         exact absurd H (by simp)
       ·rw [if_neg c12] at H
        have c12b0 : decide ((ji10) < (ji11)) = false := decide_eq_false c12
        clear c12
        have H' := Aside0.mk H
        clear H
        have p347 : 0 ≤ (x16_1 : Int) := of_decide_eq_true (by first | (with_reducible assumption) | assumption)
        have q347 : x16_1 < (l0.length : Int) := of_decide_eq_true (by first | (with_reducible assumption) | assumption)
        obtain ⟨ad347, e347, hx347_0, hx347_1⟩ := at_T140 HR0.out x16_1 p347 q347
        cases e347
        replace hx347_0 := (HB.out.cell (World.block_lt_of_cell? w _ hx347_0)).trans hx347_0
        replace hx347_1 := (HB.out.cell (World.block_lt_of_cell? w _ hx347_1)).trans hx347_1
        replace p347 := eq_true p347
        replace q347 := eq_true q347
        go_wp2_with (first | ((with_reducible refine gD 9 ?_); refine bxE #[.int .i64 0, .int .i64 0] 140 ?_; intro gb348 hg w20 BK348 hb; have GW348 := gE hg; have GE348 := gE hg; replace HO_7 := Aside0.mk (Kd.R_below (Kd.R_elderB (rS HO_7) gb348 (Nat.le_of_eq hg.symm)) hb); replace HB := hB hb; clear hb hg; have hz21 := cz2 BK348) | ((with_reducible refine gD 10 ?_); refine bxE #[.int .i64 0, .int .i64 0] 140 ?_; intro gb349 hg w22 BK349 hb; have GW349 := gE hg; have GE349 := gE hg; have NB348_349 := Aside0.mk ((by rw [hg]; exact Nat.ne_of_lt (blk_lt (g := gb348) (o := .cells #[.int .i64 ((rd_T140 l0 x16_1).f0), .int .i64 ((rd_T140 l0 x16_1).f1)] 140 (0, 0)) kS) : gb348 ≠ gb349)); have NB349_348 := Aside0.mk ((by rw [hg]; exact Nat.ne_of_gt (blk_lt (g := gb348) (o := .cells #[.int .i64 ((rd_T140 l0 x16_1).f0), .int .i64 ((rd_T140 l0 x16_1).f1)] 140 (0, 0)) kS) : gb349 ≠ gb348)); replace HO_7 := Aside0.mk (Kd.R_below (Kd.R_elderB (by (with_reducible repeat (first | apply Kd.R_alloc | apply Kd.R_drewN | apply Kd.R_drew)); exact (Kd.R_mono (Kd.R_far (p := ⟨gb348, 1, none⟩) (Kd.R_far (p := ⟨gb348, 0, none⟩) (Kd.R_mono HO_7.out (fun k_ hk => (⟨hk, hk.2⟩ : _ ∧ k_ ≠ gb348))) (fun _ hk => hk.2) (.int .i64 ((rd_T140 l0 x16_1).f0))) (fun _ hk => hk.2) (.int .i64 ((rd_T140 l0 x16_1).f1))) (fun _ h_ => h_.1))) gb349 (Nat.le_of_eq hg.symm)) hb); replace BK348 := Aside0.mk (blk_below (g := gb348) (o := .cells #[.int .i64 ((rd_T140 l0 x16_1).f0), .int .i64 ((rd_T140 l0 x16_1).f1)] 140 (0, 0)) kS hb); replace HB := hB hb; clear hb hg; have hnb23 := NB349_348.out; have hnc23 := NB348_349.out; have hz24 := cz2 BK349))
        go_roundg k1
        case measure => have := HK1.out; omega
        case rel => exact ⟨(x7_1), (wrap64 (x16_1 + 1)), (by first | rfl | (simp; done) | (simp [*]; done)), H', ⟨by have := HK1.out; omega⟩, ⟨by (with_reducible repeat (first | apply Kd.R_alloc | apply Kd.R_drewN | apply Kd.R_drew)); exact Kd.R_mono (Kd.R_far (p := ⟨gb349, 1, none⟩) (Kd.R_far (p := ⟨gb349, 0, none⟩) (Kd.R_mono HO_7.out (fun k_ hk => (⟨hk, hk.2⟩ : _ ∧ k_ ≠ gb349))) (fun _ hk => hk.2) (.int .i64 ji10)) (fun _ hk => hk.2) (.int .i64 ji11)) (fun _ hk => trivial)⟩, ⟨bS⟩⟩
      ·rw [if_neg c9] at H
       exact absurd H (by simp)
     ·rw [if_neg c8] at H
      exact absurd H (by simp)
    ·rw [if_neg c7] at H
     have c7b0 : decide (x16_1 < (l0.length : Int)) = false := decide_eq_false c7
     clear c7
     obtain rfl := Option.some.inj H
     simp only [Option.some.injEq, Prod.mk.injEq] at H
     obtain ⟨rfl⟩ := H
     go_wp2
     go_ret
     exact ⟨_, eS, by (with_reducible repeat (first | apply Kd.R_alloc | apply Kd.R_drewN | apply Kd.R_drew)); exact HO_7.out, bS⟩
 ·obtain rfl := Bool.eq_false_iff.mpr c5
  rw [if_neg nF] at H
  obtain rfl := Option.some.inj H
  simp only [Option.some.injEq, Prod.mk.injEq] at H
  obtain ⟨rfl⟩ := H
  go_enter Try.func111, Try.ntmps111
  go_wp2_with (first | ((with_reducible refine gC 149 ?_); refine cL (some 12) Try.func149 #[.slice A0 l0.length c0] ?_; (with_reducible refine (impl_SpansOk.calls k _ _ l0 _ _ ?side1 ?side2 A4.out).mono ?_); (case side1 => repeat (first | exact HR0.out | (with_reducible refine Kd.C_alloc ?_ _) | (with_reducible refine Kd.C_drewN ?_ _) | (with_reducible refine Kd.C_drew ?_))); (case side2 => exact HC0.out); rintro e w25 ⟨rfl, hb⟩; refine ⟨_, rfl, ?_⟩; replace HB := hB hb; (try clear hb); (try clear hb2); (try clear hk); (try clear hi)))
  go_ret
  exact ⟨_, eS, by first | exact Kd.R_nil _ _ _ _ _ | exact Kd.N_nil _ _ _ _ _ | exact Kd.V_nil _ _ _ _ _ | exact Kd.Q_nil _ _ _ _ _ | exact Kd.S_nil _ _ _ _ _, bS⟩

/-! ### impl_pathOk: function 157 -/
def impl_pathOk.f (k : Nat) (l0 : List (S166)) : Option (Bool) := if (l0.length : Int) ≤ 8 then ((impl_pointsOk.f k l0).bind fun t353 => (some t353)) else (some false)
theorem impl_pathOk.calls (k : Nat) (A0 : Option Addr) (c0 : Nat) (l0 : List (S166)) (r : Bool) (w : World) (hr0 : Kd.C k166 w A0 l0.length l0) (hc0 : l0.length ≤ c0) (h : impl_pathOk.f k l0 = some r) :
  Calls Try.prog 157 #[.slice A0 l0.length c0] w fun e w' => e = .returned (.bool r) ∧ Below w.heap.size w w' := by
 have HR0 := Aside0.mk hr0
 have HC0 := Aside0.mk hc0
 clear hr0 hc0
 have HB := Aside0.mk (Below.refl w.heap.size w)
 have H : (if (l0.length : Int) ≤ 8 then ((impl_pointsOk.f k l0).bind fun t353 => (some t353)) else (some false)) = some r := h
 clear h
 by_cases c2 : (l0.length : Int) ≤ 8
 ·rw [if_pos c2] at H
  have c2b0 : decide ((l0.length : Int) ≤ 8) = true := decide_eq_true c2
  have c2b1 : decide (l0.length ≤ 8) = true := decide_eq_true (by omega)
  clear c2
  replace H := bN H
  obtain ⟨t353, A3, H⟩ := H
  obtain rfl := Option.some.inj H
  simp only [Option.some.injEq, Prod.mk.injEq] at H
  obtain ⟨rfl⟩ := H
  go_enter Try.func157, Try.ntmps157
  go_wp2_with (first | (go_at_call 156; (with_reducible refine (impl_pointsOk.calls k _ _ l0 t353 _ ?side1 ?side2 A3.out).mono ?_); (case side1 => repeat (first | exact HR0.out | (with_reducible refine Kd.C_alloc ?_ _) | (with_reducible refine Kd.C_drewN ?_ _) | (with_reducible refine Kd.C_drew ?_))); (case side2 => exact HC0.out); rintro e w4 ⟨rfl, hb⟩; replace HB := hB hb; (try clear hb); (try clear hb2); (try clear hk); (try clear hi)))
  go_ret
  exact ⟨eS, bS⟩
 ·rw [if_neg c2] at H
  have c2b0 : decide ((l0.length : Int) ≤ 8) = false := decide_eq_false c2
  have c2b1 : decide (l0.length ≤ 8) = false := decide_eq_false (by omega)
  clear c2
  obtain rfl := Option.some.inj H
  simp only [Option.some.injEq, Prod.mk.injEq] at H
  obtain ⟨rfl⟩ := H
  go_enter Try.func157, Try.ntmps157
  go_wp2
  go_ret
  exact ⟨eS, bS⟩

/-! ### impl_crosses: function 181 -/
def impl_crosses.f (a0_0 : Int) (a0_1 : Int) (a1_0 : Int) (a1_1 : Int) (a2 : Int) (a3 : Int) : Option (Bool) := if ((decide (a0_1 > a3)) == (decide (a1_1 > a3))) = true then (some false) else (if (wrap64 (a1_1 - a0_1)) < 0 then (some (decide ((wrap64 ((wrap64 ((wrap64 (2 * a0_0)) * (wrap64 (a1_1 - a0_1)))) + (wrap64 ((wrap64 ((wrap64 ((wrap64 (2 * a3)) + 1)) - (wrap64 (2 * a0_1)))) * (wrap64 (a1_0 - a0_0)))))) < (wrap64 ((wrap64 ((wrap64 (2 * a2)) + 1)) * (wrap64 (a1_1 - a0_1))))))) else (some (decide ((wrap64 ((wrap64 ((wrap64 (2 * a0_0)) * (wrap64 (a1_1 - a0_1)))) + (wrap64 ((wrap64 ((wrap64 ((wrap64 (2 * a3)) + 1)) - (wrap64 (2 * a0_1)))) * (wrap64 (a1_0 - a0_0)))))) > (wrap64 ((wrap64 ((wrap64 (2 * a2)) + 1)) * (wrap64 (a1_1 - a0_1))))))))
theorem impl_crosses.calls (a0_0 : Int) (a0_1 : Int) (a1_0 : Int) (a1_1 : Int) (a2 : Int) (a3 : Int) (r : Bool) (w : World) (h : impl_crosses.f a0_0 a0_1 a1_0 a1_1 a2 a3 = some r) :
  Calls Try.prog 181 #[.agg #[.int .i64 a0_0, .int .i64 a0_1], .agg #[.int .i64 a1_0, .int .i64 a1_1], .int .i64 a2, .int .i64 a3] w fun e w' => e = .returned (.bool r) ∧ Below w.heap.size w w' := by
 have hu166 := Try.underlying166
 have HB := Aside0.mk (Below.refl w.heap.size w)
 have H : (if ((decide (a0_1 > a3)) == (decide (a1_1 > a3))) = true then (some false) else (if (wrap64 (a1_1 - a0_1)) < 0 then (some (decide ((wrap64 ((wrap64 ((wrap64 (2 * a0_0)) * (wrap64 (a1_1 - a0_1)))) + (wrap64 ((wrap64 ((wrap64 ((wrap64 (2 * a3)) + 1)) - (wrap64 (2 * a0_1)))) * (wrap64 (a1_0 - a0_0)))))) < (wrap64 ((wrap64 ((wrap64 (2 * a2)) + 1)) * (wrap64 (a1_1 - a0_1))))))) else (some (decide ((wrap64 ((wrap64 ((wrap64 (2 * a0_0)) * (wrap64 (a1_1 - a0_1)))) + (wrap64 ((wrap64 ((wrap64 ((wrap64 (2 * a3)) + 1)) - (wrap64 (2 * a0_1)))) * (wrap64 (a1_0 - a0_0)))))) > (wrap64 ((wrap64 ((wrap64 (2 * a2)) + 1)) * (wrap64 (a1_1 - a0_1))))))))) = some r := h
 clear h
 by_cases c5 : ((decide (a0_1 > a3)) == (decide (a1_1 > a3))) = true
 ·rw [if_pos c5] at H
  have c5b0 : ((decide (a0_1 > a3)) == (decide (a1_1 > a3))) = true := c5
  (try (have c5b1 : decide ((decide (a0_1 > a3)) = (decide (a1_1 > a3))) = true := by simpa using c5))
  (try (have c5b2 : ((decide (a0_1 > a3)) == (decide (a1_1 > a3))) = true := by simpa using c5))
  clear c5
  obtain rfl := Option.some.inj H
  simp only [Option.some.injEq, Prod.mk.injEq] at H
  obtain ⟨rfl⟩ := H
  go_enter Try.func181, Try.ntmps181
  go_wp2_with (first | ((with_reducible refine gD 4 ?_); refine bxE #[.int .i64 a0_0, .int .i64 a0_1] 166 ?_; intro gb354 hg w6 BK354 hb; have GW354 := gE hg; have GE354 := gE hg; replace HB := hB hb; clear hb hg) | ((with_reducible refine gD 5 ?_); refine bxE #[.int .i64 a1_0, .int .i64 a1_1] 166 ?_; intro gb355 hg w7 BK355 hb; have GW355 := gE hg; have GE355 := gE hg; have NB354_355 := nL (g := gb354) hg; have NB355_354 := nG (g := gb354) hg; replace BK354 := kB (g := gb354) hb; replace HB := hB hb; clear hb hg; have hnb8 := NB354_355.out; have hnc8 := NB355_354.out; have hz9 := cz2 BK354; have hz10 := cz2 BK355))
  go_ret
  exact ⟨eS, bS⟩
 ·rw [if_neg c5] at H
  have c5b0 : ((decide (a0_1 > a3)) == (decide (a1_1 > a3))) = false := by simpa using c5
  (try (have c5b1 : decide ((decide (a0_1 > a3)) = (decide (a1_1 > a3))) = false := by simpa using c5))
  (try (have c5b2 : ((decide (a0_1 > a3)) == (decide (a1_1 > a3))) = false := by simpa using c5))
  (try (have c5b3 : ¬ ((decide (a0_1 > a3)) = (decide (a1_1 > a3))) := by simpa using c5))
  clear c5
  by_cases c11 : (wrap64 (a1_1 - a0_1)) < 0
  ·rw [if_pos c11] at H
   have c11b0 : decide ((wrap64 (a1_1 - a0_1)) < 0) = true := decide_eq_true c11
   clear c11
   obtain rfl := Option.some.inj H
   simp only [Option.some.injEq, Prod.mk.injEq] at H
   obtain ⟨rfl⟩ := H
   go_enter Try.func181, Try.ntmps181
   go_wp2_with (first | ((with_reducible refine gD 4 ?_); refine bxE #[.int .i64 a0_0, .int .i64 a0_1] 166 ?_; intro gb354 hg w12 BK354 hb; have GW354 := gE hg; have GE354 := gE hg; replace HB := hB hb; clear hb hg) | ((with_reducible refine gD 5 ?_); refine bxE #[.int .i64 a1_0, .int .i64 a1_1] 166 ?_; intro gb355 hg w13 BK355 hb; have GW355 := gE hg; have GE355 := gE hg; have NB354_355 := nL (g := gb354) hg; have NB355_354 := nG (g := gb354) hg; replace BK354 := kB (g := gb354) hb; replace HB := hB hb; clear hb hg; have hnb14 := NB354_355.out; have hnc14 := NB355_354.out; have hz15 := cz2 BK354; have hz16 := cz2 BK355))
   go_ret
   exact ⟨eS, bS⟩
  ·rw [if_neg c11] at H
   have c11b0 : decide ((wrap64 (a1_1 - a0_1)) < 0) = false := decide_eq_false c11
   clear c11
   obtain rfl := Option.some.inj H
   simp only [Option.some.injEq, Prod.mk.injEq] at H
   obtain ⟨rfl⟩ := H
   go_enter Try.func181, Try.ntmps181
   go_wp2_with (first | ((with_reducible refine gD 4 ?_); refine bxE #[.int .i64 a0_0, .int .i64 a0_1] 166 ?_; intro gb354 hg w17 BK354 hb; have GW354 := gE hg; have GE354 := gE hg; replace HB := hB hb; clear hb hg) | ((with_reducible refine gD 5 ?_); refine bxE #[.int .i64 a1_0, .int .i64 a1_1] 166 ?_; intro gb355 hg w18 BK355 hb; have GW355 := gE hg; have GE355 := gE hg; have NB354_355 := nL (g := gb354) hg; have NB355_354 := nG (g := gb354) hg; replace BK354 := kB (g := gb354) hb; replace HB := hB hb; clear hb hg; have hnb19 := NB354_355.out; have hnc19 := NB355_354.out; have hz20 := cz2 BK354; have hz21 := cz2 BK355))
   go_ret
   exact ⟨eS, bS⟩

end Go.Proofs.Ytimpejidlnjhlaa.QFnEstimates
