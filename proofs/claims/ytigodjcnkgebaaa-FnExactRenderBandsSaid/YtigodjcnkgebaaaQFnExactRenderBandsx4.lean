-- Made out of the translation by a program of this session (a changed copy of the print). Not trusted: Lean checks it.
import Derived.Test.YtigodjcnkgebaaaQFnExactRenderBandsx0
import Derived.Test.YtigodjcnkgebaaaQFnExactRenderBandsx1
import Derived.Test.YtigodjcnkgebaaaQFnExactRenderBandsx2
import Derived.Test.YtigodjcnkgebaaaQFnExactRenderBandsx3
namespace Go.Proofs.Ytigodjcnkgebaaa.QFnExactRenderBands
open Go.RowKit Go.Proofs.YtigodjcnkgebaaaW.PrintWords Go.Proofs.YtigodjcnkgebaaaW.PrintLast Go.Proofs.YtigodjcnkgebaaaW.PrintMore
attribute [local go_sem] max2_int min2_int max_two min_two max_three min_three max_four min_four   -- for this text's walks alone
set_option linter.unusedVariables false
set_option linter.unusedSimpArgs false
set_option maxHeartbeats 8000000
set_option maxRecDepth 100000

/-! ### impl_ObjectBox: function 88 -/
def impl_ObjectBox.f (k : Nat) (l0_0 : List (S171)) (a0_1 : Int) (a0_2 : Int) (a0_3 : Int) (a0_4 : Int) (a0_5 : Int) : Option (Int × Int × Int × Int) := (impl_ObjectOk.f k l0_0 a0_1 a0_2 a0_3 a0_4 a0_5).bind fun t149 => (if t149 = true then ((impl_BoxOf.f k l0_0).bind fun bt150 => ((impl_MeetBox.f k bt150.1 bt150.2.1 bt150.2.2.1 bt150.2.2.2 a0_2 a0_3 a0_4 a0_5).bind fun bt154 => ((impl_pageBox.f).bind fun bt158 => ((impl_MeetBox.f k bt154.1 bt154.2.1 bt154.2.2.1 bt154.2.2.2 bt158.1 bt158.2.1 bt158.2.2.1 bt158.2.2.2).bind fun bt162 => (some (bt162.1, bt162.2.1, bt162.2.2.1, bt162.2.2.2)))))) else (some (0, 0, 0, 0)))
def impl_ObjectBox.T3 : Bool × List (List Nat × List Nat) := (true, [([], []), ([0], [0]), ([1], [1]), ([], []), ([3], [3]), ([2, 4, 2], [2, 4]), ([5], []), ([5, 6, 6], [5, 6]), ([7, 7, 0, 1, 2, 3, 4, 5, 6, 7], [7])])
def impl_ObjectBox.B3 : List Nat := [0, 1, 3, 0, 8, 31, 63, 127, 255]
theorem impl_ObjectBox.tab3 : rtab .any (opsOf Try.f88 3) = impl_ObjectBox.T3 := by kernel_rfl
theorem impl_ObjectBox.bits3 : waitsOk impl_ObjectBox.T3.2 impl_ObjectBox.B3 = true := by kernel_rfl
theorem impl_ObjectBox.calls (k : Nat) (A0_0 : Option Addr) (c0_0 : Nat) (l0_0 : List (S171)) (a0_1 : Int) (a0_2 : Int) (a0_3 : Int) (a0_4 : Int) (a0_5 : Int) (r1 : Int) (r2 : Int) (r3 : Int) (r4 : Int) (w : World) (hr0_0 : Kd.C k171 w A0_0 l0_0.length l0_0) (hc0_0 : l0_0.length ≤ c0_0) (h : impl_ObjectBox.f k l0_0 a0_1 a0_2 a0_3 a0_4 a0_5 = some (r1, r2, r3, r4)) :
  Calls Try.prog 88 #[.agg #[.slice A0_0 l0_0.length c0_0, .int .i64 a0_1, .int .i64 a0_2, .int .i64 a0_3, .int .i64 a0_4, .int .i64 a0_5]] w fun e w' => e = .returned (.agg #[.int .i64 r1, .int .i64 r2, .int .i64 r3, .int .i64 r4]) ∧ Below w.heap.size w w' := by
 have hu45 := Try.underlying45
 have hu43 := Try.underlying43
 have HR0_0 := Aside0.mk hr0_0
 have HC0_0 := Aside0.mk hc0_0
 clear hr0_0 hc0_0
 have HB := Aside0.mk (Below.refl w.heap.size w)
 have H : ((impl_ObjectOk.f k l0_0 a0_1 a0_2 a0_3 a0_4 a0_5).bind fun t149 => (if t149 = true then ((impl_BoxOf.f k l0_0).bind fun bt150 => ((impl_MeetBox.f k bt150.1 bt150.2.1 bt150.2.2.1 bt150.2.2.2 a0_2 a0_3 a0_4 a0_5).bind fun bt154 => ((impl_pageBox.f).bind fun bt158 => ((impl_MeetBox.f k bt154.1 bt154.2.1 bt154.2.2.1 bt154.2.2.2 bt158.1 bt158.2.1 bt158.2.2.1 bt158.2.2.2).bind fun bt162 => (some (bt162.1, bt162.2.1, bt162.2.2.1, bt162.2.2.2)))))) else (some (0, 0, 0, 0)))) = some (r1, r2, r3, r4) := h
 clear h
 replace H := bN H
 obtain ⟨t149, A2, H⟩ := H
 by_cases c3 : t149 = true
 ·subst c3
  rw [if_pos rfl] at H
  replace H := bN H
  obtain ⟨⟨t150, t151, t152, t153⟩, A4, H⟩ := H
  replace H := bN H
  obtain ⟨⟨t154, t155, t156, t157⟩, A5, H⟩ := H
  replace H := bN H
  obtain ⟨⟨t158, t159, t160, t161⟩, A6, H⟩ := H
  replace H := bN H
  obtain ⟨⟨t162, t163, t164, t165⟩, A7, H⟩ := H
  obtain ⟨rfl, rfl, rfl, rfl⟩ := sI4 H
  go_enter Try.func88, Try.ntmps88
  try go_wp2_with (first | ((with_reducible refine gD 1 ?_); refine bxE #[.slice A0_0 l0_0.length c0_0, .int .i64 a0_1, .int .i64 a0_2, .int .i64 a0_3, .int .i64 a0_4, .int .i64 a0_5] 45 ?_; intro gb147 hg w8 BK147 hb; have GW147 := gE hg; have GE147 := gE hg; replace HB := hB hb; clear hb hg) | ((with_reducible refine gD 2 ?_); refine bxE #[.int .i64 0, .int .i64 0, .int .i64 0, .int .i64 0] 43 ?_; intro gb148 hg w9 BK148 hb; have GW148 := gE hg; have GE148 := gE hg; have NB147_148 := nL (g := gb147) hg; have NB148_147 := nG (g := gb147) hg; replace BK147 := kB (g := gb147) hb; replace HB := hB hb; clear hb hg; have hnb10 := NB147_148.out; have hnc10 := NB148_147.out; have hz11 := cz6 BK147) | ((with_reducible refine gC 87 ?_); refine cL (some 4) Try.func87 #[.agg #[.slice A0_0 l0_0.length c0_0, .int .i64 a0_1, .int .i64 a0_2, .int .i64 a0_3, .int .i64 a0_4, .int .i64 a0_5]] ?_; (with_reducible refine (impl_ObjectOk.calls k _ _ l0_0 a0_1 a0_2 a0_3 a0_4 a0_5 _ _ (cS (Kd.C_below HR0_0.out HB.out)) HC0_0.out A2.out).mono ?_); rintro e w12 ⟨rfl, hb⟩; refine ⟨_, rfl, ?_⟩; replace BK147 := kB (g := gb147) hb; replace BK148 := kB (g := gb148) hb; replace HB := hB hb; (try clear hb); (try clear hb2); (try clear hk); (try clear hi)))
  replace BK147 := Aside0.mk (blk_drew BK147.out)
  replace BK148 := Aside0.mk (blk_drew BK148.out)
  replace HB := Aside0.mk (below_drew1 HB.out)
  refine start_ (n := 9) (S := fun w' => w'.cell? ⟨gb147, 0, none⟩ = some (.slice A0_0 l0_0.length c0_0) ∧ w'.cell? ⟨gb147, 1, none⟩ = some (.int .i64 a0_1) ∧ w'.cell? ⟨gb147, 2, none⟩ = some (.int .i64 a0_2) ∧ w'.cell? ⟨gb147, 3, none⟩ = some (.int .i64 a0_3) ∧ w'.cell? ⟨gb147, 4, none⟩ = some (.int .i64 a0_4) ∧ w'.cell? ⟨gb147, 5, none⟩ = some (.int .i64 a0_5)) (ds := []) #[false, false, false, false, false, false, false, false, false] (by kernel_rfl) rfl rfl (cy6 BK147) (fun hHeld => ?_); refine with_tabW impl_ObjectBox.tab3 impl_ObjectBox.bits3 (fun HT_ HW_ => ?_)
  generalize w12.drew = w13 at BK147 BK148 HB hHeld ⊢
  refine pU 0 (some 7) #[true, false, false, false, false, false, false, false, false] ?_
  refine pU 3 (some 10) #[true, false, false, true, false, false, false, false, false] ?_
  refine tK 1 (some 8) #[true, true, false, true, false, false, false, false, false] ?_
  refine tK 4 (some 11) #[true, true, false, true, true, false, false, false, false] ?_
  refine one_ (i := 2) (N := some 9) #[true, true, true, true, true, false, false, false, false] rfl rfl (one_of HT_.out (by kernel_rfl)) (by decide) (fun K hK => ?_)
  refine goes_ Try.func154 (by kernel_rfl) rfl #[.slice A0_0 l0_0.length c0_0] (by rfl) rfl rfl (by (try simp only [List.map_toArray, List.map_cons, List.map_nil]); first | done | rfl | (simp only [List.length_drop, List.length_take]; rfl)) ?_
  with_reducible refine (impl_BoxOf.calls k _ _ l0_0 t150 t151 t152 t153 _ ?side1 ?side2 A4.out).mono ?_
  (case side1 => exact cS (Kd.C_below HR0_0.out HB.out))
  (case side2 => exact HC0_0.out)
  rintro e w14 ⟨rfl, hb⟩
  refine ⟨_, rfl, ?_⟩
  replace BK147 := kB (g := gb147) hb
  replace BK148 := kB (g := gb148) hb
  replace HB := hB hb
  (try clear hb)
  (try clear hb2)
  (try clear hk)
  (try clear hi)
  refine hK.out _ _ (cy6 BK147) (fun hHeld => ?_)
  clear hK K
  refine norm_ (a' := ?_) ?_ ?_
  rotate_left
  ·show Act.put _ (some 9) _ = _
   simp only [Act.put, List.setIfInBounds_toArray, List.set_cons_zero, List.set_cons_succ, i64_w, i32_w]
   rfl
  refine one_ (i := 5) (N := some 12) #[true, true, true, true, true, true, false, false, false] rfl rfl (one_of HT_.out (by kernel_rfl)) (by decide) (fun K hK => ?_)
  refine goes_ Try.func153 (by kernel_rfl) rfl #[.agg #[.int .i64 t150, .int .i64 t151, .int .i64 t152, .int .i64 t153], .agg #[.int .i64 a0_2, .int .i64 a0_3, .int .i64 a0_4, .int .i64 a0_5]] (by rfl) rfl rfl (by (try simp only [List.map_toArray, List.map_cons, List.map_nil]); first | done | rfl | (simp only [List.length_drop, List.length_take]; rfl)) ?_
  with_reducible refine (impl_MeetBox.calls k t150 t151 t152 t153 a0_2 a0_3 a0_4 a0_5 t154 t155 t156 t157 _ A5.out).mono ?_
  rintro e w15 ⟨rfl, hb⟩
  refine ⟨_, rfl, ?_⟩
  replace BK147 := kB (g := gb147) hb
  replace BK148 := kB (g := gb148) hb
  replace HB := hB hb
  (try clear hb)
  (try clear hb2)
  (try clear hk)
  (try clear hi)
  refine hK.out _ _ (cy6 BK147) (fun hHeld => ?_)
  clear hK K
  refine norm_ (a' := ?_) ?_ ?_
  rotate_left
  ·show Act.put _ (some 12) _ = _
   simp only [Act.put, List.setIfInBounds_toArray, List.set_cons_zero, List.set_cons_succ, i64_w, i32_w]
   rfl
  refine one_ (i := 6) (N := some 13) #[true, true, true, true, true, true, true, false, false] rfl rfl (one_of HT_.out (by kernel_rfl)) (by decide) (fun K hK => ?_)
  refine goes_ Try.func111 (by kernel_rfl) rfl #[] (by rfl) rfl rfl (by (try simp only [List.map_toArray, List.map_cons, List.map_nil]); first | done | rfl | (simp only [List.length_drop, List.length_take]; rfl)) ?_
  with_reducible refine (impl_pageBox.calls  t158 t159 t160 t161 _ A6.out).mono ?_
  rintro e w16 ⟨rfl, hb⟩
  refine ⟨_, rfl, ?_⟩
  replace BK147 := kB (g := gb147) hb
  replace BK148 := kB (g := gb148) hb
  replace HB := hB hb
  (try clear hb)
  (try clear hb2)
  (try clear hk)
  (try clear hi)
  refine hK.out _ _ (cy6 BK147) (fun hHeld => ?_)
  clear hK K
  refine norm_ (a' := ?_) ?_ ?_
  rotate_left
  ·show Act.put _ (some 13) _ = _
   simp only [Act.put, List.setIfInBounds_toArray, List.set_cons_zero, List.set_cons_succ, i64_w, i32_w]
   rfl
  refine one_ (i := 7) (N := some 14) #[true, true, true, true, true, true, true, true, false] rfl rfl (one_of HT_.out (by kernel_rfl)) (by decide) (fun K hK => ?_)
  refine goes_ Try.func153 (by kernel_rfl) rfl #[.agg #[.int .i64 t154, .int .i64 t155, .int .i64 t156, .int .i64 t157], .agg #[.int .i64 t158, .int .i64 t159, .int .i64 t160, .int .i64 t161]] (by rfl) rfl rfl (by (try simp only [List.map_toArray, List.map_cons, List.map_nil]); first | done | rfl | (simp only [List.length_drop, List.length_take]; rfl)) ?_
  with_reducible refine (impl_MeetBox.calls k t154 t155 t156 t157 t158 t159 t160 t161 t162 t163 t164 t165 _ A7.out).mono ?_
  rintro e w17 ⟨rfl, hb⟩
  refine ⟨_, rfl, ?_⟩
  replace BK147 := kB (g := gb147) hb
  replace BK148 := kB (g := gb148) hb
  replace HB := hB hb
  (try clear hb)
  (try clear hb2)
  (try clear hk)
  (try clear hi)
  refine hK.out _ _ (cy6 BK147) (fun hHeld => ?_)
  clear hK K
  refine norm_ (a' := ?_) ?_ ?_
  rotate_left
  ·show Act.put _ (some 14) _ = _
   simp only [Act.put, List.setIfInBounds_toArray, List.set_cons_zero, List.set_cons_succ, i64_w, i32_w]
   rfl
  refine one_ (i := 8) (N := none) #[true, true, true, true, true, true, true, true, true] rfl rfl (one_of HT_.out (by kernel_rfl)) (by decide) (fun K hK => ?_)
  have hs18 : w17.cell? ⟨gb148, 0, none⟩ = some (.int .i64 0) := (blk_cell BK148.out 0).trans rfl
  have hfs18 := blk_frozen BK148.out 0
  have hns18_0 := NB147_148.out
  have hms18_0 := NB148_147.out
  have hs19 : w17.cell? ⟨gb148, 1, none⟩ = some (.int .i64 0) := (blk_cell BK148.out 1).trans rfl
  have hfs19 := blk_frozen BK148.out 1
  have hns19_0 := NB147_148.out
  have hms19_0 := NB148_147.out
  have hs20 : w17.cell? ⟨gb148, 2, none⟩ = some (.int .i64 0) := (blk_cell BK148.out 2).trans rfl
  have hfs20 := blk_frozen BK148.out 2
  have hns20_0 := NB147_148.out
  have hms20_0 := NB148_147.out
  have hs21 : w17.cell? ⟨gb148, 3, none⟩ = some (.int .i64 0) := (blk_cell BK148.out 3).trans rfl
  have hfs21 := blk_frozen BK148.out 3
  have hns21_0 := NB147_148.out
  have hms21_0 := NB148_147.out
  refine skip_ (w1 := ?_) (by rfl) rfl ?_ ?_
  rotate_left
  ·go_simp
   rfl
  refine hK.out _ _ ⟨((cell_far (p := ⟨gb148, _, none⟩) NB147_148.out _).trans (((cell_far (p := ⟨gb148, _, none⟩) NB147_148.out _).trans (((cell_far (p := ⟨gb148, _, none⟩) NB147_148.out _).trans (((cell_far (p := ⟨gb148, _, none⟩) NB147_148.out _).trans (hHeld.1)))))))), ((cell_far (p := ⟨gb148, _, none⟩) NB147_148.out _).trans (((cell_far (p := ⟨gb148, _, none⟩) NB147_148.out _).trans (((cell_far (p := ⟨gb148, _, none⟩) NB147_148.out _).trans (((cell_far (p := ⟨gb148, _, none⟩) NB147_148.out _).trans (hHeld.2.1)))))))), ((cell_far (p := ⟨gb148, _, none⟩) NB147_148.out _).trans (((cell_far (p := ⟨gb148, _, none⟩) NB147_148.out _).trans (((cell_far (p := ⟨gb148, _, none⟩) NB147_148.out _).trans (((cell_far (p := ⟨gb148, _, none⟩) NB147_148.out _).trans (hHeld.2.2.1)))))))), ((cell_far (p := ⟨gb148, _, none⟩) NB147_148.out _).trans (((cell_far (p := ⟨gb148, _, none⟩) NB147_148.out _).trans (((cell_far (p := ⟨gb148, _, none⟩) NB147_148.out _).trans (((cell_far (p := ⟨gb148, _, none⟩) NB147_148.out _).trans (hHeld.2.2.2.1)))))))), ((cell_far (p := ⟨gb148, _, none⟩) NB147_148.out _).trans (((cell_far (p := ⟨gb148, _, none⟩) NB147_148.out _).trans (((cell_far (p := ⟨gb148, _, none⟩) NB147_148.out _).trans (((cell_far (p := ⟨gb148, _, none⟩) NB147_148.out _).trans (hHeld.2.2.2.2.1)))))))), ((cell_far (p := ⟨gb148, _, none⟩) NB147_148.out _).trans (((cell_far (p := ⟨gb148, _, none⟩) NB147_148.out _).trans (((cell_far (p := ⟨gb148, _, none⟩) NB147_148.out _).trans (((cell_far (p := ⟨gb148, _, none⟩) NB147_148.out _).trans (hHeld.2.2.2.2.2))))))))⟩ (fun hHeld => ?_)
  clear hK K
  refine done_ (done_of HT_.out (by kernel_rfl)) ?_
  try go_wp2
  refine bodyPost_ret (results_cell_row rfl _ _ gb148 43 #[.int .i64 t162, .int .i64 t163, .int .i64 t164, .int .i64 t165] (0, 0) _ rfl kS Try.underlying43 rfl (by kernel_rfl)) rfl ?_
  exact ⟨eS, bS⟩
 ·obtain rfl := Bool.eq_false_iff.mpr c3
  rw [if_neg nF] at H
  obtain ⟨rfl, rfl, rfl, rfl⟩ := sI4 H
  go_enter Try.func88, Try.ntmps88
  go_wp2_with (first | ((with_reducible refine gD 1 ?_); refine bxE #[.slice A0_0 l0_0.length c0_0, .int .i64 a0_1, .int .i64 a0_2, .int .i64 a0_3, .int .i64 a0_4, .int .i64 a0_5] 45 ?_; intro gb147 hg w22 BK147 hb; have GW147 := gE hg; have GE147 := gE hg; replace HB := hB hb; clear hb hg) | ((with_reducible refine gD 2 ?_); refine bxE #[.int .i64 0, .int .i64 0, .int .i64 0, .int .i64 0] 43 ?_; intro gb148 hg w23 BK148 hb; have GW148 := gE hg; have GE148 := gE hg; have NB147_148 := nL (g := gb147) hg; have NB148_147 := nG (g := gb147) hg; replace BK147 := kB (g := gb147) hb; replace HB := hB hb; clear hb hg; have hnb24 := NB147_148.out; have hnc24 := NB148_147.out; have hz25 := cz6 BK147) | ((with_reducible refine gC 87 ?_); refine cL (some 4) Try.func87 #[.agg #[.slice A0_0 l0_0.length c0_0, .int .i64 a0_1, .int .i64 a0_2, .int .i64 a0_3, .int .i64 a0_4, .int .i64 a0_5]] ?_; (with_reducible refine (impl_ObjectOk.calls k _ _ l0_0 a0_1 a0_2 a0_3 a0_4 a0_5 _ _ (cS (Kd.C_below HR0_0.out HB.out)) HC0_0.out A2.out).mono ?_); rintro e w26 ⟨rfl, hb⟩; refine ⟨_, rfl, ?_⟩; replace BK147 := kB (g := gb147) hb; replace BK148 := kB (g := gb148) hb; replace HB := hB hb; (try clear hb); (try clear hb2); (try clear hk); (try clear hi); have hz27 := cz4 BK148))
  refine bodyPost_ret (results_cell_row rfl _ _ gb148 43 #[.int .i64 0, .int .i64 0, .int .i64 0, .int .i64 0] (0, 0) _ rfl kS Try.underlying43 rfl (by kernel_rfl)) rfl ?_
  exact ⟨eS, bS⟩

/-! ### impl_SpansOk: function 155 -/
def impl_SpansOk.l0 : Nat → List (S124) → List (S124) → Int → Int → Option (Bool)
 | 0, _, _, _, _ => none
 | k + 1, x0, x8, x9, x10 => if x10 < x9 then (if 0 ≤ x10 then (if x10 < (x8.length : Int) then (if ((rd_T124 x8 x10).f0) ≥ ((rd_T124 x8 x10).f1) then (some false) else (if x10 > 0 then (if 0 ≤ (wrap64 (x10 - 1)) then (if (wrap64 (x10 - 1)) < (x0.length : Int) then (if ((rd_T124 x0 (wrap64 (x10 - 1))).f1) ≥ ((rd_T124 x8 x10).f0) then (some false) else (impl_SpansOk.l0 k x0 x8 x9 (wrap64 (x10 + 1)))) else (none)) else (none)) else (impl_SpansOk.l0 k x0 x8 x9 (wrap64 (x10 + 1))))) else (none)) else (none)) else (some true)
def impl_SpansOk.f (k : Nat) (l0 : List (S124)) : Option (Bool) := if (l0.length : Int) > 8 then (some false) else (impl_SpansOk.l0 k l0 l0 (l0.length : Int) 0)
theorem impl_SpansOk.calls (k : Nat) (A0 : Option Addr) (c0 : Nat) (l0 : List (S124)) (r : Bool) (w : World) (hr0 : Kd.C k124 w A0 l0.length l0) (hc0 : l0.length ≤ c0) (h : impl_SpansOk.f k l0 = some r) :
  Calls Try.prog 155 #[.slice A0 l0.length c0] w fun e w' => e = .returned (.bool r) ∧ Below w.heap.size w w' := by
 have hu124 := Try.underlying124
 have HR0 := Aside0.mk hr0
 have HC0 := Aside0.mk hc0
 clear hr0 hc0
 have HB := Aside0.mk (Below.refl w.heap.size w)
 have H : (if (l0.length : Int) > 8 then (some false) else (impl_SpansOk.l0 k l0 l0 (l0.length : Int) 0)) = some r := h
 clear h
 by_cases c2 : (l0.length : Int) > 8
 ·rw [if_pos c2] at H
  have c2b0 : decide (8 < (l0.length : Int)) = true := decide_eq_true c2
  have c2b1 : decide (8 < l0.length) = true := decide_eq_true (by omega)
  clear c2
  obtain rfl := Option.some.inj H
  go_enter Try.func155, Try.ntmps155
  go_wp2
  repeat (go_quiet (fail); try go_wp2)
  go_ret
  exact ⟨eS, bS⟩
 ·rw [if_neg c2] at H
  have c2b0 : decide (8 < (l0.length : Int)) = false := decide_eq_false c2
  have c2b1 : decide (8 < l0.length) = false := decide_eq_false (by omega)
  clear c2
  have H' := Aside0.mk H
  clear H
  go_enter Try.func155, Try.ntmps155
  go_wp2
  repeat (go_quiet (fail); try go_wp2)
  go_loopg [10] k (fun kq v10 w' => ∃ (x10_1 : Int), v10 = .int .i64 x10_1 ∧ Aside0 (impl_SpansOk.l0 kq l0 l0 (l0.length : Int) x10_1 = some r) ∧ Aside0 (kq ≤ k) ∧ Aside0 (Below w.heap.size w w'))
  case atStart => exact ⟨(0), fS, H', ⟨Nat.le_refl _⟩, ⟨bS⟩⟩
  case round =>
   clear H'
   try clear c1
   try clear c2
   try clear c2b0
   try clear c2b1
   try clear p2
   obtain ⟨x10_1, rfl, HA, HK1, HB⟩ := hrel
   cases gk with
   | zero => exact absurd HA.out (by simp [impl_SpansOk.l0])
   | succ k1 =>
    have H := HA.out
    clear HA
    simp only [impl_SpansOk.l0] at H
    rcases iD H with ⟨c3b0, H⟩ | ⟨c3b0, H⟩
    ·obtain ⟨c4b0, H⟩ := iT H
     obtain ⟨c5b0, H⟩ := iT H
     by_cases c6 : ((rd_T124 l0 x10_1).f0) ≥ ((rd_T124 l0 x10_1).f1)
     ·rw [if_pos c6] at H
      have c6b0 : decide (((rd_T124 l0 x10_1).f1) ≤ ((rd_T124 l0 x10_1).f0)) = true := decide_eq_true c6
      clear c6
      obtain rfl := Option.some.inj H
      have p166 : 0 ≤ (x10_1 : Int) := dA
      have q166 : x10_1 < (l0.length : Int) := dA
      obtain ⟨ad166, e166, hx166_0, hx166_1⟩ := at_T124 HR0.out x10_1 p166 q166
      cases e166
      replace hx166_0 := cB HB hx166_0
      replace hx166_1 := cB HB hx166_1
      replace p166 := eq_true p166
      replace q166 := eq_true q166
      go_wp2_with (first | ((with_reducible refine gD 4 ?_); refine bxE #[.int .i64 0, .int .i64 0] 124 ?_; intro gb167 hg w7 BK167 hb; have GW167 := gE hg; have GE167 := gE hg; replace HB := hB hb; clear hb hg; have hz8 := cz2 BK167))
      repeat (go_quiet (first | ((with_reducible refine gD 4 ?_); refine bxE #[.int .i64 0, .int .i64 0] 124 ?_; intro gb167 hg w7 BK167 hb; have GW167 := gE hg; have GE167 := gE hg; replace HB := hB hb; clear hb hg; have hz8 := cz2 BK167)); try go_wp2_with (first | ((with_reducible refine gD 4 ?_); refine bxE #[.int .i64 0, .int .i64 0] 124 ?_; intro gb167 hg w7 BK167 hb; have GW167 := gE hg; have GE167 := gE hg; replace HB := hB hb; clear hb hg; have hz8 := cz2 BK167)))
      go_ret
      exact ⟨eS, bS⟩
     ·rw [if_neg c6] at H
      have c6b0 : decide (((rd_T124 l0 x10_1).f1) ≤ ((rd_T124 l0 x10_1).f0)) = false := decide_eq_false c6
      clear c6
      by_cases c9 : x10_1 > 0
      ·rw [if_pos c9] at H
       have c9b0 : decide (0 < x10_1) = true := decide_eq_true c9
       clear c9
       obtain ⟨ji10, hji10⟩ : ∃ j_ : Int, (wrap64 (x10_1 - 1)) = j_ := ⟨_, rfl⟩
       replace H : (if 0 ≤ (ji10) then (if (ji10) < (l0.length : Int) then (if ((rd_T124 l0 (ji10)).f1) ≥ ((rd_T124 l0 x10_1).f0) then (some false) else (impl_SpansOk.l0 k1 l0 l0 (l0.length : Int) (wrap64 (x10_1 + 1)))) else (none)) else (none)) = some r := by first | (rw [hji10] at H; exact H) | (simp only [hji10] at H ⊢; exact H)
       have hji10w : (IntKind.i64.wrap (x10_1 - 1)) = ji10 := (i64_w _).trans hji10
       obtain ⟨c11b0, H⟩ := iT H
       obtain ⟨c12b0, H⟩ := iT H
       by_cases c13 : ((rd_T124 l0 (ji10)).f1) ≥ ((rd_T124 l0 x10_1).f0)
       ·rw [if_pos c13] at H
        have c13b0 : decide (((rd_T124 l0 x10_1).f0) ≤ ((rd_T124 l0 (ji10)).f1)) = true := decide_eq_true c13
        clear c13
        obtain rfl := Option.some.inj H
        have p166 : 0 ≤ (x10_1 : Int) := dA
        have q166 : x10_1 < (l0.length : Int) := dA
        obtain ⟨ad166, e166, hx166_0, hx166_1⟩ := at_T124 HR0.out x10_1 p166 q166
        cases e166
        replace hx166_0 := cB HB hx166_0
        replace hx166_1 := cB HB hx166_1
        replace p166 := eq_true p166
        replace q166 := eq_true q166
        go_wp2_with (first | ((with_reducible refine gD 4 ?_); refine bxE #[.int .i64 0, .int .i64 0] 124 ?_; intro gb167 hg w14 BK167 hb; have GW167 := gE hg; have GE167 := gE hg; replace HB := hB hb; clear hb hg; have hz15 := cz2 BK167; have p168 : 0 ≤ ((ji10) : Int) := dA; have q168 : (ji10) < (l0.length : Int) := dA; obtain ⟨ad168, e168, hx168_0, hx168_1⟩ := at_T124 HR0.out (ji10) p168 q168; obtain rfl : ad166 = ad168 := (by injection e168); have hn168_0 : ad166.block ≠ gb167 := nA hx168_0 GW167; have hn168_1 : ad166.block ≠ gb167 := nA hx168_0 GW167; replace hx168_0 := cB HB hx168_0; replace hx168_1 := cB HB hx168_1; replace hx168_0 := (cell_far (p := ⟨gb167, 0, none⟩) (by first | (rw [add_block]; exact hn168_0) | (show (Addr.add _ _).block ≠ _; rw [add_block]; exact hn168_0) | exact hn168_0) (.int .i64 ((rd_T124 l0 x10_1).f0))).trans hx168_0; replace hx168_1 := (cell_far (p := ⟨gb167, 0, none⟩) (by first | (rw [add_block]; exact hn168_0) | (show (Addr.add _ _).block ≠ _; rw [add_block]; exact hn168_0) | exact hn168_0) (.int .i64 ((rd_T124 l0 x10_1).f0))).trans hx168_1; replace hx168_0 := (cell_far (p := ⟨gb167, 1, none⟩) (by first | (rw [add_block]; exact hn168_1) | (show (Addr.add _ _).block ≠ _; rw [add_block]; exact hn168_1) | exact hn168_1) (.int .i64 ((rd_T124 l0 x10_1).f1))).trans hx168_0; replace hx168_1 := (cell_far (p := ⟨gb167, 1, none⟩) (by first | (rw [add_block]; exact hn168_1) | (show (Addr.add _ _).block ≠ _; rw [add_block]; exact hn168_1) | exact hn168_1) (.int .i64 ((rd_T124 l0 x10_1).f1))).trans hx168_1; (try have hy168_0 := fun (n_ : Nat) => (show ((((w14.drewN n_).setCell ⟨gb167, 0, none⟩ (.int .i64 ((rd_T124 l0 x10_1).f0))).setCell ⟨gb167, 1, none⟩ (.int .i64 ((rd_T124 l0 x10_1).f1)))).cell? _ = some _ from hx168_0)); (try have hy168_1 := fun (n_ : Nat) => (show ((((w14.drewN n_).setCell ⟨gb167, 0, none⟩ (.int .i64 ((rd_T124 l0 x10_1).f0))).setCell ⟨gb167, 1, none⟩ (.int .i64 ((rd_T124 l0 x10_1).f1)))).cell? _ = some _ from hx168_1)); clear hn168_0; clear hn168_1; replace p168 := eq_true p168; replace q168 := eq_true q168))
        repeat (go_quiet (first | ((with_reducible refine gD 4 ?_); refine bxE #[.int .i64 0, .int .i64 0] 124 ?_; intro gb167 hg w14 BK167 hb; have GW167 := gE hg; have GE167 := gE hg; replace HB := hB hb; clear hb hg; have hz15 := cz2 BK167; have p168 : 0 ≤ ((ji10) : Int) := dA; have q168 : (ji10) < (l0.length : Int) := dA; obtain ⟨ad168, e168, hx168_0, hx168_1⟩ := at_T124 HR0.out (ji10) p168 q168; obtain rfl : ad166 = ad168 := (by injection e168); have hn168_0 : ad166.block ≠ gb167 := nA hx168_0 GW167; have hn168_1 : ad166.block ≠ gb167 := nA hx168_0 GW167; replace hx168_0 := cB HB hx168_0; replace hx168_1 := cB HB hx168_1; replace hx168_0 := (cell_far (p := ⟨gb167, 0, none⟩) (by first | (rw [add_block]; exact hn168_0) | (show (Addr.add _ _).block ≠ _; rw [add_block]; exact hn168_0) | exact hn168_0) (.int .i64 ((rd_T124 l0 x10_1).f0))).trans hx168_0; replace hx168_1 := (cell_far (p := ⟨gb167, 0, none⟩) (by first | (rw [add_block]; exact hn168_0) | (show (Addr.add _ _).block ≠ _; rw [add_block]; exact hn168_0) | exact hn168_0) (.int .i64 ((rd_T124 l0 x10_1).f0))).trans hx168_1; replace hx168_0 := (cell_far (p := ⟨gb167, 1, none⟩) (by first | (rw [add_block]; exact hn168_1) | (show (Addr.add _ _).block ≠ _; rw [add_block]; exact hn168_1) | exact hn168_1) (.int .i64 ((rd_T124 l0 x10_1).f1))).trans hx168_0; replace hx168_1 := (cell_far (p := ⟨gb167, 1, none⟩) (by first | (rw [add_block]; exact hn168_1) | (show (Addr.add _ _).block ≠ _; rw [add_block]; exact hn168_1) | exact hn168_1) (.int .i64 ((rd_T124 l0 x10_1).f1))).trans hx168_1; (try have hy168_0 := fun (n_ : Nat) => (show ((((w14.drewN n_).setCell ⟨gb167, 0, none⟩ (.int .i64 ((rd_T124 l0 x10_1).f0))).setCell ⟨gb167, 1, none⟩ (.int .i64 ((rd_T124 l0 x10_1).f1)))).cell? _ = some _ from hx168_0)); (try have hy168_1 := fun (n_ : Nat) => (show ((((w14.drewN n_).setCell ⟨gb167, 0, none⟩ (.int .i64 ((rd_T124 l0 x10_1).f0))).setCell ⟨gb167, 1, none⟩ (.int .i64 ((rd_T124 l0 x10_1).f1)))).cell? _ = some _ from hx168_1)); clear hn168_0; clear hn168_1; replace p168 := eq_true p168; replace q168 := eq_true q168)); try go_wp2_with (first | ((with_reducible refine gD 4 ?_); refine bxE #[.int .i64 0, .int .i64 0] 124 ?_; intro gb167 hg w14 BK167 hb; have GW167 := gE hg; have GE167 := gE hg; replace HB := hB hb; clear hb hg; have hz15 := cz2 BK167; have p168 : 0 ≤ ((ji10) : Int) := dA; have q168 : (ji10) < (l0.length : Int) := dA; obtain ⟨ad168, e168, hx168_0, hx168_1⟩ := at_T124 HR0.out (ji10) p168 q168; obtain rfl : ad166 = ad168 := (by injection e168); have hn168_0 : ad166.block ≠ gb167 := nA hx168_0 GW167; have hn168_1 : ad166.block ≠ gb167 := nA hx168_0 GW167; replace hx168_0 := cB HB hx168_0; replace hx168_1 := cB HB hx168_1; replace hx168_0 := (cell_far (p := ⟨gb167, 0, none⟩) (by first | (rw [add_block]; exact hn168_0) | (show (Addr.add _ _).block ≠ _; rw [add_block]; exact hn168_0) | exact hn168_0) (.int .i64 ((rd_T124 l0 x10_1).f0))).trans hx168_0; replace hx168_1 := (cell_far (p := ⟨gb167, 0, none⟩) (by first | (rw [add_block]; exact hn168_0) | (show (Addr.add _ _).block ≠ _; rw [add_block]; exact hn168_0) | exact hn168_0) (.int .i64 ((rd_T124 l0 x10_1).f0))).trans hx168_1; replace hx168_0 := (cell_far (p := ⟨gb167, 1, none⟩) (by first | (rw [add_block]; exact hn168_1) | (show (Addr.add _ _).block ≠ _; rw [add_block]; exact hn168_1) | exact hn168_1) (.int .i64 ((rd_T124 l0 x10_1).f1))).trans hx168_0; replace hx168_1 := (cell_far (p := ⟨gb167, 1, none⟩) (by first | (rw [add_block]; exact hn168_1) | (show (Addr.add _ _).block ≠ _; rw [add_block]; exact hn168_1) | exact hn168_1) (.int .i64 ((rd_T124 l0 x10_1).f1))).trans hx168_1; (try have hy168_0 := fun (n_ : Nat) => (show ((((w14.drewN n_).setCell ⟨gb167, 0, none⟩ (.int .i64 ((rd_T124 l0 x10_1).f0))).setCell ⟨gb167, 1, none⟩ (.int .i64 ((rd_T124 l0 x10_1).f1)))).cell? _ = some _ from hx168_0)); (try have hy168_1 := fun (n_ : Nat) => (show ((((w14.drewN n_).setCell ⟨gb167, 0, none⟩ (.int .i64 ((rd_T124 l0 x10_1).f0))).setCell ⟨gb167, 1, none⟩ (.int .i64 ((rd_T124 l0 x10_1).f1)))).cell? _ = some _ from hx168_1)); clear hn168_0; clear hn168_1; replace p168 := eq_true p168; replace q168 := eq_true q168)))
        go_ret
        exact ⟨by first | rfl | (simp [errW_none, errW_some] <;> rfl) | (simp only [← hji10]; first | rfl | (simp [errW_none, errW_some] <;> rfl)) | (simp [*, errW_none, errW_some] <;> rfl), bS⟩
       ·rw [if_neg c13] at H
        have c13b0 : decide (((rd_T124 l0 x10_1).f0) ≤ ((rd_T124 l0 (ji10)).f1)) = false := decide_eq_false c13
        clear c13
        have H' := Aside0.mk H
        clear H
        have p166 : 0 ≤ (x10_1 : Int) := dA
        have q166 : x10_1 < (l0.length : Int) := dA
        obtain ⟨ad166, e166, hx166_0, hx166_1⟩ := at_T124 HR0.out x10_1 p166 q166
        cases e166
        replace hx166_0 := cB HB hx166_0
        replace hx166_1 := cB HB hx166_1
        replace p166 := eq_true p166
        replace q166 := eq_true q166
        go_wp2_with (first | ((with_reducible refine gD 4 ?_); refine bxE #[.int .i64 0, .int .i64 0] 124 ?_; intro gb167 hg w16 BK167 hb; have GW167 := gE hg; have GE167 := gE hg; replace HB := hB hb; clear hb hg; have hz17 := cz2 BK167; have p168 : 0 ≤ ((ji10) : Int) := dA; have q168 : (ji10) < (l0.length : Int) := dA; obtain ⟨ad168, e168, hx168_0, hx168_1⟩ := at_T124 HR0.out (ji10) p168 q168; obtain rfl : ad166 = ad168 := (by injection e168); have hn168_0 : ad166.block ≠ gb167 := nA hx168_0 GW167; have hn168_1 : ad166.block ≠ gb167 := nA hx168_0 GW167; replace hx168_0 := cB HB hx168_0; replace hx168_1 := cB HB hx168_1; replace hx168_0 := (cell_far (p := ⟨gb167, 0, none⟩) (by first | (rw [add_block]; exact hn168_0) | (show (Addr.add _ _).block ≠ _; rw [add_block]; exact hn168_0) | exact hn168_0) (.int .i64 ((rd_T124 l0 x10_1).f0))).trans hx168_0; replace hx168_1 := (cell_far (p := ⟨gb167, 0, none⟩) (by first | (rw [add_block]; exact hn168_0) | (show (Addr.add _ _).block ≠ _; rw [add_block]; exact hn168_0) | exact hn168_0) (.int .i64 ((rd_T124 l0 x10_1).f0))).trans hx168_1; replace hx168_0 := (cell_far (p := ⟨gb167, 1, none⟩) (by first | (rw [add_block]; exact hn168_1) | (show (Addr.add _ _).block ≠ _; rw [add_block]; exact hn168_1) | exact hn168_1) (.int .i64 ((rd_T124 l0 x10_1).f1))).trans hx168_0; replace hx168_1 := (cell_far (p := ⟨gb167, 1, none⟩) (by first | (rw [add_block]; exact hn168_1) | (show (Addr.add _ _).block ≠ _; rw [add_block]; exact hn168_1) | exact hn168_1) (.int .i64 ((rd_T124 l0 x10_1).f1))).trans hx168_1; (try have hy168_0 := fun (n_ : Nat) => (show ((((w16.drewN n_).setCell ⟨gb167, 0, none⟩ (.int .i64 ((rd_T124 l0 x10_1).f0))).setCell ⟨gb167, 1, none⟩ (.int .i64 ((rd_T124 l0 x10_1).f1)))).cell? _ = some _ from hx168_0)); (try have hy168_1 := fun (n_ : Nat) => (show ((((w16.drewN n_).setCell ⟨gb167, 0, none⟩ (.int .i64 ((rd_T124 l0 x10_1).f0))).setCell ⟨gb167, 1, none⟩ (.int .i64 ((rd_T124 l0 x10_1).f1)))).cell? _ = some _ from hx168_1)); clear hn168_0; clear hn168_1; replace p168 := eq_true p168; replace q168 := eq_true q168))
        repeat (go_quiet (first | ((with_reducible refine gD 4 ?_); refine bxE #[.int .i64 0, .int .i64 0] 124 ?_; intro gb167 hg w16 BK167 hb; have GW167 := gE hg; have GE167 := gE hg; replace HB := hB hb; clear hb hg; have hz17 := cz2 BK167; have p168 : 0 ≤ ((ji10) : Int) := dA; have q168 : (ji10) < (l0.length : Int) := dA; obtain ⟨ad168, e168, hx168_0, hx168_1⟩ := at_T124 HR0.out (ji10) p168 q168; obtain rfl : ad166 = ad168 := (by injection e168); have hn168_0 : ad166.block ≠ gb167 := nA hx168_0 GW167; have hn168_1 : ad166.block ≠ gb167 := nA hx168_0 GW167; replace hx168_0 := cB HB hx168_0; replace hx168_1 := cB HB hx168_1; replace hx168_0 := (cell_far (p := ⟨gb167, 0, none⟩) (by first | (rw [add_block]; exact hn168_0) | (show (Addr.add _ _).block ≠ _; rw [add_block]; exact hn168_0) | exact hn168_0) (.int .i64 ((rd_T124 l0 x10_1).f0))).trans hx168_0; replace hx168_1 := (cell_far (p := ⟨gb167, 0, none⟩) (by first | (rw [add_block]; exact hn168_0) | (show (Addr.add _ _).block ≠ _; rw [add_block]; exact hn168_0) | exact hn168_0) (.int .i64 ((rd_T124 l0 x10_1).f0))).trans hx168_1; replace hx168_0 := (cell_far (p := ⟨gb167, 1, none⟩) (by first | (rw [add_block]; exact hn168_1) | (show (Addr.add _ _).block ≠ _; rw [add_block]; exact hn168_1) | exact hn168_1) (.int .i64 ((rd_T124 l0 x10_1).f1))).trans hx168_0; replace hx168_1 := (cell_far (p := ⟨gb167, 1, none⟩) (by first | (rw [add_block]; exact hn168_1) | (show (Addr.add _ _).block ≠ _; rw [add_block]; exact hn168_1) | exact hn168_1) (.int .i64 ((rd_T124 l0 x10_1).f1))).trans hx168_1; (try have hy168_0 := fun (n_ : Nat) => (show ((((w16.drewN n_).setCell ⟨gb167, 0, none⟩ (.int .i64 ((rd_T124 l0 x10_1).f0))).setCell ⟨gb167, 1, none⟩ (.int .i64 ((rd_T124 l0 x10_1).f1)))).cell? _ = some _ from hx168_0)); (try have hy168_1 := fun (n_ : Nat) => (show ((((w16.drewN n_).setCell ⟨gb167, 0, none⟩ (.int .i64 ((rd_T124 l0 x10_1).f0))).setCell ⟨gb167, 1, none⟩ (.int .i64 ((rd_T124 l0 x10_1).f1)))).cell? _ = some _ from hx168_1)); clear hn168_0; clear hn168_1; replace p168 := eq_true p168; replace q168 := eq_true q168)); try go_wp2_with (first | ((with_reducible refine gD 4 ?_); refine bxE #[.int .i64 0, .int .i64 0] 124 ?_; intro gb167 hg w16 BK167 hb; have GW167 := gE hg; have GE167 := gE hg; replace HB := hB hb; clear hb hg; have hz17 := cz2 BK167; have p168 : 0 ≤ ((ji10) : Int) := dA; have q168 : (ji10) < (l0.length : Int) := dA; obtain ⟨ad168, e168, hx168_0, hx168_1⟩ := at_T124 HR0.out (ji10) p168 q168; obtain rfl : ad166 = ad168 := (by injection e168); have hn168_0 : ad166.block ≠ gb167 := nA hx168_0 GW167; have hn168_1 : ad166.block ≠ gb167 := nA hx168_0 GW167; replace hx168_0 := cB HB hx168_0; replace hx168_1 := cB HB hx168_1; replace hx168_0 := (cell_far (p := ⟨gb167, 0, none⟩) (by first | (rw [add_block]; exact hn168_0) | (show (Addr.add _ _).block ≠ _; rw [add_block]; exact hn168_0) | exact hn168_0) (.int .i64 ((rd_T124 l0 x10_1).f0))).trans hx168_0; replace hx168_1 := (cell_far (p := ⟨gb167, 0, none⟩) (by first | (rw [add_block]; exact hn168_0) | (show (Addr.add _ _).block ≠ _; rw [add_block]; exact hn168_0) | exact hn168_0) (.int .i64 ((rd_T124 l0 x10_1).f0))).trans hx168_1; replace hx168_0 := (cell_far (p := ⟨gb167, 1, none⟩) (by first | (rw [add_block]; exact hn168_1) | (show (Addr.add _ _).block ≠ _; rw [add_block]; exact hn168_1) | exact hn168_1) (.int .i64 ((rd_T124 l0 x10_1).f1))).trans hx168_0; replace hx168_1 := (cell_far (p := ⟨gb167, 1, none⟩) (by first | (rw [add_block]; exact hn168_1) | (show (Addr.add _ _).block ≠ _; rw [add_block]; exact hn168_1) | exact hn168_1) (.int .i64 ((rd_T124 l0 x10_1).f1))).trans hx168_1; (try have hy168_0 := fun (n_ : Nat) => (show ((((w16.drewN n_).setCell ⟨gb167, 0, none⟩ (.int .i64 ((rd_T124 l0 x10_1).f0))).setCell ⟨gb167, 1, none⟩ (.int .i64 ((rd_T124 l0 x10_1).f1)))).cell? _ = some _ from hx168_0)); (try have hy168_1 := fun (n_ : Nat) => (show ((((w16.drewN n_).setCell ⟨gb167, 0, none⟩ (.int .i64 ((rd_T124 l0 x10_1).f0))).setCell ⟨gb167, 1, none⟩ (.int .i64 ((rd_T124 l0 x10_1).f1)))).cell? _ = some _ from hx168_1)); clear hn168_0; clear hn168_1; replace p168 := eq_true p168; replace q168 := eq_true q168)))
        go_roundg k1
        case measure => have := HK1.out; omega
        case rel => exact ⟨(wrap64 (x10_1 + 1)), fS, H', ⟨by have := HK1.out; omega⟩, ⟨bS⟩⟩
      ·rw [if_neg c9] at H
       have c9b0 : decide (0 < x10_1) = false := decide_eq_false c9
       clear c9
       have H' := Aside0.mk H
       clear H
       have p166 : 0 ≤ (x10_1 : Int) := dA
       have q166 : x10_1 < (l0.length : Int) := dA
       obtain ⟨ad166, e166, hx166_0, hx166_1⟩ := at_T124 HR0.out x10_1 p166 q166
       cases e166
       replace hx166_0 := cB HB hx166_0
       replace hx166_1 := cB HB hx166_1
       replace p166 := eq_true p166
       replace q166 := eq_true q166
       go_wp2_with (first | ((with_reducible refine gD 4 ?_); refine bxE #[.int .i64 0, .int .i64 0] 124 ?_; intro gb167 hg w18 BK167 hb; have GW167 := gE hg; have GE167 := gE hg; replace HB := hB hb; clear hb hg; have hz19 := cz2 BK167))
       repeat (go_quiet (first | ((with_reducible refine gD 4 ?_); refine bxE #[.int .i64 0, .int .i64 0] 124 ?_; intro gb167 hg w18 BK167 hb; have GW167 := gE hg; have GE167 := gE hg; replace HB := hB hb; clear hb hg; have hz19 := cz2 BK167)); try go_wp2_with (first | ((with_reducible refine gD 4 ?_); refine bxE #[.int .i64 0, .int .i64 0] 124 ?_; intro gb167 hg w18 BK167 hb; have GW167 := gE hg; have GE167 := gE hg; replace HB := hB hb; clear hb hg; have hz19 := cz2 BK167)))
       go_roundg k1
       case measure => have := HK1.out; omega
       case rel => exact ⟨(wrap64 (x10_1 + 1)), fS, H', ⟨by have := HK1.out; omega⟩, ⟨bS⟩⟩
    ·obtain rfl := Option.some.inj H
     go_wp2
     repeat (go_quiet (fail); try go_wp2)
     go_ret
     exact ⟨eS, bS⟩

/-! ### impl_MeetSpans: function 89 -/
def impl_MeetSpans.l0 : Nat → Int → Int → List (S124) → List (S124) → Int → Int → Option ((List (S124)))
 | 0, _, _, _, _, _, _ => none
 | k + 1, x1, x2, x7, x14, x15, x16 => if x16 < x15 then (if 0 ≤ x16 then (if x16 < (x14.length : Int) then (if (mx ((rd_T124 x14 x16).f0) x1) < (mn ((rd_T124 x14 x16).f1) x2) then (if x7.length < 8796093022208 then (impl_MeetSpans.l0 k x1 x2 (x7 ++ [(⟨mx ((rd_T124 x14 x16).f0) x1, mn ((rd_T124 x14 x16).f1) x2⟩ : S124)]) x14 x15 (wrap64 (x16 + 1))) else (none)) else (impl_MeetSpans.l0 k x1 x2 x7 x14 x15 (wrap64 (x16 + 1)))) else (none)) else (none)) else (some x7)
def impl_MeetSpans.f (k : Nat) (l0 : List (S124)) (a1 : Int) (a2 : Int) : Option ((List (S124))) := (impl_SpansOk.f k l0).bind fun t169 => (if t169 = true then (impl_MeetSpans.l0 k a1 a2 ([] : List (S124)) l0 (l0.length : Int) 0) else (some ([] : List (S124))))
theorem impl_MeetSpans.calls (k : Nat) (A0 : Option Addr) (c0 : Nat) (l0 : List (S124)) (a1 : Int) (a2 : Int) (r : List (S124)) (w : World) (hr0 : Kd.C k124 w A0 l0.length l0) (hc0 : l0.length ≤ c0) (h : impl_MeetSpans.f k l0 a1 a2 = some r) :
  Calls Try.prog 89 #[.slice A0 l0.length c0, .int .i64 a1, .int .i64 a2] w fun e w' => ∃ v0_ : Value, e = .returned (v0_) ∧ Kd.R k124 124 w' w.heap.size (fun _ => True) v0_ r ∧ Below w.heap.size w w' := by
 have hu124 := Try.underlying124
 have HR0 := Aside0.mk hr0
 have HC0 := Aside0.mk hc0
 clear hr0 hc0
 have HB := Aside0.mk (Below.refl w.heap.size w)
 have H : ((impl_SpansOk.f k l0).bind fun t169 => (if t169 = true then (impl_MeetSpans.l0 k a1 a2 ([] : List (S124)) l0 (l0.length : Int) 0) else (some ([] : List (S124))))) = some r := h
 clear h
 replace H := bN H
 obtain ⟨t169, A4, H⟩ := H
 by_cases c5 : t169 = true
 ·subst c5
  rw [if_pos rfl] at H
  have H' := Aside0.mk H
  clear H
  go_enter Try.func89, Try.ntmps89
  go_wp2_with (first | ((with_reducible refine gC 155 ?_); refine cL (some 12) Try.func155 #[.slice A0 l0.length c0] ?_; (with_reducible refine (impl_SpansOk.calls k _ _ l0 _ _ ?side1 ?side2 A4.out).mono ?_); (case side1 => repeat (first | exact HR0.out | (with_reducible refine Kd.C_alloc ?_ _) | (with_reducible refine Kd.C_drewN ?_ _) | (with_reducible refine Kd.C_drew ?_))); (case side2 => exact HC0.out); rintro e w6 ⟨rfl, hb⟩; refine ⟨_, rfl, ?_⟩; replace HB := hB hb; (try clear hb); (try clear hb2); (try clear hk); (try clear hi)))
  go_loopg [7, 16] k (fun kq v7 v16 w' => ∃ (x7_1 : List (S124)) (x16_1 : Int), v16 = .int .i64 x16_1 ∧ Aside0 (impl_MeetSpans.l0 kq a1 a2 x7_1 l0 (l0.length : Int) x16_1 = some r) ∧ Aside0 (kq ≤ k) ∧ Aside0 (Kd.R k124 124 w' w.heap.size (fun _ => True) v7 x7_1) ∧ Aside0 (Below w.heap.size w w'))
  case atStart => exact ⟨(([] : List (S124))), (0), fS, H', ⟨Nat.le_refl _⟩, ⟨by first | exact Kd.R_nil _ _ _ _ _ | exact Kd.N_nil _ _ _ _ _ | exact Kd.V_nil _ _ _ _ _ | exact Kd.Q_nil _ _ _ _ _ | exact Kd.S_nil _ _ _ _ _⟩, ⟨bS⟩⟩
  case round =>
   clear H'
   try clear c1
   try clear p2
   try clear c5
   obtain ⟨x7_1, x16_1, rfl, HA, HK1, HO_7, HB⟩ := hrel
   cases gk with
   | zero => exact absurd HA.out (by simp [impl_MeetSpans.l0])
   | succ k1 =>
    have H := HA.out
    clear HA
    simp only [impl_MeetSpans.l0] at H
    rcases iD H with ⟨c7b0, H⟩ | ⟨c7b0, H⟩
    ·obtain ⟨c8b0, H⟩ := iT H
     obtain ⟨c9b0, H⟩ := iT H
     obtain ⟨ji10, hji10⟩ : ∃ j_ : Int, (mx ((rd_T124 l0 x16_1).f0) a1) = j_ := ⟨_, rfl⟩
     replace H : (if (ji10) < (mn ((rd_T124 l0 x16_1).f1) a2) then (if x7_1.length < 8796093022208 then (impl_MeetSpans.l0 k1 a1 a2 (x7_1 ++ [(⟨ji10, mn ((rd_T124 l0 x16_1).f1) a2⟩ : S124)]) l0 (l0.length : Int) (wrap64 (x16_1 + 1))) else (none)) else (impl_MeetSpans.l0 k1 a1 a2 x7_1 l0 (l0.length : Int) (wrap64 (x16_1 + 1)))) = some r := by first | (rw [hji10] at H; exact H) | (simp only [hji10] at H ⊢; exact H)
     have hji10_ : (if ((rd_T124 l0 x16_1).f0) < a1 then a1 else ((rd_T124 l0 x16_1).f0)) = ji10 := hji10
     obtain ⟨ji11, hji11⟩ : ∃ j_ : Int, (mn ((rd_T124 l0 x16_1).f1) a2) = j_ := ⟨_, rfl⟩
     replace H : (if (ji10) < (ji11) then (if x7_1.length < 8796093022208 then (impl_MeetSpans.l0 k1 a1 a2 (x7_1 ++ [(⟨ji10, ji11⟩ : S124)]) l0 (l0.length : Int) (wrap64 (x16_1 + 1))) else (none)) else (impl_MeetSpans.l0 k1 a1 a2 x7_1 l0 (l0.length : Int) (wrap64 (x16_1 + 1)))) = some r := by first | (rw [hji11] at H; exact H) | (simp only [hji11] at H ⊢; exact H)
     have hji11_ : (if a2 < ((rd_T124 l0 x16_1).f1) then a2 else ((rd_T124 l0 x16_1).f1)) = ji11 := hji11
     rcases iD H with ⟨c12b0, H⟩ | ⟨c12b0, H⟩
     ·obtain ⟨LMc13, H⟩ := iL H
      obtain ⟨y173, hy173⟩ : ∃ y_ : List (S124), y_ = (x7_1 ++ [(⟨ji10, ji11⟩ : S124)]) := ⟨_, rfl⟩
      replace H : (impl_MeetSpans.l0 k1 a1 a2 y173 l0 (l0.length : Int) (wrap64 (x16_1 + 1))) = some r := by first | (rw [hy173]; with_reducible exact H) | (have H2_ := (Option.bind_some _ _).symm.trans H; rw [hy173]; with_reducible exact H2_) | (have H2_ := (Option.bind_some _ _).symm.trans H; with_reducible exact H2_) | with_reducible exact H | (rw [hy173]; exact H) | exact H
      have Ny173 := Aside0.mk hy173
      clear hy173
      have H' := Aside0.mk H
      clear H
      have p170 : 0 ≤ (x16_1 : Int) := dA
      have q170 : x16_1 < (l0.length : Int) := dA
      obtain ⟨ad170, e170, hx170_0, hx170_1⟩ := at_T124 HR0.out x16_1 p170 q170
      cases e170
      replace hx170_0 := cB HB hx170_0
      replace hx170_1 := cB HB hx170_1
      replace p170 := eq_true p170
      replace q170 := eq_true q170
      go_wp2_with (first | ((with_reducible refine gD 9 ?_); refine bxE #[.int .i64 0, .int .i64 0] 124 ?_; intro gb171 hg w14 BK171 hb; have GW171 := gE hg; have GE171 := gE hg; replace HO_7 := Aside0.mk (Kd.R_below (Kd.R_elderB (rS HO_7) gb171 (Nat.le_of_eq hg.symm)) hb); replace HB := hB hb; clear hb hg; have hz15 := cz2 BK171) | ((with_reducible refine gD 10 ?_); refine bxE #[.int .i64 0, .int .i64 0] 124 ?_; intro gb172 hg w16 BK172 hb; have GW172 := gE hg; have GE172 := gE hg; have NB171_172 := Aside0.mk ((by rw [hg]; exact Nat.ne_of_lt (blk_lt (g := gb171) (o := .cells #[.int .i64 ((rd_T124 l0 x16_1).f0), .int .i64 ((rd_T124 l0 x16_1).f1)] 124 (0, 0)) kS) : gb171 ≠ gb172)); have NB172_171 := Aside0.mk ((by rw [hg]; exact Nat.ne_of_gt (blk_lt (g := gb171) (o := .cells #[.int .i64 ((rd_T124 l0 x16_1).f0), .int .i64 ((rd_T124 l0 x16_1).f1)] 124 (0, 0)) kS) : gb172 ≠ gb171)); replace HO_7 := Aside0.mk (Kd.R_below (Kd.R_elderB (by exact rT (Kd.R_mono (Kd.R_far (p := ⟨gb171, 1, none⟩) (Kd.R_far (p := ⟨gb171, 0, none⟩) (Kd.R_mono HO_7.out (fun k_ hk => (⟨hk, hk.2⟩ : _ ∧ k_ ≠ gb171))) (fun _ hk => hk.2) (.int .i64 ((rd_T124 l0 x16_1).f0))) (fun _ hk => hk.2) (.int .i64 ((rd_T124 l0 x16_1).f1))) (fun _ h_ => h_.1))) gb172 (Nat.le_of_eq hg.symm)) hb); replace BK171 := Aside0.mk (blk_below (g := gb171) (o := .cells #[.int .i64 ((rd_T124 l0 x16_1).f0), .int .i64 ((rd_T124 l0 x16_1).f1)] 124 (0, 0)) kS hb); replace HB := hB hb; clear hb hg; have hnb17 := NB172_171.out; have hnc17 := NB171_172.out; have hz18 := cz2 BK172) | ((with_reducible refine gate_builtin (b := .append) (xs := #[.tmp 34, .tmp 36]) rfl ?_); at_builtin; refine Kd.R_append k124 (w0 := w) w.heap.size rfl (.tmp 34) (.tmp 36) 40 124 (.agg #[(.int .i64 0), (.int .i64 0)]) 16 rfl Try.underlying40 info124 rfl (by decide) (by omega) u7 x7_1 (⟨ji10, ji11⟩ : S124) [.int .i64 ji10, .int .i64 ji11] (fun k_ => k_ ≠ gb171 ∧ k_ ≠ gb172) (fun _ => False) rfl (by first | (go_simp; done) | (go_simp; rfl)) ?aP (fun _ hk => hk.elim) ?aF ?aO ?aB ?aS ?aL ?_; (case aP => exact k124_mkM _ _ _ (⟨ji10, ji11⟩ : S124)); (case aB => exact bS); (case aF => exact (fun k_ hk => ⟨Kd.freshB (g := gb171) kS k_ hk, Kd.freshB (g := gb172) (o := .cells #[.int .i64 ji10, .int .i64 ji11] 124 (0, 0)) kS k_ hk⟩)); (case aO => exact (by exact rT (Kd.R_mono (Kd.R_far (p := ⟨gb172, 1, none⟩) (Kd.R_far (p := ⟨gb172, 0, none⟩) (Kd.R_mono HO_7.out (fun k_ hk => (⟨hk, hk.2⟩ : _ ∧ k_ ≠ gb172))) (fun _ hk => hk.2) (.int .i64 ji10)) (fun _ hk => hk.2) (.int .i64 ji11)) (fun _ hk => ⟨hk.1.1.2, hk.1.2⟩)))); (case aS => exact (below_size bS)); (case aL => have := LMc13.out; omega); intro v174 w19 ho hb hg hat; rw [← Ny173.out] at ho; have HO175 := Aside0.mk (ho); replace BK171 := Aside0.mk (blk_grown (g := gb171) kS hg (Kd.R_away HO_7.out (fun _ hk => hk.1.2))); replace BK172 := Aside0.mk (blk_grown (g := gb172) (o := .cells #[.int .i64 ji10, .int .i64 ji11] 124 (0, 0)) kS hg (Kd.R_away HO_7.out (fun _ hk => hk.2))); replace HB := Aside0.mk (hb); clear HO_7; clear ho hb hg hat))
      go_roundg k1
      case measure => have := HK1.out; omega
      case rel => exact ⟨(y173), (wrap64 (x16_1 + 1)), fS, H', ⟨by have := HK1.out; omega⟩, ⟨by exact rT (Kd.R_mono HO175.out (fun _ hk => trivial))⟩, ⟨bS⟩⟩
     ·have H' := Aside0.mk H
      clear H
      have p170 : 0 ≤ (x16_1 : Int) := dA
      have q170 : x16_1 < (l0.length : Int) := dA
      obtain ⟨ad170, e170, hx170_0, hx170_1⟩ := at_T124 HR0.out x16_1 p170 q170
      cases e170
      replace hx170_0 := cB HB hx170_0
      replace hx170_1 := cB HB hx170_1
      replace p170 := eq_true p170
      replace q170 := eq_true q170
      go_wp2_with (first | ((with_reducible refine gD 9 ?_); refine bxE #[.int .i64 0, .int .i64 0] 124 ?_; intro gb171 hg w20 BK171 hb; have GW171 := gE hg; have GE171 := gE hg; replace HO_7 := Aside0.mk (Kd.R_below (Kd.R_elderB (rS HO_7) gb171 (Nat.le_of_eq hg.symm)) hb); replace HB := hB hb; clear hb hg; have hz21 := cz2 BK171) | ((with_reducible refine gD 10 ?_); refine bxE #[.int .i64 0, .int .i64 0] 124 ?_; intro gb172 hg w22 BK172 hb; have GW172 := gE hg; have GE172 := gE hg; have NB171_172 := Aside0.mk ((by rw [hg]; exact Nat.ne_of_lt (blk_lt (g := gb171) (o := .cells #[.int .i64 ((rd_T124 l0 x16_1).f0), .int .i64 ((rd_T124 l0 x16_1).f1)] 124 (0, 0)) kS) : gb171 ≠ gb172)); have NB172_171 := Aside0.mk ((by rw [hg]; exact Nat.ne_of_gt (blk_lt (g := gb171) (o := .cells #[.int .i64 ((rd_T124 l0 x16_1).f0), .int .i64 ((rd_T124 l0 x16_1).f1)] 124 (0, 0)) kS) : gb172 ≠ gb171)); replace HO_7 := Aside0.mk (Kd.R_below (Kd.R_elderB (by exact rT (Kd.R_mono (Kd.R_far (p := ⟨gb171, 1, none⟩) (Kd.R_far (p := ⟨gb171, 0, none⟩) (Kd.R_mono HO_7.out (fun k_ hk => (⟨hk, hk.2⟩ : _ ∧ k_ ≠ gb171))) (fun _ hk => hk.2) (.int .i64 ((rd_T124 l0 x16_1).f0))) (fun _ hk => hk.2) (.int .i64 ((rd_T124 l0 x16_1).f1))) (fun _ h_ => h_.1))) gb172 (Nat.le_of_eq hg.symm)) hb); replace BK171 := Aside0.mk (blk_below (g := gb171) (o := .cells #[.int .i64 ((rd_T124 l0 x16_1).f0), .int .i64 ((rd_T124 l0 x16_1).f1)] 124 (0, 0)) kS hb); replace HB := hB hb; clear hb hg; have hnb23 := NB172_171.out; have hnc23 := NB171_172.out; have hz24 := cz2 BK172))
      go_roundg k1
      case measure => have := HK1.out; omega
      case rel => exact ⟨(x7_1), (wrap64 (x16_1 + 1)), fS, H', ⟨by have := HK1.out; omega⟩, ⟨by exact rT (Kd.R_mono (Kd.R_far (p := ⟨gb172, 1, none⟩) (Kd.R_far (p := ⟨gb172, 0, none⟩) (Kd.R_mono HO_7.out (fun k_ hk => (⟨hk, hk.2⟩ : _ ∧ k_ ≠ gb172))) (fun _ hk => hk.2) (.int .i64 ji10)) (fun _ hk => hk.2) (.int .i64 ji11)) (fun _ hk => trivial))⟩, ⟨bS⟩⟩
    ·obtain rfl := Option.some.inj H
     go_wp2
     go_ret
     exact ⟨_, eS, rS HO_7, bS⟩
 ·obtain rfl := Bool.eq_false_iff.mpr c5
  rw [if_neg nF] at H
  obtain rfl := Option.some.inj H
  go_enter Try.func89, Try.ntmps89
  go_wp2_with (first | ((with_reducible refine gC 155 ?_); refine cL (some 12) Try.func155 #[.slice A0 l0.length c0] ?_; (with_reducible refine (impl_SpansOk.calls k _ _ l0 _ _ ?side1 ?side2 A4.out).mono ?_); (case side1 => repeat (first | exact HR0.out | (with_reducible refine Kd.C_alloc ?_ _) | (with_reducible refine Kd.C_drewN ?_ _) | (with_reducible refine Kd.C_drew ?_))); (case side2 => exact HC0.out); rintro e w25 ⟨rfl, hb⟩; refine ⟨_, rfl, ?_⟩; replace HB := hB hb; (try clear hb); (try clear hb2); (try clear hk); (try clear hi)))
  go_ret
  exact ⟨_, eS, by first | exact Kd.R_nil _ _ _ _ _ | exact Kd.N_nil _ _ _ _ _ | exact Kd.V_nil _ _ _ _ _ | exact Kd.Q_nil _ _ _ _ _ | exact Kd.S_nil _ _ _ _ _, bS⟩

/-! ### impl_pathOk: function 156 -/
def impl_pathOk.f (k : Nat) (l0 : List (S171)) : Option (Bool) := if (l0.length : Int) ≤ 8 then ((impl_pointsOk.f k l0).bind fun t176 => (some t176)) else (some false)
theorem impl_pathOk.calls (k : Nat) (A0 : Option Addr) (c0 : Nat) (l0 : List (S171)) (r : Bool) (w : World) (hr0 : Kd.C k171 w A0 l0.length l0) (hc0 : l0.length ≤ c0) (h : impl_pathOk.f k l0 = some r) :
  Calls Try.prog 156 #[.slice A0 l0.length c0] w fun e w' => e = .returned (.bool r) ∧ Below w.heap.size w w' := by
 have HR0 := Aside0.mk hr0
 have HC0 := Aside0.mk hc0
 clear hr0 hc0
 have HB := Aside0.mk (Below.refl w.heap.size w)
 have H : (if (l0.length : Int) ≤ 8 then ((impl_pointsOk.f k l0).bind fun t176 => (some t176)) else (some false)) = some r := h
 clear h
 by_cases c2 : (l0.length : Int) ≤ 8
 ·rw [if_pos c2] at H
  have c2b0 : decide ((l0.length : Int) ≤ 8) = true := decide_eq_true c2
  have c2b1 : decide (l0.length ≤ 8) = true := decide_eq_true (by omega)
  clear c2
  replace H := bN H
  obtain ⟨t176, A3, H⟩ := H
  obtain rfl := Option.some.inj H
  go_enter Try.func156, Try.ntmps156
  go_wp2_with (first | (go_at_call 151; (with_reducible refine (impl_pointsOk.calls k _ _ l0 t176 _ ?side1 ?side2 A3.out).mono ?_); (case side1 => repeat (first | exact HR0.out | (with_reducible refine Kd.C_alloc ?_ _) | (with_reducible refine Kd.C_drewN ?_ _) | (with_reducible refine Kd.C_drew ?_))); (case side2 => exact HC0.out); rintro e w4 ⟨rfl, hb⟩; replace HB := hB hb; (try clear hb); (try clear hb2); (try clear hk); (try clear hi)))
  go_ret
  exact ⟨eS, bS⟩
 ·rw [if_neg c2] at H
  have c2b0 : decide ((l0.length : Int) ≤ 8) = false := decide_eq_false c2
  have c2b1 : decide (l0.length ≤ 8) = false := decide_eq_false (by omega)
  clear c2
  obtain rfl := Option.some.inj H
  go_enter Try.func156, Try.ntmps156
  go_wp2
  go_ret
  exact ⟨eS, bS⟩

/-! ### impl_crosses: function 189 -/
def impl_crosses.f (a0_0 : Int) (a0_1 : Int) (a1_0 : Int) (a1_1 : Int) (a2 : Int) (a3 : Int) : Option (Bool) := if ((decide (a0_1 > a3)) == (decide (a1_1 > a3))) = true then (some false) else (if (wrap64 (a1_1 - a0_1)) < 0 then (some (decide ((wrap64 ((wrap64 ((wrap64 (2 * a0_0)) * (wrap64 (a1_1 - a0_1)))) + (wrap64 ((wrap64 ((wrap64 ((wrap64 (2 * a3)) + 1)) - (wrap64 (2 * a0_1)))) * (wrap64 (a1_0 - a0_0)))))) < (wrap64 ((wrap64 ((wrap64 (2 * a2)) + 1)) * (wrap64 (a1_1 - a0_1))))))) else (some (decide ((wrap64 ((wrap64 ((wrap64 (2 * a0_0)) * (wrap64 (a1_1 - a0_1)))) + (wrap64 ((wrap64 ((wrap64 ((wrap64 (2 * a3)) + 1)) - (wrap64 (2 * a0_1)))) * (wrap64 (a1_0 - a0_0)))))) > (wrap64 ((wrap64 ((wrap64 (2 * a2)) + 1)) * (wrap64 (a1_1 - a0_1))))))))
theorem impl_crosses.lf0 {p : Prop} (h : p := by
 go_enter Try.func189, Try.ntmps189
 go_wp2_with (first | ((with_reducible refine gD 4 ?_); refine bxE #[.int .i64 a0_0, .int .i64 a0_1] 171 ?_; intro gb177 hg w12 BK177 hb; have GW177 := gE hg; have GE177 := gE hg; replace HB := hB hb; clear hb hg) | ((with_reducible refine gD 5 ?_); refine bxE #[.int .i64 a1_0, .int .i64 a1_1] 171 ?_; intro gb178 hg w13 BK178 hb; have GW178 := gE hg; have GE178 := gE hg; have NB177_178 := nL (g := gb177) hg; have NB178_177 := nG (g := gb177) hg; replace BK177 := kB (g := gb177) hb; replace HB := hB hb; clear hb hg; have hnb14 := NB177_178.out; have hnc14 := NB178_177.out; have hz15 := cz2 BK177; have hz16 := cz2 BK178))
 go_ret
 exact ⟨eS, bS⟩) : p := h
theorem impl_crosses.calls (a0_0 : Int) (a0_1 : Int) (a1_0 : Int) (a1_1 : Int) (a2 : Int) (a3 : Int) (r : Bool) (w : World) (h : impl_crosses.f a0_0 a0_1 a1_0 a1_1 a2 a3 = some r) :
  Calls Try.prog 189 #[.agg #[.int .i64 a0_0, .int .i64 a0_1], .agg #[.int .i64 a1_0, .int .i64 a1_1], .int .i64 a2, .int .i64 a3] w fun e w' => e = .returned (.bool r) ∧ Below w.heap.size w w' := by
 have hu171 := Try.underlying171
 have HB := Aside0.mk (Below.refl w.heap.size w)
 have H : (if ((decide (a0_1 > a3)) == (decide (a1_1 > a3))) = true then (some false) else (if (wrap64 (a1_1 - a0_1)) < 0 then (some (decide ((wrap64 ((wrap64 ((wrap64 (2 * a0_0)) * (wrap64 (a1_1 - a0_1)))) + (wrap64 ((wrap64 ((wrap64 ((wrap64 (2 * a3)) + 1)) - (wrap64 (2 * a0_1)))) * (wrap64 (a1_0 - a0_0)))))) < (wrap64 ((wrap64 ((wrap64 (2 * a2)) + 1)) * (wrap64 (a1_1 - a0_1))))))) else (some (decide ((wrap64 ((wrap64 ((wrap64 (2 * a0_0)) * (wrap64 (a1_1 - a0_1)))) + (wrap64 ((wrap64 ((wrap64 ((wrap64 (2 * a3)) + 1)) - (wrap64 (2 * a0_1)))) * (wrap64 (a1_0 - a0_0)))))) > (wrap64 ((wrap64 ((wrap64 (2 * a2)) + 1)) * (wrap64 (a1_1 - a0_1))))))))) = some r := h
 clear h
 by_cases c5 : ((decide (a0_1 > a3)) == (decide (a1_1 > a3))) = true
 ·rw [if_pos c5] at H
  have c5b0 : ((decide (a0_1 > a3)) == (decide (a1_1 > a3))) = true := c5
  (try (have c5b1 : decide ((decide (a0_1 > a3)) = (decide (a1_1 > a3))) = true := by simpa using c5))
  (try (have c5b2 : ((decide (a0_1 > a3)) == (decide (a1_1 > a3))) = true := by simpa using c5))
  clear c5
  obtain rfl := Option.some.inj H
  exact impl_crosses.lf0
 ·rw [if_neg c5] at H
  have c5b0 : ((decide (a0_1 > a3)) == (decide (a1_1 > a3))) = false := by simpa using c5
  (try (have c5b1 : decide ((decide (a0_1 > a3)) = (decide (a1_1 > a3))) = false := by simpa using c5))
  (try (have c5b2 : ((decide (a0_1 > a3)) == (decide (a1_1 > a3))) = false := by simpa using c5))
  (try (have c5b3 : ¬ ((decide (a0_1 > a3)) = (decide (a1_1 > a3))) := by simpa using c5))
  clear c5
  rcases iD H with ⟨c11b0, H⟩ | ⟨c11b0, H⟩
  ·obtain rfl := Option.some.inj H
   exact impl_crosses.lf0
  ·obtain rfl := Option.some.inj H
   exact impl_crosses.lf0

end Go.Proofs.Ytigodjcnkgebaaa.QFnExactRenderBands
