-- Made out of the translation by a program of this session (a changed copy of the print). Not trusted: Lean checks it.
import Derived.Test.YtcalgoembdmlkaaQFnObjectsx0
import Derived.Test.YtcalgoembdmlkaaQFnObjectsx1
import Derived.Test.YtcalgoembdmlkaaQFnObjectsx2
import Derived.Test.YtcalgoembdmlkaaQFnObjectsx3
namespace Go.Proofs.Ytcalgoembdmlkaa.QFnObjects
open Go.RowKit Go.Proofs.YtcalgoembdmlkaaW.PrintWords Go.Proofs.YtcalgoembdmlkaaW.PrintLast Go.Proofs.YtcalgoembdmlkaaW.PrintMore
attribute [local go_sem] max2_int min2_int max_two min_two max_three min_three max_four min_four   -- for this text's walks alone
set_option linter.unusedVariables false
set_option linter.unusedSimpArgs false
set_option maxHeartbeats 8000000
set_option maxRecDepth 100000

/-! ### impl_ObjectBox: function 41 -/
def impl_ObjectBox.f (k : Nat) (l0_0 : List (S130)) (a0_1 : Int) (a0_2 : Int) (a0_3 : Int) (a0_4 : Int) (a0_5 : Int) : Option (Int × Int × Int × Int) := (impl_ObjectOk.f k l0_0 a0_1 a0_2 a0_3 a0_4 a0_5).bind fun t168 => (if t168 = true then ((impl_BoxOf.f k l0_0).bind fun bt169 => ((impl_MeetBox.f k bt169.1 bt169.2.1 bt169.2.2.1 bt169.2.2.2 a0_2 a0_3 a0_4 a0_5).bind fun bt173 => ((impl_pageBox.f).bind fun bt177 => ((impl_MeetBox.f k bt173.1 bt173.2.1 bt173.2.2.1 bt173.2.2.2 bt177.1 bt177.2.1 bt177.2.2.1 bt177.2.2.2).bind fun bt181 => (some (bt181.1, bt181.2.1, bt181.2.2.1, bt181.2.2.2)))))) else (some (0, 0, 0, 0)))
def impl_ObjectBox.T3 : Bool × List (List Nat × List Nat) := (true, [([], []), ([0], [0]), ([1], [1]), ([], []), ([3], [3]), ([2, 4, 2], [2, 4]), ([5], []), ([5, 6, 6], [5, 6]), ([7, 7, 0, 1, 2, 3, 4, 5, 6, 7], [7])])
def impl_ObjectBox.B3 : List Nat := [0, 1, 3, 0, 8, 31, 63, 127, 255]
theorem impl_ObjectBox.tab3 : rtab .any (opsOf Try.f41 3) = impl_ObjectBox.T3 := by kernel_rfl
theorem impl_ObjectBox.bits3 : waitsOk impl_ObjectBox.T3.2 impl_ObjectBox.B3 = true := by kernel_rfl
theorem impl_ObjectBox.calls (k : Nat) (A0_0 : Option Addr) (c0_0 : Nat) (l0_0 : List (S130)) (a0_1 : Int) (a0_2 : Int) (a0_3 : Int) (a0_4 : Int) (a0_5 : Int) (r1 : Int) (r2 : Int) (r3 : Int) (r4 : Int) (w : World) (hr0_0 : Kd.C k130 w A0_0 l0_0.length l0_0) (hc0_0 : l0_0.length ≤ c0_0) (h : impl_ObjectBox.f k l0_0 a0_1 a0_2 a0_3 a0_4 a0_5 = some (r1, r2, r3, r4)) :
  Calls Try.prog 41 #[.agg #[.slice A0_0 l0_0.length c0_0, .int .i64 a0_1, .int .i64 a0_2, .int .i64 a0_3, .int .i64 a0_4, .int .i64 a0_5]] w fun e w' => e = .returned (.agg #[.int .i64 r1, .int .i64 r2, .int .i64 r3, .int .i64 r4]) ∧ Below w.heap.size w w' := by
 have hu56 := Try.underlying56
 have hu52 := Try.underlying52
 have HR0_0 := Aside0.mk hr0_0
 have HC0_0 := Aside0.mk hc0_0
 clear hr0_0 hc0_0
 have HB := Aside0.mk (Below.refl w.heap.size w)
 have H : ((impl_ObjectOk.f k l0_0 a0_1 a0_2 a0_3 a0_4 a0_5).bind fun t168 => (if t168 = true then ((impl_BoxOf.f k l0_0).bind fun bt169 => ((impl_MeetBox.f k bt169.1 bt169.2.1 bt169.2.2.1 bt169.2.2.2 a0_2 a0_3 a0_4 a0_5).bind fun bt173 => ((impl_pageBox.f).bind fun bt177 => ((impl_MeetBox.f k bt173.1 bt173.2.1 bt173.2.2.1 bt173.2.2.2 bt177.1 bt177.2.1 bt177.2.2.1 bt177.2.2.2).bind fun bt181 => (some (bt181.1, bt181.2.1, bt181.2.2.1, bt181.2.2.2)))))) else (some (0, 0, 0, 0)))) = some (r1, r2, r3, r4) := h
 clear h
 replace H := bN H
 obtain ⟨t168, A2, H⟩ := H
 by_cases c3 : t168 = true
 ·subst c3
  rw [if_pos rfl] at H
  replace H := bN H
  obtain ⟨⟨t169, t170, t171, t172⟩, A4, H⟩ := H
  replace H := bN H
  obtain ⟨⟨t173, t174, t175, t176⟩, A5, H⟩ := H
  replace H := bN H
  obtain ⟨⟨t177, t178, t179, t180⟩, A6, H⟩ := H
  replace H := bN H
  obtain ⟨⟨t181, t182, t183, t184⟩, A7, H⟩ := H
  simp only [Option.some.injEq, Prod.mk.injEq] at H
  obtain ⟨rfl, rfl, rfl, rfl⟩ := H
  go_enter Try.func41, Try.ntmps41
  try go_wp2_with (first | ((with_reducible refine gD 1 ?_); refine bxE #[.slice A0_0 l0_0.length c0_0, .int .i64 a0_1, .int .i64 a0_2, .int .i64 a0_3, .int .i64 a0_4, .int .i64 a0_5] 56 ?_; intro gb166 hg w8 BK166 hb; have GW166 := gE hg; have GE166 := gE hg; replace HB := hB hb; clear hb hg) | ((with_reducible refine gD 2 ?_); refine bxE #[.int .i64 0, .int .i64 0, .int .i64 0, .int .i64 0] 52 ?_; intro gb167 hg w9 BK167 hb; have GW167 := gE hg; have GE167 := gE hg; have NB166_167 := nL (g := gb166) hg; have NB167_166 := nG (g := gb166) hg; replace BK166 := kB (g := gb166) hb; replace HB := hB hb; clear hb hg; have hnb10 := NB166_167.out; have hnc10 := NB167_166.out; have hz11 := cz6 BK166) | ((with_reducible refine gC 86 ?_); refine cL (some 4) Try.func86 #[.agg #[.slice A0_0 l0_0.length c0_0, .int .i64 a0_1, .int .i64 a0_2, .int .i64 a0_3, .int .i64 a0_4, .int .i64 a0_5]] ?_; (with_reducible refine (impl_ObjectOk.calls k _ _ l0_0 a0_1 a0_2 a0_3 a0_4 a0_5 _ _ ?side1 ?side2 A2.out).mono ?_); (case side1 => exact cS (Kd.C_below HR0_0.out HB.out)); (case side2 => exact HC0_0.out); rintro e w12 ⟨rfl, hb⟩; refine ⟨_, rfl, ?_⟩; replace BK166 := kB (g := gb166) hb; replace BK167 := kB (g := gb167) hb; replace HB := hB hb; (try clear hb); (try clear hb2); (try clear hk); (try clear hi)))
  replace BK166 := Aside0.mk (blk_drew BK166.out)
  replace BK167 := Aside0.mk (blk_drew BK167.out)
  replace HB := Aside0.mk (below_drew1 HB.out)
  refine start_ (n := 9) (S := fun w' => w'.cell? ⟨gb166, 0, none⟩ = some (.slice A0_0 l0_0.length c0_0) ∧ w'.cell? ⟨gb166, 1, none⟩ = some (.int .i64 a0_1) ∧ w'.cell? ⟨gb166, 2, none⟩ = some (.int .i64 a0_2) ∧ w'.cell? ⟨gb166, 3, none⟩ = some (.int .i64 a0_3) ∧ w'.cell? ⟨gb166, 4, none⟩ = some (.int .i64 a0_4) ∧ w'.cell? ⟨gb166, 5, none⟩ = some (.int .i64 a0_5)) (ds := []) #[false, false, false, false, false, false, false, false, false] (by kernel_rfl) rfl rfl ⟨(blk_cell BK166.out 0).trans rfl, (blk_cell BK166.out 1).trans rfl, (blk_cell BK166.out 2).trans rfl, (blk_cell BK166.out 3).trans rfl, (blk_cell BK166.out 4).trans rfl, (blk_cell BK166.out 5).trans rfl⟩ (fun hHeld => ?_); refine with_tabW impl_ObjectBox.tab3 impl_ObjectBox.bits3 (fun HT_ HW_ => ?_)
  generalize w12.drew = w13 at BK166 BK167 HB hHeld ⊢
  refine pU 0 (some 7) #[true, false, false, false, false, false, false, false, false] ?_
  refine pU 3 (some 10) #[true, false, false, true, false, false, false, false, false] ?_
  refine tK 1 (some 8) #[true, true, false, true, false, false, false, false, false] ?_
  refine tK 4 (some 11) #[true, true, false, true, true, false, false, false, false] ?_
  refine one_ (i := 2) (N := some 9) #[true, true, true, true, true, false, false, false, false] rfl rfl (one_of HT_.out (by kernel_rfl)) (by decide) (fun K hK => ?_)
  refine goes_ Try.func107 (by kernel_rfl) rfl #[.slice A0_0 l0_0.length c0_0] (by rfl) rfl rfl (by (try simp only [List.map_toArray, List.map_cons, List.map_nil]); first | done | rfl | (simp only [List.length_drop, List.length_take]; rfl)) ?_
  with_reducible refine (impl_BoxOf.calls k _ _ l0_0 t169 t170 t171 t172 _ ?side1 ?side2 A4.out).mono ?_
  (case side1 => exact cS (Kd.C_below HR0_0.out HB.out))
  (case side2 => exact HC0_0.out)
  rintro e w14 ⟨rfl, hb⟩
  refine ⟨_, rfl, ?_⟩
  replace BK166 := kB (g := gb166) hb
  replace BK167 := kB (g := gb167) hb
  replace HB := hB hb
  (try clear hb)
  (try clear hb2)
  (try clear hk)
  (try clear hi)
  refine hK.out _ _ ⟨(blk_cell BK166.out 0).trans rfl, (blk_cell BK166.out 1).trans rfl, (blk_cell BK166.out 2).trans rfl, (blk_cell BK166.out 3).trans rfl, (blk_cell BK166.out 4).trans rfl, (blk_cell BK166.out 5).trans rfl⟩ (fun hHeld => ?_)
  clear hK K
  refine norm_ (a' := ?_) ?_ ?_
  rotate_left
  ·show Act.put _ (some 9) _ = _
   simp only [Act.put, List.setIfInBounds_toArray, List.set_cons_zero, List.set_cons_succ, i64_w, i32_w]
   rfl
  refine one_ (i := 5) (N := some 12) #[true, true, true, true, true, true, false, false, false] rfl rfl (one_of HT_.out (by kernel_rfl)) (by decide) (fun K hK => ?_)
  refine goes_ Try.func106 (by kernel_rfl) rfl #[.agg #[.int .i64 t169, .int .i64 t170, .int .i64 t171, .int .i64 t172], .agg #[.int .i64 a0_2, .int .i64 a0_3, .int .i64 a0_4, .int .i64 a0_5]] (by rfl) rfl rfl (by (try simp only [List.map_toArray, List.map_cons, List.map_nil]); first | done | rfl | (simp only [List.length_drop, List.length_take]; rfl)) ?_
  with_reducible refine (impl_MeetBox.calls k t169 t170 t171 t172 a0_2 a0_3 a0_4 a0_5 t173 t174 t175 t176 _ A5.out).mono ?_
  rintro e w15 ⟨rfl, hb⟩
  refine ⟨_, rfl, ?_⟩
  replace BK166 := kB (g := gb166) hb
  replace BK167 := kB (g := gb167) hb
  replace HB := hB hb
  (try clear hb)
  (try clear hb2)
  (try clear hk)
  (try clear hi)
  refine hK.out _ _ ⟨(blk_cell BK166.out 0).trans rfl, (blk_cell BK166.out 1).trans rfl, (blk_cell BK166.out 2).trans rfl, (blk_cell BK166.out 3).trans rfl, (blk_cell BK166.out 4).trans rfl, (blk_cell BK166.out 5).trans rfl⟩ (fun hHeld => ?_)
  clear hK K
  refine norm_ (a' := ?_) ?_ ?_
  rotate_left
  ·show Act.put _ (some 12) _ = _
   simp only [Act.put, List.setIfInBounds_toArray, List.set_cons_zero, List.set_cons_succ, i64_w, i32_w]
   rfl
  refine one_ (i := 6) (N := some 13) #[true, true, true, true, true, true, true, false, false] rfl rfl (one_of HT_.out (by kernel_rfl)) (by decide) (fun K hK => ?_)
  refine goes_ Try.func108 (by kernel_rfl) rfl #[] (by rfl) rfl rfl (by (try simp only [List.map_toArray, List.map_cons, List.map_nil]); first | done | rfl | (simp only [List.length_drop, List.length_take]; rfl)) ?_
  with_reducible refine (impl_pageBox.calls  t177 t178 t179 t180 _ A6.out).mono ?_
  rintro e w16 ⟨rfl, hb⟩
  refine ⟨_, rfl, ?_⟩
  replace BK166 := kB (g := gb166) hb
  replace BK167 := kB (g := gb167) hb
  replace HB := hB hb
  (try clear hb)
  (try clear hb2)
  (try clear hk)
  (try clear hi)
  refine hK.out _ _ ⟨(blk_cell BK166.out 0).trans rfl, (blk_cell BK166.out 1).trans rfl, (blk_cell BK166.out 2).trans rfl, (blk_cell BK166.out 3).trans rfl, (blk_cell BK166.out 4).trans rfl, (blk_cell BK166.out 5).trans rfl⟩ (fun hHeld => ?_)
  clear hK K
  refine norm_ (a' := ?_) ?_ ?_
  rotate_left
  ·show Act.put _ (some 13) _ = _
   simp only [Act.put, List.setIfInBounds_toArray, List.set_cons_zero, List.set_cons_succ, i64_w, i32_w]
   rfl
  refine one_ (i := 7) (N := some 14) #[true, true, true, true, true, true, true, true, false] rfl rfl (one_of HT_.out (by kernel_rfl)) (by decide) (fun K hK => ?_)
  refine goes_ Try.func106 (by kernel_rfl) rfl #[.agg #[.int .i64 t173, .int .i64 t174, .int .i64 t175, .int .i64 t176], .agg #[.int .i64 t177, .int .i64 t178, .int .i64 t179, .int .i64 t180]] (by rfl) rfl rfl (by (try simp only [List.map_toArray, List.map_cons, List.map_nil]); first | done | rfl | (simp only [List.length_drop, List.length_take]; rfl)) ?_
  with_reducible refine (impl_MeetBox.calls k t173 t174 t175 t176 t177 t178 t179 t180 t181 t182 t183 t184 _ A7.out).mono ?_
  rintro e w17 ⟨rfl, hb⟩
  refine ⟨_, rfl, ?_⟩
  replace BK166 := kB (g := gb166) hb
  replace BK167 := kB (g := gb167) hb
  replace HB := hB hb
  (try clear hb)
  (try clear hb2)
  (try clear hk)
  (try clear hi)
  refine hK.out _ _ ⟨(blk_cell BK166.out 0).trans rfl, (blk_cell BK166.out 1).trans rfl, (blk_cell BK166.out 2).trans rfl, (blk_cell BK166.out 3).trans rfl, (blk_cell BK166.out 4).trans rfl, (blk_cell BK166.out 5).trans rfl⟩ (fun hHeld => ?_)
  clear hK K
  refine norm_ (a' := ?_) ?_ ?_
  rotate_left
  ·show Act.put _ (some 14) _ = _
   simp only [Act.put, List.setIfInBounds_toArray, List.set_cons_zero, List.set_cons_succ, i64_w, i32_w]
   rfl
  refine one_ (i := 8) (N := none) #[true, true, true, true, true, true, true, true, true] rfl rfl (one_of HT_.out (by kernel_rfl)) (by decide) (fun K hK => ?_)
  have hs18 : w17.cell? ⟨gb167, 0, none⟩ = some (.int .i64 0) := (blk_cell BK167.out 0).trans rfl
  have hfs18 := blk_frozen BK167.out 0
  have hns18_0 := NB166_167.out
  have hms18_0 := NB167_166.out
  have hs19 : w17.cell? ⟨gb167, 1, none⟩ = some (.int .i64 0) := (blk_cell BK167.out 1).trans rfl
  have hfs19 := blk_frozen BK167.out 1
  have hns19_0 := NB166_167.out
  have hms19_0 := NB167_166.out
  have hs20 : w17.cell? ⟨gb167, 2, none⟩ = some (.int .i64 0) := (blk_cell BK167.out 2).trans rfl
  have hfs20 := blk_frozen BK167.out 2
  have hns20_0 := NB166_167.out
  have hms20_0 := NB167_166.out
  have hs21 : w17.cell? ⟨gb167, 3, none⟩ = some (.int .i64 0) := (blk_cell BK167.out 3).trans rfl
  have hfs21 := blk_frozen BK167.out 3
  have hns21_0 := NB166_167.out
  have hms21_0 := NB167_166.out
  refine skip_ (w1 := ?_) (by rfl) rfl ?_ ?_
  rotate_left
  ·go_simp
   rfl
  refine hK.out _ _ ⟨((cell_far (p := ⟨gb167, _, none⟩) NB166_167.out _).trans (((cell_far (p := ⟨gb167, _, none⟩) NB166_167.out _).trans (((cell_far (p := ⟨gb167, _, none⟩) NB166_167.out _).trans (((cell_far (p := ⟨gb167, _, none⟩) NB166_167.out _).trans (hHeld.1)))))))), ((cell_far (p := ⟨gb167, _, none⟩) NB166_167.out _).trans (((cell_far (p := ⟨gb167, _, none⟩) NB166_167.out _).trans (((cell_far (p := ⟨gb167, _, none⟩) NB166_167.out _).trans (((cell_far (p := ⟨gb167, _, none⟩) NB166_167.out _).trans (hHeld.2.1)))))))), ((cell_far (p := ⟨gb167, _, none⟩) NB166_167.out _).trans (((cell_far (p := ⟨gb167, _, none⟩) NB166_167.out _).trans (((cell_far (p := ⟨gb167, _, none⟩) NB166_167.out _).trans (((cell_far (p := ⟨gb167, _, none⟩) NB166_167.out _).trans (hHeld.2.2.1)))))))), ((cell_far (p := ⟨gb167, _, none⟩) NB166_167.out _).trans (((cell_far (p := ⟨gb167, _, none⟩) NB166_167.out _).trans (((cell_far (p := ⟨gb167, _, none⟩) NB166_167.out _).trans (((cell_far (p := ⟨gb167, _, none⟩) NB166_167.out _).trans (hHeld.2.2.2.1)))))))), ((cell_far (p := ⟨gb167, _, none⟩) NB166_167.out _).trans (((cell_far (p := ⟨gb167, _, none⟩) NB166_167.out _).trans (((cell_far (p := ⟨gb167, _, none⟩) NB166_167.out _).trans (((cell_far (p := ⟨gb167, _, none⟩) NB166_167.out _).trans (hHeld.2.2.2.2.1)))))))), ((cell_far (p := ⟨gb167, _, none⟩) NB166_167.out _).trans (((cell_far (p := ⟨gb167, _, none⟩) NB166_167.out _).trans (((cell_far (p := ⟨gb167, _, none⟩) NB166_167.out _).trans (((cell_far (p := ⟨gb167, _, none⟩) NB166_167.out _).trans (hHeld.2.2.2.2.2))))))))⟩ (fun hHeld => ?_)
  clear hK K
  refine done_ (done_of HT_.out (by kernel_rfl)) ?_
  try go_wp2
  refine bodyPost_ret (results_cell_row rfl _ _ gb167 52 #[.int .i64 t181, .int .i64 t182, .int .i64 t183, .int .i64 t184] (0, 0) _ rfl kS Try.underlying52 rfl (by kernel_rfl)) rfl ?_
  exact ⟨eS, bS⟩
 ·obtain rfl := Bool.eq_false_iff.mpr c3
  rw [if_neg nF] at H
  simp only [Option.some.injEq, Prod.mk.injEq] at H
  obtain ⟨rfl, rfl, rfl, rfl⟩ := H
  go_enter Try.func41, Try.ntmps41
  go_wp2_with (first | ((with_reducible refine gD 1 ?_); refine bxE #[.slice A0_0 l0_0.length c0_0, .int .i64 a0_1, .int .i64 a0_2, .int .i64 a0_3, .int .i64 a0_4, .int .i64 a0_5] 56 ?_; intro gb166 hg w22 BK166 hb; have GW166 := gE hg; have GE166 := gE hg; replace HB := hB hb; clear hb hg) | ((with_reducible refine gD 2 ?_); refine bxE #[.int .i64 0, .int .i64 0, .int .i64 0, .int .i64 0] 52 ?_; intro gb167 hg w23 BK167 hb; have GW167 := gE hg; have GE167 := gE hg; have NB166_167 := nL (g := gb166) hg; have NB167_166 := nG (g := gb166) hg; replace BK166 := kB (g := gb166) hb; replace HB := hB hb; clear hb hg; have hnb24 := NB166_167.out; have hnc24 := NB167_166.out; have hz25 := cz6 BK166) | ((with_reducible refine gC 86 ?_); refine cL (some 4) Try.func86 #[.agg #[.slice A0_0 l0_0.length c0_0, .int .i64 a0_1, .int .i64 a0_2, .int .i64 a0_3, .int .i64 a0_4, .int .i64 a0_5]] ?_; (with_reducible refine (impl_ObjectOk.calls k _ _ l0_0 a0_1 a0_2 a0_3 a0_4 a0_5 _ _ ?side1 ?side2 A2.out).mono ?_); (case side1 => exact cS (Kd.C_below HR0_0.out HB.out)); (case side2 => exact HC0_0.out); rintro e w26 ⟨rfl, hb⟩; refine ⟨_, rfl, ?_⟩; replace BK166 := kB (g := gb166) hb; replace BK167 := kB (g := gb167) hb; replace HB := hB hb; (try clear hb); (try clear hb2); (try clear hk); (try clear hi); have hz27 := cz4 BK167))
  refine bodyPost_ret (results_cell_row rfl _ _ gb167 52 #[.int .i64 0, .int .i64 0, .int .i64 0, .int .i64 0] (0, 0) _ rfl kS Try.underlying52 rfl (by kernel_rfl)) rfl ?_
  exact ⟨eS, bS⟩

/-! ### impl_Point: function 149 -/
def impl_Point.f (l0 : List (S130)) : Option ((List (S130))) := (some (([] : List (S130)) : List (S130))).bind fun y185 => (if y185.length + l0.length < 8796093022208 then (some (y185 ++ l0)) else (none))
theorem impl_Point.calls (A0 : Option Addr) (c0 : Nat) (l0 : List (S130)) (r : List (S130)) (w : World) (hr0 : Kd.C k130 w A0 l0.length l0) (hc0 : l0.length ≤ c0) (h : impl_Point.f l0 = some r) :
  Calls Try.prog 149 #[.slice A0 l0.length c0] w fun e w' => ∃ v0_ : Value, e = .returned (v0_) ∧ Kd.R k130 130 w' w.heap.size (fun _ => True) v0_ r ∧ Below w.heap.size w w' := by
 obtain _ | A0 := A0
 ·have hl0 : l0 = [] := by
   rcases Nat.eq_zero_or_pos l0.length with h0 | h0
   ·exact List.eq_nil_of_length_eq_zero h0
   ·obtain ⟨ad, e, _⟩ := hr0.2.2 h0
    cases e
  subst hl0
  have hr_ : r = [] := by
   have h_ := h
   simp [impl_Point.f] at h_
   first | exact h_ | exact h_.symm
  subst hr_
  have he_ : ∀ w : World, (binOp .eql 54 (.slice none 0 c0) (.slice none 0 0)).run Try.prog w = .ok (.bool true) w := fun _ => rfl
  go_enter Try.func149, Try.ntmps149
  go_wp2
  go_ret
  exact ⟨_, rfl, Kd.R_nil _ _ _ _ _, Below.refl _ _⟩
 have he_ : ∀ w : World, (binOp .eql 54 (.slice (some A0) l0.length c0) (.slice none 0 0)).run Try.prog w = .ok (.bool false) w := fun _ => rfl
 have HR0 := Aside0.mk hr0
 have HC0 := Aside0.mk hc0
 clear hr0 hc0
 have HB := Aside0.mk (Below.refl w.heap.size w)
 have H : ((some (([] : List (S130)) : List (S130))).bind fun y185 => (if y185.length + l0.length < 8796093022208 then (some (y185 ++ l0)) else (none))) = some r := h
 clear h
 obtain ⟨y185, hy185⟩ : ∃ y_ : List (S130), y_ = (([] : List (S130))) := ⟨_, rfl⟩
 replace H : (if y185.length + l0.length < 8796093022208 then (some (y185 ++ l0)) else (none)) = some r := by first | (rw [hy185]; with_reducible exact H) | (have H2_ := (Option.bind_some _ _).symm.trans H; rw [hy185]; with_reducible exact H2_) | (have H2_ := (Option.bind_some _ _).symm.trans H; with_reducible exact H2_) | with_reducible exact H | (rw [hy185]; exact H) | exact H
 have Ny185 := Aside0.mk hy185
 clear hy185
 by_cases c2 : y185.length + l0.length < 8796093022208
 ·rw [if_pos c2] at H
  have LMc2 := Aside0.mk c2
  clear c2
  obtain ⟨y188, hy188⟩ : ∃ y_ : List (S130), y_ = (y185 ++ l0) := ⟨_, rfl⟩
  replace H : (some y188) = some r := by first | (rw [hy188]; with_reducible exact H) | (have H2_ := (Option.bind_some _ _).symm.trans H; rw [hy188]; with_reducible exact H2_) | (have H2_ := (Option.bind_some _ _).symm.trans H; with_reducible exact H2_) | with_reducible exact H | (rw [hy188]; exact H) | exact H
  have Ny188 := Aside0.mk hy188
  clear hy188
  obtain rfl := Option.some.inj H
  simp only [Option.some.injEq, Prod.mk.injEq] at H
  obtain ⟨rfl⟩ := H
  go_enter Try.func149, Try.ntmps149
  go_wp2_with (first | ((with_reducible refine gate_dst (N := 5) rfl ?_); refine Kd.R_lit k130 _ 130 ?hg (N := 5) ?hd (xs := ([] : List (S130))) (inner := []) (ok := fun _ => True) (okp := fun _ => True) ?hr ?hp (fun _ hk => hk) trivial (Below.refl _ _) (Nat.le_refl _) (by simp) ?_; (case hd => rfl); (case hg => rfl); (case hr => first | (go_simp; done) | (go_simp; rfl)); (case hp => exact (Reps.none _ _)); intro v186 w3 ho4 hb hg_ hnew_; clear hg_ hnew_; (first | rw [← Ny185.out] at ho4 | (simp only [Int.reduceToNat] at ho4; rw [← Ny185.out] at ho4)); have HO187 := Aside0.mk (Kd.R_lower ho4 (below_size bS)); replace HB := hB hb; clear hb ho4) | ((with_reducible refine gate_builtin (b := .append) (xs := #[.tmp 5, .tmp 6]) rfl ?_); at_builtin; refine Kd.R_append_rows k130 (w0 := w) w.heap.size rfl (.tmp 5) (.tmp 6) 54 130 (.agg #[(.int .i64 0), (.int .i64 0)]) 16 rfl Try.underlying54 info130 rfl (by decide) (by omega) v186 y185 l0 _ _ _ (fun _ => True) (fun _ => False) rfl rfl ?aO ?aR (fun _ _ h => h) (fun _ h => h.elim) ?aF ?aB ?aS ?aL ?_; (case aR => exact cS (Kd.C_below HR0.out HB.out)); (case aB => exact bS); (case aF => exact (fun _ _ => trivial)); (case aO => exact (rS HO187)); (case aS => exact (below_size bS)); (case aL => have := LMc2.out; omega); intro v189 w5 ho hb hg hat; rw [← Ny188.out] at ho; have HO190 := Aside0.mk (ho); replace HB := Aside0.mk (hb); clear HO187; clear ho hb hg hat))
  go_ret
  exact ⟨_, eS, by (with_reducible repeat (first | apply Kd.R_alloc | apply Kd.R_drewN | apply Kd.R_drew)); exact HO190.out, bS⟩
 ·rw [if_neg c2] at H
  exact absurd H (by simp)

/-! ### impl_copyObject: function 119 -/
def impl_copyObject.f (l0_0 : List (S130)) (a0_1 : Int) (a0_2 : Int) (a0_3 : Int) (a0_4 : Int) (a0_5 : Int) : Option ((List (S130)) × Int × Int × Int × Int × Int) := (impl_Point.f l0_0).bind fun t193 => (some (t193, a0_1, a0_2, a0_3, a0_4, a0_5))
theorem impl_copyObject.calls (A0_0 : Option Addr) (c0_0 : Nat) (l0_0 : List (S130)) (a0_1 : Int) (a0_2 : Int) (a0_3 : Int) (a0_4 : Int) (a0_5 : Int) (r1 : List (S130)) (r2 : Int) (r3 : Int) (r4 : Int) (r5 : Int) (r6 : Int) (w : World) (hr0_0 : Kd.C k130 w A0_0 l0_0.length l0_0) (hc0_0 : l0_0.length ≤ c0_0) (h : impl_copyObject.f l0_0 a0_1 a0_2 a0_3 a0_4 a0_5 = some (r1, r2, r3, r4, r5, r6)) :
  Calls Try.prog 119 #[.agg #[.slice A0_0 l0_0.length c0_0, .int .i64 a0_1, .int .i64 a0_2, .int .i64 a0_3, .int .i64 a0_4, .int .i64 a0_5]] w fun e w' => ∃ v0_ : Value, e = .returned (.agg #[v0_, .int .i64 r2, .int .i64 r3, .int .i64 r4, .int .i64 r5, .int .i64 r6]) ∧ Kd.R k130 130 w' w.heap.size (fun _ => True) v0_ r1 ∧ Below w.heap.size w w' := by
 have hu56 := Try.underlying56
 have HR0_0 := Aside0.mk hr0_0
 have HC0_0 := Aside0.mk hc0_0
 clear hr0_0 hc0_0
 have HB := Aside0.mk (Below.refl w.heap.size w)
 have H : ((impl_Point.f l0_0).bind fun t193 => (some (t193, a0_1, a0_2, a0_3, a0_4, a0_5))) = some (r1, r2, r3, r4, r5, r6) := h
 clear h
 replace H := bN H
 obtain ⟨t193, A2, H⟩ := H
 simp only [Option.some.injEq, Prod.mk.injEq] at H
 obtain ⟨rfl, rfl, rfl, rfl, rfl, rfl⟩ := H
 go_enter Try.func119, Try.ntmps119
 go_wp2_with (first | ((with_reducible refine gD 1 ?_); refine bxE #[.slice A0_0 l0_0.length c0_0, .int .i64 a0_1, .int .i64 a0_2, .int .i64 a0_3, .int .i64 a0_4, .int .i64 a0_5] 56 ?_; intro gb191 hg w3 BK191 hb; have GW191 := gE hg; have GE191 := gE hg; replace HB := hB hb; clear hb hg) | ((with_reducible refine gD 2 ?_); refine bxE #[.slice none 0 0, .int .i64 0, .int .i64 0, .int .i64 0, .int .i64 0, .int .i64 0] 56 ?_; intro gb192 hg w4 BK192 hb; have GW192 := gE hg; have GE192 := gE hg; have NB191_192 := nL (g := gb191) hg; have NB192_191 := nG (g := gb191) hg; replace BK191 := kB (g := gb191) hb; replace HB := hB hb; clear hb hg; have hnb5 := NB191_192.out; have hnc5 := NB192_191.out; have hz6 := cz6 BK191) | ((with_reducible refine gC 149 ?_); refine cL (some 5) Try.func149 #[.slice A0_0 l0_0.length c0_0] ?_; (with_reducible refine (impl_Point.calls _ _ l0_0 t193 _ ?side1 ?side2 A2.out).mono ?_); (case side1 => exact cS (Kd.C_below HR0_0.out HB.out)); (case side2 => exact HC0_0.out); rintro e w7 ⟨v194, rfl, ho0, hb⟩; refine ⟨_, rfl, ?_⟩; have HO195 := Aside0.mk (Kd.R_lower ho0 (below_size bS)); replace BK191 := kB (g := gb191) hb; replace BK192 := kB (g := gb192) hb; replace HB := hB hb; (try clear hb); (try clear hb2); (try clear hk); (try clear hi); (try clear ho0); obtain ⟨Ao8, co8, eo8⟩ := Kd.R_slice HO195.out; subst eo8; have hz9 := cz6 BK191; have hz10 := cz6 BK192))
 refine bodyPost_ret (results_cell_row rfl _ _ gb192 56 #[.slice Ao8 t193.length co8, .int .i64 a0_1, .int .i64 a0_2, .int .i64 a0_3, .int .i64 a0_4, .int .i64 a0_5] (0, 0) _ rfl kS Try.underlying56 rfl (by kernel_rfl)) rfl ?_
 exact ⟨_, eS, by (with_reducible repeat (first | apply Kd.R_alloc | apply Kd.R_drewN | apply Kd.R_drew)); exact Kd.R_mono (Kd.R_far (p := ⟨gb192, 5, none⟩) (Kd.R_far (p := ⟨gb192, 4, none⟩) (Kd.R_far (p := ⟨gb192, 3, none⟩) (Kd.R_far (p := ⟨gb192, 2, none⟩) (Kd.R_far (p := ⟨gb192, 1, none⟩) (Kd.R_far (p := ⟨gb192, 0, none⟩) (Kd.R_far (p := ⟨gb191, 0, none⟩) (Kd.R_types (Kd.R_types HO195.out BK191.out (by decide)) BK192.out (by decide)) (fun _ hk => hk.1.2) (.slice Ao8 t193.length co8)) (fun _ hk => hk.2) (.slice Ao8 t193.length co8)) (fun _ hk => hk.2) (.int .i64 a0_1)) (fun _ hk => hk.2) (.int .i64 a0_2)) (fun _ hk => hk.2) (.int .i64 a0_3)) (fun _ hk => hk.2) (.int .i64 a0_4)) (fun _ hk => hk.2) (.int .i64 a0_5)) (fun _ hk => trivial), bS⟩

/-! ### impl_MoveObject: function 54 -/
mutual
def impl_MoveObject.j0 : Nat → Int → Int → Bool → List (S130) → Int → Int → Int → Int → Int → Option ((List (S130)) × Int × Int × Int × Int × Int × Bool)
 | 0, _, _, _, _, _, _, _, _, _ => none
 | k + 1, x1, x2, x22, x197000, x197001, x197002, x197003, x197004, x197005 => if x22 = true then ((impl_copyObject.f x197000 x197001 x197002 x197003 x197004 x197005).bind fun bt201 => (some (bt201.1, bt201.2.1, bt201.2.2.1, bt201.2.2.2.1, bt201.2.2.2.2.1, bt201.2.2.2.2.2, false))) else ((impl_copyObject.f x197000 x197001 x197002 x197003 x197004 x197005).bind fun bt209 => (impl_MoveObject.l0 k x1 x2 (bt209.1.length : Int) 0 x197000 x197001 x197002 x197003 x197004 x197005 bt209.1 bt209.2.1 bt209.2.2.1 bt209.2.2.2.1 bt209.2.2.2.2.1 bt209.2.2.2.2.2))
def impl_MoveObject.l0 : Nat → Int → Int → Int → Int → List (S130) → Int → Int → Int → Int → Int → List (S130) → Int → Int → Int → Int → Int → Option ((List (S130)) × Int × Int × Int × Int × Int × Bool)
 | 0, _, _, _, _, _, _, _, _, _, _, _, _, _, _, _, _ => none
 | k + 1, x1, x2, x29, x30, x197000, x197001, x197002, x197003, x197004, x197005, x218000, x218001, x218002, x218003, x218004, x218005 => if x30 < x29 then (if 0 ≤ x30 then (if x30 < (x218000.length : Int) then ((some (x218000.set (x30 : Int).toNat (⟨wrap64 (((rd_T130 x218000 x30).f0) + x1), (rd_T130 x218000 x30).f1⟩ : S130) : List (S130))).bind fun y219 => (impl_MoveObject.l0 k x1 x2 x29 (wrap64 (x30 + 1)) x197000 x197001 x197002 x197003 x197004 x197005 (y219.set (x30 : Int).toNat (⟨(rd_T130 y219 x30).f0, wrap64 (((rd_T130 y219 x30).f1) + x2)⟩ : S130)) x218001 x218002 x218003 x218004 x218005)) else (none)) else (none)) else ((impl_ObjectOk.f k x218000 x218001 (wrap64 (x197002 + x1)) (wrap64 (x197003 + x2)) (wrap64 (x197004 + x1)) (wrap64 (x197005 + x2))).bind fun t222 => (if t222 = true then (some (x218000, x218001, wrap64 (x197002 + x1), wrap64 (x197003 + x2), wrap64 (x197004 + x1), wrap64 (x197005 + x2), true)) else ((impl_copyObject.f x197000 x197001 x197002 x197003 x197004 x197005).bind fun bt223 => (some (bt223.1, bt223.2.1, bt223.2.2.1, bt223.2.2.2.1, bt223.2.2.2.2.1, bt223.2.2.2.2.2, false)))))
end
def impl_MoveObject.f (k : Nat) (l0_0 : List (S130)) (a0_1 : Int) (a0_2 : Int) (a0_3 : Int) (a0_4 : Int) (a0_5 : Int) (a1 : Int) (a2 : Int) : Option ((List (S130)) × Int × Int × Int × Int × Int × Bool) := (impl_ObjectOk.f k l0_0 a0_1 a0_2 a0_3 a0_4 a0_5).bind fun t198 => (if t198 = true then ((impl_coordOk.f a1).bind fun t199 => (if t199 = true then ((impl_coordOk.f a2).bind fun t200 => (impl_MoveObject.j0 k a1 a2 (!t200) l0_0 a0_1 a0_2 a0_3 a0_4 a0_5)) else (impl_MoveObject.j0 k a1 a2 true l0_0 a0_1 a0_2 a0_3 a0_4 a0_5))) else (impl_MoveObject.j0 k a1 a2 true l0_0 a0_1 a0_2 a0_3 a0_4 a0_5))
theorem impl_MoveObject.calls (k : Nat) (A0_0 : Option Addr) (c0_0 : Nat) (l0_0 : List (S130)) (a0_1 : Int) (a0_2 : Int) (a0_3 : Int) (a0_4 : Int) (a0_5 : Int) (a1 : Int) (a2 : Int) (r1 : List (S130)) (r2 : Int) (r3 : Int) (r4 : Int) (r5 : Int) (r6 : Int) (r7 : Bool) (w : World) (hr0_0 : Kd.C k130 w A0_0 l0_0.length l0_0) (hc0_0 : l0_0.length ≤ c0_0) (h : impl_MoveObject.f k l0_0 a0_1 a0_2 a0_3 a0_4 a0_5 a1 a2 = some (r1, r2, r3, r4, r5, r6, r7)) :
  Calls Try.prog 54 #[.agg #[.slice A0_0 l0_0.length c0_0, .int .i64 a0_1, .int .i64 a0_2, .int .i64 a0_3, .int .i64 a0_4, .int .i64 a0_5], .int .i64 a1, .int .i64 a2] w fun e w' => ∃ v0_ : Value, e = .returned (.tuple #[.agg #[v0_, .int .i64 r2, .int .i64 r3, .int .i64 r4, .int .i64 r5, .int .i64 r6], .bool r7]) ∧ Kd.R k130 130 w' w.heap.size (fun _ => True) v0_ r1 ∧ Below w.heap.size w w' := by
 have hu56 := Try.underlying56
 have hu52 := Try.underlying52
 have HR0_0 := Aside0.mk hr0_0
 have HC0_0 := Aside0.mk hc0_0
 clear hr0_0 hc0_0
 have HB := Aside0.mk (Below.refl w.heap.size w)
 have H : ((impl_ObjectOk.f k l0_0 a0_1 a0_2 a0_3 a0_4 a0_5).bind fun t198 => (if t198 = true then ((impl_coordOk.f a1).bind fun t199 => (if t199 = true then ((impl_coordOk.f a2).bind fun t200 => (impl_MoveObject.j0 k a1 a2 (!t200) l0_0 a0_1 a0_2 a0_3 a0_4 a0_5)) else (impl_MoveObject.j0 k a1 a2 true l0_0 a0_1 a0_2 a0_3 a0_4 a0_5))) else (impl_MoveObject.j0 k a1 a2 true l0_0 a0_1 a0_2 a0_3 a0_4 a0_5))) = some (r1, r2, r3, r4, r5, r6, r7) := h
 clear h
 have HC4 := Aside0.mk H
 clear H
 go_enter Try.func54, Try.ntmps54
 go_upto_region 1 with (first | ((with_reducible refine gD 3 ?_); refine bxE #[.slice A0_0 l0_0.length c0_0, .int .i64 a0_1, .int .i64 a0_2, .int .i64 a0_3, .int .i64 a0_4, .int .i64 a0_5] 56 ?_; intro gb196 hg w5 BK196 hb; have GW196 := gE hg; have GE196 := gE hg; replace HB := hB hb; clear hb hg) | ((with_reducible refine gD 6 ?_); refine bxE #[.slice none 0 0, .int .i64 0, .int .i64 0, .int .i64 0, .int .i64 0, .int .i64 0] 56 ?_; intro gb197 hg w6 BK197 hb; have GW197 := gE hg; have GE197 := gE hg; have NB196_197 := nL (g := gb196) hg; have NB197_196 := nG (g := gb196) hg; replace BK196 := kB (g := gb196) hb; replace HB := hB hb; clear hb hg))
 (try simp only [Act.put, List.setIfInBounds_toArray, List.set_cons_zero, List.set_cons_succ])
 go_cut [22] (fun v22 wc => ∃ (kq : Nat) (x22_3 : Bool), v22 = .bool x22_3 ∧ Aside0 (impl_MoveObject.j0 kq a1 a2 x22_3 l0_0 a0_1 a0_2 a0_3 a0_4 a0_5 = some (r1, r2, r3, r4, r5, r6, r7)) ∧ Aside0 (kq ≤ k) ∧ Aside0 (wc.heap[gb196]? = some (.cells #[(.slice A0_0 l0_0.length c0_0), .int .i64 a0_1, .int .i64 a0_2, .int .i64 a0_3, .int .i64 a0_4, .int .i64 a0_5] 56 (0, 0))) ∧ Aside0 (wc.heap[gb197]? = some (.cells #[(.slice none 0 0), .int .i64 0, .int .i64 0, .int .i64 0, .int .i64 0, .int .i64 0] 56 (0, 0))) ∧ Aside0 (Below w.heap.size w wc))
 case first =>
  have H := HC4.out
  clear HC4
  replace H := bN H
  obtain ⟨t198, A7, H⟩ := H
  by_cases c8 : t198 = true
  ·subst c8
   rw [if_pos rfl] at H
   replace H := bN H
   obtain ⟨t199, A9, H⟩ := H
   by_cases c10 : t199 = true
   ·subst c10
    rw [if_pos rfl] at H
    replace H := bN H
    obtain ⟨t200, A11, H⟩ := H
    have H' := Aside0.mk H
    clear H
    have hnb12 := NB196_197.out
    have hnc12 := NB197_196.out
    have hcz13_0 : w6.cell? ⟨gb196, 0, none⟩ = some (.slice A0_0 l0_0.length c0_0) := (blk_cell BK196.out 0).trans rfl
    have hcz13_1 : w6.cell? ⟨gb196, 1, none⟩ = some (.int .i64 a0_1) := (blk_cell BK196.out 1).trans rfl
    have hcz13_2 : w6.cell? ⟨gb196, 2, none⟩ = some (.int .i64 a0_2) := (blk_cell BK196.out 2).trans rfl
    have hcz13_3 : w6.cell? ⟨gb196, 3, none⟩ = some (.int .i64 a0_3) := (blk_cell BK196.out 3).trans rfl
    have hcz13_4 : w6.cell? ⟨gb196, 4, none⟩ = some (.int .i64 a0_4) := (blk_cell BK196.out 4).trans rfl
    have hcz13_5 : w6.cell? ⟨gb196, 5, none⟩ = some (.int .i64 a0_5) := (blk_cell BK196.out 5).trans rfl
    have hfz13_0 := blk_frozen BK196.out 0
    have hfz13_1 := blk_frozen BK196.out 1
    have hfz13_2 := blk_frozen BK196.out 2
    have hfz13_3 := blk_frozen BK196.out 3
    have hfz13_4 := blk_frozen BK196.out 4
    have hfz13_5 := blk_frozen BK196.out 5
    go_wp2_with (first | ((with_reducible refine gC 86 ?_); refine cL (some 11) Try.func86 #[.agg #[.slice A0_0 l0_0.length c0_0, .int .i64 a0_1, .int .i64 a0_2, .int .i64 a0_3, .int .i64 a0_4, .int .i64 a0_5]] ?_; (with_reducible refine (impl_ObjectOk.calls k _ _ l0_0 a0_1 a0_2 a0_3 a0_4 a0_5 _ _ ?side1 ?side2 A7.out).mono ?_); (case side1 => exact cS (Kd.C_below HR0_0.out HB.out)); (case side2 => exact HC0_0.out); rintro e w14 ⟨rfl, hb⟩; refine ⟨_, rfl, ?_⟩; replace BK196 := kB (g := gb196) hb; replace BK197 := kB (g := gb197) hb; replace HB := hB hb; (try clear hb); (try clear hb2); (try clear hk); (try clear hi)) | (go_at_call 114; (with_reducible refine (impl_coordOk.calls a1 _ _ A9.out).mono ?_); rintro e w' ⟨rfl, ⟨nd, rfl⟩⟩) | (go_at_call 114; (with_reducible refine (impl_coordOk.calls a2 t200 _ A11.out).mono ?_); rintro e w' ⟨rfl, ⟨nd, rfl⟩⟩))
    go_meet
    case rel => exact ⟨_, (!t200), (by first | rfl | (simp; done) | (simp [*]; done)), H', ⟨by first | omega | exact Nat.le_refl _⟩, ⟨kS⟩, ⟨kS⟩, ⟨bS⟩⟩
   ·obtain rfl := Bool.eq_false_iff.mpr c10
    rw [if_neg nF] at H
    have H' := Aside0.mk H
    clear H
    have hnb15 := NB196_197.out
    have hnc15 := NB197_196.out
    have hcz16_0 : w6.cell? ⟨gb196, 0, none⟩ = some (.slice A0_0 l0_0.length c0_0) := (blk_cell BK196.out 0).trans rfl
    have hcz16_1 : w6.cell? ⟨gb196, 1, none⟩ = some (.int .i64 a0_1) := (blk_cell BK196.out 1).trans rfl
    have hcz16_2 : w6.cell? ⟨gb196, 2, none⟩ = some (.int .i64 a0_2) := (blk_cell BK196.out 2).trans rfl
    have hcz16_3 : w6.cell? ⟨gb196, 3, none⟩ = some (.int .i64 a0_3) := (blk_cell BK196.out 3).trans rfl
    have hcz16_4 : w6.cell? ⟨gb196, 4, none⟩ = some (.int .i64 a0_4) := (blk_cell BK196.out 4).trans rfl
    have hcz16_5 : w6.cell? ⟨gb196, 5, none⟩ = some (.int .i64 a0_5) := (blk_cell BK196.out 5).trans rfl
    have hfz16_0 := blk_frozen BK196.out 0
    have hfz16_1 := blk_frozen BK196.out 1
    have hfz16_2 := blk_frozen BK196.out 2
    have hfz16_3 := blk_frozen BK196.out 3
    have hfz16_4 := blk_frozen BK196.out 4
    have hfz16_5 := blk_frozen BK196.out 5
    go_wp2_with (first | ((with_reducible refine gC 86 ?_); refine cL (some 11) Try.func86 #[.agg #[.slice A0_0 l0_0.length c0_0, .int .i64 a0_1, .int .i64 a0_2, .int .i64 a0_3, .int .i64 a0_4, .int .i64 a0_5]] ?_; (with_reducible refine (impl_ObjectOk.calls k _ _ l0_0 a0_1 a0_2 a0_3 a0_4 a0_5 _ _ ?side1 ?side2 A7.out).mono ?_); (case side1 => exact cS (Kd.C_below HR0_0.out HB.out)); (case side2 => exact HC0_0.out); rintro e w17 ⟨rfl, hb⟩; refine ⟨_, rfl, ?_⟩; replace BK196 := kB (g := gb196) hb; replace BK197 := kB (g := gb197) hb; replace HB := hB hb; (try clear hb); (try clear hb2); (try clear hk); (try clear hi)) | (go_at_call 114; (with_reducible refine (impl_coordOk.calls a1 _ _ A9.out).mono ?_); rintro e w' ⟨rfl, ⟨nd, rfl⟩⟩))
    go_meet
    case rel => exact ⟨_, (true), (by first | rfl | (simp; done) | (simp [*]; done)), H', ⟨by first | omega | exact Nat.le_refl _⟩, ⟨kS⟩, ⟨kS⟩, ⟨bS⟩⟩
  ·obtain rfl := Bool.eq_false_iff.mpr c8
   rw [if_neg nF] at H
   have H' := Aside0.mk H
   clear H
   have hnb18 := NB196_197.out
   have hnc18 := NB197_196.out
   have hcz19_0 : w6.cell? ⟨gb196, 0, none⟩ = some (.slice A0_0 l0_0.length c0_0) := (blk_cell BK196.out 0).trans rfl
   have hcz19_1 : w6.cell? ⟨gb196, 1, none⟩ = some (.int .i64 a0_1) := (blk_cell BK196.out 1).trans rfl
   have hcz19_2 : w6.cell? ⟨gb196, 2, none⟩ = some (.int .i64 a0_2) := (blk_cell BK196.out 2).trans rfl
   have hcz19_3 : w6.cell? ⟨gb196, 3, none⟩ = some (.int .i64 a0_3) := (blk_cell BK196.out 3).trans rfl
   have hcz19_4 : w6.cell? ⟨gb196, 4, none⟩ = some (.int .i64 a0_4) := (blk_cell BK196.out 4).trans rfl
   have hcz19_5 : w6.cell? ⟨gb196, 5, none⟩ = some (.int .i64 a0_5) := (blk_cell BK196.out 5).trans rfl
   have hfz19_0 := blk_frozen BK196.out 0
   have hfz19_1 := blk_frozen BK196.out 1
   have hfz19_2 := blk_frozen BK196.out 2
   have hfz19_3 := blk_frozen BK196.out 3
   have hfz19_4 := blk_frozen BK196.out 4
   have hfz19_5 := blk_frozen BK196.out 5
   go_wp2_with (first | ((with_reducible refine gC 86 ?_); refine cL (some 11) Try.func86 #[.agg #[.slice A0_0 l0_0.length c0_0, .int .i64 a0_1, .int .i64 a0_2, .int .i64 a0_3, .int .i64 a0_4, .int .i64 a0_5]] ?_; (with_reducible refine (impl_ObjectOk.calls k _ _ l0_0 a0_1 a0_2 a0_3 a0_4 a0_5 _ _ ?side1 ?side2 A7.out).mono ?_); (case side1 => exact cS (Kd.C_below HR0_0.out HB.out)); (case side2 => exact HC0_0.out); rintro e w20 ⟨rfl, hb⟩; refine ⟨_, rfl, ?_⟩; replace BK196 := kB (g := gb196) hb; replace BK197 := kB (g := gb197) hb; replace HB := hB hb; (try clear hb); (try clear hb2); (try clear hk); (try clear hi)))
   go_meet
   case rel => exact ⟨_, (true), (by first | rfl | (simp; done) | (simp [*]; done)), H', ⟨by first | omega | exact Nat.le_refl _⟩, ⟨kS⟩, ⟨kS⟩, ⟨bS⟩⟩
 case rest =>
  clear HC4
  try clear c1
  try clear p2
  try clear c5
  try clear c8
  try clear c10
  try clear c12
  try clear c15
  try clear c18
  try clear hcz13_0
  try clear hcz13_1
  try clear hcz13_2
  try clear hcz13_3
  try clear hcz13_4
  try clear hcz13_5
  try clear hcz16_0
  try clear hcz16_1
  try clear hcz16_2
  try clear hcz16_3
  try clear hcz16_4
  try clear hcz16_5
  try clear hcz19_0
  try clear hcz19_1
  try clear hcz19_2
  try clear hcz19_3
  try clear hcz19_4
  try clear hcz19_5
  try clear hfz13_0
  try clear hfz13_1
  try clear hfz13_2
  try clear hfz13_3
  try clear hfz13_4
  try clear hfz13_5
  try clear hfz16_0
  try clear hfz16_1
  try clear hfz16_2
  try clear hfz16_3
  try clear hfz16_4
  try clear hfz16_5
  try clear hfz19_0
  try clear hfz19_1
  try clear hfz19_2
  try clear hfz19_3
  try clear hfz19_4
  try clear hfz19_5
  obtain ⟨kq, x22_3, rfl, HA, HJ3, BK196, BK197, HB⟩ := hcut
  cases kq with
  | zero => exact absurd HA.out (by simp [impl_MoveObject.j0])
  | succ kj3 =>
   have H := HA.out
   clear HA
   simp only [impl_MoveObject.j0] at H
   by_cases c21 : x22_3 = true
   ·subst c21
    rw [if_pos rfl] at H
    replace H := bN H
    obtain ⟨⟨t201, t204, t205, t206, t207, t208⟩, A22, H⟩ := H
    simp only [Option.some.injEq, Prod.mk.injEq] at H
    obtain ⟨rfl, rfl, rfl, rfl, rfl, rfl, rfl⟩ := H
    have hnb23 := NB196_197.out
    have hnc23 := NB197_196.out
    have hcz24_0 : wc.cell? ⟨gb196, 0, none⟩ = some (.slice A0_0 l0_0.length c0_0) := (blk_cell BK196.out 0).trans rfl
    have hcz24_1 : wc.cell? ⟨gb196, 1, none⟩ = some (.int .i64 a0_1) := (blk_cell BK196.out 1).trans rfl
    have hcz24_2 : wc.cell? ⟨gb196, 2, none⟩ = some (.int .i64 a0_2) := (blk_cell BK196.out 2).trans rfl
    have hcz24_3 : wc.cell? ⟨gb196, 3, none⟩ = some (.int .i64 a0_3) := (blk_cell BK196.out 3).trans rfl
    have hcz24_4 : wc.cell? ⟨gb196, 4, none⟩ = some (.int .i64 a0_4) := (blk_cell BK196.out 4).trans rfl
    have hcz24_5 : wc.cell? ⟨gb196, 5, none⟩ = some (.int .i64 a0_5) := (blk_cell BK196.out 5).trans rfl
    have hfz24_0 := blk_frozen BK196.out 0
    have hfz24_1 := blk_frozen BK196.out 1
    have hfz24_2 := blk_frozen BK196.out 2
    have hfz24_3 := blk_frozen BK196.out 3
    have hfz24_4 := blk_frozen BK196.out 4
    have hfz24_5 := blk_frozen BK196.out 5
    go_wp2_with (first | ((with_reducible refine gC 119 ?_); refine cL (some 24) Try.func119 #[.agg #[.slice A0_0 l0_0.length c0_0, .int .i64 a0_1, .int .i64 a0_2, .int .i64 a0_3, .int .i64 a0_4, .int .i64 a0_5]] ?_; (with_reducible refine (impl_copyObject.calls _ _ l0_0 a0_1 a0_2 a0_3 a0_4 a0_5 t201 t204 t205 t206 t207 t208 _ ?side1 ?side2 A22.out).mono ?_); (case side1 => exact cS (Kd.C_below HR0_0.out HB.out)); (case side2 => exact HC0_0.out); rintro e w25 ⟨v202, rfl, ho0, hb⟩; refine ⟨_, rfl, ?_⟩; have HO203 := Aside0.mk (Kd.R_lower ho0 (below_size bS)); replace BK196 := kB (g := gb196) hb; replace BK197 := kB (g := gb197) hb; replace HB := hB hb; (try clear hb); (try clear hb2); (try clear hk); (try clear hi); (try clear ho0); obtain ⟨Ao26, co26, eo26⟩ := Kd.R_slice HO203.out; subst eo26; have hcz27_0 : w25.cell? ⟨gb197, 0, none⟩ = some (.slice none 0 0) := (blk_cell BK197.out 0).trans rfl; have hcz27_1 : w25.cell? ⟨gb197, 1, none⟩ = some (.int .i64 0) := (blk_cell BK197.out 1).trans rfl; have hcz27_2 : w25.cell? ⟨gb197, 2, none⟩ = some (.int .i64 0) := (blk_cell BK197.out 2).trans rfl; have hcz27_3 : w25.cell? ⟨gb197, 3, none⟩ = some (.int .i64 0) := (blk_cell BK197.out 3).trans rfl; have hcz27_4 : w25.cell? ⟨gb197, 4, none⟩ = some (.int .i64 0) := (blk_cell BK197.out 4).trans rfl; have hcz27_5 : w25.cell? ⟨gb197, 5, none⟩ = some (.int .i64 0) := (blk_cell BK197.out 5).trans rfl; have hfz27_0 := blk_frozen BK197.out 0; have hfz27_1 := blk_frozen BK197.out 1; have hfz27_2 := blk_frozen BK197.out 2; have hfz27_3 := blk_frozen BK197.out 3; have hfz27_4 := blk_frozen BK197.out 4; have hfz27_5 := blk_frozen BK197.out 5))
    refine bodyPost_ret (results_ct rfl _ _ gb197 56 #[.slice Ao26 t201.length co26, .int .i64 t204, .int .i64 t205, .int .i64 t206, .int .i64 t207, .int .i64 t208] (0, 0) _ rfl kS Try.underlying56 rfl (by kernel_rfl)) rfl ?_
    exact ⟨_, eS, by (with_reducible repeat (first | apply Kd.R_alloc | apply Kd.R_drewN | apply Kd.R_drew)); exact Kd.R_mono (Kd.R_far (p := ⟨gb197, 5, none⟩) (Kd.R_far (p := ⟨gb197, 4, none⟩) (Kd.R_far (p := ⟨gb197, 3, none⟩) (Kd.R_far (p := ⟨gb197, 2, none⟩) (Kd.R_far (p := ⟨gb197, 1, none⟩) (Kd.R_far (p := ⟨gb197, 0, none⟩) (Kd.R_types HO203.out BK197.out (by decide)) (fun _ hk => hk.2) (.slice Ao26 t201.length co26)) (fun _ hk => hk.2) (.int .i64 t204)) (fun _ hk => hk.2) (.int .i64 t205)) (fun _ hk => hk.2) (.int .i64 t206)) (fun _ hk => hk.2) (.int .i64 t207)) (fun _ hk => hk.2) (.int .i64 t208)) (fun _ hk => trivial), bS⟩
   ·obtain rfl := Bool.eq_false_iff.mpr c21
    rw [if_neg nF] at H
    replace H := bN H
    obtain ⟨⟨t209, t212, t213, t214, t215, t216⟩, A28, H⟩ := H
    have H' := Aside0.mk H
    clear H
    have hnb29 := NB196_197.out
    have hnc29 := NB197_196.out
    have hcz30_0 : wc.cell? ⟨gb196, 0, none⟩ = some (.slice A0_0 l0_0.length c0_0) := (blk_cell BK196.out 0).trans rfl
    have hcz30_1 : wc.cell? ⟨gb196, 1, none⟩ = some (.int .i64 a0_1) := (blk_cell BK196.out 1).trans rfl
    have hcz30_2 : wc.cell? ⟨gb196, 2, none⟩ = some (.int .i64 a0_2) := (blk_cell BK196.out 2).trans rfl
    have hcz30_3 : wc.cell? ⟨gb196, 3, none⟩ = some (.int .i64 a0_3) := (blk_cell BK196.out 3).trans rfl
    have hcz30_4 : wc.cell? ⟨gb196, 4, none⟩ = some (.int .i64 a0_4) := (blk_cell BK196.out 4).trans rfl
    have hcz30_5 : wc.cell? ⟨gb196, 5, none⟩ = some (.int .i64 a0_5) := (blk_cell BK196.out 5).trans rfl
    have hfz30_0 := blk_frozen BK196.out 0
    have hfz30_1 := blk_frozen BK196.out 1
    have hfz30_2 := blk_frozen BK196.out 2
    have hfz30_3 := blk_frozen BK196.out 3
    have hfz30_4 := blk_frozen BK196.out 4
    have hfz30_5 := blk_frozen BK196.out 5
    go_wp2_with (first | ((with_reducible refine gC 119 ?_); refine cL (some 26) Try.func119 #[.agg #[.slice A0_0 l0_0.length c0_0, .int .i64 a0_1, .int .i64 a0_2, .int .i64 a0_3, .int .i64 a0_4, .int .i64 a0_5]] ?_; (with_reducible refine (impl_copyObject.calls _ _ l0_0 a0_1 a0_2 a0_3 a0_4 a0_5 t209 t212 t213 t214 t215 t216 _ ?side1 ?side2 A28.out).mono ?_); (case side1 => exact cS (Kd.C_below HR0_0.out HB.out)); (case side2 => exact HC0_0.out); rintro e w31 ⟨v210, rfl, ho0, hb⟩; refine ⟨_, rfl, ?_⟩; have HO211 := Aside0.mk (Kd.R_lower ho0 (below_size bS)); replace BK196 := kB (g := gb196) hb; replace BK197 := kB (g := gb197) hb; replace HB := hB hb; (try clear hb); (try clear hb2); (try clear hk); (try clear hi); (try clear ho0)) | ((with_reducible refine gD 8 ?_); refine bxE #[.slice none 0 0, .int .i64 0, .int .i64 0, .int .i64 0, .int .i64 0, .int .i64 0] 56 ?_; intro gb217 hg w32 BK217 hb; have GW217 := gE hg; have GE217 := gE hg; have NB196_217 := nL (g := gb196) hg; have NB217_196 := nG (g := gb196) hg; have NB197_217 := nL (g := gb197) hg; have NB217_197 := nG (g := gb197) hg; replace HO211 := Aside0.mk (Kd.R_below (rS HO211) hb); replace BK196 := kB (g := gb196) hb; replace BK197 := kB (g := gb197) hb; replace HB := hB hb; clear hb hg; obtain ⟨Ao33, co33, eo33⟩ := Kd.R_slice HO211.out; subst eo33; have hnb34 := NB217_196.out; have hnc34 := NB196_217.out; have hnb35 := NB217_197.out; have hnc35 := NB197_217.out; have hcz36_0 : w32.cell? ⟨gb217, 0, none⟩ = some (.slice none 0 0) := (blk_cell BK217.out 0).trans rfl; have hcz36_1 : w32.cell? ⟨gb217, 1, none⟩ = some (.int .i64 0) := (blk_cell BK217.out 1).trans rfl; have hcz36_2 : w32.cell? ⟨gb217, 2, none⟩ = some (.int .i64 0) := (blk_cell BK217.out 2).trans rfl; have hcz36_3 : w32.cell? ⟨gb217, 3, none⟩ = some (.int .i64 0) := (blk_cell BK217.out 3).trans rfl; have hcz36_4 : w32.cell? ⟨gb217, 4, none⟩ = some (.int .i64 0) := (blk_cell BK217.out 4).trans rfl; have hcz36_5 : w32.cell? ⟨gb217, 5, none⟩ = some (.int .i64 0) := (blk_cell BK217.out 5).trans rfl; have hfz36_0 := blk_frozen BK217.out 0; have hfz36_1 := blk_frozen BK217.out 1; have hfz36_2 := blk_frozen BK217.out 2; have hfz36_3 := blk_frozen BK217.out 3; have hfz36_4 := blk_frozen BK217.out 4; have hfz36_5 := blk_frozen BK217.out 5))
    go_loopg [30] kj3 (fun kq v30 w' => ∃ (x30_2 : Int) (x218000_2 : List (S130)) (u218000 : Value), v30 = .int .i64 x30_2 ∧ Aside0 (impl_MoveObject.l0 kq a1 a2 (t209.length : Int) x30_2 l0_0 a0_1 a0_2 a0_3 a0_4 a0_5 x218000_2 t212 t213 t214 t215 t216 = some (r1, r2, r3, r4, r5, r6, r7)) ∧ Aside0 (kq ≤ kj3) ∧ Aside0 (Kd.R k130 130 w' w.heap.size (fun _ => True) u218000 x218000_2) ∧ Aside0 (w'.heap[gb196]? = some (.cells #[(.slice A0_0 l0_0.length c0_0), .int .i64 a0_1, .int .i64 a0_2, .int .i64 a0_3, .int .i64 a0_4, .int .i64 a0_5] 56 (0, 0))) ∧ Aside0 (w'.heap[gb197]? = some (.cells #[(.slice none 0 0), .int .i64 0, .int .i64 0, .int .i64 0, .int .i64 0, .int .i64 0] 56 (0, 0))) ∧ Aside0 (w'.heap[gb217]? = some (.cells #[u218000, .int .i64 t212, .int .i64 t213, .int .i64 t214, .int .i64 t215, .int .i64 t216] 56 (0, 0))) ∧ Aside0 (Below w.heap.size w w'))
    case atStart => exact ⟨(0), (t209), (.slice Ao33 t209.length co33), (by first | rfl | (simp; done) | (simp [*]; done)), H', ⟨Nat.le_refl _⟩, ⟨by (with_reducible repeat (first | apply Kd.R_alloc | apply Kd.R_drewN | apply Kd.R_drew)); exact Kd.R_mono (Kd.R_far (p := ⟨gb217, 5, none⟩) (Kd.R_far (p := ⟨gb217, 4, none⟩) (Kd.R_far (p := ⟨gb217, 3, none⟩) (Kd.R_far (p := ⟨gb217, 2, none⟩) (Kd.R_far (p := ⟨gb217, 1, none⟩) (Kd.R_far (p := ⟨gb217, 0, none⟩) (Kd.R_types HO211.out BK217.out (by decide)) (fun _ hk => hk.2) (.slice Ao33 t209.length co33)) (fun _ hk => hk.2) (.int .i64 t212)) (fun _ hk => hk.2) (.int .i64 t213)) (fun _ hk => hk.2) (.int .i64 t214)) (fun _ hk => hk.2) (.int .i64 t215)) (fun _ hk => hk.2) (.int .i64 t216)) (fun _ hk => trivial)⟩, ⟨kS⟩, ⟨kS⟩, ⟨kS⟩, ⟨bS⟩⟩
    case round =>
     clear H'
     try clear c1
     try clear c2
     try clear p2
     try clear c3
     try clear c5
     try clear c8
     try clear c10
     try clear c11
     try clear c12
     try clear c15
     try clear c18
     try clear c21
     try clear c23
     try clear c29
     try clear c34
     try clear c35
     try clear hcz13_0
     try clear hcz13_1
     try clear hcz13_2
     try clear hcz13_3
     try clear hcz13_4
     try clear hcz13_5
     try clear hcz16_0
     try clear hcz16_1
     try clear hcz16_2
     try clear hcz16_3
     try clear hcz16_4
     try clear hcz16_5
     try clear hcz19_0
     try clear hcz19_1
     try clear hcz19_2
     try clear hcz19_3
     try clear hcz19_4
     try clear hcz19_5
     try clear hcz24_0
     try clear hcz24_1
     try clear hcz24_2
     try clear hcz24_3
     try clear hcz24_4
     try clear hcz24_5
     try clear hcz27_0
     try clear hcz27_1
     try clear hcz27_2
     try clear hcz27_3
     try clear hcz27_4
     try clear hcz27_5
     try clear hcz30_0
     try clear hcz30_1
     try clear hcz30_2
     try clear hcz30_3
     try clear hcz30_4
     try clear hcz30_5
     try clear hcz36_0
     try clear hcz36_1
     try clear hcz36_2
     try clear hcz36_3
     try clear hcz36_4
     try clear hcz36_5
     try clear hfz13_0
     try clear hfz13_1
     try clear hfz13_2
     try clear hfz13_3
     try clear hfz13_4
     try clear hfz13_5
     try clear hfz16_0
     try clear hfz16_1
     try clear hfz16_2
     try clear hfz16_3
     try clear hfz16_4
     try clear hfz16_5
     try clear hfz19_0
     try clear hfz19_1
     try clear hfz19_2
     try clear hfz19_3
     try clear hfz19_4
     try clear hfz19_5
     try clear hfz24_0
     try clear hfz24_1
     try clear hfz24_2
     try clear hfz24_3
     try clear hfz24_4
     try clear hfz24_5
     try clear hfz27_0
     try clear hfz27_1
     try clear hfz27_2
     try clear hfz27_3
     try clear hfz27_4
     try clear hfz27_5
     try clear hfz30_0
     try clear hfz30_1
     try clear hfz30_2
     try clear hfz30_3
     try clear hfz30_4
     try clear hfz30_5
     try clear hfz36_0
     try clear hfz36_1
     try clear hfz36_2
     try clear hfz36_3
     try clear hfz36_4
     try clear hfz36_5
     try clear p2
     obtain ⟨x30_2, x218000_2, u218000, rfl, HA, HK2, HO_218000, BK196, BK197, BK217, HB⟩ := hrel
     cases gk with
     | zero => exact absurd HA.out (by simp [impl_MoveObject.l0])
     | succ k2 =>
      have H := HA.out
      clear HA
      simp only [impl_MoveObject.l0] at H
      by_cases c37 : x30_2 < (t209.length : Int)
      ·rw [if_pos c37] at H
       have c37b0 : decide (x30_2 < (t209.length : Int)) = true := decide_eq_true c37
       clear c37
       by_cases c38 : 0 ≤ x30_2
       ·rw [if_pos c38] at H
        have c38b0 : decide (0 ≤ x30_2) = true := decide_eq_true c38
        clear c38
        by_cases c39 : x30_2 < (x218000_2.length : Int)
        ·rw [if_pos c39] at H
         have c39b0 : decide (x30_2 < (x218000_2.length : Int)) = true := decide_eq_true c39
         clear c39
         obtain ⟨y219, hy219⟩ : ∃ y_ : List (S130), y_ = (x218000_2.set (x30_2 : Int).toNat (⟨wrap64 (((rd_T130 x218000_2 x30_2).f0) + a1), (rd_T130 x218000_2 x30_2).f1⟩ : S130)) := ⟨_, rfl⟩
         replace H : (impl_MoveObject.l0 k2 a1 a2 (t209.length : Int) (wrap64 (x30_2 + 1)) l0_0 a0_1 a0_2 a0_3 a0_4 a0_5 (y219.set (x30_2 : Int).toNat (⟨(rd_T130 y219 x30_2).f0, wrap64 (((rd_T130 y219 x30_2).f1) + a2)⟩ : S130)) t212 t213 t214 t215 t216) = some (r1, r2, r3, r4, r5, r6, r7) := by first | (rw [hy219]; with_reducible exact H) | (have H2_ := (Option.bind_some _ _).symm.trans H; rw [hy219]; with_reducible exact H2_) | (have H2_ := (Option.bind_some _ _).symm.trans H; with_reducible exact H2_) | with_reducible exact H | (rw [hy219]; exact H) | exact H
         have Ny219 := Aside0.mk hy219
         clear hy219
         obtain ⟨y221, hy221⟩ : ∃ y_ : List (S130), y_ = (y219.set (x30_2 : Int).toNat (⟨(rd_T130 y219 x30_2).f0, wrap64 (((rd_T130 y219 x30_2).f1) + a2)⟩ : S130)) := ⟨_, rfl⟩
         replace H : (impl_MoveObject.l0 k2 a1 a2 (t209.length : Int) (wrap64 (x30_2 + 1)) l0_0 a0_1 a0_2 a0_3 a0_4 a0_5 y221 t212 t213 t214 t215 t216) = some (r1, r2, r3, r4, r5, r6, r7) := by first | (rw [hy221]; with_reducible exact H) | (have H2_ := (Option.bind_some _ _).symm.trans H; rw [hy221]; with_reducible exact H2_) | (have H2_ := (Option.bind_some _ _).symm.trans H; with_reducible exact H2_) | with_reducible exact H | (rw [hy221]; exact H) | exact H
         have Ny221 := Aside0.mk hy221
         clear hy221
         have H' := Aside0.mk H
         clear H
         have hnb42 := NB217_196.out
         have hnc42 := NB196_217.out
         have hnb43 := NB217_197.out
         have hnc43 := NB197_217.out
         have hz44 := cz6 BK217
         obtain ⟨Ao45, co45, eo45⟩ := Kd.R_slice HO_218000.out
         subst eo45
         have p218 : 0 ≤ (x30_2 : Int) := of_decide_eq_true (by first | (with_reducible assumption) | assumption)
         have q218 : x30_2 < (x218000_2.length : Int) := of_decide_eq_true (by first | (with_reducible assumption) | assumption)
         obtain ⟨ad218, e218, hx218_0, hx218_1⟩ := at_T130 (Kd.R_reads' HO_218000.out).2.2 x30_2 p218 q218
         cases e218
         replace p218 := eq_true p218
         replace q218 := eq_true q218
         have p40 : 0 ≤ (x30_2 : Int) := of_decide_eq_true (by first | (with_reducible assumption) | assumption)
         have q40 : (x30_2 : Int) < ((x218000_2.length : Int) : Int) := of_decide_eq_true (by first | (with_reducible assumption) | assumption)
         obtain ⟨go40, co40, eo40, gb40, gl40, cl40, HG40⟩ := Kd.R_form HO_218000.out (by omega)
         (first | cases eo40 | (injection eo40 with ea_ en_ ec_; (first | subst ea_ | (injection ea_ with ea_; subst ea_)); subst ec_; clear en_))
         have GB40 := Aside0.mk gb40
         have GG40 := Aside0.mk HG40
         clear gb40 gl40 HG40
         (first | simp only [add_plain] at hx218_0 | skip)
         (first | simp only [add_plain] at hx218_1 | skip)
         obtain ⟨ce40, hcl40, hM40, hcc40, hfr40⟩ := Kd.R_elem HO_218000.out z130 (x30_2 : Int) p40 q40
         obtain rfl := k130_openM hM40
         have hx40_0 : wr.cell? ⟨go40, (x30_2 : Int).toNat * 2, none⟩ = some (.int .i64 ((rd_T130 x218000_2 x30_2).f0)) := hcc40 0 _ rfl
         have hx40_1 : wr.cell? ⟨go40, (x30_2 : Int).toNat * 2 + 1, none⟩ = some (.int .i64 ((rd_T130 x218000_2 x30_2).f1)) := hcc40 1 _ rfl
         have hf40_0 : wr.frozen? ⟨go40, (x30_2 : Int).toNat * 2, none⟩ = false := hfr40 0
         have hf40_1 : wr.frozen? ⟨go40, (x30_2 : Int).toNat * 2 + 1, none⟩ = false := hfr40 1
         (try clear hM40); clear hcl40 hcc40 hfr40
         replace p40 := eq_true p40
         replace q40 := eq_true q40
         have HX46 := Aside0.mk (show Kd.R k130 130 wr w.heap.size (fun _ => True) (.slice (some ⟨go40, 0, none⟩) x218000_2.length co45) x218000_2 from (rS HO_218000))
         obtain ⟨ce46, hcl46, hM46, hcc46, hfr46⟩ := Kd.R_elem HX46.out z130 (x30_2 : Int) (of_decide_eq_true (by first | (with_reducible assumption) | assumption)) (by have h_ : (x30_2 : Int) < ((x218000_2.length : Int) : Int) := of_decide_eq_true (by first | (with_reducible assumption) | assumption); first | exact h_ | (have e_ := (Kd.R_reads' HO_218000.out).1; omega) | simpa using h_)
         obtain rfl := k130_openM hM46
         have HP46 := Kd.R_seg HX46.out (x30_2 : Int) (of_decide_eq_true (by first | (with_reducible assumption) | assumption)) (by have h_ : (x30_2 : Int) < ((x218000_2.length : Int) : Int) := of_decide_eq_true (by first | (with_reducible assumption) | assumption); first | exact h_ | (have e_ := (Kd.R_reads' HO_218000.out).1; omega) | simpa using h_) (seg := [.int .i64 (wrap64 (((rd_T130 x218000_2 x30_2).f0) + a1))]) (j := 0) hcl46 hcc46 (show 1 ≤ 2 from by decide) (x' := (⟨wrap64 (((rd_T130 x218000_2 x30_2).f0) + a1), (rd_T130 x218000_2 x30_2).f1⟩ : S130)) (k130_mkM _ _ _ (⟨wrap64 (((rd_T130 x218000_2 x30_2).f0) + a1), (rd_T130 x218000_2 x30_2).f1⟩ : S130) ) (fun _ hk => hk)
         have hx46_0 := hcc46 0 _ rfl
         (try simp only [show (k130).sz = 2 from rfl, Nat.mul_one, Nat.add_zero] at hx46_0)
         have hf46_0 := hfr46 0
         (try simp only [show (k130).sz = 2 from rfl, Nat.mul_one, Nat.add_zero] at hf46_0)
         (try clear hM46); clear hcl46 hcc46 hfr46
         go_wp2_with (first | ((with_reducible refine gate_store (t := 3) (p := 42) rfl ?_); refine store_event (t := 3) (p := 42) (v := ?vo_w47) (w1 := (wr.setCell ⟨go40, (x30_2 : Int).toNat * 2, none⟩ (.int .i64 (wrap64 (((rd_T130 x218000_2 x30_2).f0) + a1))))) ?hg ?ho ?hn ?hr ?_; (case ho => rfl); (case hg => rfl); (case hn => rfl); (case hr => first | (go_simp; done) | (go_simp; rfl)); intro w47 hw; have hg : wr.grownBy w47 (some go40) := (by rw [hw]; exact HP46.2); have hp_ : Kd.R k130 130 w47 w.heap.size (fun _ => True) (.slice (some ⟨go40, 0, none⟩) x218000_2.length co45) y219 := (by rw [hw, Ny219.out]; exact HP46.1); clear HP46; replace BK196 := Aside0.mk (blk_grown (g := gb196) kS hg (Kd.R_ne HO_218000.out BK196.out (by decide))); replace BK197 := Aside0.mk (blk_grown (g := gb197) kS hg (Kd.R_ne HO_218000.out BK197.out (by decide))); replace BK217 := Aside0.mk (blk_grown (g := gb217) kS hg (Kd.R_ne HO_218000.out BK217.out (by decide))); replace HO_218000 := Aside0.mk (hp_); replace HB := Aside0.mk ((by rw [hw]; exact below_set (HB.out) GB40.out : Below w.heap.size w w47)); clear hg hw hp_; have hz48 := cz6 BK217; have p220 : 0 ≤ (x30_2 : Int) := of_decide_eq_true (by first | (with_reducible assumption) | assumption); have q220 : x30_2 < (y219.length : Int) := (by have h_ : (x30_2 : Int) < ((x218000_2.length : Int) : Int) := of_decide_eq_true (by first | (with_reducible assumption) | assumption); first | (have e_ := (Kd.R_reads' HO_218000.out).1; omega) | simpa only [Ny219.out, List.length_set] using h_); have ql220 : ((x30_2 : Int) < ((x218000_2.length : Int) : Int)) = True := eq_true (of_decide_eq_true (by first | (with_reducible assumption) | assumption)); obtain ⟨ad220, e220, hx220_0, hx220_1⟩ := at_T130 (Kd.R_reads' HO_218000.out).2.2 x30_2 p220 q220; obtain rfl : (⟨go40, 0, none⟩ : Addr) = ad220 := (by injection e220); (first | simp only [add_plain] at hx220_0 | simp only [add_at] at hx220_0 | simp only [Addr.add, Nat.zero_add] at hx220_0 | skip); (first | simp only [add_plain] at hx220_1 | simp only [add_at] at hx220_1 | simp only [Addr.add, Nat.zero_add] at hx220_1 | skip); replace p220 := eq_true p220; replace q220 := eq_true q220; have p41 : 0 ≤ (x30_2 : Int) := of_decide_eq_true (by first | (with_reducible assumption) | assumption); have q41 : (x30_2 : Int) < ((x218000_2.length : Int) : Int) := of_decide_eq_true (by first | (with_reducible assumption) | assumption); obtain ⟨ce41, hcl41, hM41, hcc41, hfr41⟩ := Kd.R_elem HO_218000.out z130 (x30_2 : Int) p41 q41; obtain rfl := k130_openM hM41; have hx41_0 : w47.cell? ⟨go40, (x30_2 : Int).toNat * 2, none⟩ = some (.int .i64 ((rd_T130 y219 x30_2).f0)) := hcc41 0 _ rfl; have hx41_1 : w47.cell? ⟨go40, (x30_2 : Int).toNat * 2 + 1, none⟩ = some (.int .i64 ((rd_T130 y219 x30_2).f1)) := hcc41 1 _ rfl; have hf41_0 : w47.frozen? ⟨go40, (x30_2 : Int).toNat * 2, none⟩ = false := hfr41 0; have hf41_1 : w47.frozen? ⟨go40, (x30_2 : Int).toNat * 2 + 1, none⟩ = false := hfr41 1; (try clear hM41); clear hcl41 hcc41 hfr41; replace p41 := eq_true p41; replace q41 := eq_true q41; have HX49 := Aside0.mk (show Kd.R k130 130 w47 w.heap.size (fun _ => True) (.slice (some ⟨go40, 0, none⟩) x218000_2.length co45) y219 from (rS HO_218000)); obtain ⟨ce49, hcl49, hM49, hcc49, hfr49⟩ := Kd.R_elem HX49.out z130 (x30_2 : Int) (of_decide_eq_true (by first | (with_reducible assumption) | assumption)) (by have h_ : (x30_2 : Int) < ((x218000_2.length : Int) : Int) := of_decide_eq_true (by first | (with_reducible assumption) | assumption); first | exact h_ | (have e_ := (Kd.R_reads' HO_218000.out).1; omega) | simpa using h_); obtain rfl := k130_openM hM49; have HP49 := Kd.R_seg HX49.out (x30_2 : Int) (of_decide_eq_true (by first | (with_reducible assumption) | assumption)) (by have h_ : (x30_2 : Int) < ((x218000_2.length : Int) : Int) := of_decide_eq_true (by first | (with_reducible assumption) | assumption); first | exact h_ | (have e_ := (Kd.R_reads' HO_218000.out).1; omega) | simpa using h_) (seg := [.int .i64 (wrap64 (((rd_T130 y219 x30_2).f1) + a2))]) (j := 1) hcl49 hcc49 (show 2 ≤ 2 from by decide) (x' := (⟨(rd_T130 y219 x30_2).f0, wrap64 (((rd_T130 y219 x30_2).f1) + a2)⟩ : S130)) (k130_mkM _ _ _ (⟨(rd_T130 y219 x30_2).f0, wrap64 (((rd_T130 y219 x30_2).f1) + a2)⟩ : S130) ) (fun _ hk => hk); have hx49_1 := hcc49 1 _ rfl; (try simp only [show (k130).sz = 2 from rfl, Nat.mul_one, Nat.add_zero] at hx49_1); have hf49_1 := hfr49 1; (try simp only [show (k130).sz = 2 from rfl, Nat.mul_one, Nat.add_zero] at hf49_1); (try clear hM49); clear hcl49 hcc49 hfr49) | ((with_reducible refine gate_store (t := 3) (p := 52) rfl ?_); refine store_event (t := 3) (p := 52) (v := ?vo_w50) (w1 := (w47.setCell ⟨go40, (x30_2 : Int).toNat * 2 + 1, none⟩ (.int .i64 (wrap64 (((rd_T130 y219 x30_2).f1) + a2))))) ?hg ?ho ?hn ?hr ?_; (case ho => rfl); (case hg => rfl); (case hn => rfl); (case hr => first | (go_simp; done) | (go_simp; rfl)); intro w50 hw; have hg : w47.grownBy w50 (some go40) := (by rw [hw]; exact HP49.2); have hp_ : Kd.R k130 130 w50 w.heap.size (fun _ => True) (.slice (some ⟨go40, 0, none⟩) x218000_2.length co45) y221 := (by rw [hw, Ny221.out]; exact HP49.1); clear HP49; replace BK196 := Aside0.mk (blk_grown (g := gb196) kS hg (Kd.R_ne HO_218000.out BK196.out (by decide))); replace BK197 := Aside0.mk (blk_grown (g := gb197) kS hg (Kd.R_ne HO_218000.out BK197.out (by decide))); replace BK217 := Aside0.mk (blk_grown (g := gb217) kS hg (Kd.R_ne HO_218000.out BK217.out (by decide))); replace HO_218000 := Aside0.mk (hp_); replace HB := Aside0.mk ((by rw [hw]; exact below_set (HB.out) GB40.out : Below w.heap.size w w50)); clear hg hw hp_))
         go_roundg k2
         case measure => have := HJ3.out; have := HK2.out; omega
         case rel => exact ⟨(wrap64 (x30_2 + 1)), (y221), (.slice (some ⟨go40, 0, none⟩) x218000_2.length co45), (by first | rfl | (simp; done) | (simp [*]; done)), H', ⟨by have := HJ3.out; have := HK2.out; omega⟩, ⟨by (with_reducible repeat (first | apply Kd.R_alloc | apply Kd.R_drewN | apply Kd.R_drew)); exact HO_218000.out⟩, ⟨kS⟩, ⟨kS⟩, ⟨kS⟩, ⟨bS⟩⟩
        ·rw [if_neg c39] at H
         exact absurd H (by simp)
       ·rw [if_neg c38] at H
        exact absurd H (by simp)
      ·rw [if_neg c37] at H
       have c37b0 : decide (x30_2 < (t209.length : Int)) = false := decide_eq_false c37
       clear c37
       replace H := bN H
       obtain ⟨t222, A51, H⟩ := H
       by_cases c52 : t222 = true
       ·subst c52
        rw [if_pos rfl] at H
        simp only [Option.some.injEq, Prod.mk.injEq] at H
        obtain ⟨rfl, rfl, rfl, rfl, rfl, rfl, rfl⟩ := H
        have hnb53 := NB196_197.out
        have hnc53 := NB197_196.out
        have hnb54 := NB196_217.out
        have hnc54 := NB217_196.out
        have hz55 := cz6 BK196
        have hnb56 := NB217_197.out
        have hnc56 := NB197_217.out
        have hz57 := cz6 BK217
        obtain ⟨Ao58, co58, eo58⟩ := Kd.R_slice HO_218000.out
        subst eo58
        go_wp2_with (first | ((with_reducible refine gC 86 ?_); refine cL (some 77) Try.func86 #[.agg #[.slice Ao58 x218000_2.length co58, .int .i64 t212, .int .i64 (wrap64 (a0_2 + a1)), .int .i64 (wrap64 (a0_3 + a2)), .int .i64 (wrap64 (a0_4 + a1)), .int .i64 (wrap64 (a0_5 + a2))]] ?_; (with_reducible refine (impl_ObjectOk.calls k2 _ _ x218000_2 t212 (wrap64 (a0_2 + a1)) (wrap64 (a0_3 + a2)) (wrap64 (a0_4 + a1)) (wrap64 (a0_5 + a2)) _ _ ?side1 ?side2 A51.out).mono ?_); (case side1 => refine (Kd.R_reads' (e := 130) (base := w.heap.size) (ok := fun k_ => True) (n := x218000_2.length) (c := co58) ?_).2.2; exact (by (with_reducible repeat (first | apply Kd.R_alloc | apply Kd.R_drewN | apply Kd.R_drew)); exact (Kd.R_mono (Kd.R_far (p := ⟨gb217, 5, none⟩) (Kd.R_far (p := ⟨gb217, 4, none⟩) (Kd.R_far (p := ⟨gb217, 3, none⟩) (Kd.R_far (p := ⟨gb217, 2, none⟩) (Kd.R_types HO_218000.out BK217.out (by decide)) (fun _ hk => hk.2) (.int .i64 (wrap64 (a0_2 + a1)))) (fun _ hk => hk.2) (.int .i64 (wrap64 (a0_3 + a2)))) (fun _ hk => hk.2) (.int .i64 (wrap64 (a0_4 + a1)))) (fun _ hk => hk.2) (.int .i64 (wrap64 (a0_5 + a2)))) (fun _ h_ => h_.1)))); (case side2 => exact (Kd.R_reads' HO_218000.out).2.1); rintro e w59 ⟨rfl, hb⟩; refine ⟨_, rfl, ?_⟩; replace HO_218000 := Aside0.mk (Kd.R_below (by (with_reducible repeat (first | apply Kd.R_alloc | apply Kd.R_drewN | apply Kd.R_drew)); exact (Kd.R_mono (Kd.R_far (p := ⟨gb217, 5, none⟩) (Kd.R_far (p := ⟨gb217, 4, none⟩) (Kd.R_far (p := ⟨gb217, 3, none⟩) (Kd.R_far (p := ⟨gb217, 2, none⟩) (Kd.R_types HO_218000.out BK217.out (by decide)) (fun _ hk => hk.2) (.int .i64 (wrap64 (a0_2 + a1)))) (fun _ hk => hk.2) (.int .i64 (wrap64 (a0_3 + a2)))) (fun _ hk => hk.2) (.int .i64 (wrap64 (a0_4 + a1)))) (fun _ hk => hk.2) (.int .i64 (wrap64 (a0_5 + a2)))) (fun _ h_ => h_.1))) hb); replace BK196 := kB (g := gb196) hb; replace BK197 := kB (g := gb197) hb; replace BK217 := Aside0.mk (blk_below (g := gb217) (o := .cells #[.slice Ao58 x218000_2.length co58, .int .i64 t212, .int .i64 (wrap64 (a0_2 + a1)), .int .i64 (wrap64 (a0_3 + a2)), .int .i64 (wrap64 (a0_4 + a1)), .int .i64 (wrap64 (a0_5 + a2))] 56 (0, 0)) kS hb); replace HB := hB hb; (try clear hb); (try clear hb2); (try clear hk); (try clear hi); have hz60 := cz6 BK217; have hz61 := cz6 BK197))
        refine bodyPost_ret (results_ct rfl _ _ gb197 56 #[.slice Ao58 x218000_2.length co58, .int .i64 t212, .int .i64 (wrap64 (a0_2 + a1)), .int .i64 (wrap64 (a0_3 + a2)), .int .i64 (wrap64 (a0_4 + a1)), .int .i64 (wrap64 (a0_5 + a2))] (0, 0) _ rfl kS Try.underlying56 rfl (by kernel_rfl)) rfl ?_
        exact ⟨_, eS, by (with_reducible repeat (first | apply Kd.R_alloc | apply Kd.R_drewN | apply Kd.R_drew)); exact Kd.R_mono (Kd.R_far (p := ⟨gb197, 5, none⟩) (Kd.R_far (p := ⟨gb197, 4, none⟩) (Kd.R_far (p := ⟨gb197, 3, none⟩) (Kd.R_far (p := ⟨gb197, 2, none⟩) (Kd.R_far (p := ⟨gb197, 1, none⟩) (Kd.R_far (p := ⟨gb197, 0, none⟩) (Kd.R_types HO_218000.out BK197.out (by decide)) (fun _ hk => hk.2) (.slice Ao58 x218000_2.length co58)) (fun _ hk => hk.2) (.int .i64 t212)) (fun _ hk => hk.2) (.int .i64 (wrap64 (a0_2 + a1)))) (fun _ hk => hk.2) (.int .i64 (wrap64 (a0_3 + a2)))) (fun _ hk => hk.2) (.int .i64 (wrap64 (a0_4 + a1)))) (fun _ hk => hk.2) (.int .i64 (wrap64 (a0_5 + a2)))) (fun _ hk => trivial), bS⟩
       ·obtain rfl := Bool.eq_false_iff.mpr c52
        rw [if_neg nF] at H
        replace H := bN H
        obtain ⟨⟨t223, t226, t227, t228, t229, t230⟩, A62, H⟩ := H
        simp only [Option.some.injEq, Prod.mk.injEq] at H
        obtain ⟨rfl, rfl, rfl, rfl, rfl, rfl, rfl⟩ := H
        have hnb63 := NB196_197.out
        have hnc63 := NB197_196.out
        have hnb64 := NB196_217.out
        have hnc64 := NB217_196.out
        have hz65 := cz6 BK196
        have hnb66 := NB217_197.out
        have hnc66 := NB197_217.out
        have hz67 := cz6 BK217
        obtain ⟨Ao68, co68, eo68⟩ := Kd.R_slice HO_218000.out
        subst eo68
        go_wp2_with (first | ((with_reducible refine gC 86 ?_); refine cL (some 77) Try.func86 #[.agg #[.slice Ao68 x218000_2.length co68, .int .i64 t212, .int .i64 (wrap64 (a0_2 + a1)), .int .i64 (wrap64 (a0_3 + a2)), .int .i64 (wrap64 (a0_4 + a1)), .int .i64 (wrap64 (a0_5 + a2))]] ?_; (with_reducible refine (impl_ObjectOk.calls k2 _ _ x218000_2 t212 (wrap64 (a0_2 + a1)) (wrap64 (a0_3 + a2)) (wrap64 (a0_4 + a1)) (wrap64 (a0_5 + a2)) _ _ ?side1 ?side2 A51.out).mono ?_); (case side1 => refine (Kd.R_reads' (e := 130) (base := w.heap.size) (ok := fun k_ => True) (n := x218000_2.length) (c := co68) ?_).2.2; exact (by (with_reducible repeat (first | apply Kd.R_alloc | apply Kd.R_drewN | apply Kd.R_drew)); exact (Kd.R_mono (Kd.R_far (p := ⟨gb217, 5, none⟩) (Kd.R_far (p := ⟨gb217, 4, none⟩) (Kd.R_far (p := ⟨gb217, 3, none⟩) (Kd.R_far (p := ⟨gb217, 2, none⟩) (Kd.R_types HO_218000.out BK217.out (by decide)) (fun _ hk => hk.2) (.int .i64 (wrap64 (a0_2 + a1)))) (fun _ hk => hk.2) (.int .i64 (wrap64 (a0_3 + a2)))) (fun _ hk => hk.2) (.int .i64 (wrap64 (a0_4 + a1)))) (fun _ hk => hk.2) (.int .i64 (wrap64 (a0_5 + a2)))) (fun _ h_ => h_.1)))); (case side2 => exact (Kd.R_reads' HO_218000.out).2.1); rintro e w69 ⟨rfl, hb⟩; refine ⟨_, rfl, ?_⟩; replace HO_218000 := Aside0.mk (Kd.R_below (by (with_reducible repeat (first | apply Kd.R_alloc | apply Kd.R_drewN | apply Kd.R_drew)); exact (Kd.R_mono (Kd.R_far (p := ⟨gb217, 5, none⟩) (Kd.R_far (p := ⟨gb217, 4, none⟩) (Kd.R_far (p := ⟨gb217, 3, none⟩) (Kd.R_far (p := ⟨gb217, 2, none⟩) (Kd.R_types HO_218000.out BK217.out (by decide)) (fun _ hk => hk.2) (.int .i64 (wrap64 (a0_2 + a1)))) (fun _ hk => hk.2) (.int .i64 (wrap64 (a0_3 + a2)))) (fun _ hk => hk.2) (.int .i64 (wrap64 (a0_4 + a1)))) (fun _ hk => hk.2) (.int .i64 (wrap64 (a0_5 + a2)))) (fun _ h_ => h_.1))) hb); replace BK196 := kB (g := gb196) hb; replace BK197 := kB (g := gb197) hb; replace BK217 := Aside0.mk (blk_below (g := gb217) (o := .cells #[.slice Ao68 x218000_2.length co68, .int .i64 t212, .int .i64 (wrap64 (a0_2 + a1)), .int .i64 (wrap64 (a0_3 + a2)), .int .i64 (wrap64 (a0_4 + a1)), .int .i64 (wrap64 (a0_5 + a2))] 56 (0, 0)) kS hb); replace HB := hB hb; (try clear hb); (try clear hb2); (try clear hk); (try clear hi); have hz70 := cz6 BK196) | ((with_reducible refine gC 119 ?_); refine cL (some 80) Try.func119 #[.agg #[.slice A0_0 l0_0.length c0_0, .int .i64 a0_1, .int .i64 a0_2, .int .i64 a0_3, .int .i64 a0_4, .int .i64 a0_5]] ?_; (with_reducible refine (impl_copyObject.calls _ _ l0_0 a0_1 a0_2 a0_3 a0_4 a0_5 t223 t226 t227 t228 t229 t230 _ ?side1 ?side2 A62.out).mono ?_); (case side1 => exact cS (Kd.C_below HR0_0.out HB.out)); (case side2 => exact HC0_0.out); rintro e w71 ⟨v224, rfl, ho0, hb⟩; refine ⟨_, rfl, ?_⟩; have HO225 := Aside0.mk (Kd.R_lower (Kd.R_new' ho0 (Kd.R_lt (rS HO_218000))) (below_size bS)); replace HO_218000 := Aside0.mk (Kd.R_elder' (rS HO_218000) (Kd.R_base ho0) hb); replace BK196 := kB (g := gb196) hb; replace BK197 := kB (g := gb197) hb; replace BK217 := kB (g := gb217) hb; replace HB := hB hb; (try clear hb); (try clear hb2); (try clear hk); (try clear hi); (try clear ho0); obtain ⟨Ao72, co72, eo72⟩ := Kd.R_slice HO225.out; subst eo72; have hz73 := cz6 BK197))
        refine bodyPost_ret (results_ct rfl _ _ gb197 56 #[.slice Ao72 t223.length co72, .int .i64 t226, .int .i64 t227, .int .i64 t228, .int .i64 t229, .int .i64 t230] (0, 0) _ rfl kS Try.underlying56 rfl (by kernel_rfl)) rfl ?_
        exact ⟨_, eS, by (with_reducible repeat (first | apply Kd.R_alloc | apply Kd.R_drewN | apply Kd.R_drew)); exact Kd.R_mono (Kd.R_far (p := ⟨gb197, 5, none⟩) (Kd.R_far (p := ⟨gb197, 4, none⟩) (Kd.R_far (p := ⟨gb197, 3, none⟩) (Kd.R_far (p := ⟨gb197, 2, none⟩) (Kd.R_far (p := ⟨gb197, 1, none⟩) (Kd.R_far (p := ⟨gb197, 0, none⟩) (Kd.R_types HO225.out BK197.out (by decide)) (fun _ hk => hk.2) (.slice Ao72 t223.length co72)) (fun _ hk => hk.2) (.int .i64 t226)) (fun _ hk => hk.2) (.int .i64 t227)) (fun _ hk => hk.2) (.int .i64 t228)) (fun _ hk => hk.2) (.int .i64 t229)) (fun _ hk => hk.2) (.int .i64 t230)) (fun _ hk => trivial), bS⟩

/-! ### spec_l07Full: function 104 -/
def spec_l07Full.f  : Option (Int × Int × Int × Int) := some (0, 0, 32, 32)
theorem spec_l07Full.calls  (r1 : Int) (r2 : Int) (r3 : Int) (r4 : Int) (w : World) (h : spec_l07Full.f  = some (r1, r2, r3, r4)) :
  Calls Try.prog 104 #[] w fun e w' => e = .returned (.agg #[.int .i64 r1, .int .i64 r2, .int .i64 r3, .int .i64 r4]) ∧ Below w.heap.size w w' := by
 have hu52 := Try.underlying52
 have HB := Aside0.mk (Below.refl w.heap.size w)
 have H : (some (0, 0, 32, 32)) = some (r1, r2, r3, r4) := h
 clear h
 simp only [Option.some.injEq, Prod.mk.injEq] at H
 obtain ⟨rfl, rfl, rfl, rfl⟩ := H
 go_enter Try.func104, Try.ntmps104
 go_wp2_with (first | ((with_reducible refine gD 0 ?_); refine bxE #[.int .i64 0, .int .i64 0, .int .i64 0, .int .i64 0] 52 ?_; intro gb231 hg w1 BK231 hb; have GW231 := gE hg; have GE231 := gE hg; replace HB := hB hb; clear hb hg; have hz2 := cz4 BK231))
 refine bodyPost_ret (results_cell_row rfl _ _ gb231 52 #[.int .i64 0, .int .i64 0, .int .i64 32, .int .i64 32] (0, 0) _ rfl kS Try.underlying52 rfl (by kernel_rfl)) rfl ?_
 exact ⟨eS, bS⟩

/-! ### spec_l01Once: function 151 -/
def spec_l01Once.f (s0_0 : List Int) (s0_1 : Int) (s0_2 : Int) (a1 : Int) : Option (Bool × Int × Int) := (spec_l01Below.f s0_0 s0_1 s0_2 a1).bind fun bt232 => (some ((bt232.1 == 0), bt232.2.1, bt232.2.2))
theorem spec_l01Once.calls (g : Nat) (s0_0 : List Int) (s0_1 : Int) (s0_2 : Int) (a1 : Int) (r1 : Bool) (r2 : Int) (r3 : Int) (w0 w : World) (hI : IsS151 w0 w g s0_0 s0_1 s0_2) (hB : Below w0.heap.size w0 w) (h : spec_l01Once.f s0_0 s0_1 s0_2 a1 = some (r1, r2, r3)) :
  Calls Try.prog 151 #[.pointer (some ⟨g, 0, none⟩), .int .i64 a1] w fun e w' => e = .returned (.bool r1) ∧ IsS151 w0 w' g s0_0 r2 r3 ∧ Below w0.heap.size w0 w' ∧ KeepBut w w' g none := by
 have HI0 := Aside0.mk hI
 have HK := Aside0.mk (KeepBut.refl w g none)
 have HL := Aside0.mk hB.size
 clear hI
 have HW0 := Aside0.mk hB.size
 have HB := Aside0.mk hB
 clear hB
 have H : ((spec_l01Below.f s0_0 s0_1 s0_2 a1).bind fun bt232 => (some ((bt232.1 == 0), bt232.2.1, bt232.2.2))) = some (r1, r2, r3) := h
 clear h
 replace H := bN H
 obtain ⟨⟨t232, t233, t234⟩, A3, H⟩ := H
 simp only [Option.some.injEq, Prod.mk.injEq] at H
 obtain ⟨rfl, rfl, rfl⟩ := H
 go_enter Try.func151, Try.ntmps151
 go_wp2_with (first | ((with_reducible refine gC 95 ?_); refine cL (some 7) Try.func95 #[.pointer (some ⟨g, 0, none⟩), .int .i64 a1] ?_; (with_reducible refine (spec_l01Below.calls g s0_0 s0_1 s0_2 a1 t232 t233 t234 w0 _ ?side1 ?side2 A3.out).mono ?_); (case side1 => repeat (first | (with_reducible first | exact HI0.out | apply IsS151.alloc | apply IsS151.drewN | apply IsS151.drew | apply IsS151.set_1 | apply IsS151.set_2) | exact HI0.out)); (case side2 => repeat (first | (with_reducible first | exact HB.out | apply below_alloc | apply pw_below_drewN | apply below_drew1 | refine below_set ?_ (IsS151.ge HI0.out)) | exact HB.out)); rintro e w4 ⟨rfl, hi, hb, hk⟩; refine ⟨_, rfl, ?_⟩; replace HK := Aside0.mk (KeepBut.trans (by repeat (first | (with_reducible first | exact HK.out | apply KeepBut.set_ | apply keep_drewN | apply keep_drew | apply keep_alloc) | exact HK.out)) hk (.inl rfl)); replace HB := Aside0.mk (hb); replace HI0 := Aside0.mk (hi); (try clear hb); (try clear hb2); (try clear hk); (try clear hi)))
 go_ret
 exact ⟨eS, by repeat (first | (with_reducible first | exact HI0.out | apply IsS151.alloc | apply IsS151.drewN | apply IsS151.drew | apply IsS151.set_1 | apply IsS151.set_2) | exact HI0.out), by repeat (first | (with_reducible first | exact HB.out | apply below_alloc | apply pw_below_drewN | apply below_drew1 | refine below_set ?_ (IsS151.ge HI0.out)) | exact HB.out), by repeat (first | (with_reducible first | exact HK.out | apply KeepBut.set_ | apply keep_drewN | apply keep_drew | apply keep_alloc) | exact HK.out)⟩

end Go.Proofs.Ytcalgoembdmlkaa.QFnObjects
