-- Made out of the translation by a program of this session (a changed copy of the print). Not trusted: Lean checks it.
import Derived.Test.YtigodjcnkgebaaaQFnMergesx0
import Derived.Test.YtigodjcnkgebaaaQFnMergesx6
namespace Go.Proofs.Ytigodjcnkgebaaa.QFnMerges
open Go.RowKit Go.Proofs.YtigodjcnkgebaaaW.PrintWords Go.Proofs.YtigodjcnkgebaaaW.PrintLast Go.Proofs.YtigodjcnkgebaaaW.PrintMore
attribute [local go_sem] max2_int min2_int max_two min_two max_three min_three max_four min_four   -- for this text's walks alone
set_option linter.unusedVariables false
set_option linter.unusedSimpArgs false
set_option maxHeartbeats 8000000
set_option maxRecDepth 100000

/-! ### spec_l13Copy: function 193 -/
def spec_l13Copy.l0 : Nat → Int → Int → Int → List (List Int) → List (S45) → Int → Int → List (List Int) → List (S45) → Option (Int × Int × (List (List Int)) × (List (S45)))
 | 0, _, _, _, _, _, _, _, _, _ => none
 | k + 1, x4, x407000, x407001, x407002, x407003, x412000, x412001, x412002, x412003 => if x4 < (x407003.length : Int) then (if 0 ≤ x4 then ((spec_l07Shape.f ((rd_T45 x407003 x4).f0) ((rd_T45 x407003 x4).f1) ((rd_T45 x407003 x4).f2.f0) ((rd_T45 x407003 x4).f2.f1) ((rd_T45 x407003 x4).f2.f2) ((rd_T45 x407003 x4).f2.f3)).bind fun bt413 => (if x412003.length < 2199023255552 then (spec_l13Copy.l0 k (wrap64 (x4 + 1)) x407000 x407001 x407002 x407003 x412000 x412001 x412002 (x412003 ++ [(⟨bt413.1, bt413.2.1, (⟨bt413.2.2.1, bt413.2.2.2.1, bt413.2.2.2.2.1, bt413.2.2.2.2.2⟩ : S43)⟩ : S45)])) else (none))) else (none)) else (some (x412000, x412001, x412002, x412003))
def spec_l13Copy.f (k : Nat) (a0_0 : Int) (a0_1 : Int) (l0_2 : List (List Int)) (l0_3 : List (S45)) : Option (Int × Int × (List (List Int)) × (List (S45))) := (spec_l11Copy.f k l0_2).bind fun t408 => (spec_l13Copy.l0 k 0 a0_0 a0_1 l0_2 l0_3 a0_0 a0_1 t408 ([] : List (S45)))
def spec_l13Copy.T1 : Bool × List (List Nat × List Nat) := (true, [([], []), ([0], [0]), ([], []), ([2], [2]), ([], []), ([4], [4]), ([5], [5]), ([1, 3, 6], [1, 3, 6]), ([], []), ([8, 7, 6, 0, 1, 2, 3, 4, 5, 6, 7, 8], [7, 8])])
def spec_l13Copy.B1 : List Nat := [0, 1, 0, 4, 0, 16, 48, 127, 0, 511]
theorem spec_l13Copy.tab1 : rtab .any (opsOf Try.f193 1) = spec_l13Copy.T1 := by kernel_rfl
theorem spec_l13Copy.bits1 : waitsOk spec_l13Copy.T1.2 spec_l13Copy.B1 = true := by kernel_rfl
def spec_l13Copy.T5 : Bool × List (List Nat × List Nat) := (true, [([], []), ([0], [0]), ([], []), ([2], [2]), ([], []), ([3, 4], [3, 4]), ([5], [5]), ([6], [6]), ([7], [7]), ([1, 8, 7], [1, 8]), ([0, 1, 2, 3, 4, 5, 6, 7, 8, 9], []), ([10, 9, 9, 0, 1, 2, 3, 4, 5, 6, 7, 8, 9], [9, 10])])
def spec_l13Copy.B5 : List Nat := [0, 1, 0, 4, 0, 28, 60, 124, 252, 511, 1023, 2047]
theorem spec_l13Copy.tab5 : rtab .any (opsOf Try.f193 5) = spec_l13Copy.T5 := by kernel_rfl
theorem spec_l13Copy.bits5 : waitsOk spec_l13Copy.T5.2 spec_l13Copy.B5 = true := by kernel_rfl
theorem spec_l13Copy.calls (k : Nat) (a0_0 : Int) (a0_1 : Int) (A0_2 : Option Addr) (c0_2 : Nat) (l0_2 : List (List Int)) (A0_3 : Option Addr) (c0_3 : Nat) (l0_3 : List (S45)) (r1 : Int) (r2 : Int) (r3 : List (List Int)) (r4 : List (S45)) (w : World) (hr0_2 : Kd.C (Kd.slice 3 (Kd.int .i64)) w A0_2 l0_2.length l0_2) (hc0_2 : l0_2.length ≤ c0_2) (hr0_3 : Kd.C k45 w A0_3 l0_3.length l0_3) (hc0_3 : l0_3.length ≤ c0_3) (h : spec_l13Copy.f k a0_0 a0_1 l0_2 l0_3 = some (r1, r2, r3, r4)) :
  Calls Try.prog 193 #[.agg #[.int .i64 a0_0, .int .i64 a0_1, .slice A0_2 l0_2.length c0_2, .slice A0_3 l0_3.length c0_3]] w fun e w' => ∃ v2_ v3_ : Value, e = .returned (.agg #[.int .i64 r1, .int .i64 r2, v2_, v3_]) ∧ Kd.S (Kd.slice 3 (Kd.int .i64)) 71 w' w.heap.size (fun _ => True) v2_ r3 ∧ Kd.S k45 45 w' w.heap.size (fun _ => True) v3_ r4 ∧ Below w.heap.size w w' := by
 have hu58 := Try.underlying58
 have hu45 := Try.underlying45
 have HR0_2 := Aside0.mk hr0_2
 have HC0_2 := Aside0.mk hc0_2
 clear hr0_2 hc0_2
 have HR0_3 := Aside0.mk hr0_3
 have HC0_3 := Aside0.mk hc0_3
 clear hr0_3 hc0_3
 have HB := Aside0.mk (Below.refl w.heap.size w)
 have H : ((spec_l11Copy.f k l0_2).bind fun t408 => (spec_l13Copy.l0 k 0 a0_0 a0_1 l0_2 l0_3 a0_0 a0_1 t408 ([] : List (S45)))) = some (r1, r2, r3, r4) := h
 clear h
 replace H := bN H
 obtain ⟨t408, A2, H⟩ := H
 have H' := Aside0.mk H
 clear H
 go_enter Try.func193, Try.ntmps193
 try go_wp2_with (first | ((with_reducible refine gD 1 ?_); refine bxE #[.int .i64 a0_0, .int .i64 a0_1, .slice A0_2 l0_2.length c0_2, .slice A0_3 l0_3.length c0_3] 58 ?_; intro gb406 hg w3 BK406 hb; have GW406 := gE hg; have GE406 := gE hg; replace HB := hB hb; clear hb hg) | ((with_reducible refine gD 2 ?_); refine bxE #[.int .i64 0, .int .i64 0, .slice none 0 0, .slice none 0 0] 58 ?_; intro gb407 hg w4 BK407 hb; have GW407 := gE hg; have GE407 := gE hg; have NB406_407 := nL (g := gb406) hg; have NB407_406 := nG (g := gb406) hg; replace BK406 := kB (g := gb406) hb; replace HB := hB hb; clear hb hg))
 replace BK406 := Aside0.mk (blk_drew BK406.out)
 replace BK407 := Aside0.mk (blk_drew BK407.out)
 replace HB := Aside0.mk (below_drew1 HB.out)
 refine start_ (n := 10) (S := fun w' => w'.cell? ⟨gb406, 0, none⟩ = some (.int .i64 a0_0) ∧ w'.cell? ⟨gb406, 1, none⟩ = some (.int .i64 a0_1) ∧ w'.cell? ⟨gb406, 2, none⟩ = some (.slice A0_2 l0_2.length c0_2) ∧ w'.cell? ⟨gb406, 3, none⟩ = some (.slice A0_3 l0_3.length c0_3)) (ds := []) #[false, false, false, false, false, false, false, false, false, false] (by kernel_rfl) rfl rfl (cy4 BK406) (fun hHeld => ?_); refine with_tabW spec_l13Copy.tab1 spec_l13Copy.bits1 (fun HT_ HW_ => ?_)
 generalize w4.drew = w5 at BK406 BK407 HB hHeld ⊢
 refine pU 0 (some 5) #[true, false, false, false, false, false, false, false, false, false] ?_
 refine pU 2 (some 7) #[true, false, true, false, false, false, false, false, false, false] ?_
 refine pU 4 (some 9) #[true, false, true, false, true, false, false, false, false, false] ?_
 refine tK 1 (some 6) #[true, true, true, false, true, false, false, false, false, false] ?_
 refine tK 3 (some 8) #[true, true, true, true, true, false, false, false, false, false] ?_
 refine tK 5 (some 10) #[true, true, true, true, true, true, false, false, false, false] ?_
 refine join_ (σ := Value × Nat) 1 #[true, true, true, true, true, true, true, true, true, false] (fun s_ => [(11, s_.1), (3, .pointer (some ⟨s_.2, 0, none⟩)), (12, .agg #[.int .i64 a0_0, .int .i64 a0_1, s_.1, .slice none 0 0])]) (fun s_ w' => (w'.cell? ⟨gb406, 0, none⟩ = some (.int .i64 a0_0) ∧ w'.cell? ⟨gb406, 1, none⟩ = some (.int .i64 a0_1) ∧ w'.cell? ⟨gb406, 2, none⟩ = some (.slice A0_2 l0_2.length c0_2) ∧ w'.cell? ⟨gb406, 3, none⟩ = some (.slice A0_3 l0_3.length c0_3)) ∧ (Kd.S (Kd.slice 3 (Kd.int .i64)) 71 w' w.heap.size (fun _ => True) s_.1 t408) ∧ (w'.heap[gb406]? = some (.cells #[.int .i64 a0_0, .int .i64 a0_1, .slice A0_2 l0_2.length c0_2, .slice A0_3 l0_3.length c0_3] 58 (0, 0))) ∧ (w'.heap[gb407]? = some (.cells #[.int .i64 0, .int .i64 0, .slice none 0 0, .slice none 0 0] 58 (0, 0))) ∧ (w'.heap[s_.2]? = some (.cells #[.int .i64 0, .int .i64 0, .slice none 0 0, .slice none 0 0] 58 (0, 0))) ∧ (w.heap.size ≤ s_.2) ∧ (w.heap.size ≤ s_.2) ∧ (gb406 ≠ s_.2) ∧ (s_.2 ≠ gb406) ∧ (gb407 ≠ s_.2) ∧ (s_.2 ≠ gb407) ∧ (Below w.heap.size w w')) ?_ ?_
 rotate_left
 ·intro hCont
  refine two_ (i := 6) (j := 8) (Ni := some 11) (Nj := some 3) #[true, true, true, true, true, true, true, false, false, false] #[true, true, true, true, true, true, false, false, true, false] rfl rfl rfl rfl (two_of HT_.out (by kernel_rfl)) (by decide) (by decide) (fun K hK => ?_) (fun K hK => ?_)
  ·skip
   refine goes_ Try.func122 (by kernel_rfl) rfl #[.slice A0_2 l0_2.length c0_2] (by rfl) rfl rfl (by (try simp only [List.map_toArray, List.map_cons, List.map_nil]); first | done | rfl | (simp only [List.length_drop, List.length_take]; rfl)) ?_
   with_reducible refine (spec_l11Copy.calls k _ _ l0_2 t408 _ ?side1 ?side2 A2.out).mono ?_
   (case side1 => exact cS (Kd.C_below HR0_2.out HB.out))
   (case side2 => exact HC0_2.out)
   rintro e w6 ⟨v409, rfl, ho0, hb⟩
   refine ⟨_, rfl, ?_⟩
   have HO410 := Aside0.mk (Kd.S_lower ho0 (below_size bS))
   replace BK406 := kB (g := gb406) hb
   replace BK407 := kB (g := gb407) hb
   replace HB := hB hb
   (try clear hb)
   (try clear hb2)
   (try clear hk)
   (try clear hi)
   (try clear ho0)
   obtain ⟨Ao7, co7, eo7⟩ := Kd.S_slice HO410.out
   (first | subst eo7 | (injection eo7 with f1_ f2_ f3_; have f4_ := f1_.symm; have f5_ := f3_.symm; clear f1_ f2_ f3_; subst f4_; subst f5_))
   refine hK.out _ _ (cy4 BK406) (fun hHeld => ?_)
   clear hK K
   refine norm_ (a' := ?_) ?_ ?_
   rotate_left
   ·show Act.put _ (some 11) _ = _
    simp only [Act.put, List.setIfInBounds_toArray, List.set_cons_zero, List.set_cons_succ, i64_w, i32_w]
    rfl
   refine pU 7 (some 12) #[true, true, true, true, true, true, true, true, false, false] ?_
   refine one_ (i := 8) (N := some 3) #[true, true, true, true, true, true, true, true, true, false] rfl rfl (one_of HT_.out (by kernel_rfl)) (by decide) (fun K hK => ?_)
   refine box_step ?hg (N := 3) ?hd (cs := #[.int .i64 0, .int .i64 0, .slice none 0 0, .slice none 0 0]) (t := 58) ?hr ?_; (case hd => rfl); (case hg => rfl); (case hr => first | (go_simp; done) | (go_simp; rfl))
   intro gb411 hg w8 hbox hb
   have BK411 := Aside0.mk (hbox)
   have GW411 := gE hg
   have GE411 := gE hg
   have NB406_411 := nL (g := gb406) hg
   have NB411_406 := nG (g := gb406) hg
   have NB407_411 := nL (g := gb407) hg
   have NB411_407 := nG (g := gb407) hg
   replace HO410 := sB HO410 hb
   replace BK406 := kB (g := gb406) hb
   replace BK407 := kB (g := gb407) hb
   replace HB := hB hb
   clear hb hg
   refine hK.out _ _ (cy4 BK406) (fun hHeld => ?_)
   clear hK K
   refine norm_ (a' := ?_) ?_ ?_
   rotate_left
   ·show Act.put _ (some 3) _ = _
    simp only [Act.put, List.setIfInBounds_toArray, List.set_cons_zero, List.set_cons_succ, i64_w, i32_w]
    rfl
   exact norm_ (by simp only [putAll, Act.put, List.setIfInBounds_toArray, List.set_cons_zero, List.set_cons_succ]) (hCont (.slice Ao7 t408.length co7, gb411) _ ⟨hHeld, (sS HO410), kS, kS, kS, GW411.out, GE411.out, NB406_411.out, NB411_406.out, NB407_411.out, NB411_407.out, bS⟩)
  ·skip
   refine box_step ?hg (N := 3) ?hd (cs := #[.int .i64 0, .int .i64 0, .slice none 0 0, .slice none 0 0]) (t := 58) ?hr ?_; (case hd => rfl); (case hg => rfl); (case hr => first | (go_simp; done) | (go_simp; rfl))
   intro gb411 hg w6 hbox hb
   have BK411 := Aside0.mk (hbox)
   have GW411 := gE hg
   have GE411 := gE hg
   have NB406_411 := nL (g := gb406) hg
   have NB411_406 := nG (g := gb406) hg
   have NB407_411 := nL (g := gb407) hg
   have NB411_407 := nG (g := gb407) hg
   replace BK406 := kB (g := gb406) hb
   replace BK407 := kB (g := gb407) hb
   replace HB := hB hb
   clear hb hg
   refine hK.out _ _ (cy4 BK406) (fun hHeld => ?_)
   clear hK K
   refine norm_ (a' := ?_) ?_ ?_
   rotate_left
   ·show Act.put _ (some 3) _ = _
    simp only [Act.put, List.setIfInBounds_toArray, List.set_cons_zero, List.set_cons_succ, i64_w, i32_w]
    rfl
   refine one_ (i := 6) (N := some 11) #[true, true, true, true, true, true, true, false, true, false] rfl rfl (one_of HT_.out (by kernel_rfl)) (by decide) (fun K hK => ?_)
   refine goes_ Try.func122 (by kernel_rfl) rfl #[.slice A0_2 l0_2.length c0_2] (by rfl) rfl rfl (by (try simp only [List.map_toArray, List.map_cons, List.map_nil]); first | done | rfl | (simp only [List.length_drop, List.length_take]; rfl)) ?_
   with_reducible refine (spec_l11Copy.calls k _ _ l0_2 t408 _ ?side1 ?side2 A2.out).mono ?_
   (case side1 => exact cS (Kd.C_below HR0_2.out HB.out))
   (case side2 => exact HC0_2.out)
   rintro e w7 ⟨v409, rfl, ho0, hb⟩
   refine ⟨_, rfl, ?_⟩
   have HO410 := Aside0.mk (Kd.S_lower ho0 (below_size bS))
   replace BK406 := kB (g := gb406) hb
   replace BK407 := kB (g := gb407) hb
   replace BK411 := kB (g := gb411) hb
   replace HB := hB hb
   (try clear hb)
   (try clear hb2)
   (try clear hk)
   (try clear hi)
   (try clear ho0)
   obtain ⟨Ao8, co8, eo8⟩ := Kd.S_slice HO410.out
   (first | subst eo8 | (injection eo8 with f1_ f2_ f3_; have f4_ := f1_.symm; have f5_ := f3_.symm; clear f1_ f2_ f3_; subst f4_; subst f5_))
   refine hK.out _ _ (cy4 BK406) (fun hHeld => ?_)
   clear hK K
   refine norm_ (a' := ?_) ?_ ?_
   rotate_left
   ·show Act.put _ (some 11) _ = _
    simp only [Act.put, List.setIfInBounds_toArray, List.set_cons_zero, List.set_cons_succ, i64_w, i32_w]
    rfl
   refine pU 7 (some 12) #[true, true, true, true, true, true, true, true, true, false] ?_
   exact norm_ (by simp only [putAll, Act.put, List.setIfInBounds_toArray, List.set_cons_zero, List.set_cons_succ]) (hCont (.slice Ao8 t408.length co8, gb411) _ ⟨hHeld, (sS HO410), kS, kS, kS, GW411.out, GE411.out, NB406_411.out, NB411_406.out, NB407_411.out, NB411_407.out, bS⟩)
 rintro ⟨v409, gb411⟩ w9 ⟨hS_, h0_, h1_, h2_, h3_, h4_, h5_, h6_, h7_, h8_, h9_, h10_⟩
 have HO410 : Aside0 (Kd.S (Kd.slice 3 (Kd.int .i64)) 71 w9 w.heap.size (fun _ => True) v409 t408) := ⟨h0_⟩
 have BK411 : Aside0 (w9.heap[gb411]? = some (.cells #[.int .i64 0, .int .i64 0, .slice none 0 0, .slice none 0 0] 58 (0, 0))) := ⟨h3_⟩
 have GW411 : Aside0 (w.heap.size ≤ gb411) := ⟨h4_⟩
 have GE411 : Aside0 (w.heap.size ≤ gb411) := ⟨h5_⟩
 have NB406_411 : Aside0 (gb406 ≠ gb411) := ⟨h6_⟩
 have NB411_406 : Aside0 (gb411 ≠ gb406) := ⟨h7_⟩
 have NB407_411 : Aside0 (gb407 ≠ gb411) := ⟨h8_⟩
 have NB411_407 : Aside0 (gb411 ≠ gb407) := ⟨h9_⟩
 replace BK406 : Aside0 (w9.heap[gb406]? = some (.cells #[.int .i64 a0_0, .int .i64 a0_1, .slice A0_2 l0_2.length c0_2, .slice A0_3 l0_3.length c0_3] 58 (0, 0))) := ⟨h1_⟩
 replace BK407 : Aside0 (w9.heap[gb407]? = some (.cells #[.int .i64 0, .int .i64 0, .slice none 0 0, .slice none 0 0] 58 (0, 0))) := ⟨h2_⟩
 replace HB : Aside0 (Below w.heap.size w w9) := ⟨h10_⟩
 clear h0_ h1_ h2_ h3_ h4_ h5_ h6_ h7_ h8_ h9_ h10_
 have hHeld : w9.cell? ⟨gb406, 0, none⟩ = some (.int .i64 a0_0) ∧ w9.cell? ⟨gb406, 1, none⟩ = some (.int .i64 a0_1) ∧ w9.cell? ⟨gb406, 2, none⟩ = some (.slice A0_2 l0_2.length c0_2) ∧ w9.cell? ⟨gb406, 3, none⟩ = some (.slice A0_3 l0_3.length c0_3) := hS_
 obtain ⟨Ao10, co10, eo10⟩ := Kd.S_slice HO410.out
 (first | subst eo10 | (injection eo10 with f1_ f2_ f3_; have f4_ := f1_.symm; have f5_ := f3_.symm; clear f1_ f2_ f3_; subst f4_; subst f5_))
 refine norm_ (a' := ?_) ?_ ?_
 rotate_left
 ·simp only [putAll, Act.put, List.setIfInBounds_toArray, List.set_cons_zero, List.set_cons_succ]
  rfl
 refine one_ (i := 9) (N := none) #[true, true, true, true, true, true, true, true, true, true] rfl rfl (one_of HT_.out (by kernel_rfl)) (by decide) (fun K hK => ?_)
 have hs11 : w9.cell? ⟨gb411, 0, none⟩ = some (.int .i64 0) := (blk_cell BK411.out 0).trans rfl
 have hfs11 := blk_frozen BK411.out 0
 have hns11_0 := NB406_411.out
 have hns11_1 := NB407_411.out
 have hms11_0 := NB411_406.out
 have hms11_1 := NB411_407.out
 have hs12 : w9.cell? ⟨gb411, 1, none⟩ = some (.int .i64 0) := (blk_cell BK411.out 1).trans rfl
 have hfs12 := blk_frozen BK411.out 1
 have hns12_0 := NB406_411.out
 have hns12_1 := NB407_411.out
 have hms12_0 := NB411_406.out
 have hms12_1 := NB411_407.out
 have hs13 : w9.cell? ⟨gb411, 2, none⟩ = some (.slice none 0 0) := (blk_cell BK411.out 2).trans rfl
 have hfs13 := blk_frozen BK411.out 2
 have hns13_0 := NB406_411.out
 have hns13_1 := NB407_411.out
 have hms13_0 := NB411_406.out
 have hms13_1 := NB411_407.out
 have hs14 : w9.cell? ⟨gb411, 3, none⟩ = some (.slice none 0 0) := (blk_cell BK411.out 3).trans rfl
 have hfs14 := blk_frozen BK411.out 3
 have hns14_0 := NB406_411.out
 have hns14_1 := NB407_411.out
 have hms14_0 := NB411_406.out
 have hms14_1 := NB411_407.out
 refine skip_ (w1 := ?_) (by rfl) rfl ?_ ?_
 rotate_left
 ·go_simp
  rfl
 refine hK.out _ _ ⟨((cell_far (p := ⟨gb411, _, none⟩) NB406_411.out _).trans (((cell_far (p := ⟨gb411, _, none⟩) NB406_411.out _).trans (((cell_far (p := ⟨gb411, _, none⟩) NB406_411.out _).trans (((cell_far (p := ⟨gb411, _, none⟩) NB406_411.out _).trans (hHeld.1)))))))), ((cell_far (p := ⟨gb411, _, none⟩) NB406_411.out _).trans (((cell_far (p := ⟨gb411, _, none⟩) NB406_411.out _).trans (((cell_far (p := ⟨gb411, _, none⟩) NB406_411.out _).trans (((cell_far (p := ⟨gb411, _, none⟩) NB406_411.out _).trans (hHeld.2.1)))))))), ((cell_far (p := ⟨gb411, _, none⟩) NB406_411.out _).trans (((cell_far (p := ⟨gb411, _, none⟩) NB406_411.out _).trans (((cell_far (p := ⟨gb411, _, none⟩) NB406_411.out _).trans (((cell_far (p := ⟨gb411, _, none⟩) NB406_411.out _).trans (hHeld.2.2.1)))))))), ((cell_far (p := ⟨gb411, _, none⟩) NB406_411.out _).trans (((cell_far (p := ⟨gb411, _, none⟩) NB406_411.out _).trans (((cell_far (p := ⟨gb411, _, none⟩) NB406_411.out _).trans (((cell_far (p := ⟨gb411, _, none⟩) NB406_411.out _).trans (hHeld.2.2.2))))))))⟩ (fun hHeld => ?_)
 clear hK K
 refine done_ (done_of HT_.out (by kernel_rfl)) ?_
 try go_wp2
 go_loopg [4] k (fun kq v4 w' => ∃ (x4_1 : Int) (x412003_1 : List (S45)) (u412003 : Value), v4 = .int .i64 x4_1 ∧ Aside0 (spec_l13Copy.l0 kq x4_1 a0_0 a0_1 l0_2 l0_3 a0_0 a0_1 t408 x412003_1 = some (r1, r2, r3, r4)) ∧ Aside0 (kq ≤ k) ∧ Aside0 (Kd.S (Kd.slice 3 (Kd.int .i64)) 71 w' w.heap.size (fun _ => True) (.slice Ao10 t408.length co10) t408) ∧ Aside0 (Kd.S k45 45 w' w.heap.size (fun _ => True) u412003 x412003_1) ∧ Aside0 (w'.heap[gb406]? = some (.cells #[.int .i64 a0_0, .int .i64 a0_1, (.slice A0_2 l0_2.length c0_2), (.slice A0_3 l0_3.length c0_3)] 58 (0, 0))) ∧ Aside0 (w'.heap[gb407]? = some (.cells #[.int .i64 0, .int .i64 0, (.slice none 0 0), (.slice none 0 0)] 58 (0, 0))) ∧ Aside0 (w'.heap[gb411]? = some (.cells #[.int .i64 a0_0, .int .i64 a0_1, (.slice Ao10 t408.length co10), u412003] 58 (0, 0))) ∧ Aside0 (Below w.heap.size w w'))
 case atStart => exact ⟨(0), (([] : List (S45))), (.slice none 0 0), fS, H', ⟨Nat.le_refl _⟩, ⟨by exact sT (Kd.S_mono (Kd.S_far (p := ⟨gb411, 3, none⟩) (Kd.S_far (p := ⟨gb411, 2, none⟩) (Kd.S_far (p := ⟨gb411, 1, none⟩) (Kd.S_far (p := ⟨gb411, 0, none⟩) (Kd.S_types HO410.out BK411.out (by decide)) (fun _ hk => hk.2) (.int .i64 a0_0)) (fun _ hk => hk.2) (.int .i64 a0_1)) (fun _ hk => hk.2) (.slice Ao10 t408.length co10)) (fun _ hk => hk.2) (.slice none 0 0)) (fun _ hk => trivial))⟩, ⟨by first | exact Kd.S_nil _ _ _ _ _ | exact Kd.N_nil _ _ _ _ _ | exact Kd.V_nil _ _ _ _ _ | exact Kd.Q_nil _ _ _ _ _ | exact Kd.R_nil _ _ _ _ _⟩, ⟨kS⟩, ⟨kS⟩, ⟨kS⟩, ⟨bS⟩⟩
 case round =>
  clear H'
  try clear c1
  try clear p2
  try clear c12
  obtain ⟨x4_1, x412003_1, u412003, rfl, HA, HK1, HO_412002, HO_412003, BK406, BK407, BK411, HB⟩ := hrel
  cases gk with
  | zero => exact absurd HA.out (by simp [spec_l13Copy.l0])
  | succ k1 =>
   have H := HA.out
   clear HA
   simp only [spec_l13Copy.l0] at H
   rcases iD H with ⟨c15b0, H⟩ | ⟨c15b0, H⟩
   ·obtain ⟨c16b0, H⟩ := iT H
    replace H := bN H
    obtain ⟨⟨t413, t416, t417, t418, t419, t420⟩, A17, H⟩ := H
    obtain ⟨LMc18, H⟩ := iL H
    obtain ⟨y421, hy421⟩ : ∃ y_ : List (S45), y_ = (x412003_1 ++ [(⟨t413, t416, (⟨t417, t418, t419, t420⟩ : S43)⟩ : S45)]) := ⟨_, rfl⟩
    replace H : (spec_l13Copy.l0 k1 (wrap64 (x4_1 + 1)) a0_0 a0_1 l0_2 l0_3 a0_0 a0_1 t408 y421) = some (r1, r2, r3, r4) := by first | (rw [hy421]; with_reducible exact H) | (have H2_ := (Option.bind_some _ _).symm.trans H; rw [hy421]; with_reducible exact H2_) | (have H2_ := (Option.bind_some _ _).symm.trans H; with_reducible exact H2_) | with_reducible exact H | (rw [hy421]; exact H) | exact H
    have Ny421 := Aside0.mk hy421
    clear hy421
    have H' := Aside0.mk H
    clear H
    have hnb19 := NB406_407.out
    have hnc19 := NB407_406.out
    have hnb20 := NB406_411.out
    have hnc20 := NB411_406.out
    have hz21 := cz4 BK406
    try go_wp2
    replace HO_412002 := Aside0.mk (Kd.S_drew HO_412002.out)
    replace HO_412003 := Aside0.mk (Kd.S_drew HO_412003.out)
    replace BK406 := Aside0.mk (blk_drew BK406.out)
    replace BK407 := Aside0.mk (blk_drew BK407.out)
    replace BK411 := Aside0.mk (blk_drew BK411.out)
    replace HB := Aside0.mk (below_drew1 HB.out)
    have p412 : 0 ≤ (x4_1 : Int) := dA
    have q412 : x4_1 < (l0_3.length : Int) := dA
    obtain ⟨ad412, A412_0, c412_0, e412, hx412_0, hx412_1, hx412_2, hx412_3, hx412_4, hx412_5, hl412_0, hi412_0⟩ := at_T45 HR0_3.out x4_1 p412 q412
    have hw412_5 := hx412_5
    have hw412_4 := hx412_4
    have hw412_3 := hx412_3
    have hw412_2 := hx412_2
    have hw412_1 := hx412_1
    have hw412_0 := hx412_0
    cases e412
    replace hx412_0 := cB HB hx412_0
    replace hx412_1 := cB HB hx412_1
    replace hx412_2 := cB HB hx412_2
    replace hx412_3 := cB HB hx412_3
    replace hx412_4 := cB HB hx412_4
    replace hx412_5 := cB HB hx412_5
    have HR412_0 := Aside0.mk hi412_0
    have HC412_0 := Aside0.mk hl412_0
    clear hi412_0 hl412_0
    replace p412 := eq_true p412
    replace q412 := eq_true q412
    refine start_ (n := 12) (S := fun w' => w'.cell? ⟨gb411, 0, none⟩ = some (.int .i64 a0_0) ∧ w'.cell? ⟨gb411, 1, none⟩ = some (.int .i64 a0_1) ∧ w'.cell? ⟨gb411, 2, none⟩ = some (.slice Ao10 t408.length co10) ∧ w'.cell? ⟨gb411, 3, none⟩ = some (u412003) ∧ w'.cell? ⟨gb406, 0, none⟩ = some (.int .i64 a0_0) ∧ w'.cell? ⟨gb406, 1, none⟩ = some (.int .i64 a0_1) ∧ w'.cell? ⟨gb406, 2, none⟩ = some (.slice A0_2 l0_2.length c0_2) ∧ w'.cell? ⟨gb406, 3, none⟩ = some (.slice (some ad412) l0_3.length c0_3) ∧ w'.cell? (ad412.add ((x4_1).toNat * 6)) = some (.slice A412_0 ((rd_T45 l0_3 x4_1).f0).length c412_0) ∧ w'.cell? ⟨(ad412.add ((x4_1).toNat * 6)).block, (ad412.add ((x4_1).toNat * 6)).off + 1, none⟩ = some (.int .i64 ((rd_T45 l0_3 x4_1).f1)) ∧ w'.cell? ⟨(ad412.add ((x4_1).toNat * 6)).block, (ad412.add ((x4_1).toNat * 6)).off + 2, none⟩ = some (.int .i64 ((rd_T45 l0_3 x4_1).f2.f0)) ∧ w'.cell? ⟨(ad412.add ((x4_1).toNat * 6)).block, (ad412.add ((x4_1).toNat * 6)).off + 3, none⟩ = some (.int .i64 ((rd_T45 l0_3 x4_1).f2.f1)) ∧ w'.cell? ⟨(ad412.add ((x4_1).toNat * 6)).block, (ad412.add ((x4_1).toNat * 6)).off + 4, none⟩ = some (.int .i64 ((rd_T45 l0_3 x4_1).f2.f2)) ∧ w'.cell? ⟨(ad412.add ((x4_1).toNat * 6)).block, (ad412.add ((x4_1).toNat * 6)).off + 5, none⟩ = some (.int .i64 ((rd_T45 l0_3 x4_1).f2.f3))) (ds := [11]) #[false, false, false, false, false, false, false, false, false, false, false, false] (by kernel_rfl) rfl rfl ⟨(blk_cell BK411.out 0).trans rfl, (blk_cell BK411.out 1).trans rfl, (blk_cell BK411.out 2).trans rfl, (blk_cell BK411.out 3).trans rfl, (blk_cell BK406.out 0).trans rfl, (blk_cell BK406.out 1).trans rfl, (blk_cell BK406.out 2).trans rfl, (blk_cell BK406.out 3).trans rfl, (cB HB hw412_0), (cB HB hw412_1), (cB HB hw412_2), (cB HB hw412_3), (cB HB hw412_4), (cB HB hw412_5)⟩ (fun hHeld => ?_); refine with_tabW spec_l13Copy.tab5 spec_l13Copy.bits5 (fun HT_ HW_ => ?_)
    generalize wr.drew = w22 at HO_412002 HO_412003 BK406 BK407 BK411 HB HR412_0 hx412_0 hx412_1 hx412_2 hx412_3 hx412_4 hx412_5 hHeld ⊢
    refine pU 0 (some 20) #[true, false, false, false, false, false, false, false, false, false, false, false] ?_
    refine pU 2 (some 22) #[true, false, true, false, false, false, false, false, false, false, false, false] ?_
    refine pU 4 (some 24) #[true, false, true, false, true, false, false, false, false, false, false, false] ?_
    refine tK 1 (some 21) #[true, true, true, false, true, false, false, false, false, false, false, false] ?_
    refine tK 3 (some 23) #[true, true, true, true, true, false, false, false, false, false, false, false] ?_
    refine pU 5 (some 25) #[true, true, true, true, true, true, false, false, false, false, false, false] ?_
    refine tK 6 (some 26) #[true, true, true, true, true, true, true, false, false, false, false, false] ?_
    refine one_ (i := 7) (N := some 27) #[true, true, true, true, true, true, true, true, false, false, false, false] rfl rfl (one_of HT_.out (by kernel_rfl)) (by decide) (fun K hK => ?_)
    refine goes_ Try.func181 (by kernel_rfl) rfl #[.agg #[.slice A412_0 ((rd_T45 l0_3 x4_1).f0).length c412_0, .int .i64 ((rd_T45 l0_3 x4_1).f1), .int .i64 ((rd_T45 l0_3 x4_1).f2.f0), .int .i64 ((rd_T45 l0_3 x4_1).f2.f1), .int .i64 ((rd_T45 l0_3 x4_1).f2.f2), .int .i64 ((rd_T45 l0_3 x4_1).f2.f3)]] (by rfl) rfl rfl (by (try simp only [List.map_toArray, List.map_cons, List.map_nil]); first | done | rfl | (simp only [List.length_drop, List.length_take]; rfl)) ?_
    with_reducible refine (spec_l07Shape.calls _ _ ((rd_T45 l0_3 x4_1).f0) ((rd_T45 l0_3 x4_1).f1) ((rd_T45 l0_3 x4_1).f2.f0) ((rd_T45 l0_3 x4_1).f2.f1) ((rd_T45 l0_3 x4_1).f2.f2) ((rd_T45 l0_3 x4_1).f2.f3) t413 t416 t417 t418 t419 t420 _ ?side1 ?side2 A17.out).mono ?_
    (case side1 => exact cS (Kd.C_below HR412_0.out HB.out))
    (case side2 => exact HC412_0.out)
    rintro e w23 ⟨v414, rfl, ho0, hb⟩
    refine ⟨_, rfl, ?_⟩
    have HO415 := Aside0.mk (Kd.R_lower ho0 (below_size bS))
    replace HO_412002 := sB HO_412002 hb
    replace HO_412003 := Aside0.mk (Kd.S_elder' (sS HO_412003) (Kd.R_base ho0) hb)
    replace BK406 := kB (g := gb406) hb
    replace BK407 := kB (g := gb407) hb
    replace BK411 := kB (g := gb411) hb
    replace HB := hB hb
    (try clear hb)
    (try clear hb2)
    (try clear hk)
    (try clear hi)
    (try clear ho0)
    obtain ⟨Ao25, co25, eo25⟩ := Kd.R_slice HO415.out
    (first | subst eo25 | (injection eo25 with f1_ f2_ f3_; have f4_ := f1_.symm; have f5_ := f3_.symm; clear f1_ f2_ f3_; subst f4_; subst f5_))
    refine hK.out _ _ ⟨(blk_cell BK411.out 0).trans rfl, (blk_cell BK411.out 1).trans rfl, (blk_cell BK411.out 2).trans rfl, (blk_cell BK411.out 3).trans rfl, (blk_cell BK406.out 0).trans rfl, (blk_cell BK406.out 1).trans rfl, (blk_cell BK406.out 2).trans rfl, (blk_cell BK406.out 3).trans rfl, (cB HB hw412_0), (cB HB hw412_1), (cB HB hw412_2), (cB HB hw412_3), (cB HB hw412_4), (cB HB hw412_5)⟩ (fun hHeld => ?_)
    clear hK K
    refine norm_ (a' := ?_) ?_ ?_
    rotate_left
    ·show Act.put _ (some 27) _ = _
     simp only [Act.put, List.setIfInBounds_toArray, List.set_cons_zero, List.set_cons_succ, i64_w, i32_w]
     rfl
    refine one_ (i := 8) (N := some 28) #[true, true, true, true, true, true, true, true, true, false, false, false] rfl rfl (one_of HT_.out (by kernel_rfl)) (by decide) (fun K hK => ?_)
    refine value_ (w1 := ?_) (v := ?_) (by rfl) rfl ?_ ?_
    rotate_left 2
    ·go_simp
     constructor
     ·rfl
     ·rfl
    refine hK.out _ _ ⟨(blk_cell (blk_alloc BK411.out _) 0).trans rfl, (blk_cell (blk_alloc BK411.out _) 1).trans rfl, (blk_cell (blk_alloc BK411.out _) 2).trans rfl, (blk_cell (blk_alloc BK411.out _) 3).trans rfl, (blk_cell (blk_alloc BK406.out _) 0).trans rfl, (blk_cell (blk_alloc BK406.out _) 1).trans rfl, (blk_cell (blk_alloc BK406.out _) 2).trans rfl, (blk_cell (blk_alloc BK406.out _) 3).trans rfl, (World.cell?_alloc_lt _ _ _ (World.block_lt_of_cell? _ _ ((cB HB hw412_0)))).trans ((cB HB hw412_0)), (World.cell?_alloc_lt _ _ _ (World.block_lt_of_cell? _ _ ((cB HB hw412_1)))).trans ((cB HB hw412_1)), (World.cell?_alloc_lt _ _ _ (World.block_lt_of_cell? _ _ ((cB HB hw412_2)))).trans ((cB HB hw412_2)), (World.cell?_alloc_lt _ _ _ (World.block_lt_of_cell? _ _ ((cB HB hw412_3)))).trans ((cB HB hw412_3)), (World.cell?_alloc_lt _ _ _ (World.block_lt_of_cell? _ _ ((cB HB hw412_4)))).trans ((cB HB hw412_4)), (World.cell?_alloc_lt _ _ _ (World.block_lt_of_cell? _ _ ((cB HB hw412_5)))).trans ((cB HB hw412_5))⟩ (fun hHeld => ?_)
    clear hK K
    refine norm_ (a' := ?_) ?_ ?_
    rotate_left
    ·show Act.put _ (some 28) _ = _
     simp only [Act.put, List.setIfInBounds_toArray, List.set_cons_zero, List.set_cons_succ, i64_w, i32_w]
     rfl
    refine one_ (i := 9) (N := some 29) #[true, true, true, true, true, true, true, true, true, true, false, false] rfl rfl (one_of HT_.out (by kernel_rfl)) (by decide) (fun K hK => ?_)
    refine Kd.S_append_step k45 (w0 := w) w.heap.size (by rfl) (.tmp 21) (.tmp 28) 24 45 (.agg #[(.slice none 0 0), (.int .i64 0), (.int .i64 0), (.int .i64 0), (.int .i64 0), (.int .i64 0)]) 64 rfl Try.underlying24 info45 rfl (by decide) (by omega) u412003 x412003_1 (⟨t413, t416, (⟨t417, t418, t419, t420⟩ : S43)⟩ : S45) [.slice Ao25 t413.length co25, .int .i64 t416, .int .i64 t417, .int .i64 t418, .int .i64 t419, .int .i64 t420] (fun _ => True) (fun k_ => some k_ = (.slice Ao25 t413.length co25 : Value).ownBlock) rfl rfl ?aP (fun k_ hk_ => ((Kd.R_mono (ok' := fun k_ => ((fun _ => True)) k_ ∧ some k_ ≠ (u412003 : Value).ownBlock) (Kd.R_apart' (HO415.out) (Kd.S_typed HO_412003.out) (by decide)) (fun k_ hk => ⟨trivial, hk.2⟩))).1 k_ hk_.symm) ?aF ?aO ?aB ?aS ?aL ?_
    (case aP => exact k45_mkM _ _ _ (⟨t413, t416, (⟨t417, t418, t419, t420⟩ : S43)⟩ : S45) (Kd.R_mono (Kd.R_tight rfl (Kd.R_mono (ok' := fun k_ => ((fun _ => True)) k_ ∧ some k_ ≠ (u412003 : Value).ownBlock) (Kd.R_apart' (HO415.out) (Kd.S_typed HO_412003.out) (by decide)) (fun k_ hk => ⟨trivial, hk.2⟩))) (fun _ h_ => h_)))
    (case aB => exact bS)
    (case aF => exact (fun _ _ => trivial))
    (case aO => exact (by exact sT (Kd.S_mono HO_412003.out (fun k_ hk => ⟨trivial, fun e_ => hk.2 e_⟩))))
    (case aS => exact (below_size bS))
    (case aL => have := LMc18.out; omega)
    intro v422 w24 ho hb hg hat
    rw [← Ny421.out] at ho
    have HO423 := Aside0.mk (ho)
    replace HO_412002 := Aside0.mk (Kd.S_over' (sS HO_412002) (Kd.S_typed (sS HO_412003)) (by decide) hg)
    replace BK406 := Aside0.mk (blk_grown (g := gb406) kS hg (Kd.S_ne HO_412003.out BK406.out (by decide)))
    replace BK407 := Aside0.mk (blk_grown (g := gb407) kS hg (Kd.S_ne HO_412003.out BK407.out (by decide)))
    replace BK411 := Aside0.mk (blk_grown (g := gb411) kS hg (Kd.S_ne HO_412003.out BK411.out (by decide)))
    replace HB := Aside0.mk (hb)
    clear HO_412003 HO415
    clear ho hb hg hat
    obtain ⟨Ao26, co26, eo26⟩ := Kd.S_slice HO423.out
    (first | subst eo26 | (injection eo26 with f1_ f2_ f3_; have f4_ := f1_.symm; have f5_ := f3_.symm; clear f1_ f2_ f3_; subst f4_; subst f5_))
    refine hK.out _ _ ⟨(blk_cell BK411.out 0).trans rfl, (blk_cell BK411.out 1).trans rfl, (blk_cell BK411.out 2).trans rfl, (blk_cell BK411.out 3).trans rfl, (blk_cell BK406.out 0).trans rfl, (blk_cell BK406.out 1).trans rfl, (blk_cell BK406.out 2).trans rfl, (blk_cell BK406.out 3).trans rfl, (cB HB hw412_0), (cB HB hw412_1), (cB HB hw412_2), (cB HB hw412_3), (cB HB hw412_4), (cB HB hw412_5)⟩ (fun hHeld => ?_)
    clear hK K
    refine norm_ (a' := ?_) ?_ ?_
    rotate_left
    ·show Act.put _ (some 29) _ = _
     simp only [Act.put, List.setIfInBounds_toArray, List.set_cons_zero, List.set_cons_succ, i64_w, i32_w]
     rfl
    refine pU 10 (some 30) #[true, true, true, true, true, true, true, true, true, true, true, false] ?_
    refine last_ (i := 11) (N := none) #[true, true, true, true, true, true, true, true, true, true, true, true] rfl rfl (one_of HT_.out (by kernel_rfl)) (by decide) (fun K hK => ?_)
    have hs27 : w24.cell? ⟨gb411, 3, none⟩ = some (u412003) := (blk_cell BK411.out 3).trans rfl
    have hfs27 := blk_frozen BK411.out 3
    have hns27_0 := NB406_411.out
    have hns27_1 := NB407_411.out
    have hms27_0 := NB411_406.out
    have hms27_1 := NB411_407.out
    refine skip_ (w1 := ?_) (by rfl) rfl ?_ ?_
    rotate_left
    ·go_simp
     rfl
    refine hK.out _ _ ?_
    clear hK K
    refine done_ (done_of HT_.out (by kernel_rfl)) ?_
    try go_wp2
    go_roundg k1
    case measure => have := HK1.out; omega
    case rel => exact ⟨(wrap64 (x4_1 + 1)), (y421), (.slice Ao26 y421.length co26), fS, H', ⟨by have := HK1.out; omega⟩, ⟨by exact sT (Kd.S_mono (Kd.S_far (p := ⟨gb411, 3, none⟩) (Kd.S_types HO_412002.out BK411.out (by decide)) (fun _ hk => hk.2) (.slice Ao26 y421.length co26)) (fun _ hk => trivial))⟩, ⟨by exact sT (Kd.S_mono (Kd.S_far (p := ⟨gb411, 3, none⟩) (Kd.S_types HO423.out BK411.out (by decide)) (fun _ hk => hk.2) (.slice Ao26 y421.length co26)) (fun _ hk => trivial))⟩, ⟨kS⟩, ⟨kS⟩, ⟨kS⟩, ⟨bS⟩⟩
   ·obtain ⟨rfl, rfl, rfl, rfl⟩ := sI4 H
    have hnb28 := NB406_407.out
    have hnc28 := NB407_406.out
    have hnb29 := NB406_411.out
    have hnc29 := NB411_406.out
    have hz30 := cz4 BK406
    have hnb31 := NB411_407.out
    have hnc31 := NB407_411.out
    have hz32 := cz4 BK411
    have hz33 := cz4 BK407
    obtain ⟨Ao34, co34, eo34⟩ := Kd.S_slice HO_412003.out
    subst eo34
    go_wp2
    refine bodyPost_ret (results_cell_row rfl _ _ gb407 58 #[.int .i64 a0_0, .int .i64 a0_1, .slice Ao10 t408.length co10, .slice Ao34 x412003_1.length co34] (0, 0) _ rfl kS Try.underlying58 rfl (by kernel_rfl)) rfl ?_
    exact ⟨_, _, eS, by exact sT (Kd.S_mono (Kd.S_far (p := ⟨gb407, 3, none⟩) (Kd.S_far (p := ⟨gb407, 2, none⟩) (Kd.S_far (p := ⟨gb407, 1, none⟩) (Kd.S_far (p := ⟨gb407, 0, none⟩) (Kd.S_types HO_412002.out BK407.out (by decide)) (fun _ hk => hk.2) (.int .i64 a0_0)) (fun _ hk => hk.2) (.int .i64 a0_1)) (fun _ hk => hk.2) (.slice Ao10 t408.length co10)) (fun _ hk => hk.2) (.slice Ao34 x412003_1.length co34)) (fun _ hk => trivial)), by exact sT (Kd.S_mono (Kd.S_far (p := ⟨gb407, 3, none⟩) (Kd.S_far (p := ⟨gb407, 2, none⟩) (Kd.S_far (p := ⟨gb407, 1, none⟩) (Kd.S_far (p := ⟨gb407, 0, none⟩) (Kd.S_types HO_412003.out BK407.out (by decide)) (fun _ hk => hk.2) (.int .i64 a0_0)) (fun _ hk => hk.2) (.int .i64 a0_1)) (fun _ hk => hk.2) (.slice Ao10 t408.length co10)) (fun _ hk => hk.2) (.slice Ao34 x412003_1.length co34)) (fun _ hk => trivial)), bS⟩

/-! ### spec_SpansOk: function 146 -/
def spec_SpansOk.l0 : Nat → List (S124) → Int → Option (Bool)
 | 0, _, _ => none
 | k + 1, x0, x3 => if x3 < (x0.length : Int) then (if 0 ≤ x3 then (if ((rd_T124 x0 x3).f0) ≥ ((rd_T124 x0 x3).f1) then (some false) else (if x3 > 0 then (if 0 ≤ (wrap64 (x3 - 1)) then (if (wrap64 (x3 - 1)) < (x0.length : Int) then (if ((rd_T124 x0 (wrap64 (x3 - 1))).f1) ≥ ((rd_T124 x0 x3).f0) then (some false) else (spec_SpansOk.l0 k x0 (wrap64 (x3 + 1)))) else (none)) else (none)) else (spec_SpansOk.l0 k x0 (wrap64 (x3 + 1))))) else (none)) else (some (decide ((x0.length : Int) ≤ 8)))
def spec_SpansOk.f (k : Nat) (l0 : List (S124)) : Option (Bool) := spec_SpansOk.l0 k l0 0
theorem spec_SpansOk.calls (k : Nat) (A0 : Option Addr) (c0 : Nat) (l0 : List (S124)) (r : Bool) (w : World) (hr0 : Kd.C k124 w A0 l0.length l0) (hc0 : l0.length ≤ c0) (h : spec_SpansOk.f k l0 = some r) :
  Calls Try.prog 146 #[.slice A0 l0.length c0] w fun e w' => e = .returned (.bool r) ∧ Drawn0 w w' := by
 have HR0 := Aside0.mk hr0
 have HC0 := Aside0.mk hc0
 clear hr0 hc0
 have H : (spec_SpansOk.l0 k l0 0) = some r := h
 clear h
 have H' := Aside0.mk H
 clear H
 go_enter Try.func146, Try.ntmps146
 go_wp2
 repeat (go_quiet (fail); try go_wp2)
 go_loopg [3] k (fun kq v3 w' => ∃ (x3_1 : Int), v3 = .int .i64 x3_1 ∧ Aside0 (spec_SpansOk.l0 kq l0 x3_1 = some r) ∧ Aside0 (kq ≤ k) ∧ Drawn0 w w')
 case atStart => exact ⟨(0), fS, H', ⟨Nat.le_refl _⟩, dS⟩
 case round =>
  clear H'
  try clear c1
  obtain ⟨x3_1, rfl, HA, HK1, ⟨m1, rfl⟩⟩ := hrel
  cases gk with
  | zero => exact absurd HA.out (by simp [spec_SpansOk.l0])
  | succ k1 =>
   have H := HA.out
   clear HA
   simp only [spec_SpansOk.l0] at H
   rcases iD H with ⟨c2b0, H⟩ | ⟨c2b0, H⟩
   ·obtain ⟨c3b0, H⟩ := iT H
    by_cases c4 : ((rd_T124 l0 x3_1).f0) ≥ ((rd_T124 l0 x3_1).f1)
    ·rw [if_pos c4] at H
     have c4b0 : decide (((rd_T124 l0 x3_1).f1) ≤ ((rd_T124 l0 x3_1).f0)) = true := decide_eq_true c4
     clear c4
     obtain rfl := Option.some.inj H
     have p424 : 0 ≤ (x3_1 : Int) := dA
     have q424 : x3_1 < (l0.length : Int) := dA
     obtain ⟨ad424, e424, hx424_0, hx424_1⟩ := at_T124 HR0.out x3_1 p424 q424
     cases e424
     replace p424 := eq_true p424
     replace q424 := eq_true q424
     have p425 : 0 ≤ (x3_1 : Int) := dA
     have q425 : x3_1 < (l0.length : Int) := dA
     obtain ⟨ad425, e425, hx425_0, hx425_1⟩ := at_T124 HR0.out x3_1 p425 q425
     obtain rfl : ad424 = ad425 := (by injection e425)
     replace p425 := eq_true p425
     replace q425 := eq_true q425
     go_wp2
     repeat (go_quiet (fail); try go_wp2)
     go_ret
     exact ⟨fS, dS⟩
    ·rw [if_neg c4] at H
     have c4b0 : decide (((rd_T124 l0 x3_1).f1) ≤ ((rd_T124 l0 x3_1).f0)) = false := decide_eq_false c4
     clear c4
     by_cases c5 : x3_1 > 0
     ·rw [if_pos c5] at H
      have c5b0 : decide (0 < x3_1) = true := decide_eq_true c5
      clear c5
      obtain ⟨ji6, hji6⟩ : ∃ j_ : Int, (wrap64 (x3_1 - 1)) = j_ := ⟨_, rfl⟩
      replace H : (if 0 ≤ (ji6) then (if (ji6) < (l0.length : Int) then (if ((rd_T124 l0 (ji6)).f1) ≥ ((rd_T124 l0 x3_1).f0) then (some false) else (spec_SpansOk.l0 k1 l0 (wrap64 (x3_1 + 1)))) else (none)) else (none)) = some r := by first | (rw [hji6] at H; exact H) | (simp only [hji6] at H ⊢; exact H)
      have hji6w : (IntKind.i64.wrap (x3_1 - 1)) = ji6 := (i64_w _).trans hji6
      obtain ⟨c7b0, H⟩ := iT H
      obtain ⟨c8b0, H⟩ := iT H
      by_cases c9 : ((rd_T124 l0 (ji6)).f1) ≥ ((rd_T124 l0 x3_1).f0)
      ·rw [if_pos c9] at H
       have c9b0 : decide (((rd_T124 l0 x3_1).f0) ≤ ((rd_T124 l0 (ji6)).f1)) = true := decide_eq_true c9
       clear c9
       obtain rfl := Option.some.inj H
       have p424 : 0 ≤ (x3_1 : Int) := dA
       have q424 : x3_1 < (l0.length : Int) := dA
       obtain ⟨ad424, e424, hx424_0, hx424_1⟩ := at_T124 HR0.out x3_1 p424 q424
       cases e424
       replace p424 := eq_true p424
       replace q424 := eq_true q424
       have p425 : 0 ≤ (x3_1 : Int) := dA
       have q425 : x3_1 < (l0.length : Int) := dA
       obtain ⟨ad425, e425, hx425_0, hx425_1⟩ := at_T124 HR0.out x3_1 p425 q425
       obtain rfl : ad424 = ad425 := (by injection e425)
       replace p425 := eq_true p425
       replace q425 := eq_true q425
       have p426 : 0 ≤ ((ji6) : Int) := dA
       have q426 : (ji6) < (l0.length : Int) := dA
       obtain ⟨ad426, e426, hx426_0, hx426_1⟩ := at_T124 HR0.out (ji6) p426 q426
       obtain rfl : ad424 = ad426 := (by injection e426)
       replace p426 := eq_true p426
       replace q426 := eq_true q426
       have p427 : 0 ≤ (x3_1 : Int) := dA
       have q427 : x3_1 < (l0.length : Int) := dA
       obtain ⟨ad427, e427, hx427_0, hx427_1⟩ := at_T124 HR0.out x3_1 p427 q427
       obtain rfl : ad424 = ad427 := (by injection e427)
       replace p427 := eq_true p427
       replace q427 := eq_true q427
       go_wp2
       repeat (go_quiet (fail); try go_wp2)
       go_ret
       exact ⟨by first | rfl | (simp; done) | (simp only [← hji6] <;> (first | rfl | simp)) | (simp [*]; done), dS⟩
      ·rw [if_neg c9] at H
       have c9b0 : decide (((rd_T124 l0 x3_1).f0) ≤ ((rd_T124 l0 (ji6)).f1)) = false := decide_eq_false c9
       clear c9
       have H' := Aside0.mk H
       clear H
       have p424 : 0 ≤ (x3_1 : Int) := dA
       have q424 : x3_1 < (l0.length : Int) := dA
       obtain ⟨ad424, e424, hx424_0, hx424_1⟩ := at_T124 HR0.out x3_1 p424 q424
       cases e424
       replace p424 := eq_true p424
       replace q424 := eq_true q424
       have p425 : 0 ≤ (x3_1 : Int) := dA
       have q425 : x3_1 < (l0.length : Int) := dA
       obtain ⟨ad425, e425, hx425_0, hx425_1⟩ := at_T124 HR0.out x3_1 p425 q425
       obtain rfl : ad424 = ad425 := (by injection e425)
       replace p425 := eq_true p425
       replace q425 := eq_true q425
       have p426 : 0 ≤ ((ji6) : Int) := dA
       have q426 : (ji6) < (l0.length : Int) := dA
       obtain ⟨ad426, e426, hx426_0, hx426_1⟩ := at_T124 HR0.out (ji6) p426 q426
       obtain rfl : ad424 = ad426 := (by injection e426)
       replace p426 := eq_true p426
       replace q426 := eq_true q426
       have p427 : 0 ≤ (x3_1 : Int) := dA
       have q427 : x3_1 < (l0.length : Int) := dA
       obtain ⟨ad427, e427, hx427_0, hx427_1⟩ := at_T124 HR0.out x3_1 p427 q427
       obtain rfl : ad424 = ad427 := (by injection e427)
       replace p427 := eq_true p427
       replace q427 := eq_true q427
       go_wp2
       repeat (go_quiet (fail); try go_wp2)
       go_roundg k1
       case measure => have := HK1.out; omega
       case rel => exact ⟨(wrap64 (x3_1 + 1)), fS, H', ⟨by have := HK1.out; omega⟩, dS⟩
     ·rw [if_neg c5] at H
      have c5b0 : decide (0 < x3_1) = false := decide_eq_false c5
      clear c5
      have H' := Aside0.mk H
      clear H
      have p424 : 0 ≤ (x3_1 : Int) := dA
      have q424 : x3_1 < (l0.length : Int) := dA
      obtain ⟨ad424, e424, hx424_0, hx424_1⟩ := at_T124 HR0.out x3_1 p424 q424
      cases e424
      replace p424 := eq_true p424
      replace q424 := eq_true q424
      have p425 : 0 ≤ (x3_1 : Int) := dA
      have q425 : x3_1 < (l0.length : Int) := dA
      obtain ⟨ad425, e425, hx425_0, hx425_1⟩ := at_T124 HR0.out x3_1 p425 q425
      obtain rfl : ad424 = ad425 := (by injection e425)
      replace p425 := eq_true p425
      replace q425 := eq_true q425
      go_wp2
      repeat (go_quiet (fail); try go_wp2)
      go_roundg k1
      case measure => have := HK1.out; omega
      case rel => exact ⟨(wrap64 (x3_1 + 1)), fS, H', ⟨by have := HK1.out; omega⟩, dS⟩
   ·obtain rfl := Option.some.inj H
    go_wp2
    repeat (go_quiet (fail); try go_wp2)
    go_ret
    exact ⟨fS, dS⟩

end Go.Proofs.Ytigodjcnkgebaaa.QFnMerges
