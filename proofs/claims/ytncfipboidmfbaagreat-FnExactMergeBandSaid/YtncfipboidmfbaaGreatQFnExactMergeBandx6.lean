-- Made out of the translation by a program of this session (a changed copy of the print). Not trusted: Lean checks it.
import Derived.Test.YtncfipboidmfbaaGreatQFnExactMergeBandx0
import Derived.Test.YtncfipboidmfbaaGreatQFnExactMergeBandx4
import Derived.Test.YtncfipboidmfbaaGreatQFnExactMergeBandx5
namespace Go.Proofs.YtncfipboidmfbaaGreat.QFnExactMergeBand
open Go.RowKit Go.Proofs.YtncfipboidmfbaaGreatW.PrintWords Go.Proofs.YtncfipboidmfbaaGreatW.PrintLast Go.Proofs.YtncfipboidmfbaaGreatW.PrintMore
attribute [local go_sem] max2_int min2_int max_two min_two max_three min_three max_four min_four   -- for this text's walks alone
set_option linter.unusedVariables false
set_option linter.unusedSimpArgs false
set_option maxHeartbeats 8000000
set_option maxRecDepth 100000

/-! ### spec_l13Copy: function 52 -/
def spec_l13Copy.l0 : Nat → Int → Int → Int → List (List Int) → List (S49) → Int → Int → List (List Int) → List (S49) → Option (Int × Int × (List (List Int)) × (List (S49)))
 | 0, _, _, _, _, _, _, _, _, _ => none
 | k + 1, x4, x251000, x251001, x251002, x251003, x256000, x256001, x256002, x256003 => if x4 < (x251003.length : Int) then (if 0 ≤ x4 then ((spec_l07Shape.f ((rd_T49 x251003 x4).f0) ((rd_T49 x251003 x4).f1) ((rd_T49 x251003 x4).f2.f0) ((rd_T49 x251003 x4).f2.f1) ((rd_T49 x251003 x4).f2.f2) ((rd_T49 x251003 x4).f2.f3)).bind fun bt257 => (if x256003.length < 2199023255552 then (spec_l13Copy.l0 k (wrap64 (x4 + 1)) x251000 x251001 x251002 x251003 x256000 x256001 x256002 (x256003 ++ [(⟨bt257.1, bt257.2.1, (⟨bt257.2.2.1, bt257.2.2.2.1, bt257.2.2.2.2.1, bt257.2.2.2.2.2⟩ : S47)⟩ : S49)])) else (none))) else (none)) else (some (x256000, x256001, x256002, x256003))
def spec_l13Copy.f (k : Nat) (a0_0 : Int) (a0_1 : Int) (l0_2 : List (List Int)) (l0_3 : List (S49)) : Option (Int × Int × (List (List Int)) × (List (S49))) := (spec_l11Copy.f k l0_2).bind fun t252 => (spec_l13Copy.l0 k 0 a0_0 a0_1 l0_2 l0_3 a0_0 a0_1 t252 ([] : List (S49)))
def spec_l13Copy.T1 : Bool × List (List Nat × List Nat) := (true, [([], []), ([0], [0]), ([], []), ([2], [2]), ([], []), ([4], [4]), ([5], [5]), ([1, 3, 6], [1, 3, 6]), ([], []), ([8, 7, 6, 0, 1, 2, 3, 4, 5, 6, 7, 8], [7, 8])])
def spec_l13Copy.B1 : List Nat := [0, 1, 0, 4, 0, 16, 48, 127, 0, 511]
theorem spec_l13Copy.tab1 : rtab .any (opsOf Tryz.f52 1) = spec_l13Copy.T1 := by kernel_rfl
theorem spec_l13Copy.bits1 : waitsOk spec_l13Copy.T1.2 spec_l13Copy.B1 = true := by kernel_rfl
def spec_l13Copy.T5 : Bool × List (List Nat × List Nat) := (true, [([], []), ([0], [0]), ([], []), ([2], [2]), ([], []), ([3, 4], [3, 4]), ([5], [5]), ([6], [6]), ([7], [7]), ([1, 8, 7], [1, 8]), ([0, 1, 2, 3, 4, 5, 6, 7, 8, 9], []), ([10, 9, 9, 0, 1, 2, 3, 4, 5, 6, 7, 8, 9], [9, 10])])
def spec_l13Copy.B5 : List Nat := [0, 1, 0, 4, 0, 28, 60, 124, 252, 511, 1023, 2047]
theorem spec_l13Copy.tab5 : rtab .any (opsOf Tryz.f52 5) = spec_l13Copy.T5 := by kernel_rfl
theorem spec_l13Copy.bits5 : waitsOk spec_l13Copy.T5.2 spec_l13Copy.B5 = true := by kernel_rfl
theorem spec_l13Copy.calls (k : Nat) (a0_0 : Int) (a0_1 : Int) (A0_2 : Option Addr) (c0_2 : Nat) (l0_2 : List (List Int)) (A0_3 : Option Addr) (c0_3 : Nat) (l0_3 : List (S49)) (r1 : Int) (r2 : Int) (r3 : List (List Int)) (r4 : List (S49)) (w : World) (hr0_2 : Kd.C (Kd.slice 3 (Kd.int .i64)) w A0_2 l0_2.length l0_2) (hc0_2 : l0_2.length ≤ c0_2) (hr0_3 : Kd.C k49 w A0_3 l0_3.length l0_3) (hc0_3 : l0_3.length ≤ c0_3) (h : spec_l13Copy.f k a0_0 a0_1 l0_2 l0_3 = some (r1, r2, r3, r4)) :
  Calls Tryz.prog 52 #[.agg #[.int .i64 a0_0, .int .i64 a0_1, .slice A0_2 l0_2.length c0_2, .slice A0_3 l0_3.length c0_3]] w fun e w' => ∃ v2_ v3_ : Value, e = .returned (.agg #[.int .i64 r1, .int .i64 r2, v2_, v3_]) ∧ Kd.S (Kd.slice 3 (Kd.int .i64)) 54 w' w.heap.size (fun _ => True) v2_ r3 ∧ Kd.S k49 49 w' w.heap.size (fun _ => True) v3_ r4 ∧ Below w.heap.size w w' := by
 have hu30 := Tryz.underlying30
 have hu49 := Tryz.underlying49
 have HR0_2 := Aside0.mk hr0_2
 have HC0_2 := Aside0.mk hc0_2
 clear hr0_2 hc0_2
 have HR0_3 := Aside0.mk hr0_3
 have HC0_3 := Aside0.mk hc0_3
 clear hr0_3 hc0_3
 have HB := Aside0.mk (Below.refl w.heap.size w)
 have H : ((spec_l11Copy.f k l0_2).bind fun t252 => (spec_l13Copy.l0 k 0 a0_0 a0_1 l0_2 l0_3 a0_0 a0_1 t252 ([] : List (S49)))) = some (r1, r2, r3, r4) := h
 clear h
 replace H := bN H
 obtain ⟨t252, A2, H⟩ := H
 have H' := Aside0.mk H
 clear H
 go_enter Tryz.func52, Tryz.ntmps52
 try go_wp2_with (first | ((with_reducible refine gD 1 ?_); refine bxE #[.int .i64 a0_0, .int .i64 a0_1, .slice A0_2 l0_2.length c0_2, .slice A0_3 l0_3.length c0_3] 30 ?_; intro gb250 hg w3 BK250 hb; have GW250 := gE hg; have GE250 := gE hg; replace HB := hB hb; clear hb hg) | ((with_reducible refine gD 2 ?_); refine bxE #[.int .i64 0, .int .i64 0, .slice none 0 0, .slice none 0 0] 30 ?_; intro gb251 hg w4 BK251 hb; have GW251 := gE hg; have GE251 := gE hg; have NB250_251 := nL (g := gb250) hg; have NB251_250 := nG (g := gb250) hg; replace BK250 := kB (g := gb250) hb; replace HB := hB hb; clear hb hg))
 replace BK250 := Aside0.mk (blk_drew BK250.out)
 replace BK251 := Aside0.mk (blk_drew BK251.out)
 replace HB := Aside0.mk (below_drew1 HB.out)
 refine start_ (n := 10) (S := fun w' => w'.cell? ⟨gb250, 0, none⟩ = some (.int .i64 a0_0) ∧ w'.cell? ⟨gb250, 1, none⟩ = some (.int .i64 a0_1) ∧ w'.cell? ⟨gb250, 2, none⟩ = some (.slice A0_2 l0_2.length c0_2) ∧ w'.cell? ⟨gb250, 3, none⟩ = some (.slice A0_3 l0_3.length c0_3)) (ds := []) #[false, false, false, false, false, false, false, false, false, false] (by kernel_rfl) rfl rfl (cy4 BK250) (fun hHeld => ?_); refine with_tabW spec_l13Copy.tab1 spec_l13Copy.bits1 (fun HT_ HW_ => ?_)
 generalize w4.drew = w5 at BK250 BK251 HB hHeld ⊢
 refine pU 0 (some 5) #[true, false, false, false, false, false, false, false, false, false] ?_
 refine pU 2 (some 7) #[true, false, true, false, false, false, false, false, false, false] ?_
 refine pU 4 (some 9) #[true, false, true, false, true, false, false, false, false, false] ?_
 refine tK 1 (some 6) #[true, true, true, false, true, false, false, false, false, false] ?_
 refine tK 3 (some 8) #[true, true, true, true, true, false, false, false, false, false] ?_
 refine tK 5 (some 10) #[true, true, true, true, true, true, false, false, false, false] ?_
 refine join_ (σ := Value × Nat) 1 #[true, true, true, true, true, true, true, true, true, false] (fun s_ => [(11, s_.1), (3, .pointer (some ⟨s_.2, 0, none⟩)), (12, .agg #[.int .i64 a0_0, .int .i64 a0_1, s_.1, .slice none 0 0])]) (fun s_ w' => (w'.cell? ⟨gb250, 0, none⟩ = some (.int .i64 a0_0) ∧ w'.cell? ⟨gb250, 1, none⟩ = some (.int .i64 a0_1) ∧ w'.cell? ⟨gb250, 2, none⟩ = some (.slice A0_2 l0_2.length c0_2) ∧ w'.cell? ⟨gb250, 3, none⟩ = some (.slice A0_3 l0_3.length c0_3)) ∧ (Kd.S (Kd.slice 3 (Kd.int .i64)) 54 w' w.heap.size (fun _ => True) s_.1 t252) ∧ (w'.heap[gb250]? = some (.cells #[.int .i64 a0_0, .int .i64 a0_1, .slice A0_2 l0_2.length c0_2, .slice A0_3 l0_3.length c0_3] 30 (0, 0))) ∧ (w'.heap[gb251]? = some (.cells #[.int .i64 0, .int .i64 0, .slice none 0 0, .slice none 0 0] 30 (0, 0))) ∧ (w'.heap[s_.2]? = some (.cells #[.int .i64 0, .int .i64 0, .slice none 0 0, .slice none 0 0] 30 (0, 0))) ∧ (w.heap.size ≤ s_.2) ∧ (w.heap.size ≤ s_.2) ∧ (gb250 ≠ s_.2) ∧ (s_.2 ≠ gb250) ∧ (gb251 ≠ s_.2) ∧ (s_.2 ≠ gb251) ∧ (Below w.heap.size w w')) ?_ ?_
 rotate_left
 ·intro hCont
  refine two_ (i := 6) (j := 8) (Ni := some 11) (Nj := some 3) #[true, true, true, true, true, true, true, false, false, false] #[true, true, true, true, true, true, false, false, true, false] rfl rfl rfl rfl (two_of HT_.out (by kernel_rfl)) (by decide) (by decide) (fun K hK => ?_) (fun K hK => ?_)
  ·skip
   refine goes_ Tryz.func113 (by kernel_rfl) rfl #[.slice A0_2 l0_2.length c0_2] (by rfl) rfl rfl (by (try simp only [List.map_toArray, List.map_cons, List.map_nil]); first | done | rfl | (simp only [List.length_drop, List.length_take]; rfl)) ?_
   with_reducible refine (spec_l11Copy.calls k _ _ l0_2 t252 _ ?side1 ?side2 A2.out).mono ?_
   (case side1 => exact cS (Kd.C_below HR0_2.out HB.out))
   (case side2 => exact HC0_2.out)
   rintro e w6 ⟨v253, rfl, ho0, hb⟩
   refine ⟨_, rfl, ?_⟩
   have HO254 := Aside0.mk (Kd.S_lower ho0 (below_size bS))
   replace BK250 := kB (g := gb250) hb
   replace BK251 := kB (g := gb251) hb
   replace HB := hB hb
   (try clear hb)
   (try clear hb2)
   (try clear hk)
   (try clear hi)
   (try clear ho0)
   obtain ⟨Ao7, co7, eo7⟩ := Kd.S_slice HO254.out
   (first | subst eo7 | (injection eo7 with f1_ f2_ f3_; have f4_ := f1_.symm; have f5_ := f3_.symm; clear f1_ f2_ f3_; subst f4_; subst f5_))
   refine hK.out _ _ (cy4 BK250) (fun hHeld => ?_)
   clear hK K
   refine norm_ (a' := ?_) ?_ ?_
   rotate_left
   ·show Act.put _ (some 11) _ = _
    simp only [Act.put, List.setIfInBounds_toArray, List.set_cons_zero, List.set_cons_succ, i64_w, i32_w]
    rfl
   refine pU 7 (some 12) #[true, true, true, true, true, true, true, true, false, false] ?_
   refine one_ (i := 8) (N := some 3) #[true, true, true, true, true, true, true, true, true, false] rfl rfl (one_of HT_.out (by kernel_rfl)) (by decide) (fun K hK => ?_)
   refine box_step ?hg (N := 3) ?hd (cs := #[.int .i64 0, .int .i64 0, .slice none 0 0, .slice none 0 0]) (t := 30) ?hr ?_; (case hd => rfl); (case hg => rfl); (case hr => first | (go_simp; done) | (go_simp; rfl))
   intro gb255 hg w8 hbox hb
   have BK255 := Aside0.mk (hbox)
   have GW255 := gE hg
   have GE255 := gE hg
   have NB250_255 := nL (g := gb250) hg
   have NB255_250 := nG (g := gb250) hg
   have NB251_255 := nL (g := gb251) hg
   have NB255_251 := nG (g := gb251) hg
   replace HO254 := sB HO254 hb
   replace BK250 := kB (g := gb250) hb
   replace BK251 := kB (g := gb251) hb
   replace HB := hB hb
   clear hb hg
   refine hK.out _ _ (cy4 BK250) (fun hHeld => ?_)
   clear hK K
   refine norm_ (a' := ?_) ?_ ?_
   rotate_left
   ·show Act.put _ (some 3) _ = _
    simp only [Act.put, List.setIfInBounds_toArray, List.set_cons_zero, List.set_cons_succ, i64_w, i32_w]
    rfl
   exact norm_ (by simp only [putAll, Act.put, List.setIfInBounds_toArray, List.set_cons_zero, List.set_cons_succ]) (hCont (.slice Ao7 t252.length co7, gb255) _ ⟨hHeld, (sS HO254), kS, kS, kS, GW255.out, GE255.out, NB250_255.out, NB255_250.out, NB251_255.out, NB255_251.out, bS⟩)
  ·skip
   refine box_step ?hg (N := 3) ?hd (cs := #[.int .i64 0, .int .i64 0, .slice none 0 0, .slice none 0 0]) (t := 30) ?hr ?_; (case hd => rfl); (case hg => rfl); (case hr => first | (go_simp; done) | (go_simp; rfl))
   intro gb255 hg w6 hbox hb
   have BK255 := Aside0.mk (hbox)
   have GW255 := gE hg
   have GE255 := gE hg
   have NB250_255 := nL (g := gb250) hg
   have NB255_250 := nG (g := gb250) hg
   have NB251_255 := nL (g := gb251) hg
   have NB255_251 := nG (g := gb251) hg
   replace BK250 := kB (g := gb250) hb
   replace BK251 := kB (g := gb251) hb
   replace HB := hB hb
   clear hb hg
   refine hK.out _ _ (cy4 BK250) (fun hHeld => ?_)
   clear hK K
   refine norm_ (a' := ?_) ?_ ?_
   rotate_left
   ·show Act.put _ (some 3) _ = _
    simp only [Act.put, List.setIfInBounds_toArray, List.set_cons_zero, List.set_cons_succ, i64_w, i32_w]
    rfl
   refine one_ (i := 6) (N := some 11) #[true, true, true, true, true, true, true, false, true, false] rfl rfl (one_of HT_.out (by kernel_rfl)) (by decide) (fun K hK => ?_)
   refine goes_ Tryz.func113 (by kernel_rfl) rfl #[.slice A0_2 l0_2.length c0_2] (by rfl) rfl rfl (by (try simp only [List.map_toArray, List.map_cons, List.map_nil]); first | done | rfl | (simp only [List.length_drop, List.length_take]; rfl)) ?_
   with_reducible refine (spec_l11Copy.calls k _ _ l0_2 t252 _ ?side1 ?side2 A2.out).mono ?_
   (case side1 => exact cS (Kd.C_below HR0_2.out HB.out))
   (case side2 => exact HC0_2.out)
   rintro e w7 ⟨v253, rfl, ho0, hb⟩
   refine ⟨_, rfl, ?_⟩
   have HO254 := Aside0.mk (Kd.S_lower ho0 (below_size bS))
   replace BK250 := kB (g := gb250) hb
   replace BK251 := kB (g := gb251) hb
   replace BK255 := kB (g := gb255) hb
   replace HB := hB hb
   (try clear hb)
   (try clear hb2)
   (try clear hk)
   (try clear hi)
   (try clear ho0)
   obtain ⟨Ao8, co8, eo8⟩ := Kd.S_slice HO254.out
   (first | subst eo8 | (injection eo8 with f1_ f2_ f3_; have f4_ := f1_.symm; have f5_ := f3_.symm; clear f1_ f2_ f3_; subst f4_; subst f5_))
   refine hK.out _ _ (cy4 BK250) (fun hHeld => ?_)
   clear hK K
   refine norm_ (a' := ?_) ?_ ?_
   rotate_left
   ·show Act.put _ (some 11) _ = _
    simp only [Act.put, List.setIfInBounds_toArray, List.set_cons_zero, List.set_cons_succ, i64_w, i32_w]
    rfl
   refine pU 7 (some 12) #[true, true, true, true, true, true, true, true, true, false] ?_
   exact norm_ (by simp only [putAll, Act.put, List.setIfInBounds_toArray, List.set_cons_zero, List.set_cons_succ]) (hCont (.slice Ao8 t252.length co8, gb255) _ ⟨hHeld, (sS HO254), kS, kS, kS, GW255.out, GE255.out, NB250_255.out, NB255_250.out, NB251_255.out, NB255_251.out, bS⟩)
 rintro ⟨v253, gb255⟩ w9 ⟨hS_, h0_, h1_, h2_, h3_, h4_, h5_, h6_, h7_, h8_, h9_, h10_⟩
 have HO254 : Aside0 (Kd.S (Kd.slice 3 (Kd.int .i64)) 54 w9 w.heap.size (fun _ => True) v253 t252) := ⟨h0_⟩
 have BK255 : Aside0 (w9.heap[gb255]? = some (.cells #[.int .i64 0, .int .i64 0, .slice none 0 0, .slice none 0 0] 30 (0, 0))) := ⟨h3_⟩
 have GW255 : Aside0 (w.heap.size ≤ gb255) := ⟨h4_⟩
 have GE255 : Aside0 (w.heap.size ≤ gb255) := ⟨h5_⟩
 have NB250_255 : Aside0 (gb250 ≠ gb255) := ⟨h6_⟩
 have NB255_250 : Aside0 (gb255 ≠ gb250) := ⟨h7_⟩
 have NB251_255 : Aside0 (gb251 ≠ gb255) := ⟨h8_⟩
 have NB255_251 : Aside0 (gb255 ≠ gb251) := ⟨h9_⟩
 replace BK250 : Aside0 (w9.heap[gb250]? = some (.cells #[.int .i64 a0_0, .int .i64 a0_1, .slice A0_2 l0_2.length c0_2, .slice A0_3 l0_3.length c0_3] 30 (0, 0))) := ⟨h1_⟩
 replace BK251 : Aside0 (w9.heap[gb251]? = some (.cells #[.int .i64 0, .int .i64 0, .slice none 0 0, .slice none 0 0] 30 (0, 0))) := ⟨h2_⟩
 replace HB : Aside0 (Below w.heap.size w w9) := ⟨h10_⟩
 clear h0_ h1_ h2_ h3_ h4_ h5_ h6_ h7_ h8_ h9_ h10_
 have hHeld : w9.cell? ⟨gb250, 0, none⟩ = some (.int .i64 a0_0) ∧ w9.cell? ⟨gb250, 1, none⟩ = some (.int .i64 a0_1) ∧ w9.cell? ⟨gb250, 2, none⟩ = some (.slice A0_2 l0_2.length c0_2) ∧ w9.cell? ⟨gb250, 3, none⟩ = some (.slice A0_3 l0_3.length c0_3) := hS_
 obtain ⟨Ao10, co10, eo10⟩ := Kd.S_slice HO254.out
 (first | subst eo10 | (injection eo10 with f1_ f2_ f3_; have f4_ := f1_.symm; have f5_ := f3_.symm; clear f1_ f2_ f3_; subst f4_; subst f5_))
 refine norm_ (a' := ?_) ?_ ?_
 rotate_left
 ·simp only [putAll, Act.put, List.setIfInBounds_toArray, List.set_cons_zero, List.set_cons_succ]
  rfl
 refine one_ (i := 9) (N := none) #[true, true, true, true, true, true, true, true, true, true] rfl rfl (one_of HT_.out (by kernel_rfl)) (by decide) (fun K hK => ?_)
 have hs11 : w9.cell? ⟨gb255, 0, none⟩ = some (.int .i64 0) := (blk_cell BK255.out 0).trans rfl
 have hfs11 := blk_frozen BK255.out 0
 have hns11_0 := NB250_255.out
 have hns11_1 := NB251_255.out
 have hms11_0 := NB255_250.out
 have hms11_1 := NB255_251.out
 have hs12 : w9.cell? ⟨gb255, 1, none⟩ = some (.int .i64 0) := (blk_cell BK255.out 1).trans rfl
 have hfs12 := blk_frozen BK255.out 1
 have hns12_0 := NB250_255.out
 have hns12_1 := NB251_255.out
 have hms12_0 := NB255_250.out
 have hms12_1 := NB255_251.out
 have hs13 : w9.cell? ⟨gb255, 2, none⟩ = some (.slice none 0 0) := (blk_cell BK255.out 2).trans rfl
 have hfs13 := blk_frozen BK255.out 2
 have hns13_0 := NB250_255.out
 have hns13_1 := NB251_255.out
 have hms13_0 := NB255_250.out
 have hms13_1 := NB255_251.out
 have hs14 : w9.cell? ⟨gb255, 3, none⟩ = some (.slice none 0 0) := (blk_cell BK255.out 3).trans rfl
 have hfs14 := blk_frozen BK255.out 3
 have hns14_0 := NB250_255.out
 have hns14_1 := NB251_255.out
 have hms14_0 := NB255_250.out
 have hms14_1 := NB255_251.out
 refine skip_ (w1 := ?_) (by rfl) rfl ?_ ?_
 rotate_left
 ·go_simp
  rfl
 refine hK.out _ _ ⟨((cell_far (p := ⟨gb255, _, none⟩) NB250_255.out _).trans (((cell_far (p := ⟨gb255, _, none⟩) NB250_255.out _).trans (((cell_far (p := ⟨gb255, _, none⟩) NB250_255.out _).trans (((cell_far (p := ⟨gb255, _, none⟩) NB250_255.out _).trans (hHeld.1)))))))), ((cell_far (p := ⟨gb255, _, none⟩) NB250_255.out _).trans (((cell_far (p := ⟨gb255, _, none⟩) NB250_255.out _).trans (((cell_far (p := ⟨gb255, _, none⟩) NB250_255.out _).trans (((cell_far (p := ⟨gb255, _, none⟩) NB250_255.out _).trans (hHeld.2.1)))))))), ((cell_far (p := ⟨gb255, _, none⟩) NB250_255.out _).trans (((cell_far (p := ⟨gb255, _, none⟩) NB250_255.out _).trans (((cell_far (p := ⟨gb255, _, none⟩) NB250_255.out _).trans (((cell_far (p := ⟨gb255, _, none⟩) NB250_255.out _).trans (hHeld.2.2.1)))))))), ((cell_far (p := ⟨gb255, _, none⟩) NB250_255.out _).trans (((cell_far (p := ⟨gb255, _, none⟩) NB250_255.out _).trans (((cell_far (p := ⟨gb255, _, none⟩) NB250_255.out _).trans (((cell_far (p := ⟨gb255, _, none⟩) NB250_255.out _).trans (hHeld.2.2.2))))))))⟩ (fun hHeld => ?_)
 clear hK K
 refine done_ (done_of HT_.out (by kernel_rfl)) ?_
 try go_wp2
 go_loopg [4] k (fun kq v4 w' => ∃ (x4_1 : Int) (x256003_1 : List (S49)) (u256003 : Value), v4 = .int .i64 x4_1 ∧ Aside0 (spec_l13Copy.l0 kq x4_1 a0_0 a0_1 l0_2 l0_3 a0_0 a0_1 t252 x256003_1 = some (r1, r2, r3, r4)) ∧ Aside0 (kq ≤ k) ∧ Aside0 (Kd.S (Kd.slice 3 (Kd.int .i64)) 54 w' w.heap.size (fun _ => True) (.slice Ao10 t252.length co10) t252) ∧ Aside0 (Kd.S k49 49 w' w.heap.size (fun _ => True) u256003 x256003_1) ∧ Aside0 (w'.heap[gb250]? = some (.cells #[.int .i64 a0_0, .int .i64 a0_1, (.slice A0_2 l0_2.length c0_2), (.slice A0_3 l0_3.length c0_3)] 30 (0, 0))) ∧ Aside0 (w'.heap[gb251]? = some (.cells #[.int .i64 0, .int .i64 0, (.slice none 0 0), (.slice none 0 0)] 30 (0, 0))) ∧ Aside0 (w'.heap[gb255]? = some (.cells #[.int .i64 a0_0, .int .i64 a0_1, (.slice Ao10 t252.length co10), u256003] 30 (0, 0))) ∧ Aside0 (Below w.heap.size w w'))
 case atStart => exact ⟨(0), (([] : List (S49))), (.slice none 0 0), fS, H', ⟨Nat.le_refl _⟩, ⟨by exact sT (Kd.S_mono (Kd.S_far (p := ⟨gb255, 3, none⟩) (Kd.S_far (p := ⟨gb255, 2, none⟩) (Kd.S_far (p := ⟨gb255, 1, none⟩) (Kd.S_far (p := ⟨gb255, 0, none⟩) (Kd.S_types HO254.out BK255.out (by decide)) (fun _ hk => hk.2) (.int .i64 a0_0)) (fun _ hk => hk.2) (.int .i64 a0_1)) (fun _ hk => hk.2) (.slice Ao10 t252.length co10)) (fun _ hk => hk.2) (.slice none 0 0)) (fun _ hk => trivial))⟩, ⟨by first | exact Kd.S_nil _ _ _ _ _ | exact Kd.N_nil _ _ _ _ _ | exact Kd.V_nil _ _ _ _ _ | exact Kd.Q_nil _ _ _ _ _ | exact Kd.R_nil _ _ _ _ _⟩, ⟨kS⟩, ⟨kS⟩, ⟨kS⟩, ⟨bS⟩⟩
 case round =>
  clear H'
  try clear c1
  try clear p2
  try clear c5
  try clear c11
  obtain ⟨x4_1, x256003_1, u256003, rfl, HA, HK1, HO_256002, HO_256003, BK250, BK251, BK255, HB⟩ := hrel
  cases gk with
  | zero => exact absurd HA.out (by simp [spec_l13Copy.l0])
  | succ k1 =>
   have H := HA.out
   clear HA
   simp only [spec_l13Copy.l0] at H
   rcases iD H with ⟨c15b0, H⟩ | ⟨c15b0, H⟩
   ·obtain ⟨c16b0, H⟩ := iT H
    replace H := bN H
    obtain ⟨⟨t257, t260, t261, t262, t263, t264⟩, A17, H⟩ := H
    obtain ⟨LMc18, H⟩ := iL H
    obtain ⟨y265, hy265⟩ : ∃ y_ : List (S49), y_ = (x256003_1 ++ [(⟨t257, t260, (⟨t261, t262, t263, t264⟩ : S47)⟩ : S49)]) := ⟨_, rfl⟩
    replace H : (spec_l13Copy.l0 k1 (wrap64 (x4_1 + 1)) a0_0 a0_1 l0_2 l0_3 a0_0 a0_1 t252 y265) = some (r1, r2, r3, r4) := by first | (rw [hy265]; with_reducible exact H) | (have H2_ := (Option.bind_some _ _).symm.trans H; rw [hy265]; with_reducible exact H2_) | (have H2_ := (Option.bind_some _ _).symm.trans H; with_reducible exact H2_) | with_reducible exact H | (rw [hy265]; exact H) | exact H
    have Ny265 := Aside0.mk hy265
    clear hy265
    have H' := Aside0.mk H
    clear H
    have hnb19 := NB250_251.out
    have hnc19 := NB251_250.out
    have hnb20 := NB250_255.out
    have hnc20 := NB255_250.out
    have hz21 := cz4 BK250
    try go_wp2
    replace HO_256002 := Aside0.mk (Kd.S_drew HO_256002.out)
    replace HO_256003 := Aside0.mk (Kd.S_drew HO_256003.out)
    replace BK250 := Aside0.mk (blk_drew BK250.out)
    replace BK251 := Aside0.mk (blk_drew BK251.out)
    replace BK255 := Aside0.mk (blk_drew BK255.out)
    replace HB := Aside0.mk (below_drew1 HB.out)
    have p256 : 0 ≤ (x4_1 : Int) := dA
    have q256 : x4_1 < (l0_3.length : Int) := dA
    obtain ⟨ad256, A256_0, c256_0, e256, hx256_0, hx256_1, hx256_2, hx256_3, hx256_4, hx256_5, hl256_0, hi256_0⟩ := at_T49 HR0_3.out x4_1 p256 q256
    have hw256_5 := hx256_5
    have hw256_4 := hx256_4
    have hw256_3 := hx256_3
    have hw256_2 := hx256_2
    have hw256_1 := hx256_1
    have hw256_0 := hx256_0
    cases e256
    replace hx256_0 := cB HB hx256_0
    replace hx256_1 := cB HB hx256_1
    replace hx256_2 := cB HB hx256_2
    replace hx256_3 := cB HB hx256_3
    replace hx256_4 := cB HB hx256_4
    replace hx256_5 := cB HB hx256_5
    have HR256_0 := Aside0.mk hi256_0
    have HC256_0 := Aside0.mk hl256_0
    clear hi256_0 hl256_0
    replace p256 := eq_true p256
    replace q256 := eq_true q256
    refine start_ (n := 12) (S := fun w' => w'.cell? ⟨gb255, 0, none⟩ = some (.int .i64 a0_0) ∧ w'.cell? ⟨gb255, 1, none⟩ = some (.int .i64 a0_1) ∧ w'.cell? ⟨gb255, 2, none⟩ = some (.slice Ao10 t252.length co10) ∧ w'.cell? ⟨gb255, 3, none⟩ = some (u256003) ∧ w'.cell? ⟨gb250, 0, none⟩ = some (.int .i64 a0_0) ∧ w'.cell? ⟨gb250, 1, none⟩ = some (.int .i64 a0_1) ∧ w'.cell? ⟨gb250, 2, none⟩ = some (.slice A0_2 l0_2.length c0_2) ∧ w'.cell? ⟨gb250, 3, none⟩ = some (.slice (some ad256) l0_3.length c0_3) ∧ w'.cell? (ad256.add ((x4_1).toNat * 6)) = some (.slice A256_0 ((rd_T49 l0_3 x4_1).f0).length c256_0) ∧ w'.cell? ⟨(ad256.add ((x4_1).toNat * 6)).block, (ad256.add ((x4_1).toNat * 6)).off + 1, none⟩ = some (.int .i64 ((rd_T49 l0_3 x4_1).f1)) ∧ w'.cell? ⟨(ad256.add ((x4_1).toNat * 6)).block, (ad256.add ((x4_1).toNat * 6)).off + 2, none⟩ = some (.int .i64 ((rd_T49 l0_3 x4_1).f2.f0)) ∧ w'.cell? ⟨(ad256.add ((x4_1).toNat * 6)).block, (ad256.add ((x4_1).toNat * 6)).off + 3, none⟩ = some (.int .i64 ((rd_T49 l0_3 x4_1).f2.f1)) ∧ w'.cell? ⟨(ad256.add ((x4_1).toNat * 6)).block, (ad256.add ((x4_1).toNat * 6)).off + 4, none⟩ = some (.int .i64 ((rd_T49 l0_3 x4_1).f2.f2)) ∧ w'.cell? ⟨(ad256.add ((x4_1).toNat * 6)).block, (ad256.add ((x4_1).toNat * 6)).off + 5, none⟩ = some (.int .i64 ((rd_T49 l0_3 x4_1).f2.f3))) (ds := [11]) #[false, false, false, false, false, false, false, false, false, false, false, false] (by kernel_rfl) rfl rfl ⟨(blk_cell BK255.out 0).trans rfl, (blk_cell BK255.out 1).trans rfl, (blk_cell BK255.out 2).trans rfl, (blk_cell BK255.out 3).trans rfl, (blk_cell BK250.out 0).trans rfl, (blk_cell BK250.out 1).trans rfl, (blk_cell BK250.out 2).trans rfl, (blk_cell BK250.out 3).trans rfl, (cB HB hw256_0), (cB HB hw256_1), (cB HB hw256_2), (cB HB hw256_3), (cB HB hw256_4), (cB HB hw256_5)⟩ (fun hHeld => ?_); refine with_tabW spec_l13Copy.tab5 spec_l13Copy.bits5 (fun HT_ HW_ => ?_)
    generalize wr.drew = w22 at HO_256002 HO_256003 BK250 BK251 BK255 HB HR256_0 hx256_0 hx256_1 hx256_2 hx256_3 hx256_4 hx256_5 hHeld ⊢
    refine pU 0 (some 20) #[true, false, false, false, false, false, false, false, false, false, false, false] ?_
    refine pU 2 (some 22) #[true, false, true, false, false, false, false, false, false, false, false, false] ?_
    refine pU 4 (some 24) #[true, false, true, false, true, false, false, false, false, false, false, false] ?_
    refine tK 1 (some 21) #[true, true, true, false, true, false, false, false, false, false, false, false] ?_
    refine tK 3 (some 23) #[true, true, true, true, true, false, false, false, false, false, false, false] ?_
    refine pU 5 (some 25) #[true, true, true, true, true, true, false, false, false, false, false, false] ?_
    refine tK 6 (some 26) #[true, true, true, true, true, true, true, false, false, false, false, false] ?_
    refine one_ (i := 7) (N := some 27) #[true, true, true, true, true, true, true, true, false, false, false, false] rfl rfl (one_of HT_.out (by kernel_rfl)) (by decide) (fun K hK => ?_)
    refine goes_ Tryz.func61 (by kernel_rfl) rfl #[.agg #[.slice A256_0 ((rd_T49 l0_3 x4_1).f0).length c256_0, .int .i64 ((rd_T49 l0_3 x4_1).f1), .int .i64 ((rd_T49 l0_3 x4_1).f2.f0), .int .i64 ((rd_T49 l0_3 x4_1).f2.f1), .int .i64 ((rd_T49 l0_3 x4_1).f2.f2), .int .i64 ((rd_T49 l0_3 x4_1).f2.f3)]] (by rfl) rfl rfl (by (try simp only [List.map_toArray, List.map_cons, List.map_nil]); first | done | rfl | (simp only [List.length_drop, List.length_take]; rfl)) ?_
    with_reducible refine (spec_l07Shape.calls _ _ ((rd_T49 l0_3 x4_1).f0) ((rd_T49 l0_3 x4_1).f1) ((rd_T49 l0_3 x4_1).f2.f0) ((rd_T49 l0_3 x4_1).f2.f1) ((rd_T49 l0_3 x4_1).f2.f2) ((rd_T49 l0_3 x4_1).f2.f3) t257 t260 t261 t262 t263 t264 _ ?side1 ?side2 A17.out).mono ?_
    (case side1 => exact cS (Kd.C_below HR256_0.out HB.out))
    (case side2 => exact HC256_0.out)
    rintro e w23 ⟨v258, rfl, ho0, hb⟩
    refine ⟨_, rfl, ?_⟩
    have HO259 := Aside0.mk (Kd.R_lower ho0 (below_size bS))
    replace HO_256002 := sB HO_256002 hb
    replace HO_256003 := Aside0.mk (Kd.S_elder' (sS HO_256003) (Kd.R_base ho0) hb)
    replace BK250 := kB (g := gb250) hb
    replace BK251 := kB (g := gb251) hb
    replace BK255 := kB (g := gb255) hb
    replace HB := hB hb
    (try clear hb)
    (try clear hb2)
    (try clear hk)
    (try clear hi)
    (try clear ho0)
    obtain ⟨Ao25, co25, eo25⟩ := Kd.R_slice HO259.out
    (first | subst eo25 | (injection eo25 with f1_ f2_ f3_; have f4_ := f1_.symm; have f5_ := f3_.symm; clear f1_ f2_ f3_; subst f4_; subst f5_))
    refine hK.out _ _ ⟨(blk_cell BK255.out 0).trans rfl, (blk_cell BK255.out 1).trans rfl, (blk_cell BK255.out 2).trans rfl, (blk_cell BK255.out 3).trans rfl, (blk_cell BK250.out 0).trans rfl, (blk_cell BK250.out 1).trans rfl, (blk_cell BK250.out 2).trans rfl, (blk_cell BK250.out 3).trans rfl, (cB HB hw256_0), (cB HB hw256_1), (cB HB hw256_2), (cB HB hw256_3), (cB HB hw256_4), (cB HB hw256_5)⟩ (fun hHeld => ?_)
    clear hK K
    refine norm_ (a' := ?_) ?_ ?_
    rotate_left
    ·show Act.put _ (some 27) _ = _
     simp only [Act.put, List.setIfInBounds_toArray, List.set_cons_zero, List.set_cons_succ, i64_w, i32_w]
     rfl
    refine one_ (i := 8) (N := some 28) #[true, true, true, true, true, true, true, true, true, false, false, false] rfl rfl (one_of HT_.out (by kernel_rfl)) (by decide) (fun K hK => ?_)
    refine value_ (w1 := ?_) (v := ?_) (by rfl) rfl ?_ ?_
    rotate_left 2
    ·go_simp
     constructor
     ·rfl
     ·rfl
    refine hK.out _ _ ⟨(blk_cell (blk_alloc BK255.out _) 0).trans rfl, (blk_cell (blk_alloc BK255.out _) 1).trans rfl, (blk_cell (blk_alloc BK255.out _) 2).trans rfl, (blk_cell (blk_alloc BK255.out _) 3).trans rfl, (blk_cell (blk_alloc BK250.out _) 0).trans rfl, (blk_cell (blk_alloc BK250.out _) 1).trans rfl, (blk_cell (blk_alloc BK250.out _) 2).trans rfl, (blk_cell (blk_alloc BK250.out _) 3).trans rfl, (World.cell?_alloc_lt _ _ _ (World.block_lt_of_cell? _ _ ((cB HB hw256_0)))).trans ((cB HB hw256_0)), (World.cell?_alloc_lt _ _ _ (World.block_lt_of_cell? _ _ ((cB HB hw256_1)))).trans ((cB HB hw256_1)), (World.cell?_alloc_lt _ _ _ (World.block_lt_of_cell? _ _ ((cB HB hw256_2)))).trans ((cB HB hw256_2)), (World.cell?_alloc_lt _ _ _ (World.block_lt_of_cell? _ _ ((cB HB hw256_3)))).trans ((cB HB hw256_3)), (World.cell?_alloc_lt _ _ _ (World.block_lt_of_cell? _ _ ((cB HB hw256_4)))).trans ((cB HB hw256_4)), (World.cell?_alloc_lt _ _ _ (World.block_lt_of_cell? _ _ ((cB HB hw256_5)))).trans ((cB HB hw256_5))⟩ (fun hHeld => ?_)
    clear hK K
    refine norm_ (a' := ?_) ?_ ?_
    rotate_left
    ·show Act.put _ (some 28) _ = _
     simp only [Act.put, List.setIfInBounds_toArray, List.set_cons_zero, List.set_cons_succ, i64_w, i32_w]
     rfl
    refine one_ (i := 9) (N := some 29) #[true, true, true, true, true, true, true, true, true, true, false, false] rfl rfl (one_of HT_.out (by kernel_rfl)) (by decide) (fun K hK => ?_)
    refine Kd.S_append_step k49 (w0 := w) w.heap.size (by rfl) (.tmp 21) (.tmp 28) 28 49 (.agg #[(.slice none 0 0), (.int .i64 0), (.int .i64 0), (.int .i64 0), (.int .i64 0), (.int .i64 0)]) 64 rfl Tryz.underlying28 info49 rfl (by decide) (by omega) u256003 x256003_1 (⟨t257, t260, (⟨t261, t262, t263, t264⟩ : S47)⟩ : S49) [.slice Ao25 t257.length co25, .int .i64 t260, .int .i64 t261, .int .i64 t262, .int .i64 t263, .int .i64 t264] (fun _ => True) (fun k_ => some k_ = (.slice Ao25 t257.length co25 : Value).ownBlock) rfl rfl ?aP (fun k_ hk_ => ((Kd.R_mono (ok' := fun k_ => ((fun _ => True)) k_ ∧ some k_ ≠ (u256003 : Value).ownBlock) (Kd.R_apart' (HO259.out) (Kd.S_typed HO_256003.out) (by decide)) (fun k_ hk => ⟨trivial, hk.2⟩))).1 k_ hk_.symm) ?aF ?aO ?aB ?aS ?aL ?_
    (case aP => exact k49_mkM _ _ _ (⟨t257, t260, (⟨t261, t262, t263, t264⟩ : S47)⟩ : S49) (Kd.R_mono (Kd.R_tight rfl (Kd.R_mono (ok' := fun k_ => ((fun _ => True)) k_ ∧ some k_ ≠ (u256003 : Value).ownBlock) (Kd.R_apart' (HO259.out) (Kd.S_typed HO_256003.out) (by decide)) (fun k_ hk => ⟨trivial, hk.2⟩))) (fun _ h_ => h_)))
    (case aB => exact bS)
    (case aF => exact (fun _ _ => trivial))
    (case aO => exact (by exact sT (Kd.S_mono HO_256003.out (fun k_ hk => ⟨trivial, fun e_ => hk.2 e_⟩))))
    (case aS => exact (below_size bS))
    (case aL => have := LMc18.out; omega)
    intro v266 w24 ho hb hg hat
    rw [← Ny265.out] at ho
    have HO267 := Aside0.mk (ho)
    replace HO_256002 := Aside0.mk (Kd.S_over' (sS HO_256002) (Kd.S_typed (sS HO_256003)) (by decide) hg)
    replace BK250 := Aside0.mk (blk_grown (g := gb250) kS hg (Kd.S_ne HO_256003.out BK250.out (by decide)))
    replace BK251 := Aside0.mk (blk_grown (g := gb251) kS hg (Kd.S_ne HO_256003.out BK251.out (by decide)))
    replace BK255 := Aside0.mk (blk_grown (g := gb255) kS hg (Kd.S_ne HO_256003.out BK255.out (by decide)))
    replace HB := Aside0.mk (hb)
    clear HO_256003 HO259
    clear ho hb hg hat
    obtain ⟨Ao26, co26, eo26⟩ := Kd.S_slice HO267.out
    (first | subst eo26 | (injection eo26 with f1_ f2_ f3_; have f4_ := f1_.symm; have f5_ := f3_.symm; clear f1_ f2_ f3_; subst f4_; subst f5_))
    refine hK.out _ _ ⟨(blk_cell BK255.out 0).trans rfl, (blk_cell BK255.out 1).trans rfl, (blk_cell BK255.out 2).trans rfl, (blk_cell BK255.out 3).trans rfl, (blk_cell BK250.out 0).trans rfl, (blk_cell BK250.out 1).trans rfl, (blk_cell BK250.out 2).trans rfl, (blk_cell BK250.out 3).trans rfl, (cB HB hw256_0), (cB HB hw256_1), (cB HB hw256_2), (cB HB hw256_3), (cB HB hw256_4), (cB HB hw256_5)⟩ (fun hHeld => ?_)
    clear hK K
    refine norm_ (a' := ?_) ?_ ?_
    rotate_left
    ·show Act.put _ (some 29) _ = _
     simp only [Act.put, List.setIfInBounds_toArray, List.set_cons_zero, List.set_cons_succ, i64_w, i32_w]
     rfl
    refine pU 10 (some 30) #[true, true, true, true, true, true, true, true, true, true, true, false] ?_
    refine last_ (i := 11) (N := none) #[true, true, true, true, true, true, true, true, true, true, true, true] rfl rfl (one_of HT_.out (by kernel_rfl)) (by decide) (fun K hK => ?_)
    have hs27 : w24.cell? ⟨gb255, 3, none⟩ = some (u256003) := (blk_cell BK255.out 3).trans rfl
    have hfs27 := blk_frozen BK255.out 3
    have hns27_0 := NB250_255.out
    have hns27_1 := NB251_255.out
    have hms27_0 := NB255_250.out
    have hms27_1 := NB255_251.out
    refine skip_ (w1 := ?_) (by rfl) rfl ?_ ?_
    rotate_left
    ·go_simp
     rfl
    refine hK.out _ _ ?_
    clear hK K
    refine done_ (done_of HT_.out (by kernel_rfl)) ?_
    try go_wp2
    go_roundg k1
    case measure => have := HK1.out; omega
    case rel => exact ⟨(wrap64 (x4_1 + 1)), (y265), (.slice Ao26 y265.length co26), fS, H', ⟨by have := HK1.out; omega⟩, ⟨by exact sT (Kd.S_mono (Kd.S_far (p := ⟨gb255, 3, none⟩) (Kd.S_types HO_256002.out BK255.out (by decide)) (fun _ hk => hk.2) (.slice Ao26 y265.length co26)) (fun _ hk => trivial))⟩, ⟨by exact sT (Kd.S_mono (Kd.S_far (p := ⟨gb255, 3, none⟩) (Kd.S_types HO267.out BK255.out (by decide)) (fun _ hk => hk.2) (.slice Ao26 y265.length co26)) (fun _ hk => trivial))⟩, ⟨kS⟩, ⟨kS⟩, ⟨kS⟩, ⟨bS⟩⟩
   ·obtain ⟨rfl, rfl, rfl, rfl⟩ := sI4 H
    have hnb28 := NB250_251.out
    have hnc28 := NB251_250.out
    have hnb29 := NB250_255.out
    have hnc29 := NB255_250.out
    have hz30 := cz4 BK250
    have hnb31 := NB255_251.out
    have hnc31 := NB251_255.out
    have hz32 := cz4 BK255
    have hz33 := cz4 BK251
    obtain ⟨Ao34, co34, eo34⟩ := Kd.S_slice HO_256003.out
    subst eo34
    go_wp2
    refine bodyPost_ret (results_cell_row rfl _ _ gb251 30 #[.int .i64 a0_0, .int .i64 a0_1, .slice Ao10 t252.length co10, .slice Ao34 x256003_1.length co34] (0, 0) _ rfl kS Tryz.underlying30 rfl (by kernel_rfl)) rfl ?_
    exact ⟨_, _, eS, by exact sT (Kd.S_mono (Kd.S_far (p := ⟨gb251, 3, none⟩) (Kd.S_far (p := ⟨gb251, 2, none⟩) (Kd.S_far (p := ⟨gb251, 1, none⟩) (Kd.S_far (p := ⟨gb251, 0, none⟩) (Kd.S_types HO_256002.out BK251.out (by decide)) (fun _ hk => hk.2) (.int .i64 a0_0)) (fun _ hk => hk.2) (.int .i64 a0_1)) (fun _ hk => hk.2) (.slice Ao10 t252.length co10)) (fun _ hk => hk.2) (.slice Ao34 x256003_1.length co34)) (fun _ hk => trivial)), by exact sT (Kd.S_mono (Kd.S_far (p := ⟨gb251, 3, none⟩) (Kd.S_far (p := ⟨gb251, 2, none⟩) (Kd.S_far (p := ⟨gb251, 1, none⟩) (Kd.S_far (p := ⟨gb251, 0, none⟩) (Kd.S_types HO_256003.out BK251.out (by decide)) (fun _ hk => hk.2) (.int .i64 a0_0)) (fun _ hk => hk.2) (.int .i64 a0_1)) (fun _ hk => hk.2) (.slice Ao10 t252.length co10)) (fun _ hk => hk.2) (.slice Ao34 x256003_1.length co34)) (fun _ hk => trivial)), bS⟩

/-! ### spec_MeetBox: function 140 -/
def spec_MeetBox.f (a0_0 : Int) (a0_1 : Int) (a0_2 : Int) (a0_3 : Int) (a1_0 : Int) (a1_1 : Int) (a1_2 : Int) (a1_3 : Int) : Option (Int × Int × Int × Int) := (spec_BoxOk.f a0_0 a0_1 a0_2 a0_3).bind fun t272 => (if t272 = true then ((spec_BoxOk.f a1_0 a1_1 a1_2 a1_3).bind fun t273 => (if t273 = true then (if (mx a0_0 a1_0) ≥ (mn a0_2 a1_2) then (some (0, 0, 0, 0)) else (if (mx a0_1 a1_1) ≥ (mn a0_3 a1_3) then (some (0, 0, 0, 0)) else (some (mx a0_0 a1_0, mx a0_1 a1_1, mn a0_2 a1_2, mn a0_3 a1_3)))) else (some (0, 0, 0, 0)))) else (some (0, 0, 0, 0)))
theorem spec_MeetBox.lf0 {p : Prop} (h : p := by
 go_enter Tryz.func140, Tryz.ntmps140
 go_wp2_with (first | ((with_reducible refine gD 2 ?_); refine bxE #[.int .i64 a0_0, .int .i64 a0_1, .int .i64 a0_2, .int .i64 a0_3] 47 ?_; intro gb268 hg w12 BK268 hb; have GW268 := gE hg; have GE268 := gE hg; replace HB := hB hb; clear hb hg) | ((with_reducible refine gD 3 ?_); refine bxE #[.int .i64 a1_0, .int .i64 a1_1, .int .i64 a1_2, .int .i64 a1_3] 47 ?_; intro gb269 hg w13 BK269 hb; have GW269 := gE hg; have GE269 := gE hg; have NB268_269 := nL (g := gb268) hg; have NB269_268 := nG (g := gb268) hg; replace BK268 := kB (g := gb268) hb; replace HB := hB hb; clear hb hg) | ((with_reducible refine gD 4 ?_); refine bxE #[.int .i64 0, .int .i64 0, .int .i64 0, .int .i64 0] 47 ?_; intro gb270 hg w14 BK270 hb; have GW270 := gE hg; have GE270 := gE hg; have NB268_270 := nL (g := gb268) hg; have NB270_268 := nG (g := gb268) hg; have NB269_270 := nL (g := gb269) hg; have NB270_269 := nG (g := gb269) hg; replace BK268 := kB (g := gb268) hb; replace BK269 := kB (g := gb269) hb; replace HB := hB hb; clear hb hg; have hnb15 := NB268_269.out; have hnc15 := NB269_268.out; have hnb16 := NB268_270.out; have hnc16 := NB270_268.out; have hz17 := cz4 BK268; have hnb18 := NB269_270.out; have hnc18 := NB270_269.out; have hz19 := cz4 BK269) | ((with_reducible refine gD 5 ?_); refine bxE #[.int .i64 0, .int .i64 0, .int .i64 0, .int .i64 0] 47 ?_; intro gb271 hg w20 BK271 hb; have GW271 := gE hg; have GE271 := gE hg; have NB268_271 := nL (g := gb268) hg; have NB271_268 := nG (g := gb268) hg; have NB269_271 := nL (g := gb269) hg; have NB271_269 := nG (g := gb269) hg; have NB270_271 := nL (g := gb270) hg; have NB271_270 := nG (g := gb270) hg; replace BK268 := kB (g := gb268) hb; replace BK269 := kB (g := gb269) hb; replace BK270 := kB (g := gb270) hb; replace HB := hB hb; clear hb hg; have hnb21 := NB271_268.out; have hnc21 := NB268_271.out; have hnb22 := NB271_269.out; have hnc22 := NB269_271.out; have hnb23 := NB271_270.out; have hnc23 := NB270_271.out; have hz24 := cz4 BK271; have hz25 := cz4 BK268) | ((with_reducible refine gC 171 ?_); refine cL (some 28) Tryz.func171 #[.agg #[.int .i64 a0_0, .int .i64 a0_1, .int .i64 a0_2, .int .i64 a0_3]] ?_; (with_reducible refine (spec_BoxOk.calls a0_0 a0_1 a0_2 a0_3 _ _ A7.out).mono ?_); rintro e w26 ⟨rfl, hb⟩; refine ⟨_, rfl, ?_⟩; replace BK268 := kB (g := gb268) hb; replace BK269 := kB (g := gb269) hb; replace BK270 := kB (g := gb270) hb; replace BK271 := Aside0.mk (blk_below (g := gb271) (o := .cells #[.int .i64 ji3, .int .i64 ji4, .int .i64 ji5, .int .i64 ji6] 47 (0, 0)) kS hb); replace HB := hB hb; (try clear hb); (try clear hb2); (try clear hk); (try clear hi); have hz27 := cz4 BK269) | (go_at_call 171; (with_reducible refine (spec_BoxOk.calls a1_0 a1_1 a1_2 a1_3 _ _ A9.out).mono ?_); rintro e w28 ⟨rfl, hb⟩; replace BK268 := kB (g := gb268) hb; replace BK269 := kB (g := gb269) hb; replace BK270 := kB (g := gb270) hb; replace BK271 := kB (g := gb271) hb; replace HB := hB hb; (try clear hb); (try clear hb2); (try clear hk); (try clear hi); have hz29 := cz4 BK271; have hz30 := cz4 BK270))
 refine bodyPost_ret (results_cell_row rfl _ _ gb270 47 #[.int .i64 0, .int .i64 0, .int .i64 0, .int .i64 0] (0, 0) _ rfl kS Tryz.underlying47 rfl (by kernel_rfl)) rfl ?_
 exact ⟨by first | rfl | (simp [errW_none, errW_some] <;> rfl) | (simp only [← hji3, ← hji4, ← hji5, ← hji6]; first | rfl | (simp [errW_none, errW_some] <;> rfl)) | (simp [*, errW_none, errW_some] <;> rfl), bS⟩) : p := h
theorem spec_MeetBox.calls (a0_0 : Int) (a0_1 : Int) (a0_2 : Int) (a0_3 : Int) (a1_0 : Int) (a1_1 : Int) (a1_2 : Int) (a1_3 : Int) (r1 : Int) (r2 : Int) (r3 : Int) (r4 : Int) (w : World) (h : spec_MeetBox.f a0_0 a0_1 a0_2 a0_3 a1_0 a1_1 a1_2 a1_3 = some (r1, r2, r3, r4)) :
  Calls Tryz.prog 140 #[.agg #[.int .i64 a0_0, .int .i64 a0_1, .int .i64 a0_2, .int .i64 a0_3], .agg #[.int .i64 a1_0, .int .i64 a1_1, .int .i64 a1_2, .int .i64 a1_3]] w fun e w' => e = .returned (.agg #[.int .i64 r1, .int .i64 r2, .int .i64 r3, .int .i64 r4]) ∧ Below w.heap.size w w' := by
 have hu47 := Tryz.underlying47
 have HB := Aside0.mk (Below.refl w.heap.size w)
 have H : ((spec_BoxOk.f a0_0 a0_1 a0_2 a0_3).bind fun t272 => (if t272 = true then ((spec_BoxOk.f a1_0 a1_1 a1_2 a1_3).bind fun t273 => (if t273 = true then (if (mx a0_0 a1_0) ≥ (mn a0_2 a1_2) then (some (0, 0, 0, 0)) else (if (mx a0_1 a1_1) ≥ (mn a0_3 a1_3) then (some (0, 0, 0, 0)) else (some (mx a0_0 a1_0, mx a0_1 a1_1, mn a0_2 a1_2, mn a0_3 a1_3)))) else (some (0, 0, 0, 0)))) else (some (0, 0, 0, 0)))) = some (r1, r2, r3, r4) := h
 clear h
 obtain ⟨ji3, hji3⟩ : ∃ j_ : Int, (mx a0_0 a1_0) = j_ := ⟨_, rfl⟩
 replace H : ((spec_BoxOk.f a0_0 a0_1 a0_2 a0_3).bind fun t272 => (if t272 = true then ((spec_BoxOk.f a1_0 a1_1 a1_2 a1_3).bind fun t273 => (if t273 = true then (if (ji3) ≥ (mn a0_2 a1_2) then (some (0, 0, 0, 0)) else (if (mx a0_1 a1_1) ≥ (mn a0_3 a1_3) then (some (0, 0, 0, 0)) else (some (ji3, mx a0_1 a1_1, mn a0_2 a1_2, mn a0_3 a1_3)))) else (some (0, 0, 0, 0)))) else (some (0, 0, 0, 0)))) = some (r1, r2, r3, r4) := by first | (rw [hji3] at H; exact H) | (simp only [hji3] at H ⊢; exact H)
 have hji3_ : (if a0_0 < a1_0 then a1_0 else a0_0) = ji3 := hji3
 obtain ⟨ji4, hji4⟩ : ∃ j_ : Int, (mx a0_1 a1_1) = j_ := ⟨_, rfl⟩
 replace H : ((spec_BoxOk.f a0_0 a0_1 a0_2 a0_3).bind fun t272 => (if t272 = true then ((spec_BoxOk.f a1_0 a1_1 a1_2 a1_3).bind fun t273 => (if t273 = true then (if (ji3) ≥ (mn a0_2 a1_2) then (some (0, 0, 0, 0)) else (if (ji4) ≥ (mn a0_3 a1_3) then (some (0, 0, 0, 0)) else (some (ji3, ji4, mn a0_2 a1_2, mn a0_3 a1_3)))) else (some (0, 0, 0, 0)))) else (some (0, 0, 0, 0)))) = some (r1, r2, r3, r4) := by first | (rw [hji4] at H; exact H) | (simp only [hji4] at H ⊢; exact H)
 have hji4_ : (if a0_1 < a1_1 then a1_1 else a0_1) = ji4 := hji4
 obtain ⟨ji5, hji5⟩ : ∃ j_ : Int, (mn a0_2 a1_2) = j_ := ⟨_, rfl⟩
 replace H : ((spec_BoxOk.f a0_0 a0_1 a0_2 a0_3).bind fun t272 => (if t272 = true then ((spec_BoxOk.f a1_0 a1_1 a1_2 a1_3).bind fun t273 => (if t273 = true then (if (ji3) ≥ (ji5) then (some (0, 0, 0, 0)) else (if (ji4) ≥ (mn a0_3 a1_3) then (some (0, 0, 0, 0)) else (some (ji3, ji4, ji5, mn a0_3 a1_3)))) else (some (0, 0, 0, 0)))) else (some (0, 0, 0, 0)))) = some (r1, r2, r3, r4) := by first | (rw [hji5] at H; exact H) | (simp only [hji5] at H ⊢; exact H)
 have hji5_ : (if a1_2 < a0_2 then a1_2 else a0_2) = ji5 := hji5
 obtain ⟨ji6, hji6⟩ : ∃ j_ : Int, (mn a0_3 a1_3) = j_ := ⟨_, rfl⟩
 replace H : ((spec_BoxOk.f a0_0 a0_1 a0_2 a0_3).bind fun t272 => (if t272 = true then ((spec_BoxOk.f a1_0 a1_1 a1_2 a1_3).bind fun t273 => (if t273 = true then (if (ji3) ≥ (ji5) then (some (0, 0, 0, 0)) else (if (ji4) ≥ (ji6) then (some (0, 0, 0, 0)) else (some (ji3, ji4, ji5, ji6)))) else (some (0, 0, 0, 0)))) else (some (0, 0, 0, 0)))) = some (r1, r2, r3, r4) := by first | (rw [hji6] at H; exact H) | (simp only [hji6] at H ⊢; exact H)
 have hji6_ : (if a1_3 < a0_3 then a1_3 else a0_3) = ji6 := hji6
 replace H := bN H
 obtain ⟨t272, A7, H⟩ := H
 by_cases c8 : t272 = true
 ·subst c8
  rw [if_pos rfl] at H
  replace H := bN H
  obtain ⟨t273, A9, H⟩ := H
  by_cases c10 : t273 = true
  ·subst c10
   rw [if_pos rfl] at H
   by_cases c11 : (ji3) ≥ (ji5)
   ·rw [if_pos c11] at H
    have c11b0 : decide ((ji5) ≤ (ji3)) = true := decide_eq_true c11
    clear c11
    obtain ⟨rfl, rfl, rfl, rfl⟩ := sI4 H
    exact spec_MeetBox.lf0
   ·rw [if_neg c11] at H
    have c11b0 : decide ((ji5) ≤ (ji3)) = false := decide_eq_false c11
    clear c11
    by_cases c31 : (ji4) ≥ (ji6)
    ·rw [if_pos c31] at H
     have c31b0 : decide ((ji6) ≤ (ji4)) = true := decide_eq_true c31
     clear c31
     obtain ⟨rfl, rfl, rfl, rfl⟩ := sI4 H
     exact spec_MeetBox.lf0
    ·rw [if_neg c31] at H
     have c31b0 : decide ((ji6) ≤ (ji4)) = false := decide_eq_false c31
     clear c31
     obtain ⟨rfl, rfl, rfl, rfl⟩ := sI4 H
     go_enter Tryz.func140, Tryz.ntmps140
     go_wp2_with (first | ((with_reducible refine gD 2 ?_); refine bxE #[.int .i64 a0_0, .int .i64 a0_1, .int .i64 a0_2, .int .i64 a0_3] 47 ?_; intro gb268 hg w51 BK268 hb; have GW268 := gE hg; have GE268 := gE hg; replace HB := hB hb; clear hb hg) | ((with_reducible refine gD 3 ?_); refine bxE #[.int .i64 a1_0, .int .i64 a1_1, .int .i64 a1_2, .int .i64 a1_3] 47 ?_; intro gb269 hg w52 BK269 hb; have GW269 := gE hg; have GE269 := gE hg; have NB268_269 := nL (g := gb268) hg; have NB269_268 := nG (g := gb268) hg; replace BK268 := kB (g := gb268) hb; replace HB := hB hb; clear hb hg) | ((with_reducible refine gD 4 ?_); refine bxE #[.int .i64 0, .int .i64 0, .int .i64 0, .int .i64 0] 47 ?_; intro gb270 hg w53 BK270 hb; have GW270 := gE hg; have GE270 := gE hg; have NB268_270 := nL (g := gb268) hg; have NB270_268 := nG (g := gb268) hg; have NB269_270 := nL (g := gb269) hg; have NB270_269 := nG (g := gb269) hg; replace BK268 := kB (g := gb268) hb; replace BK269 := kB (g := gb269) hb; replace HB := hB hb; clear hb hg; have hnb54 := NB268_269.out; have hnc54 := NB269_268.out; have hnb55 := NB268_270.out; have hnc55 := NB270_268.out; have hz56 := cz4 BK268; have hnb57 := NB269_270.out; have hnc57 := NB270_269.out; have hz58 := cz4 BK269) | ((with_reducible refine gD 5 ?_); refine bxE #[.int .i64 0, .int .i64 0, .int .i64 0, .int .i64 0] 47 ?_; intro gb271 hg w59 BK271 hb; have GW271 := gE hg; have GE271 := gE hg; have NB268_271 := nL (g := gb268) hg; have NB271_268 := nG (g := gb268) hg; have NB269_271 := nL (g := gb269) hg; have NB271_269 := nG (g := gb269) hg; have NB270_271 := nL (g := gb270) hg; have NB271_270 := nG (g := gb270) hg; replace BK268 := kB (g := gb268) hb; replace BK269 := kB (g := gb269) hb; replace BK270 := kB (g := gb270) hb; replace HB := hB hb; clear hb hg; have hnb60 := NB271_268.out; have hnc60 := NB268_271.out; have hnb61 := NB271_269.out; have hnc61 := NB269_271.out; have hnb62 := NB271_270.out; have hnc62 := NB270_271.out; have hz63 := cz4 BK271; have hz64 := cz4 BK268) | ((with_reducible refine gC 171 ?_); refine cL (some 28) Tryz.func171 #[.agg #[.int .i64 a0_0, .int .i64 a0_1, .int .i64 a0_2, .int .i64 a0_3]] ?_; (with_reducible refine (spec_BoxOk.calls a0_0 a0_1 a0_2 a0_3 _ _ A7.out).mono ?_); rintro e w65 ⟨rfl, hb⟩; refine ⟨_, rfl, ?_⟩; replace BK268 := kB (g := gb268) hb; replace BK269 := kB (g := gb269) hb; replace BK270 := kB (g := gb270) hb; replace BK271 := Aside0.mk (blk_below (g := gb271) (o := .cells #[.int .i64 ji3, .int .i64 ji4, .int .i64 ji5, .int .i64 ji6] 47 (0, 0)) kS hb); replace HB := hB hb; (try clear hb); (try clear hb2); (try clear hk); (try clear hi); have hz66 := cz4 BK269) | (go_at_call 171; (with_reducible refine (spec_BoxOk.calls a1_0 a1_1 a1_2 a1_3 _ _ A9.out).mono ?_); rintro e w67 ⟨rfl, hb⟩; replace BK268 := kB (g := gb268) hb; replace BK269 := kB (g := gb269) hb; replace BK270 := kB (g := gb270) hb; replace BK271 := kB (g := gb271) hb; replace HB := hB hb; (try clear hb); (try clear hb2); (try clear hk); (try clear hi); have hz68 := cz4 BK271; have hz69 := cz4 BK270))
     refine bodyPost_ret (results_cell_row rfl _ _ gb270 47 #[.int .i64 ji3, .int .i64 ji4, .int .i64 ji5, .int .i64 ji6] (0, 0) _ rfl kS Tryz.underlying47 rfl (by kernel_rfl)) rfl ?_
     exact ⟨by first | rfl | (simp [errW_none, errW_some] <;> rfl) | (simp only [← hji3, ← hji4, ← hji5, ← hji6]; first | rfl | (simp [errW_none, errW_some] <;> rfl)) | (simp [*, errW_none, errW_some] <;> rfl), bS⟩
  ·obtain rfl := Bool.eq_false_iff.mpr c10
   rw [if_neg nF] at H
   obtain ⟨rfl, rfl, rfl, rfl⟩ := sI4 H
   go_enter Tryz.func140, Tryz.ntmps140
   go_wp2_with (first | ((with_reducible refine gD 2 ?_); refine bxE #[.int .i64 a0_0, .int .i64 a0_1, .int .i64 a0_2, .int .i64 a0_3] 47 ?_; intro gb268 hg w70 BK268 hb; have GW268 := gE hg; have GE268 := gE hg; replace HB := hB hb; clear hb hg) | ((with_reducible refine gD 3 ?_); refine bxE #[.int .i64 a1_0, .int .i64 a1_1, .int .i64 a1_2, .int .i64 a1_3] 47 ?_; intro gb269 hg w71 BK269 hb; have GW269 := gE hg; have GE269 := gE hg; have NB268_269 := nL (g := gb268) hg; have NB269_268 := nG (g := gb268) hg; replace BK268 := kB (g := gb268) hb; replace HB := hB hb; clear hb hg) | ((with_reducible refine gD 4 ?_); refine bxE #[.int .i64 0, .int .i64 0, .int .i64 0, .int .i64 0] 47 ?_; intro gb270 hg w72 BK270 hb; have GW270 := gE hg; have GE270 := gE hg; have NB268_270 := nL (g := gb268) hg; have NB270_268 := nG (g := gb268) hg; have NB269_270 := nL (g := gb269) hg; have NB270_269 := nG (g := gb269) hg; replace BK268 := kB (g := gb268) hb; replace BK269 := kB (g := gb269) hb; replace HB := hB hb; clear hb hg; have hnb73 := NB268_269.out; have hnc73 := NB269_268.out; have hnb74 := NB268_270.out; have hnc74 := NB270_268.out; have hz75 := cz4 BK268; have hnb76 := NB269_270.out; have hnc76 := NB270_269.out; have hz77 := cz4 BK269) | ((with_reducible refine gD 5 ?_); refine bxE #[.int .i64 0, .int .i64 0, .int .i64 0, .int .i64 0] 47 ?_; intro gb271 hg w78 BK271 hb; have GW271 := gE hg; have GE271 := gE hg; have NB268_271 := nL (g := gb268) hg; have NB271_268 := nG (g := gb268) hg; have NB269_271 := nL (g := gb269) hg; have NB271_269 := nG (g := gb269) hg; have NB270_271 := nL (g := gb270) hg; have NB271_270 := nG (g := gb270) hg; replace BK268 := kB (g := gb268) hb; replace BK269 := kB (g := gb269) hb; replace BK270 := kB (g := gb270) hb; replace HB := hB hb; clear hb hg; have hnb79 := NB271_268.out; have hnc79 := NB268_271.out; have hnb80 := NB271_269.out; have hnc80 := NB269_271.out; have hnb81 := NB271_270.out; have hnc81 := NB270_271.out; have hz82 := cz4 BK271; have hz83 := cz4 BK268) | ((with_reducible refine gC 171 ?_); refine cL (some 28) Tryz.func171 #[.agg #[.int .i64 a0_0, .int .i64 a0_1, .int .i64 a0_2, .int .i64 a0_3]] ?_; (with_reducible refine (spec_BoxOk.calls a0_0 a0_1 a0_2 a0_3 _ _ A7.out).mono ?_); rintro e w84 ⟨rfl, hb⟩; refine ⟨_, rfl, ?_⟩; replace BK268 := kB (g := gb268) hb; replace BK269 := kB (g := gb269) hb; replace BK270 := kB (g := gb270) hb; replace BK271 := Aside0.mk (blk_below (g := gb271) (o := .cells #[.int .i64 ji3, .int .i64 ji4, .int .i64 ji5, .int .i64 ji6] 47 (0, 0)) kS hb); replace HB := hB hb; (try clear hb); (try clear hb2); (try clear hk); (try clear hi); have hz85 := cz4 BK269) | (go_at_call 171; (with_reducible refine (spec_BoxOk.calls a1_0 a1_1 a1_2 a1_3 _ _ A9.out).mono ?_); rintro e w86 ⟨rfl, hb⟩; replace BK268 := kB (g := gb268) hb; replace BK269 := kB (g := gb269) hb; replace BK270 := kB (g := gb270) hb; replace BK271 := kB (g := gb271) hb; replace HB := hB hb; (try clear hb); (try clear hb2); (try clear hk); (try clear hi); have hz87 := cz4 BK270))
   refine bodyPost_ret (results_cell_row rfl _ _ gb270 47 #[.int .i64 0, .int .i64 0, .int .i64 0, .int .i64 0] (0, 0) _ rfl kS Tryz.underlying47 rfl (by kernel_rfl)) rfl ?_
   exact ⟨by first | rfl | (simp [errW_none, errW_some] <;> rfl) | (simp only [← hji3, ← hji4, ← hji5, ← hji6]; first | rfl | (simp [errW_none, errW_some] <;> rfl)) | (simp [*, errW_none, errW_some] <;> rfl), bS⟩
 ·obtain rfl := Bool.eq_false_iff.mpr c8
  rw [if_neg nF] at H
  obtain ⟨rfl, rfl, rfl, rfl⟩ := sI4 H
  go_enter Tryz.func140, Tryz.ntmps140
  go_wp2_with (first | ((with_reducible refine gD 2 ?_); refine bxE #[.int .i64 a0_0, .int .i64 a0_1, .int .i64 a0_2, .int .i64 a0_3] 47 ?_; intro gb268 hg w88 BK268 hb; have GW268 := gE hg; have GE268 := gE hg; replace HB := hB hb; clear hb hg) | ((with_reducible refine gD 3 ?_); refine bxE #[.int .i64 a1_0, .int .i64 a1_1, .int .i64 a1_2, .int .i64 a1_3] 47 ?_; intro gb269 hg w89 BK269 hb; have GW269 := gE hg; have GE269 := gE hg; have NB268_269 := nL (g := gb268) hg; have NB269_268 := nG (g := gb268) hg; replace BK268 := kB (g := gb268) hb; replace HB := hB hb; clear hb hg) | ((with_reducible refine gD 4 ?_); refine bxE #[.int .i64 0, .int .i64 0, .int .i64 0, .int .i64 0] 47 ?_; intro gb270 hg w90 BK270 hb; have GW270 := gE hg; have GE270 := gE hg; have NB268_270 := nL (g := gb268) hg; have NB270_268 := nG (g := gb268) hg; have NB269_270 := nL (g := gb269) hg; have NB270_269 := nG (g := gb269) hg; replace BK268 := kB (g := gb268) hb; replace BK269 := kB (g := gb269) hb; replace HB := hB hb; clear hb hg; have hnb91 := NB268_269.out; have hnc91 := NB269_268.out; have hnb92 := NB268_270.out; have hnc92 := NB270_268.out; have hz93 := cz4 BK268; have hnb94 := NB269_270.out; have hnc94 := NB270_269.out; have hz95 := cz4 BK269) | ((with_reducible refine gD 5 ?_); refine bxE #[.int .i64 0, .int .i64 0, .int .i64 0, .int .i64 0] 47 ?_; intro gb271 hg w96 BK271 hb; have GW271 := gE hg; have GE271 := gE hg; have NB268_271 := nL (g := gb268) hg; have NB271_268 := nG (g := gb268) hg; have NB269_271 := nL (g := gb269) hg; have NB271_269 := nG (g := gb269) hg; have NB270_271 := nL (g := gb270) hg; have NB271_270 := nG (g := gb270) hg; replace BK268 := kB (g := gb268) hb; replace BK269 := kB (g := gb269) hb; replace BK270 := kB (g := gb270) hb; replace HB := hB hb; clear hb hg; have hnb97 := NB271_268.out; have hnc97 := NB268_271.out; have hnb98 := NB271_269.out; have hnc98 := NB269_271.out; have hnb99 := NB271_270.out; have hnc99 := NB270_271.out; have hz100 := cz4 BK271; have hz101 := cz4 BK268) | ((with_reducible refine gC 171 ?_); refine cL (some 28) Tryz.func171 #[.agg #[.int .i64 a0_0, .int .i64 a0_1, .int .i64 a0_2, .int .i64 a0_3]] ?_; (with_reducible refine (spec_BoxOk.calls a0_0 a0_1 a0_2 a0_3 _ _ A7.out).mono ?_); rintro e w102 ⟨rfl, hb⟩; refine ⟨_, rfl, ?_⟩; replace BK268 := kB (g := gb268) hb; replace BK269 := kB (g := gb269) hb; replace BK270 := kB (g := gb270) hb; replace BK271 := Aside0.mk (blk_below (g := gb271) (o := .cells #[.int .i64 ji3, .int .i64 ji4, .int .i64 ji5, .int .i64 ji6] 47 (0, 0)) kS hb); replace HB := hB hb; (try clear hb); (try clear hb2); (try clear hk); (try clear hi); have hz103 := cz4 BK270))
  refine bodyPost_ret (results_cell_row rfl _ _ gb270 47 #[.int .i64 0, .int .i64 0, .int .i64 0, .int .i64 0] (0, 0) _ rfl kS Tryz.underlying47 rfl (by kernel_rfl)) rfl ?_
  exact ⟨by first | rfl | (simp [errW_none, errW_some] <;> rfl) | (simp only [← hji3, ← hji4, ← hji5, ← hji6]; first | rfl | (simp [errW_none, errW_some] <;> rfl)) | (simp [*, errW_none, errW_some] <;> rfl), bS⟩

end Go.Proofs.YtncfipboidmfbaaGreat.QFnExactMergeBand
