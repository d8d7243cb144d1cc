-- Made out of the translation by a program of this session (a changed copy of the print). Not trusted: Lean checks it.
import Derived.Test.YtigodjcnkgebaaaQFnMemoryx0
import Derived.Test.YtigodjcnkgebaaaQFnMemoryx1
import Derived.Test.YtigodjcnkgebaaaQFnMemoryx2
import Derived.Test.YtigodjcnkgebaaaQFnMemoryx3
import Derived.Test.YtigodjcnkgebaaaQFnMemoryx4
import Derived.Test.YtigodjcnkgebaaaQFnMemoryx9
import Derived.Test.YtigodjcnkgebaaaQFnMemoryx10
import Derived.Test.YtigodjcnkgebaaaQFnMemoryx11
namespace Go.Proofs.Ytigodjcnkgebaaa.QFnMemory
open Go.RowKit Go.Proofs.YtigodjcnkgebaaaW.PrintWords Go.Proofs.YtigodjcnkgebaaaW.PrintLast Go.Proofs.YtigodjcnkgebaaaW.PrintMore
attribute [local go_sem] max2_int min2_int max_two min_two max_three min_three max_four min_four   -- for this text's walks alone
set_option linter.unusedVariables false
set_option linter.unusedSimpArgs false
set_option maxHeartbeats 8000000
set_option maxRecDepth 100000

/-! ### laws_FnMemory: function 14 -/
mutual
def laws_FnMemory.l0 : Nat → List (S45) → Int → Int → Bool → Int → Int → Int → List (List Int) → List (S45) → Option (Bool)
 | 0, _, _, _, _, _, _, _, _, _ => none
 | k + 1, x3, x4, x6, x8, x9, x609000, x609001, x609002, x609003 => if x9 < 3 then (laws_FnMemory.l1 k x3 x4 x6 x8 x9 0 x609000 x609001 x609002 x609003) else (if x8 = true then ((impl_BandOk.f k x609000 x609001 x609002 x609003).bind fun t621 => (if t621 = true then ((impl_RowsOfBand.f k x609000 x609001 x609002 x609003).bind fun t622 => ((some (([] : List (S45)) : List (S45))).bind fun y625 => (if y625.length + x3.length < 2199023255552 then ((some (y625 ++ x3 : List (S45))).bind fun y628 => (if y628.length + x3.length < 2199023255552 then ((some (y628 ++ x3 : List (S45))).bind fun y631 => (if y631.length + x3.length < 2199023255552 then ((impl_RenderBand.f k (y631 ++ x3) x4 x6).bind fun t637 => ((impl_SameRows.f k t622 t637).bind fun t640 => (some t640))) else (none))) else (none))) else (none)))) else (some false))) else (some false))
def laws_FnMemory.l1 : Nat → List (S45) → Int → Int → Bool → Int → Int → Int → Int → List (List Int) → List (S45) → Option (Bool)
 | 0, _, _, _, _, _, _, _, _, _, _ => none
 | k + 1, x3, x4, x6, x8, x9, x10, x609000, x609001, x609002, x609003 => if x10 < (x3.length : Int) then (if 0 ≤ x10 then ((impl_AddToBand.f k x609000 x609001 x609002 x609003 ((rd_T45 x3 x10).f0) ((rd_T45 x3 x10).f1) ((rd_T45 x3 x10).f2.f0) ((rd_T45 x3 x10).f2.f1) ((rd_T45 x3 x10).f2.f2) ((rd_T45 x3 x10).f2.f3)).bind fun bt610 => (if bt610.2.2.2.2 = true then ((impl_BandCells.f k bt610.1 bt610.2.1 bt610.2.2.1 bt610.2.2.2.1).bind fun t620 => (if t620 > 60 then (some false) else (laws_FnMemory.l1 k x3 x4 x6 x8 x9 (wrap64 (x10 + 1)) bt610.1 bt610.2.1 bt610.2.2.1 bt610.2.2.2.1))) else (some false))) else (none)) else (laws_FnMemory.l0 k x3 x4 x6 x8 (wrap64 (x9 + 1)) x609000 x609001 x609002 x609003)
end
def laws_FnMemory.f (k : Nat) (l0 : List Int) : Option (Bool) := (laws_big.f l0).bind fun t589 => (if t589 = true then (some true) else ((spec_DrawList.f k l0).bind fun t590 => ((spec_DrawHeight.f k l0).bind fun t593 => ((spec_DrawPlaces.f k l0).bind fun t594 => (if 0 < (t594.length : Int) then ((spec_CountBands.f t593).bind fun t598 => (if t598 = 0 then (none) else ((impl_NewBand.f k t593 (Int.tmod (rd t594 0) t598)).bind fun bt599 => (laws_FnMemory.l0 k t590 t593 (Int.tmod (rd t594 0) t598) bt599.2.2.2.2 0 bt599.1 bt599.2.1 bt599.2.2.1 bt599.2.2.2.1)))) else (none))))))
def laws_FnMemory.T14 : Bool × List (List Nat × List Nat) := (true, [([], []), ([], []), ([], []), ([1, 2], [1, 2]), ([3], [3]), ([0, 4], [0, 4]), ([5], [5]), ([6], [6]), ([6], [6]), ([], []), ([9, 7, 5, 0, 1, 2, 3, 4, 5, 6, 7, 9], [7, 9]), ([8, 10, 0, 1, 2, 3, 4, 5, 6, 7, 8, 9, 10], [8])])
def laws_FnMemory.B14 : List Nat := [0, 0, 0, 6, 14, 31, 63, 127, 127, 0, 767, 2047]
theorem laws_FnMemory.tab14 : rtab .any (opsOf Try.f14 14) = laws_FnMemory.T14 := by kernel_rfl
theorem laws_FnMemory.bits14 : waitsOk laws_FnMemory.T14.2 laws_FnMemory.B14 = true := by kernel_rfl
theorem laws_FnMemory.calls (k : Nat) (A0 : Option Addr) (c0 : Nat) (l0 : List Int) (r : Bool) (w : World) (hr0 : Kd.C (Kd.int .u8) w A0 l0.length l0) (hc0 : l0.length ≤ c0) (h : laws_FnMemory.f k l0 = some r) (hT : r = true) :
  Calls Try.prog 14 #[.slice A0 l0.length c0] w fun e w' => e = .returned (.bool r) ∧ Below w.heap.size w w' := by
 have hu58 := Try.underlying58
 have hu45 := Try.underlying45
 have HR0 := Aside0.mk hr0
 have HC0 := Aside0.mk hc0
 clear hr0 hc0
 have HB := Aside0.mk (Below.refl w.heap.size w)
 have H : ((laws_big.f l0).bind fun t589 => (if t589 = true then (some true) else ((spec_DrawList.f k l0).bind fun t590 => ((spec_DrawHeight.f k l0).bind fun t593 => ((spec_DrawPlaces.f k l0).bind fun t594 => (if 0 < (t594.length : Int) then ((spec_CountBands.f t593).bind fun t598 => (if t598 = 0 then (none) else ((impl_NewBand.f k t593 (Int.tmod (rd t594 0) t598)).bind fun bt599 => (laws_FnMemory.l0 k t590 t593 (Int.tmod (rd t594 0) t598) bt599.2.2.2.2 0 bt599.1 bt599.2.1 bt599.2.2.1 bt599.2.2.2.1)))) else (none))))))) = some r := h
 clear h
 replace H := bN H
 obtain ⟨t589, A2, H⟩ := H
 by_cases c3 : t589 = true
 ·subst c3
  rw [if_pos rfl] at H
  obtain rfl := Option.some.inj H
  (try clear hT)
  go_enter Try.func14, Try.ntmps14
  go_wp2_with (first | ((with_reducible refine gC 15 ?_); refine cL (some 14) Try.func15 #[.slice A0 l0.length c0] ?_; (with_reducible refine (laws_big.calls _ _ l0 _ _ ?side1 ?side2 A2.out).mono ?_); (case side1 => repeat (first | exact HR0.out | (with_reducible refine Kd.C_alloc ?_ _) | (with_reducible refine Kd.C_drewN ?_ _) | (with_reducible refine Kd.C_drew ?_))); (case side2 => exact HC0.out); rintro e w' ⟨rfl, ⟨nd, rfl⟩⟩; refine ⟨_, rfl, ?_⟩))
  go_ret
  exact ⟨eS, bS⟩
 ·obtain rfl := Bool.eq_false_iff.mpr c3
  rw [if_neg nF] at H
  replace H := bN H
  obtain ⟨t590, A4, H⟩ := H
  replace H := bN H
  obtain ⟨t593, A5, H⟩ := H
  replace H := bN H
  obtain ⟨t594, A6, H⟩ := H
  by_cases c7 : 0 < (t594.length : Int)
  ·rw [if_pos c7] at H
   have c7b0 : decide (0 < (t594.length : Int)) = true := decide_eq_true c7
   have c7b1 : decide (0 < t594.length) = true := decide_eq_true (by omega)
   clear c7
   replace H := bN H
   obtain ⟨t598, A8, H⟩ := H
   by_cases c9 : t598 = 0
   ·rw [if_pos c9] at H
    exact absurd H (by simp)
   ·rw [if_neg c9] at H
    have c9b0 : (t598 == 0) = false := beq_eq_false_iff_ne.mpr c9
    have c9b1 : (t598 != 0) = true := bne_iff_ne.mpr c9
    replace H := bN H
    obtain ⟨⟨t599, t600, t601, t604, t607⟩, A10, H⟩ := H
    have H' := Aside0.mk H
    clear H
    go_enter Try.func14, Try.ntmps14
    try go_wp2_with (first | ((with_reducible refine gC 15 ?_); refine cL (some 14) Try.func15 #[.slice A0 l0.length c0] ?_; (with_reducible refine (laws_big.calls _ _ l0 _ _ ?side1 ?side2 A2.out).mono ?_); (case side1 => repeat (first | exact HR0.out | (with_reducible refine Kd.C_alloc ?_ _) | (with_reducible refine Kd.C_drewN ?_ _) | (with_reducible refine Kd.C_drew ?_))); (case side2 => exact HC0.out); rintro e w' ⟨rfl, ⟨nd, rfl⟩⟩; refine ⟨_, rfl, ?_⟩) | ((with_reducible refine gC 16 ?_); refine cL (some 16) Try.func16 #[.slice A0 l0.length c0] ?_; (with_reducible refine (spec_DrawList.calls k _ _ l0 t590 _ ?side1 ?side2 A4.out).mono ?_); (case side1 => repeat (first | exact HR0.out | (with_reducible refine Kd.C_alloc ?_ _) | (with_reducible refine Kd.C_drewN ?_ _) | (with_reducible refine Kd.C_drew ?_))); (case side2 => exact HC0.out); rintro e w11 ⟨v591, rfl, ho0, hb⟩; refine ⟨_, rfl, ?_⟩; have HO592 := Aside0.mk (Kd.N_lower (Kd.N_mono (ok' := fun k_ => True) (Kd.S_N (Kd.S_bound ho0)) (fun k_ hk_ => trivial)) (below_size bS)); replace HB := hB hb; (try clear hb); (try clear hb2); (try clear hk); (try clear hi); (try clear ho0)) | ((with_reducible refine gC 17 ?_); refine cL (some 18) Try.func17 #[.slice A0 l0.length c0] ?_; (with_reducible refine (spec_DrawHeight.calls k _ _ l0 t593 _ ?side1 ?side2 A5.out).mono ?_); (case side1 => exact cS (Kd.C_below HR0.out HB.out)); (case side2 => exact HC0.out); rintro e w12 ⟨rfl, hb⟩; refine ⟨_, rfl, ?_⟩; replace HO592 := Aside0.mk (Kd.N_below (by (with_reducible repeat (first | apply Kd.N_alloc | apply Kd.N_drewN | apply Kd.N_drew)); exact HO592.out) hb); replace HB := hB hb; (try clear hb); (try clear hb2); (try clear hk); (try clear hi)) | ((with_reducible refine gC 66 ?_); refine cL (some 20) Try.func66 #[.slice A0 l0.length c0] ?_; (with_reducible refine (spec_DrawPlaces.calls k _ _ l0 t594 _ ?side1 ?side2 A6.out).mono ?_); (case side1 => exact cS (Kd.C_below HR0.out HB.out)); (case side2 => exact HC0.out); rintro e w13 ⟨v595, rfl, ho0, hb⟩; refine ⟨_, rfl, ?_⟩; have HO596 := Aside0.mk (Kd.R_lower ho0 (below_size bS)); replace HO592 := Aside0.mk (Kd.N_elder' (by (with_reducible repeat (first | apply Kd.N_alloc | apply Kd.N_drewN | apply Kd.N_drew)); exact HO592.out) (Kd.R_base ho0) hb); replace HB := hB hb; (try clear hb); (try clear hb2); (try clear hk); (try clear hi); (try clear ho0)))
    replace HO592 := Aside0.mk (Kd.N_drew HO592.out)
    replace HO596 := Aside0.mk (Kd.R_drew HO596.out)
    replace HB := Aside0.mk (below_drew1 HB.out)
    obtain ⟨Ao15, co15, eo15⟩ := Kd.R_slice HO596.out
    (first | subst eo15 | (injection eo15 with f1_ f2_ f3_; have f4_ := f1_.symm; have f5_ := f3_.symm; clear f1_ f2_ f3_; subst f4_; subst f5_))
    have p597 : 0 ≤ (0 : Int) := (by omega)
    have q597 : 0 < (t594.length : Int) := of_decide_eq_true (by first | (with_reducible assumption) | assumption)
    obtain ⟨ad597, e597, hx597_0⟩ := Kd.at_int (Kd.R_reads' HO596.out).2.2 0 p597 q597
    cases e597
    have qi597 : (0 < t594.length) = True := eq_true (by omega)
    (try rw [show ((0 : Int)).toNat = 0 from rfl] at hx597_0)
    (try rw [Addr.add_zero'] at hx597_0)
    replace p597 := eq_true p597
    replace q597 := eq_true q597
    refine start_ (n := 7) (S := fun w' => w'.cell? ad597 = some (.int .i64 (rd t594 0))) (ds := []) #[false, false, false, false, false, false, false] (by kernel_rfl) rfl rfl (hx597_0) (fun hHeld => ?_)
    generalize w13.drew = w14 at HO592 HO596 HB hx597_0 hHeld ⊢
    refine pU 0 (some 21) #[true, false, false, false, false, false, false] ?_
    refine pU 1 (some 22) #[true, true, false, false, false, false, false] ?_
    refine pU 3 (some 24) #[true, true, false, true, false, false, false] ?_
    refine tK 2 (some 23) #[true, true, true, true, false, false, false] ?_
    refine one_ (i := 4) (N := some 25) #[true, true, true, true, true, false, false] rfl rfl (by kernel_rfl) (by decide) (fun K hK => ?_)
    refine goes_ Try.func67 (by kernel_rfl) rfl #[.int .i64 t593] (by rfl) rfl rfl (by (try simp only [List.map_toArray, List.map_cons, List.map_nil]); first | done | rfl | (simp only [List.length_drop, List.length_take]; rfl)) ?_
    with_reducible refine (spec_CountBands.calls t593 t598 _ A8.out).mono ?_
    rintro e w' ⟨rfl, ⟨nd, rfl⟩⟩
    refine ⟨_, rfl, ?_⟩
    refine hK.out _ _ (hHeld) (fun hHeld => ?_)
    clear hK K
    refine norm_ (a' := ?_) ?_ ?_
    rotate_left
    ·show Act.put _ (some 25) _ = _
     simp only [Act.put, List.setIfInBounds_toArray, List.set_cons_zero, List.set_cons_succ, i64_w, i32_w]
     rfl
    refine pU 5 (some 26) #[true, true, true, true, true, true, false] ?_
    refine pU 6 (some 6) #[true, true, true, true, true, true, true] ?_
    refine done_ (by kernel_rfl) ?_
    try go_wp2_with (first | ((with_reducible refine gC 68 ?_); refine cL (some 30) Try.func68 #[.int .i64 t593, .int .i64 (Int.tmod (rd t594 0) t598)] ?_; (with_reducible refine (impl_NewBand.calls k t593 (Int.tmod (rd t594 0) t598) t599 t600 t601 t604 t607 _ A10.out).mono ?_); rintro e w16 ⟨v602, v605, rfl, ho0, ho1, hb⟩; refine ⟨_, rfl, ?_⟩; have HO603 := Aside0.mk (Kd.N_lower (Kd.N_mono (ok' := fun k_ => some k_ ≠ (v605 : Value).ownBlock ∧ some k_ ≠ (v591 : Value).ownBlock ∧ some k_ ≠ (.slice (some ad597) t594.length co15 : Value).ownBlock) (Kd.S_N (Kd.S_bound (Kd.S_apart' ho0 (Kd.S_typed ho1) (by decide)))) (fun k_ hk_ => ⟨hk_.1.2, (Kd.fresh' (Kd.N_lt (by (with_reducible repeat (first | apply Kd.N_alloc | apply Kd.N_drewN | apply Kd.N_drew)); exact HO592.out)) k_ hk_.2.1), (Kd.fresh' (Kd.R_lt (rS HO596)) k_ hk_.2.1)⟩)) (below_size bS)); have HO606 := Aside0.mk (Kd.N_lower (Kd.N_mono (ok' := fun k_ => some k_ ≠ (v602 : Value).ownBlock ∧ some k_ ≠ (v591 : Value).ownBlock ∧ some k_ ≠ (.slice (some ad597) t594.length co15 : Value).ownBlock) (Kd.S_N (Kd.S_bound (Kd.S_apart' ho1 (Kd.S_typed ho0) (by decide)))) (fun k_ hk_ => ⟨hk_.1.2, (Kd.fresh' (Kd.N_lt (by (with_reducible repeat (first | apply Kd.N_alloc | apply Kd.N_drewN | apply Kd.N_drew)); exact HO592.out)) k_ hk_.2.1), (Kd.fresh' (Kd.R_lt (rS HO596)) k_ hk_.2.1)⟩)) (below_size bS)); replace HO592 := Aside0.mk (Kd.N_mono (Kd.N_told (Kd.N_told (Kd.N_old (by (with_reducible repeat (first | apply Kd.N_alloc | apply Kd.N_drewN | apply Kd.N_drew)); exact HO592.out) hb) (Kd.S_base ho0)) (Kd.S_base ho1)) (fun _ h_ => h_.1)); replace HO596 := Aside0.mk (Kd.R_below (rS HO596) hb); replace HB := hB hb; (try clear hb); (try clear hb2); (try clear hk); (try clear hi); (try clear ho0); (try clear ho1)) | ((with_reducible refine gD 7 ?_); refine bxE #[.int .i64 0, .int .i64 0, .slice none 0 0, .slice none 0 0] 58 ?_; intro gb608 hg w17 BK608 hb; have GW608 := gE hg; have GE608 := gE hg; replace HO592 := Aside0.mk (Kd.N_below (Kd.N_elderB (by (with_reducible repeat (first | apply Kd.N_alloc | apply Kd.N_drewN | apply Kd.N_drew)); exact HO592.out) gb608 (Nat.le_of_eq hg.symm)) hb); replace HO596 := Aside0.mk (Kd.R_below (rS HO596) hb); replace HO603 := Aside0.mk (Kd.N_below (Kd.N_elderB (by (with_reducible repeat (first | apply Kd.N_alloc | apply Kd.N_drewN | apply Kd.N_drew)); exact HO603.out) gb608 (Nat.le_of_eq hg.symm)) hb); replace HO606 := Aside0.mk (Kd.N_below (Kd.N_elderB (by (with_reducible repeat (first | apply Kd.N_alloc | apply Kd.N_drewN | apply Kd.N_drew)); exact HO606.out) gb608 (Nat.le_of_eq hg.symm)) hb); replace HB := hB hb; clear hb hg; have hcz18_0 : w17.cell? ⟨gb608, 0, none⟩ = some (.int .i64 0) := (blk_cell BK608.out 0).trans rfl; have hcz18_1 : w17.cell? ⟨gb608, 1, none⟩ = some (.int .i64 0) := (blk_cell BK608.out 1).trans rfl; have hcz18_2 : w17.cell? ⟨gb608, 2, none⟩ = some (.slice none 0 0) := (blk_cell BK608.out 2).trans rfl; have hcz18_3 : w17.cell? ⟨gb608, 3, none⟩ = some (.slice none 0 0) := (blk_cell BK608.out 3).trans rfl; have hfz18_0 := blk_frozen BK608.out 0; have hfz18_1 := blk_frozen BK608.out 1; have hfz18_2 := blk_frozen BK608.out 2; have hfz18_3 := blk_frozen BK608.out 3; obtain ⟨Ao19, co19, eo19⟩ := Kd.N_slice HO603.out; subst eo19; obtain ⟨Ao20, co20, eo20⟩ := Kd.N_slice HO606.out; subst eo20))
    go_loopg [9] k (fun kq v9 w' => ∃ (x9_1 : Int) (x609000_1 : Int) (x609001_1 : Int) (x609002_1 : List (List Int)) (x609003_1 : List (S45)) (u609002 : Value) (u609003 : Value), v9 = .int .i64 x9_1 ∧ Aside0 (laws_FnMemory.l0 kq t590 t593 (Int.tmod (rd t594 0) t598) t607 x9_1 x609000_1 x609001_1 x609002_1 x609003_1 = some r) ∧ Aside0 (kq ≤ k) ∧ Aside0 (Kd.N k45 45 w' w.heap.size (fun k_ => some k_ ≠ (u609002 : Value).ownBlock ∧ some k_ ≠ (u609003 : Value).ownBlock ∧ k_ ≠ gb608) v591 t590) ∧ Aside0 (Kd.N (Kd.slice 3 (Kd.int .i64)) 71 w' w.heap.size (fun k_ => some k_ ≠ (v591 : Value).ownBlock ∧ some k_ ≠ (u609003 : Value).ownBlock ∧ k_ ≠ gb608) u609002 x609002_1) ∧ Aside0 (Kd.N k45 45 w' w.heap.size (fun k_ => some k_ ≠ (v591 : Value).ownBlock ∧ some k_ ≠ (u609002 : Value).ownBlock ∧ k_ ≠ gb608) u609003 x609003_1) ∧ Aside0 (w'.heap[gb608]? = some (.cells #[.int .i64 x609000_1, .int .i64 x609001_1, u609002, u609003] 58 (0, 0))) ∧ Aside0 (Below w.heap.size w w'))
    case atStart => exact ⟨(0), (t599), (t600), (t601), (t604), (.slice Ao19 t601.length co19), (.slice Ao20 t604.length co20), (by first | rfl | (simp; done) | (simp [*]; done)), H', ⟨Nat.le_refl _⟩, ⟨by (with_reducible repeat (first | apply Kd.N_alloc | apply Kd.N_drewN | apply Kd.N_drew)); exact Kd.N_mono (Kd.N_far (p := ⟨gb608, 3, none⟩) (Kd.N_far (p := ⟨gb608, 2, none⟩) (Kd.N_far (p := ⟨gb608, 1, none⟩) (Kd.N_far (p := ⟨gb608, 0, none⟩) (Kd.N_mono HO592.out (fun k_ hk => (⟨hk, hk.2⟩ : _ ∧ k_ ≠ gb608))) (fun _ hk => hk.2) (.int .i64 t599)) (fun _ hk => hk.2) (.int .i64 t600)) (fun _ hk => hk.2) (.slice Ao19 t601.length co19)) (fun _ hk => hk.2) (.slice Ao20 t604.length co20)) (fun _ hk => ⟨hk.1.1.1.2, ⟨hk.1.1.2, hk.1.2⟩⟩)⟩, ⟨by (with_reducible repeat (first | apply Kd.N_alloc | apply Kd.N_drewN | apply Kd.N_drew)); exact Kd.N_mono (Kd.N_far (p := ⟨gb608, 3, none⟩) (Kd.N_far (p := ⟨gb608, 2, none⟩) (Kd.N_far (p := ⟨gb608, 1, none⟩) (Kd.N_far (p := ⟨gb608, 0, none⟩) (Kd.N_mono HO603.out (fun k_ hk => (⟨hk, hk.2⟩ : _ ∧ k_ ≠ gb608))) (fun _ hk => hk.2) (.int .i64 t599)) (fun _ hk => hk.2) (.int .i64 t600)) (fun _ hk => hk.2) (.slice Ao19 t601.length co19)) (fun _ hk => hk.2) (.slice Ao20 t604.length co20)) (fun _ hk => ⟨hk.1.1.2.1, ⟨hk.1.1.1, hk.1.2⟩⟩)⟩, ⟨by (with_reducible repeat (first | apply Kd.N_alloc | apply Kd.N_drewN | apply Kd.N_drew)); exact Kd.N_mono (Kd.N_far (p := ⟨gb608, 3, none⟩) (Kd.N_far (p := ⟨gb608, 2, none⟩) (Kd.N_far (p := ⟨gb608, 1, none⟩) (Kd.N_far (p := ⟨gb608, 0, none⟩) (Kd.N_mono HO606.out (fun k_ hk => (⟨hk, hk.2⟩ : _ ∧ k_ ≠ gb608))) (fun _ hk => hk.2) (.int .i64 t599)) (fun _ hk => hk.2) (.int .i64 t600)) (fun _ hk => hk.2) (.slice Ao19 t601.length co19)) (fun _ hk => hk.2) (.slice Ao20 t604.length co20)) (fun _ hk => ⟨hk.1.1.2.1, ⟨hk.1.1.1, hk.1.2⟩⟩)⟩, ⟨kS⟩, ⟨bS⟩⟩
    case round =>
     clear H'
     try clear c1
     try clear p2
     try clear c3
     try clear p5
     try clear q5
     try clear hx5
     try clear qi5
     try clear c6
     try clear c7
     try clear c7b0
     try clear c7b1
     try clear c9
     try clear c9b0
     try clear c9b1
     try clear c14
     try clear c15
     try clear c16
     try clear c17
     try clear hcz18_0
     try clear hcz18_1
     try clear hcz18_2
     try clear hcz18_3
     try clear hfz18_0
     try clear hfz18_1
     try clear hfz18_2
     try clear hfz18_3
     try clear hx597_0
     try clear p597
     try clear q597
     obtain ⟨x9_1, x609000_1, x609001_1, x609002_1, x609003_1, u609002, u609003, rfl, HA, HK1, HO_3, HO_609002, HO_609003, BK608, HB⟩ := hrel
     cases gk with
     | zero => exact absurd HA.out (by simp [laws_FnMemory.l0])
     | succ k1 =>
      have H := HA.out
      clear HA
      simp only [laws_FnMemory.l0] at H
      by_cases c21 : x9_1 < 3
      ·rw [if_pos c21] at H
       have c21b0 : decide (x9_1 < 3) = true := decide_eq_true c21
       clear c21
       have H' := Aside0.mk H
       clear H
       go_wp2
       go_loopg [10] k1 (fun kq v10 w' => ∃ (x10_2 : Int) (x609000_2 : Int) (x609001_2 : Int) (x609002_2 : List (List Int)) (x609003_2 : List (S45)) (u609002 : Value) (u609003 : Value), v10 = .int .i64 x10_2 ∧ Aside0 (laws_FnMemory.l1 kq t590 t593 (Int.tmod (rd t594 0) t598) t607 x9_1 x10_2 x609000_2 x609001_2 x609002_2 x609003_2 = some r) ∧ Aside0 (kq ≤ k1) ∧ Aside0 (Kd.N k45 45 w' w.heap.size (fun k_ => some k_ ≠ (u609002 : Value).ownBlock ∧ some k_ ≠ (u609003 : Value).ownBlock ∧ k_ ≠ gb608) v591 t590) ∧ Aside0 (Kd.N (Kd.slice 3 (Kd.int .i64)) 71 w' w.heap.size (fun k_ => some k_ ≠ (v591 : Value).ownBlock ∧ some k_ ≠ (u609003 : Value).ownBlock ∧ k_ ≠ gb608) u609002 x609002_2) ∧ Aside0 (Kd.N k45 45 w' w.heap.size (fun k_ => some k_ ≠ (v591 : Value).ownBlock ∧ some k_ ≠ (u609002 : Value).ownBlock ∧ k_ ≠ gb608) u609003 x609003_2) ∧ Aside0 (w'.heap[gb608]? = some (.cells #[.int .i64 x609000_2, .int .i64 x609001_2, u609002, u609003] 58 (0, 0))) ∧ Aside0 (Below w.heap.size w w'))
       case atStart => exact ⟨(0), (x609000_1), (x609001_1), (x609002_1), (x609003_1), (u609002), (u609003), (by first | rfl | (simp; done) | (simp [*]; done)), H', ⟨Nat.le_refl _⟩, ⟨by (with_reducible repeat (first | apply Kd.N_alloc | apply Kd.N_drewN | apply Kd.N_drew)); exact HO_3.out⟩, ⟨by (with_reducible repeat (first | apply Kd.N_alloc | apply Kd.N_drewN | apply Kd.N_drew)); exact HO_609002.out⟩, ⟨by (with_reducible repeat (first | apply Kd.N_alloc | apply Kd.N_drewN | apply Kd.N_drew)); exact HO_609003.out⟩, ⟨kS⟩, ⟨bS⟩⟩
       case round =>
        clear H'
        try clear c1
        try clear c2
        try clear p2
        try clear c3
        try clear p5
        try clear q5
        try clear hx5
        try clear qi5
        try clear c6
        try clear c7
        try clear c7b0
        try clear c7b1
        try clear c9
        try clear c9b0
        try clear c9b1
        try clear c14
        try clear c15
        try clear c16
        try clear c17
        try clear c21
        try clear c21b0
        try clear hcz18_0
        try clear hcz18_1
        try clear hcz18_2
        try clear hcz18_3
        try clear hfz18_0
        try clear hfz18_1
        try clear hfz18_2
        try clear hfz18_3
        try clear hx597_0
        try clear p2
        try clear p5
        try clear p597
        try clear q5
        try clear q597
        obtain ⟨x10_2, x609000_2, x609001_2, x609002_2, x609003_2, u609002, u609003, rfl, HA, HK2, HO_3, HO_609002, HO_609003, BK608, HB⟩ := hrel
        cases gk with
        | zero => exact absurd HA.out (by simp [laws_FnMemory.l1])
        | succ k2 =>
         have H := HA.out
         clear HA
         simp only [laws_FnMemory.l1] at H
         by_cases c22 : x10_2 < (t590.length : Int)
         ·rw [if_pos c22] at H
          have c22b0 : decide (x10_2 < (t590.length : Int)) = true := decide_eq_true c22
          clear c22
          by_cases c23 : 0 ≤ x10_2
          ·rw [if_pos c23] at H
           have c23b0 : decide (0 ≤ x10_2) = true := decide_eq_true c23
           clear c23
           replace H := bN H
           obtain ⟨⟨t610, t611, t612, t615, t618⟩, A24, H⟩ := H
           by_cases c25 : t618 = true
           ·subst c25
            rw [if_pos rfl] at H
            replace H := bN H
            obtain ⟨t620, A26, H⟩ := H
            by_cases c27 : t620 > 60
            ·rw [if_pos c27] at H; exact absurd ((Option.some.inj H).trans hT) (by decide)
            ·rw [if_neg c27] at H
             have c27b0 : decide (60 < t620) = false := decide_eq_false c27
             clear c27
             have H' := Aside0.mk H
             clear H
             obtain ⟨Ao28, co28, eo28⟩ := Kd.N_slice HO_3.out
             subst eo28
             obtain ⟨Ao29, co29, eo29⟩ := Kd.N_slice HO_609002.out
             subst eo29
             obtain ⟨Ao30, co30, eo30⟩ := Kd.N_slice HO_609003.out
             subst eo30
             try go_wp2
             replace HO_3 := Aside0.mk (Kd.N_drew HO_3.out)
             replace HO_609002 := Aside0.mk (Kd.N_drew HO_609002.out)
             replace HO_609003 := Aside0.mk (Kd.N_drew HO_609003.out)
             replace BK608 := Aside0.mk (blk_drew BK608.out)
             replace HB := Aside0.mk (below_drew1 HB.out)
             have p609 : 0 ≤ (x10_2 : Int) := of_decide_eq_true (by first | (with_reducible assumption) | assumption)
             have q609 : x10_2 < (t590.length : Int) := of_decide_eq_true (by first | (with_reducible assumption) | assumption)
             obtain ⟨ad609, A609_0, c609_0, e609, hx609_0, hx609_1, hx609_2, hx609_3, hx609_4, hx609_5, hl609_0, hi609_0⟩ := at_T45 (Kd.N_reads' HO_3.out).2.2 x10_2 p609 q609
             cases e609
             obtain ⟨ce609, hce609, hMe609, hcc609⟩ := Kd.N_get HO_3.out z45 x10_2 p609 (by first | exact q609 | exact of_decide_eq_true (by first | (with_reducible assumption) | assumption) | (have e_ := (Kd.N_reads' HO_3.out).1; omega))
             obtain ⟨ua609_0, uc609_0, rfl, ul609_0, ge609_0⟩ := k45_openF hMe609
             have hv609_0 := hcc609 0 _ rfl
             rw [Nat.add_zero] at hv609_0
             replace hv609_0 := Option.some.inj (hv609_0.symm.trans hx609_0)
             injection hv609_0 with hva_ hvn_ hvc_
             rw [hva_] at ge609_0
             rw [hvc_] at ul609_0
             have HL609_0 := Aside0.mk (show Kd.V k171 171 _ w.heap.size _ _ ((rd_T45 t590 x10_2).f0) from Kd.V_mk ul609_0 ge609_0)
             clear hva_ hvn_ hvc_ ge609_0 ul609_0
             clear hcc609 hce609
             have HR609_0 := Aside0.mk hi609_0
             have HC609_0 := Aside0.mk hl609_0
             clear hi609_0 hl609_0
             replace p609 := eq_true p609
             replace q609 := eq_true q609
             refine start_ (n := 12) (S := fun w' => w'.cell? ⟨gb608, 0, none⟩ = some (.int .i64 x609000_2) ∧ w'.cell? ⟨gb608, 1, none⟩ = some (.int .i64 x609001_2) ∧ w'.cell? ⟨gb608, 2, none⟩ = some (.slice Ao29 x609002_2.length co29) ∧ w'.cell? ⟨gb608, 3, none⟩ = some (.slice Ao30 x609003_2.length co30) ∧ w'.cell? (ad609.add ((x10_2).toNat * 6)) = some (.slice A609_0 ((rd_T45 t590 x10_2).f0).length c609_0) ∧ w'.cell? ⟨(ad609.add ((x10_2).toNat * 6)).block, (ad609.add ((x10_2).toNat * 6)).off + 1, none⟩ = some (.int .i64 ((rd_T45 t590 x10_2).f1)) ∧ w'.cell? ⟨(ad609.add ((x10_2).toNat * 6)).block, (ad609.add ((x10_2).toNat * 6)).off + 2, none⟩ = some (.int .i64 ((rd_T45 t590 x10_2).f2.f0)) ∧ w'.cell? ⟨(ad609.add ((x10_2).toNat * 6)).block, (ad609.add ((x10_2).toNat * 6)).off + 3, none⟩ = some (.int .i64 ((rd_T45 t590 x10_2).f2.f1)) ∧ w'.cell? ⟨(ad609.add ((x10_2).toNat * 6)).block, (ad609.add ((x10_2).toNat * 6)).off + 4, none⟩ = some (.int .i64 ((rd_T45 t590 x10_2).f2.f2)) ∧ w'.cell? ⟨(ad609.add ((x10_2).toNat * 6)).block, (ad609.add ((x10_2).toNat * 6)).off + 5, none⟩ = some (.int .i64 ((rd_T45 t590 x10_2).f2.f3))) (ds := []) #[false, false, false, false, false, false, false, false, false, false, false, false] (by kernel_rfl) rfl rfl ⟨(blk_cell BK608.out 0).trans rfl, (blk_cell BK608.out 1).trans rfl, (blk_cell BK608.out 2).trans rfl, (blk_cell BK608.out 3).trans rfl, hx609_0, hx609_1, hx609_2, hx609_3, hx609_4, hx609_5⟩ (fun hHeld => ?_); refine with_tabW laws_FnMemory.tab14 laws_FnMemory.bits14 (fun HT_ HW_ => ?_)
             generalize wr.drew = w31 at HO_3 HO_609002 HO_609003 BK608 HB HL609_0 HR609_0 hx609_0 hx609_1 hx609_2 hx609_3 hx609_4 hx609_5 hHeld ⊢
             refine pU 1 (some 45) #[false, true, false, false, false, false, false, false, false, false, false, false] ?_
             refine pU 2 (some 46) #[false, true, true, false, false, false, false, false, false, false, false, false] ?_
             refine pU 3 (some 47) #[false, true, true, true, false, false, false, false, false, false, false, false] ?_
             refine tK 0 (some 44) #[true, true, true, true, false, false, false, false, false, false, false, false] ?_
             refine tK 4 (some 48) #[true, true, true, true, true, false, false, false, false, false, false, false] ?_
             refine join_ (σ := Value × Value × Nat) 2 #[true, true, true, true, true, true, true, true, true, true, false, false] (fun s_ => [(49, .tuple #[.agg #[.int .i64 t610, .int .i64 t611, s_.1, s_.2.1], .bool true]), (11, .pointer (some ⟨s_.2.2, 0, none⟩)), (43, .tuple #[.agg #[.int .i64 t610, .int .i64 t611, s_.1, s_.2.1], .bool true]), (50, .agg #[.int .i64 t610, .int .i64 t611, s_.1, s_.2.1]), (51, .bool true)]) (fun s_ w' => (w'.cell? ⟨gb608, 0, none⟩ = some (.int .i64 x609000_2) ∧ w'.cell? ⟨gb608, 1, none⟩ = some (.int .i64 x609001_2) ∧ w'.cell? ⟨gb608, 2, none⟩ = some (.slice Ao29 x609002_2.length co29) ∧ w'.cell? ⟨gb608, 3, none⟩ = some (.slice Ao30 x609003_2.length co30) ∧ w'.cell? (ad609.add ((x10_2).toNat * 6)) = some (.slice A609_0 ((rd_T45 t590 x10_2).f0).length c609_0) ∧ w'.cell? ⟨(ad609.add ((x10_2).toNat * 6)).block, (ad609.add ((x10_2).toNat * 6)).off + 1, none⟩ = some (.int .i64 ((rd_T45 t590 x10_2).f1)) ∧ w'.cell? ⟨(ad609.add ((x10_2).toNat * 6)).block, (ad609.add ((x10_2).toNat * 6)).off + 2, none⟩ = some (.int .i64 ((rd_T45 t590 x10_2).f2.f0)) ∧ w'.cell? ⟨(ad609.add ((x10_2).toNat * 6)).block, (ad609.add ((x10_2).toNat * 6)).off + 3, none⟩ = some (.int .i64 ((rd_T45 t590 x10_2).f2.f1)) ∧ w'.cell? ⟨(ad609.add ((x10_2).toNat * 6)).block, (ad609.add ((x10_2).toNat * 6)).off + 4, none⟩ = some (.int .i64 ((rd_T45 t590 x10_2).f2.f2)) ∧ w'.cell? ⟨(ad609.add ((x10_2).toNat * 6)).block, (ad609.add ((x10_2).toNat * 6)).off + 5, none⟩ = some (.int .i64 ((rd_T45 t590 x10_2).f2.f3))) ∧ (Kd.V k171 171 w' w.heap.size (fun k_ => some k_ ≠ (s_.1 : Value).ownBlock ∧ some k_ ≠ (s_.2.1 : Value).ownBlock ∧ some k_ ≠ (.slice (some ad609) t590.length co28 : Value).ownBlock ∧ some k_ ≠ (.slice Ao29 x609002_2.length co29 : Value).ownBlock ∧ some k_ ≠ (.slice Ao30 x609003_2.length co30 : Value).ownBlock ∧ k_ ≠ gb608 ∧ k_ ≠ s_.2.2) (.slice A609_0 ((rd_T45 t590 x10_2).f0).length c609_0) ((rd_T45 t590 x10_2).f0)) ∧ (Kd.N (Kd.slice 3 (Kd.int .i64)) 71 w' w.heap.size (fun k_ => some k_ ≠ (s_.2.1 : Value).ownBlock ∧ some k_ ≠ (.slice (some ad609) t590.length co28 : Value).ownBlock ∧ some k_ ≠ (.slice Ao29 x609002_2.length co29 : Value).ownBlock ∧ some k_ ≠ (.slice Ao30 x609003_2.length co30 : Value).ownBlock ∧ k_ ≠ gb608 ∧ k_ ≠ s_.2.2) s_.1 t612) ∧ (Kd.N k45 45 w' w.heap.size (fun k_ => some k_ ≠ (s_.1 : Value).ownBlock ∧ some k_ ≠ (.slice (some ad609) t590.length co28 : Value).ownBlock ∧ some k_ ≠ (.slice Ao29 x609002_2.length co29 : Value).ownBlock ∧ some k_ ≠ (.slice Ao30 x609003_2.length co30 : Value).ownBlock ∧ k_ ≠ gb608 ∧ k_ ≠ s_.2.2) s_.2.1 t615) ∧ (Kd.N k45 45 w' w.heap.size (fun k_ => some k_ ≠ (s_.1 : Value).ownBlock ∧ some k_ ≠ (s_.2.1 : Value).ownBlock ∧ some k_ ≠ (.slice Ao29 x609002_2.length co29 : Value).ownBlock ∧ some k_ ≠ (.slice Ao30 x609003_2.length co30 : Value).ownBlock ∧ k_ ≠ gb608 ∧ k_ ≠ s_.2.2) (.slice (some ad609) t590.length co28) t590) ∧ (Kd.N (Kd.slice 3 (Kd.int .i64)) 71 w' w.heap.size (fun k_ => some k_ ≠ (s_.1 : Value).ownBlock ∧ some k_ ≠ (s_.2.1 : Value).ownBlock ∧ some k_ ≠ (.slice (some ad609) t590.length co28 : Value).ownBlock ∧ some k_ ≠ (.slice Ao30 x609003_2.length co30 : Value).ownBlock ∧ k_ ≠ gb608 ∧ k_ ≠ s_.2.2) (.slice Ao29 x609002_2.length co29) x609002_2) ∧ (Kd.N k45 45 w' w.heap.size (fun k_ => some k_ ≠ (s_.1 : Value).ownBlock ∧ some k_ ≠ (s_.2.1 : Value).ownBlock ∧ some k_ ≠ (.slice (some ad609) t590.length co28 : Value).ownBlock ∧ some k_ ≠ (.slice Ao29 x609002_2.length co29 : Value).ownBlock ∧ k_ ≠ gb608 ∧ k_ ≠ s_.2.2) (.slice Ao30 x609003_2.length co30) x609003_2) ∧ (w'.heap[gb608]? = some (.cells #[.int .i64 x609000_2, .int .i64 x609001_2, .slice Ao29 x609002_2.length co29, .slice Ao30 x609003_2.length co30] 58 (0, 0))) ∧ (w'.heap[s_.2.2]? = some (.cells #[.int .i64 0, .int .i64 0, .slice none 0 0, .slice none 0 0] 58 (0, 0))) ∧ (w.heap.size ≤ s_.2.2) ∧ (w.heap.size ≤ s_.2.2) ∧ (gb608 ≠ s_.2.2) ∧ (s_.2.2 ≠ gb608) ∧ (Below w.heap.size w w')) ?_ ?_
             rotate_left
             ·intro hCont
              refine two_ (i := 5) (j := 9) (Ni := some 49) (Nj := some 11) #[true, true, true, true, true, true, false, false, false, false, false, false] #[true, true, true, true, true, false, false, false, false, true, false, false] rfl rfl rfl rfl (two_of HT_.out (by kernel_rfl)) (by decide) (by decide) (fun K hK => ?_) (fun K hK => ?_)
              ·skip
               refine goes_ Try.func69 (by kernel_rfl) rfl #[.agg #[.int .i64 x609000_2, .int .i64 x609001_2, .slice Ao29 x609002_2.length co29, .slice Ao30 x609003_2.length co30], .agg #[.slice A609_0 ((rd_T45 t590 x10_2).f0).length c609_0, .int .i64 ((rd_T45 t590 x10_2).f1), .int .i64 ((rd_T45 t590 x10_2).f2.f0), .int .i64 ((rd_T45 t590 x10_2).f2.f1), .int .i64 ((rd_T45 t590 x10_2).f2.f2), .int .i64 ((rd_T45 t590 x10_2).f2.f3)]] (by rfl) rfl rfl (by (try simp only [List.map_toArray, List.map_cons, List.map_nil]); first | done | rfl | (simp only [List.length_drop, List.length_take]; rfl)) ?_
               with_reducible refine (impl_AddToBand.calls k2 x609000_2 x609001_2 _ _ x609002_2 _ _ x609003_2 _ _ ((rd_T45 t590 x10_2).f0) ((rd_T45 t590 x10_2).f1) ((rd_T45 t590 x10_2).f2.f0) ((rd_T45 t590 x10_2).f2.f1) ((rd_T45 t590 x10_2).f2.f2) ((rd_T45 t590 x10_2).f2.f3) t610 t611 t612 t615 _ _ ?side1 ?side2 ?side3 ?side4 ?side5 ?side6 A24.out).mono ?_
               (case side1 => exact cS (Kd.N_reads' HO_609002.out).2.2)
               (case side2 => exact (Kd.N_reads' HO_609002.out).2.1)
               (case side3 => exact cS (Kd.N_reads' HO_609003.out).2.2)
               (case side4 => exact (Kd.N_reads' HO_609003.out).2.1)
               (case side5 => repeat (first | exact (by repeat (first | (with_reducible exact HR609_0.out) | (with_reducible refine Kd.C_alloc ?_ _) | (with_reducible refine Kd.C_drewN ?_ _) | (with_reducible refine Kd.C_drew ?_) | exact HR609_0.out)) | (with_reducible refine Kd.C_alloc ?_ _) | (with_reducible refine Kd.C_drewN ?_ _) | (with_reducible refine Kd.C_drew ?_)))
               (case side6 => exact HC609_0.out)
               rintro e w32 ⟨v613, v616, rfl, ho0, ho1, hb⟩
               have HS4_ := (hb.cell (World.block_lt_of_cell? _ _ (hHeld.2.2.2.2.1))).trans (hHeld.2.2.2.2.1)
               have HS5_ := (hb.cell (World.block_lt_of_cell? _ _ (hHeld.2.2.2.2.2.1))).trans (hHeld.2.2.2.2.2.1)
               have HS6_ := (hb.cell (World.block_lt_of_cell? _ _ (hHeld.2.2.2.2.2.2.1))).trans (hHeld.2.2.2.2.2.2.1)
               have HS7_ := (hb.cell (World.block_lt_of_cell? _ _ (hHeld.2.2.2.2.2.2.2.1))).trans (hHeld.2.2.2.2.2.2.2.1)
               have HS8_ := (hb.cell (World.block_lt_of_cell? _ _ (hHeld.2.2.2.2.2.2.2.2.1))).trans (hHeld.2.2.2.2.2.2.2.2.1)
               have HS9_ := (hb.cell (World.block_lt_of_cell? _ _ (hHeld.2.2.2.2.2.2.2.2.2))).trans (hHeld.2.2.2.2.2.2.2.2.2)
               refine ⟨_, rfl, ?_⟩
               have HO614 := Aside0.mk (Kd.N_lower (Kd.N_mono (ok' := fun k_ => some k_ ≠ (v616 : Value).ownBlock ∧ some k_ ≠ (.slice (some ad609) t590.length co28 : Value).ownBlock ∧ some k_ ≠ (.slice Ao29 x609002_2.length co29 : Value).ownBlock ∧ some k_ ≠ (.slice Ao30 x609003_2.length co30 : Value).ownBlock ∧ k_ ≠ gb608) (Kd.S_N (Kd.S_bound (Kd.S_apart' ho0 (Kd.S_typed ho1) (by decide)))) (fun k_ hk_ => ⟨hk_.1.2, (Kd.fresh' (Kd.N_lt (by (with_reducible repeat (first | apply Kd.N_alloc | apply Kd.N_drewN | apply Kd.N_drew)); exact HO_3.out)) k_ hk_.2.1), (Kd.fresh' (Kd.N_lt (by (with_reducible repeat (first | apply Kd.N_alloc | apply Kd.N_drewN | apply Kd.N_drew)); exact HO_609002.out)) k_ hk_.2.1), (Kd.fresh' (Kd.N_lt (by (with_reducible repeat (first | apply Kd.N_alloc | apply Kd.N_drewN | apply Kd.N_drew)); exact HO_609003.out)) k_ hk_.2.1), (Kd.freshB (g := gb608) kS k_ hk_.2.1)⟩)) (below_size bS))
               have HO617 := Aside0.mk (Kd.N_lower (Kd.N_mono (ok' := fun k_ => some k_ ≠ (v613 : Value).ownBlock ∧ some k_ ≠ (.slice (some ad609) t590.length co28 : Value).ownBlock ∧ some k_ ≠ (.slice Ao29 x609002_2.length co29 : Value).ownBlock ∧ some k_ ≠ (.slice Ao30 x609003_2.length co30 : Value).ownBlock ∧ k_ ≠ gb608) (Kd.S_N (Kd.S_bound (Kd.S_apart' ho1 (Kd.S_typed ho0) (by decide)))) (fun k_ hk_ => ⟨hk_.1.2, (Kd.fresh' (Kd.N_lt (by (with_reducible repeat (first | apply Kd.N_alloc | apply Kd.N_drewN | apply Kd.N_drew)); exact HO_3.out)) k_ hk_.2.1), (Kd.fresh' (Kd.N_lt (by (with_reducible repeat (first | apply Kd.N_alloc | apply Kd.N_drewN | apply Kd.N_drew)); exact HO_609002.out)) k_ hk_.2.1), (Kd.fresh' (Kd.N_lt (by (with_reducible repeat (first | apply Kd.N_alloc | apply Kd.N_drewN | apply Kd.N_drew)); exact HO_609003.out)) k_ hk_.2.1), (Kd.freshB (g := gb608) kS k_ hk_.2.1)⟩)) (below_size bS))
               replace HO_3 := Aside0.mk (Kd.N_mono (Kd.N_told (Kd.N_told (Kd.N_old (by (with_reducible repeat (first | apply Kd.N_alloc | apply Kd.N_drewN | apply Kd.N_drew)); exact HO_3.out) hb) (Kd.S_base ho0)) (Kd.S_base ho1)) (fun _ h_ => h_.1))
               replace HO_609002 := Aside0.mk (Kd.N_mono (Kd.N_told (Kd.N_told (Kd.N_old (by (with_reducible repeat (first | apply Kd.N_alloc | apply Kd.N_drewN | apply Kd.N_drew)); exact HO_609002.out) hb) (Kd.S_base ho0)) (Kd.S_base ho1)) (fun _ h_ => h_.1))
               replace HO_609003 := Aside0.mk (Kd.N_mono (Kd.N_told (Kd.N_told (Kd.N_old (by (with_reducible repeat (first | apply Kd.N_alloc | apply Kd.N_drewN | apply Kd.N_drew)); exact HO_609003.out) hb) (Kd.S_base ho0)) (Kd.S_base ho1)) (fun _ h_ => h_.1))
               replace HL609_0 := Aside0.mk (Kd.V_mono (Kd.V_told (Kd.V_told (Kd.V_old (by (with_reducible repeat (first | apply Kd.V_alloc | apply Kd.V_drewN | apply Kd.V_drew)); exact HL609_0.out) hb) (Kd.S_base ho0)) (Kd.S_base ho1)) (fun _ h_ => h_.1))
               replace BK608 := kB (g := gb608) hb
               replace HR609_0 := Aside0.mk (Kd.C_below (by repeat (first | (with_reducible exact HR609_0.out) | (with_reducible refine Kd.C_alloc ?_ _) | (with_reducible refine Kd.C_drewN ?_ _) | (with_reducible refine Kd.C_drew ?_) | exact HR609_0.out)) hb)
               replace HB := hB hb
               (try clear hb)
               (try clear hb2)
               (try clear hk)
               (try clear hi)
               (try clear ho0)
               (try clear ho1)
               refine hK.out _ _ ⟨(blk_cell BK608.out 0).trans rfl, (blk_cell BK608.out 1).trans rfl, (blk_cell BK608.out 2).trans rfl, (blk_cell BK608.out 3).trans rfl, HS4_, HS5_, HS6_, HS7_, HS8_, HS9_⟩ (fun hHeld => ?_)
               clear hK K
               refine norm_ (a' := ?_) ?_ ?_
               rotate_left
               ·show Act.put _ (some 49) _ = _
                simp only [Act.put, List.setIfInBounds_toArray, List.set_cons_zero, List.set_cons_succ, i64_w, i32_w]
                rfl
               refine pU 6 (some 43) #[true, true, true, true, true, true, true, false, false, false, false, false] ?_
               refine pU 7 (some 50) #[true, true, true, true, true, true, true, true, false, false, false, false] ?_
               refine pU 8 (some 51) #[true, true, true, true, true, true, true, true, true, false, false, false] ?_
               refine one_ (i := 9) (N := some 11) #[true, true, true, true, true, true, true, true, true, true, false, false] rfl rfl (one_of HT_.out (by kernel_rfl)) (by decide) (fun K hK => ?_)
               refine box_step ?hg (N := 11) ?hd (cs := #[.int .i64 0, .int .i64 0, .slice none 0 0, .slice none 0 0]) (t := 58) ?hr ?_; (case hd => rfl); (case hg => rfl); (case hr => first | (go_simp; done) | (go_simp; rfl))
               intro gb619 hg w33 hbox hb
               have HS4_ := (hb.cell (World.block_lt_of_cell? _ _ (hHeld.2.2.2.2.1))).trans (hHeld.2.2.2.2.1)
               have HS5_ := (hb.cell (World.block_lt_of_cell? _ _ (hHeld.2.2.2.2.2.1))).trans (hHeld.2.2.2.2.2.1)
               have HS6_ := (hb.cell (World.block_lt_of_cell? _ _ (hHeld.2.2.2.2.2.2.1))).trans (hHeld.2.2.2.2.2.2.1)
               have HS7_ := (hb.cell (World.block_lt_of_cell? _ _ (hHeld.2.2.2.2.2.2.2.1))).trans (hHeld.2.2.2.2.2.2.2.1)
               have HS8_ := (hb.cell (World.block_lt_of_cell? _ _ (hHeld.2.2.2.2.2.2.2.2.1))).trans (hHeld.2.2.2.2.2.2.2.2.1)
               have HS9_ := (hb.cell (World.block_lt_of_cell? _ _ (hHeld.2.2.2.2.2.2.2.2.2))).trans (hHeld.2.2.2.2.2.2.2.2.2)
               have BK619 := Aside0.mk (hbox)
               have GW619 := gE hg
               have GE619 := gE hg
               have NB608_619 := nL (g := gb608) hg
               have NB619_608 := nG (g := gb608) hg
               replace HO_3 := Aside0.mk (Kd.N_below (Kd.N_elderB (by (with_reducible repeat (first | apply Kd.N_alloc | apply Kd.N_drewN | apply Kd.N_drew)); exact HO_3.out) gb619 (Nat.le_of_eq hg.symm)) hb)
               replace HO_609002 := Aside0.mk (Kd.N_below (Kd.N_elderB (by (with_reducible repeat (first | apply Kd.N_alloc | apply Kd.N_drewN | apply Kd.N_drew)); exact HO_609002.out) gb619 (Nat.le_of_eq hg.symm)) hb)
               replace HO_609003 := Aside0.mk (Kd.N_below (Kd.N_elderB (by (with_reducible repeat (first | apply Kd.N_alloc | apply Kd.N_drewN | apply Kd.N_drew)); exact HO_609003.out) gb619 (Nat.le_of_eq hg.symm)) hb)
               replace HL609_0 := Aside0.mk (Kd.V_below (Kd.V_elderB (by (with_reducible repeat (first | apply Kd.V_alloc | apply Kd.V_drewN | apply Kd.V_drew)); exact HL609_0.out) gb619 (Nat.le_of_eq hg.symm)) hb)
               replace HO614 := Aside0.mk (Kd.N_below (Kd.N_elderB (by (with_reducible repeat (first | apply Kd.N_alloc | apply Kd.N_drewN | apply Kd.N_drew)); exact HO614.out) gb619 (Nat.le_of_eq hg.symm)) hb)
               replace HO617 := Aside0.mk (Kd.N_below (Kd.N_elderB (by (with_reducible repeat (first | apply Kd.N_alloc | apply Kd.N_drewN | apply Kd.N_drew)); exact HO617.out) gb619 (Nat.le_of_eq hg.symm)) hb)
               replace BK608 := kB (g := gb608) hb
               replace HR609_0 := Aside0.mk (Kd.C_below (by repeat (first | (with_reducible exact HR609_0.out) | (with_reducible refine Kd.C_alloc ?_ _) | (with_reducible refine Kd.C_drewN ?_ _) | (with_reducible refine Kd.C_drew ?_) | exact HR609_0.out)) hb)
               replace HB := hB hb
               clear hb hg
               refine hK.out _ _ ⟨(blk_cell BK608.out 0).trans rfl, (blk_cell BK608.out 1).trans rfl, (blk_cell BK608.out 2).trans rfl, (blk_cell BK608.out 3).trans rfl, HS4_, HS5_, HS6_, HS7_, HS8_, HS9_⟩ (fun hHeld => ?_)
               clear hK K
               refine norm_ (a' := ?_) ?_ ?_
               rotate_left
               ·show Act.put _ (some 11) _ = _
                simp only [Act.put, List.setIfInBounds_toArray, List.set_cons_zero, List.set_cons_succ, i64_w, i32_w]
                rfl
               exact norm_ (by simp only [putAll, Act.put, List.setIfInBounds_toArray, List.set_cons_zero, List.set_cons_succ]) (hCont (v613, v616, gb619) _ ⟨hHeld, (by (with_reducible repeat (first | apply Kd.V_alloc | apply Kd.V_drewN | apply Kd.V_drew)); exact Kd.V_mono HL609_0.out (fun _ hk => ⟨hk.1.1.2, ⟨hk.1.2, ⟨hk.1.1.1.2, ⟨hk.1.1.1.1.1, ⟨hk.1.1.1.1.2.1, ⟨hk.1.1.1.1.2.2, hk.2⟩⟩⟩⟩⟩⟩)), (by (with_reducible repeat (first | apply Kd.N_alloc | apply Kd.N_drewN | apply Kd.N_drew)); exact Kd.N_mono HO614.out (fun _ hk => ⟨hk.1.1, ⟨hk.1.2.1, ⟨hk.1.2.2.1, ⟨hk.1.2.2.2.1, ⟨hk.1.2.2.2.2, hk.2⟩⟩⟩⟩⟩)), (by (with_reducible repeat (first | apply Kd.N_alloc | apply Kd.N_drewN | apply Kd.N_drew)); exact Kd.N_mono HO617.out (fun _ hk => ⟨hk.1.1, ⟨hk.1.2.1, ⟨hk.1.2.2.1, ⟨hk.1.2.2.2.1, ⟨hk.1.2.2.2.2, hk.2⟩⟩⟩⟩⟩)), (by (with_reducible repeat (first | apply Kd.N_alloc | apply Kd.N_drewN | apply Kd.N_drew)); exact Kd.N_mono HO_3.out (fun _ hk => ⟨hk.1.1.2, ⟨hk.1.2, ⟨hk.1.1.1.1, ⟨hk.1.1.1.2.1, ⟨hk.1.1.1.2.2, hk.2⟩⟩⟩⟩⟩)), (by (with_reducible repeat (first | apply Kd.N_alloc | apply Kd.N_drewN | apply Kd.N_drew)); exact Kd.N_mono HO_609002.out (fun _ hk => ⟨hk.1.1.2, ⟨hk.1.2, ⟨hk.1.1.1.1, ⟨hk.1.1.1.2.1, ⟨hk.1.1.1.2.2, hk.2⟩⟩⟩⟩⟩)), (by (with_reducible repeat (first | apply Kd.N_alloc | apply Kd.N_drewN | apply Kd.N_drew)); exact Kd.N_mono HO_609003.out (fun _ hk => ⟨hk.1.1.2, ⟨hk.1.2, ⟨hk.1.1.1.1, ⟨hk.1.1.1.2.1, ⟨hk.1.1.1.2.2, hk.2⟩⟩⟩⟩⟩)), kS, kS, GW619.out, GE619.out, NB608_619.out, NB619_608.out, bS⟩)
              ·skip
               refine box_step ?hg (N := 11) ?hd (cs := #[.int .i64 0, .int .i64 0, .slice none 0 0, .slice none 0 0]) (t := 58) ?hr ?_; (case hd => rfl); (case hg => rfl); (case hr => first | (go_simp; done) | (go_simp; rfl))
               intro gb619 hg w32 hbox hb
               have HS4_ := (hb.cell (World.block_lt_of_cell? _ _ (hHeld.2.2.2.2.1))).trans (hHeld.2.2.2.2.1)
               have HS5_ := (hb.cell (World.block_lt_of_cell? _ _ (hHeld.2.2.2.2.2.1))).trans (hHeld.2.2.2.2.2.1)
               have HS6_ := (hb.cell (World.block_lt_of_cell? _ _ (hHeld.2.2.2.2.2.2.1))).trans (hHeld.2.2.2.2.2.2.1)
               have HS7_ := (hb.cell (World.block_lt_of_cell? _ _ (hHeld.2.2.2.2.2.2.2.1))).trans (hHeld.2.2.2.2.2.2.2.1)
               have HS8_ := (hb.cell (World.block_lt_of_cell? _ _ (hHeld.2.2.2.2.2.2.2.2.1))).trans (hHeld.2.2.2.2.2.2.2.2.1)
               have HS9_ := (hb.cell (World.block_lt_of_cell? _ _ (hHeld.2.2.2.2.2.2.2.2.2))).trans (hHeld.2.2.2.2.2.2.2.2.2)
               have BK619 := Aside0.mk (hbox)
               have GW619 := gE hg
               have GE619 := gE hg
               have NB608_619 := nL (g := gb608) hg
               have NB619_608 := nG (g := gb608) hg
               replace HO_3 := Aside0.mk (Kd.N_below (Kd.N_elderB (by (with_reducible repeat (first | apply Kd.N_alloc | apply Kd.N_drewN | apply Kd.N_drew)); exact HO_3.out) gb619 (Nat.le_of_eq hg.symm)) hb)
               replace HO_609002 := Aside0.mk (Kd.N_below (Kd.N_elderB (by (with_reducible repeat (first | apply Kd.N_alloc | apply Kd.N_drewN | apply Kd.N_drew)); exact HO_609002.out) gb619 (Nat.le_of_eq hg.symm)) hb)
               replace HO_609003 := Aside0.mk (Kd.N_below (Kd.N_elderB (by (with_reducible repeat (first | apply Kd.N_alloc | apply Kd.N_drewN | apply Kd.N_drew)); exact HO_609003.out) gb619 (Nat.le_of_eq hg.symm)) hb)
               replace HL609_0 := Aside0.mk (Kd.V_below (Kd.V_elderB (by (with_reducible repeat (first | apply Kd.V_alloc | apply Kd.V_drewN | apply Kd.V_drew)); exact HL609_0.out) gb619 (Nat.le_of_eq hg.symm)) hb)
               replace BK608 := kB (g := gb608) hb
               replace HR609_0 := Aside0.mk (Kd.C_below (by repeat (first | (with_reducible exact HR609_0.out) | (with_reducible refine Kd.C_alloc ?_ _) | (with_reducible refine Kd.C_drewN ?_ _) | (with_reducible refine Kd.C_drew ?_) | exact HR609_0.out)) hb)
               replace HB := hB hb
               clear hb hg
               refine hK.out _ _ ⟨(blk_cell BK608.out 0).trans rfl, (blk_cell BK608.out 1).trans rfl, (blk_cell BK608.out 2).trans rfl, (blk_cell BK608.out 3).trans rfl, HS4_, HS5_, HS6_, HS7_, HS8_, HS9_⟩ (fun hHeld => ?_)
               clear hK K
               refine norm_ (a' := ?_) ?_ ?_
               rotate_left
               ·show Act.put _ (some 11) _ = _
                simp only [Act.put, List.setIfInBounds_toArray, List.set_cons_zero, List.set_cons_succ, i64_w, i32_w]
                rfl
               refine one_ (i := 5) (N := some 49) #[true, true, true, true, true, true, false, false, false, true, false, false] rfl rfl (one_of HT_.out (by kernel_rfl)) (by decide) (fun K hK => ?_)
               refine goes_ Try.func69 (by kernel_rfl) rfl #[.agg #[.int .i64 x609000_2, .int .i64 x609001_2, .slice Ao29 x609002_2.length co29, .slice Ao30 x609003_2.length co30], .agg #[.slice A609_0 ((rd_T45 t590 x10_2).f0).length c609_0, .int .i64 ((rd_T45 t590 x10_2).f1), .int .i64 ((rd_T45 t590 x10_2).f2.f0), .int .i64 ((rd_T45 t590 x10_2).f2.f1), .int .i64 ((rd_T45 t590 x10_2).f2.f2), .int .i64 ((rd_T45 t590 x10_2).f2.f3)]] (by rfl) rfl rfl (by (try simp only [List.map_toArray, List.map_cons, List.map_nil]); first | done | rfl | (simp only [List.length_drop, List.length_take]; rfl)) ?_
               with_reducible refine (impl_AddToBand.calls k2 x609000_2 x609001_2 _ _ x609002_2 _ _ x609003_2 _ _ ((rd_T45 t590 x10_2).f0) ((rd_T45 t590 x10_2).f1) ((rd_T45 t590 x10_2).f2.f0) ((rd_T45 t590 x10_2).f2.f1) ((rd_T45 t590 x10_2).f2.f2) ((rd_T45 t590 x10_2).f2.f3) t610 t611 t612 t615 _ _ ?side1 ?side2 ?side3 ?side4 ?side5 ?side6 A24.out).mono ?_
               (case side1 => exact cS (Kd.N_reads' HO_609002.out).2.2)
               (case side2 => exact (Kd.N_reads' HO_609002.out).2.1)
               (case side3 => exact cS (Kd.N_reads' HO_609003.out).2.2)
               (case side4 => exact (Kd.N_reads' HO_609003.out).2.1)
               (case side5 => repeat (first | exact (by repeat (first | (with_reducible exact HR609_0.out) | (with_reducible refine Kd.C_alloc ?_ _) | (with_reducible refine Kd.C_drewN ?_ _) | (with_reducible refine Kd.C_drew ?_) | exact HR609_0.out)) | (with_reducible refine Kd.C_alloc ?_ _) | (with_reducible refine Kd.C_drewN ?_ _) | (with_reducible refine Kd.C_drew ?_)))
               (case side6 => exact HC609_0.out)
               rintro e w33 ⟨v613, v616, rfl, ho0, ho1, hb⟩
               have HS4_ := (hb.cell (World.block_lt_of_cell? _ _ (hHeld.2.2.2.2.1))).trans (hHeld.2.2.2.2.1)
               have HS5_ := (hb.cell (World.block_lt_of_cell? _ _ (hHeld.2.2.2.2.2.1))).trans (hHeld.2.2.2.2.2.1)
               have HS6_ := (hb.cell (World.block_lt_of_cell? _ _ (hHeld.2.2.2.2.2.2.1))).trans (hHeld.2.2.2.2.2.2.1)
               have HS7_ := (hb.cell (World.block_lt_of_cell? _ _ (hHeld.2.2.2.2.2.2.2.1))).trans (hHeld.2.2.2.2.2.2.2.1)
               have HS8_ := (hb.cell (World.block_lt_of_cell? _ _ (hHeld.2.2.2.2.2.2.2.2.1))).trans (hHeld.2.2.2.2.2.2.2.2.1)
               have HS9_ := (hb.cell (World.block_lt_of_cell? _ _ (hHeld.2.2.2.2.2.2.2.2.2))).trans (hHeld.2.2.2.2.2.2.2.2.2)
               refine ⟨_, rfl, ?_⟩
               have HO614 := Aside0.mk (Kd.N_lower (Kd.N_mono (ok' := fun k_ => some k_ ≠ (v616 : Value).ownBlock ∧ some k_ ≠ (.slice (some ad609) t590.length co28 : Value).ownBlock ∧ some k_ ≠ (.slice Ao29 x609002_2.length co29 : Value).ownBlock ∧ some k_ ≠ (.slice Ao30 x609003_2.length co30 : Value).ownBlock ∧ k_ ≠ gb608 ∧ k_ ≠ gb619) (Kd.S_N (Kd.S_bound (Kd.S_apart' ho0 (Kd.S_typed ho1) (by decide)))) (fun k_ hk_ => ⟨hk_.1.2, (Kd.fresh' (Kd.N_lt (by (with_reducible repeat (first | apply Kd.N_alloc | apply Kd.N_drewN | apply Kd.N_drew)); exact HO_3.out)) k_ hk_.2.1), (Kd.fresh' (Kd.N_lt (by (with_reducible repeat (first | apply Kd.N_alloc | apply Kd.N_drewN | apply Kd.N_drew)); exact HO_609002.out)) k_ hk_.2.1), (Kd.fresh' (Kd.N_lt (by (with_reducible repeat (first | apply Kd.N_alloc | apply Kd.N_drewN | apply Kd.N_drew)); exact HO_609003.out)) k_ hk_.2.1), (Kd.freshB (g := gb608) kS k_ hk_.2.1), (Kd.freshB (g := gb619) kS k_ hk_.2.1)⟩)) (below_size bS))
               have HO617 := Aside0.mk (Kd.N_lower (Kd.N_mono (ok' := fun k_ => some k_ ≠ (v613 : Value).ownBlock ∧ some k_ ≠ (.slice (some ad609) t590.length co28 : Value).ownBlock ∧ some k_ ≠ (.slice Ao29 x609002_2.length co29 : Value).ownBlock ∧ some k_ ≠ (.slice Ao30 x609003_2.length co30 : Value).ownBlock ∧ k_ ≠ gb608 ∧ k_ ≠ gb619) (Kd.S_N (Kd.S_bound (Kd.S_apart' ho1 (Kd.S_typed ho0) (by decide)))) (fun k_ hk_ => ⟨hk_.1.2, (Kd.fresh' (Kd.N_lt (by (with_reducible repeat (first | apply Kd.N_alloc | apply Kd.N_drewN | apply Kd.N_drew)); exact HO_3.out)) k_ hk_.2.1), (Kd.fresh' (Kd.N_lt (by (with_reducible repeat (first | apply Kd.N_alloc | apply Kd.N_drewN | apply Kd.N_drew)); exact HO_609002.out)) k_ hk_.2.1), (Kd.fresh' (Kd.N_lt (by (with_reducible repeat (first | apply Kd.N_alloc | apply Kd.N_drewN | apply Kd.N_drew)); exact HO_609003.out)) k_ hk_.2.1), (Kd.freshB (g := gb608) kS k_ hk_.2.1), (Kd.freshB (g := gb619) kS k_ hk_.2.1)⟩)) (below_size bS))
               replace HO_3 := Aside0.mk (Kd.N_mono (Kd.N_told (Kd.N_told (Kd.N_old (by (with_reducible repeat (first | apply Kd.N_alloc | apply Kd.N_drewN | apply Kd.N_drew)); exact HO_3.out) hb) (Kd.S_base ho0)) (Kd.S_base ho1)) (fun _ h_ => h_.1))
               replace HO_609002 := Aside0.mk (Kd.N_mono (Kd.N_told (Kd.N_told (Kd.N_old (by (with_reducible repeat (first | apply Kd.N_alloc | apply Kd.N_drewN | apply Kd.N_drew)); exact HO_609002.out) hb) (Kd.S_base ho0)) (Kd.S_base ho1)) (fun _ h_ => h_.1))
               replace HO_609003 := Aside0.mk (Kd.N_mono (Kd.N_told (Kd.N_told (Kd.N_old (by (with_reducible repeat (first | apply Kd.N_alloc | apply Kd.N_drewN | apply Kd.N_drew)); exact HO_609003.out) hb) (Kd.S_base ho0)) (Kd.S_base ho1)) (fun _ h_ => h_.1))
               replace HL609_0 := Aside0.mk (Kd.V_mono (Kd.V_told (Kd.V_told (Kd.V_old (by (with_reducible repeat (first | apply Kd.V_alloc | apply Kd.V_drewN | apply Kd.V_drew)); exact HL609_0.out) hb) (Kd.S_base ho0)) (Kd.S_base ho1)) (fun _ h_ => h_.1))
               replace BK608 := kB (g := gb608) hb
               replace HR609_0 := Aside0.mk (Kd.C_below (by repeat (first | (with_reducible exact HR609_0.out) | (with_reducible refine Kd.C_alloc ?_ _) | (with_reducible refine Kd.C_drewN ?_ _) | (with_reducible refine Kd.C_drew ?_) | exact HR609_0.out)) hb)
               replace BK619 := kB (g := gb619) hb
               replace HB := hB hb
               (try clear hb)
               (try clear hb2)
               (try clear hk)
               (try clear hi)
               (try clear ho0)
               (try clear ho1)
               refine hK.out _ _ ⟨(blk_cell BK608.out 0).trans rfl, (blk_cell BK608.out 1).trans rfl, (blk_cell BK608.out 2).trans rfl, (blk_cell BK608.out 3).trans rfl, HS4_, HS5_, HS6_, HS7_, HS8_, HS9_⟩ (fun hHeld => ?_)
               clear hK K
               refine norm_ (a' := ?_) ?_ ?_
               rotate_left
               ·show Act.put _ (some 49) _ = _
                simp only [Act.put, List.setIfInBounds_toArray, List.set_cons_zero, List.set_cons_succ, i64_w, i32_w]
                rfl
               refine pU 6 (some 43) #[true, true, true, true, true, true, true, false, false, true, false, false] ?_
               refine pU 7 (some 50) #[true, true, true, true, true, true, true, true, false, true, false, false] ?_
               refine pU 8 (some 51) #[true, true, true, true, true, true, true, true, true, true, false, false] ?_
               exact norm_ (by simp only [putAll, Act.put, List.setIfInBounds_toArray, List.set_cons_zero, List.set_cons_succ]) (hCont (v613, v616, gb619) _ ⟨hHeld, (by (with_reducible repeat (first | apply Kd.V_alloc | apply Kd.V_drewN | apply Kd.V_drew)); exact Kd.V_mono HL609_0.out (fun _ hk => ⟨hk.1.2, ⟨hk.2, ⟨hk.1.1.1.2, ⟨hk.1.1.1.1.1, ⟨hk.1.1.1.1.2.1, ⟨hk.1.1.1.1.2.2, hk.1.1.2⟩⟩⟩⟩⟩⟩)), (by (with_reducible repeat (first | apply Kd.N_alloc | apply Kd.N_drewN | apply Kd.N_drew)); exact HO614.out), (by (with_reducible repeat (first | apply Kd.N_alloc | apply Kd.N_drewN | apply Kd.N_drew)); exact HO617.out), (by (with_reducible repeat (first | apply Kd.N_alloc | apply Kd.N_drewN | apply Kd.N_drew)); exact Kd.N_mono HO_3.out (fun _ hk => ⟨hk.1.2, ⟨hk.2, ⟨hk.1.1.1.1, ⟨hk.1.1.1.2.1, ⟨hk.1.1.1.2.2, hk.1.1.2⟩⟩⟩⟩⟩)), (by (with_reducible repeat (first | apply Kd.N_alloc | apply Kd.N_drewN | apply Kd.N_drew)); exact Kd.N_mono HO_609002.out (fun _ hk => ⟨hk.1.2, ⟨hk.2, ⟨hk.1.1.1.1, ⟨hk.1.1.1.2.1, ⟨hk.1.1.1.2.2, hk.1.1.2⟩⟩⟩⟩⟩)), (by (with_reducible repeat (first | apply Kd.N_alloc | apply Kd.N_drewN | apply Kd.N_drew)); exact Kd.N_mono HO_609003.out (fun _ hk => ⟨hk.1.2, ⟨hk.2, ⟨hk.1.1.1.1, ⟨hk.1.1.1.2.1, ⟨hk.1.1.1.2.2, hk.1.1.2⟩⟩⟩⟩⟩)), kS, kS, GW619.out, GE619.out, NB608_619.out, NB619_608.out, bS⟩)
             rintro ⟨v613, v616, gb619⟩ w34 ⟨hS_, h0_, h1_, h2_, h3_, h4_, h5_, h6_, h7_, h8_, h9_, h10_, h11_, h12_⟩
             have HL609_0 : Aside0 (Kd.V k171 171 w34 w.heap.size (fun k_ => some k_ ≠ (v613 : Value).ownBlock ∧ some k_ ≠ (v616 : Value).ownBlock ∧ some k_ ≠ (.slice (some ad609) t590.length co28 : Value).ownBlock ∧ some k_ ≠ (.slice Ao29 x609002_2.length co29 : Value).ownBlock ∧ some k_ ≠ (.slice Ao30 x609003_2.length co30 : Value).ownBlock ∧ k_ ≠ gb608 ∧ k_ ≠ gb619) (.slice A609_0 ((rd_T45 t590 x10_2).f0).length c609_0) ((rd_T45 t590 x10_2).f0)) := ⟨h0_⟩
             have HO614 : Aside0 (Kd.N (Kd.slice 3 (Kd.int .i64)) 71 w34 w.heap.size (fun k_ => some k_ ≠ (v616 : Value).ownBlock ∧ some k_ ≠ (.slice (some ad609) t590.length co28 : Value).ownBlock ∧ some k_ ≠ (.slice Ao29 x609002_2.length co29 : Value).ownBlock ∧ some k_ ≠ (.slice Ao30 x609003_2.length co30 : Value).ownBlock ∧ k_ ≠ gb608 ∧ k_ ≠ gb619) v613 t612) := ⟨h1_⟩
             have HO617 : Aside0 (Kd.N k45 45 w34 w.heap.size (fun k_ => some k_ ≠ (v613 : Value).ownBlock ∧ some k_ ≠ (.slice (some ad609) t590.length co28 : Value).ownBlock ∧ some k_ ≠ (.slice Ao29 x609002_2.length co29 : Value).ownBlock ∧ some k_ ≠ (.slice Ao30 x609003_2.length co30 : Value).ownBlock ∧ k_ ≠ gb608 ∧ k_ ≠ gb619) v616 t615) := ⟨h2_⟩
             have BK619 : Aside0 (w34.heap[gb619]? = some (.cells #[.int .i64 0, .int .i64 0, .slice none 0 0, .slice none 0 0] 58 (0, 0))) := ⟨h7_⟩
             have GW619 : Aside0 (w.heap.size ≤ gb619) := ⟨h8_⟩
             have GE619 : Aside0 (w.heap.size ≤ gb619) := ⟨h9_⟩
             have NB608_619 : Aside0 (gb608 ≠ gb619) := ⟨h10_⟩
             have NB619_608 : Aside0 (gb619 ≠ gb608) := ⟨h11_⟩
             replace HO_3 : Aside0 (Kd.N k45 45 w34 w.heap.size (fun k_ => some k_ ≠ (v613 : Value).ownBlock ∧ some k_ ≠ (v616 : Value).ownBlock ∧ some k_ ≠ (.slice Ao29 x609002_2.length co29 : Value).ownBlock ∧ some k_ ≠ (.slice Ao30 x609003_2.length co30 : Value).ownBlock ∧ k_ ≠ gb608 ∧ k_ ≠ gb619) (.slice (some ad609) t590.length co28) t590) := ⟨h3_⟩
             replace HO_609002 : Aside0 (Kd.N (Kd.slice 3 (Kd.int .i64)) 71 w34 w.heap.size (fun k_ => some k_ ≠ (v613 : Value).ownBlock ∧ some k_ ≠ (v616 : Value).ownBlock ∧ some k_ ≠ (.slice (some ad609) t590.length co28 : Value).ownBlock ∧ some k_ ≠ (.slice Ao30 x609003_2.length co30 : Value).ownBlock ∧ k_ ≠ gb608 ∧ k_ ≠ gb619) (.slice Ao29 x609002_2.length co29) x609002_2) := ⟨h4_⟩
             replace HO_609003 : Aside0 (Kd.N k45 45 w34 w.heap.size (fun k_ => some k_ ≠ (v613 : Value).ownBlock ∧ some k_ ≠ (v616 : Value).ownBlock ∧ some k_ ≠ (.slice (some ad609) t590.length co28 : Value).ownBlock ∧ some k_ ≠ (.slice Ao29 x609002_2.length co29 : Value).ownBlock ∧ k_ ≠ gb608 ∧ k_ ≠ gb619) (.slice Ao30 x609003_2.length co30) x609003_2) := ⟨h5_⟩
             replace BK608 : Aside0 (w34.heap[gb608]? = some (.cells #[.int .i64 x609000_2, .int .i64 x609001_2, .slice Ao29 x609002_2.length co29, .slice Ao30 x609003_2.length co30] 58 (0, 0))) := ⟨h6_⟩
             replace HB : Aside0 (Below w.heap.size w w34) := ⟨h12_⟩
             clear h0_ h1_ h2_ h3_ h4_ h5_ h6_ h7_ h8_ h9_ h10_ h11_ h12_
             have hHeld : w34.cell? ⟨gb608, 0, none⟩ = some (.int .i64 x609000_2) ∧ w34.cell? ⟨gb608, 1, none⟩ = some (.int .i64 x609001_2) ∧ w34.cell? ⟨gb608, 2, none⟩ = some (.slice Ao29 x609002_2.length co29) ∧ w34.cell? ⟨gb608, 3, none⟩ = some (.slice Ao30 x609003_2.length co30) ∧ w34.cell? (ad609.add ((x10_2).toNat * 6)) = some (.slice A609_0 ((rd_T45 t590 x10_2).f0).length c609_0) ∧ w34.cell? ⟨(ad609.add ((x10_2).toNat * 6)).block, (ad609.add ((x10_2).toNat * 6)).off + 1, none⟩ = some (.int .i64 ((rd_T45 t590 x10_2).f1)) ∧ w34.cell? ⟨(ad609.add ((x10_2).toNat * 6)).block, (ad609.add ((x10_2).toNat * 6)).off + 2, none⟩ = some (.int .i64 ((rd_T45 t590 x10_2).f2.f0)) ∧ w34.cell? ⟨(ad609.add ((x10_2).toNat * 6)).block, (ad609.add ((x10_2).toNat * 6)).off + 3, none⟩ = some (.int .i64 ((rd_T45 t590 x10_2).f2.f1)) ∧ w34.cell? ⟨(ad609.add ((x10_2).toNat * 6)).block, (ad609.add ((x10_2).toNat * 6)).off + 4, none⟩ = some (.int .i64 ((rd_T45 t590 x10_2).f2.f2)) ∧ w34.cell? ⟨(ad609.add ((x10_2).toNat * 6)).block, (ad609.add ((x10_2).toNat * 6)).off + 5, none⟩ = some (.int .i64 ((rd_T45 t590 x10_2).f2.f3)) := hS_
             obtain ⟨Ao37, co37, eo37⟩ := Kd.N_slice HO614.out
             (first | subst eo37 | (injection eo37 with f1_ f2_ f3_; have f4_ := f1_.symm; have f5_ := f3_.symm; clear f1_ f2_ f3_; subst f4_; subst f5_))
             obtain ⟨Ao39, co39, eo39⟩ := Kd.N_slice HO617.out
             (first | subst eo39 | (injection eo39 with f1_ f2_ f3_; have f4_ := f1_.symm; have f5_ := f3_.symm; clear f1_ f2_ f3_; subst f4_; subst f5_))
             refine norm_ (a' := ?_) ?_ ?_
             rotate_left
             ·simp only [putAll, Act.put, List.setIfInBounds_toArray, List.set_cons_zero, List.set_cons_succ]
              rfl
             refine one_ (i := 10) (N := none) #[true, true, true, true, true, true, true, true, true, true, true, false] rfl rfl (one_of HT_.out (by kernel_rfl)) (by decide) (fun K hK => ?_)
             have hs35 : w34.cell? ⟨gb619, 0, none⟩ = some (.int .i64 0) := (blk_cell BK619.out 0).trans rfl
             have hfs35 := blk_frozen BK619.out 0
             have hns35_0 := NB608_619.out
             have hms35_0 := NB619_608.out
             have hs36 : w34.cell? ⟨gb619, 1, none⟩ = some (.int .i64 0) := (blk_cell BK619.out 1).trans rfl
             have hfs36 := blk_frozen BK619.out 1
             have hns36_0 := NB608_619.out
             have hms36_0 := NB619_608.out
             have hs38 : w34.cell? ⟨gb619, 2, none⟩ = some (.slice none 0 0) := (blk_cell BK619.out 2).trans rfl
             have hfs38 := blk_frozen BK619.out 2
             have hns38_0 := NB608_619.out
             have hms38_0 := NB619_608.out
             have hs40 : w34.cell? ⟨gb619, 3, none⟩ = some (.slice none 0 0) := (blk_cell BK619.out 3).trans rfl
             have hfs40 := blk_frozen BK619.out 3
             have hns40_0 := NB608_619.out
             have hms40_0 := NB619_608.out
             refine skip_ (w1 := ?_) (by rfl) rfl ?_ ?_
             rotate_left
             ·go_simp
              rfl
             refine hK.out _ _ ⟨((cell_far (p := ⟨gb619, _, none⟩) NB608_619.out _).trans (((cell_far (p := ⟨gb619, _, none⟩) NB608_619.out _).trans (((cell_far (p := ⟨gb619, _, none⟩) NB608_619.out _).trans (((cell_far (p := ⟨gb619, _, none⟩) NB608_619.out _).trans (hHeld.1)))))))), ((cell_far (p := ⟨gb619, _, none⟩) NB608_619.out _).trans (((cell_far (p := ⟨gb619, _, none⟩) NB608_619.out _).trans (((cell_far (p := ⟨gb619, _, none⟩) NB608_619.out _).trans (((cell_far (p := ⟨gb619, _, none⟩) NB608_619.out _).trans (hHeld.2.1)))))))), ((cell_far (p := ⟨gb619, _, none⟩) NB608_619.out _).trans (((cell_far (p := ⟨gb619, _, none⟩) NB608_619.out _).trans (((cell_far (p := ⟨gb619, _, none⟩) NB608_619.out _).trans (((cell_far (p := ⟨gb619, _, none⟩) NB608_619.out _).trans (hHeld.2.2.1)))))))), ((cell_far (p := ⟨gb619, _, none⟩) NB608_619.out _).trans (((cell_far (p := ⟨gb619, _, none⟩) NB608_619.out _).trans (((cell_far (p := ⟨gb619, _, none⟩) NB608_619.out _).trans (((cell_far (p := ⟨gb619, _, none⟩) NB608_619.out _).trans (hHeld.2.2.2.1)))))))), ((cell_far (p := ⟨gb619, _, none⟩) (by first | exact Kd.own_blk (Kd.N_away HO_3.out (fun _ hk => hk.2.2.2.2.2)) | (rw [add_block]; exact Kd.own_blk (Kd.N_away HO_3.out (fun _ hk => hk.2.2.2.2.2))) | (show (Addr.add _ _).block ≠ _; rw [add_block]; exact Kd.own_blk (Kd.N_away HO_3.out (fun _ hk => hk.2.2.2.2.2))) | (dsimp only; exact Kd.own_blk (Kd.N_away HO_3.out (fun _ hk => hk.2.2.2.2.2)))) _).trans (((cell_far (p := ⟨gb619, _, none⟩) (by first | exact Kd.own_blk (Kd.N_away HO_3.out (fun _ hk => hk.2.2.2.2.2)) | (rw [add_block]; exact Kd.own_blk (Kd.N_away HO_3.out (fun _ hk => hk.2.2.2.2.2))) | (show (Addr.add _ _).block ≠ _; rw [add_block]; exact Kd.own_blk (Kd.N_away HO_3.out (fun _ hk => hk.2.2.2.2.2))) | (dsimp only; exact Kd.own_blk (Kd.N_away HO_3.out (fun _ hk => hk.2.2.2.2.2)))) _).trans (((cell_far (p := ⟨gb619, _, none⟩) (by first | exact Kd.own_blk (Kd.N_away HO_3.out (fun _ hk => hk.2.2.2.2.2)) | (rw [add_block]; exact Kd.own_blk (Kd.N_away HO_3.out (fun _ hk => hk.2.2.2.2.2))) | (show (Addr.add _ _).block ≠ _; rw [add_block]; exact Kd.own_blk (Kd.N_away HO_3.out (fun _ hk => hk.2.2.2.2.2))) | (dsimp only; exact Kd.own_blk (Kd.N_away HO_3.out (fun _ hk => hk.2.2.2.2.2)))) _).trans (((cell_far (p := ⟨gb619, _, none⟩) (by first | exact Kd.own_blk (Kd.N_away HO_3.out (fun _ hk => hk.2.2.2.2.2)) | (rw [add_block]; exact Kd.own_blk (Kd.N_away HO_3.out (fun _ hk => hk.2.2.2.2.2))) | (show (Addr.add _ _).block ≠ _; rw [add_block]; exact Kd.own_blk (Kd.N_away HO_3.out (fun _ hk => hk.2.2.2.2.2))) | (dsimp only; exact Kd.own_blk (Kd.N_away HO_3.out (fun _ hk => hk.2.2.2.2.2)))) _).trans (hHeld.2.2.2.2.1)))))))), ((cell_far (p := ⟨gb619, _, none⟩) (by first | exact Kd.own_blk (Kd.N_away HO_3.out (fun _ hk => hk.2.2.2.2.2)) | (rw [add_block]; exact Kd.own_blk (Kd.N_away HO_3.out (fun _ hk => hk.2.2.2.2.2))) | (show (Addr.add _ _).block ≠ _; rw [add_block]; exact Kd.own_blk (Kd.N_away HO_3.out (fun _ hk => hk.2.2.2.2.2))) | (dsimp only; exact Kd.own_blk (Kd.N_away HO_3.out (fun _ hk => hk.2.2.2.2.2)))) _).trans (((cell_far (p := ⟨gb619, _, none⟩) (by first | exact Kd.own_blk (Kd.N_away HO_3.out (fun _ hk => hk.2.2.2.2.2)) | (rw [add_block]; exact Kd.own_blk (Kd.N_away HO_3.out (fun _ hk => hk.2.2.2.2.2))) | (show (Addr.add _ _).block ≠ _; rw [add_block]; exact Kd.own_blk (Kd.N_away HO_3.out (fun _ hk => hk.2.2.2.2.2))) | (dsimp only; exact Kd.own_blk (Kd.N_away HO_3.out (fun _ hk => hk.2.2.2.2.2)))) _).trans (((cell_far (p := ⟨gb619, _, none⟩) (by first | exact Kd.own_blk (Kd.N_away HO_3.out (fun _ hk => hk.2.2.2.2.2)) | (rw [add_block]; exact Kd.own_blk (Kd.N_away HO_3.out (fun _ hk => hk.2.2.2.2.2))) | (show (Addr.add _ _).block ≠ _; rw [add_block]; exact Kd.own_blk (Kd.N_away HO_3.out (fun _ hk => hk.2.2.2.2.2))) | (dsimp only; exact Kd.own_blk (Kd.N_away HO_3.out (fun _ hk => hk.2.2.2.2.2)))) _).trans (((cell_far (p := ⟨gb619, _, none⟩) (by first | exact Kd.own_blk (Kd.N_away HO_3.out (fun _ hk => hk.2.2.2.2.2)) | (rw [add_block]; exact Kd.own_blk (Kd.N_away HO_3.out (fun _ hk => hk.2.2.2.2.2))) | (show (Addr.add _ _).block ≠ _; rw [add_block]; exact Kd.own_blk (Kd.N_away HO_3.out (fun _ hk => hk.2.2.2.2.2))) | (dsimp only; exact Kd.own_blk (Kd.N_away HO_3.out (fun _ hk => hk.2.2.2.2.2)))) _).trans (hHeld.2.2.2.2.2.1)))))))), ((cell_far (p := ⟨gb619, _, none⟩) (by first | exact Kd.own_blk (Kd.N_away HO_3.out (fun _ hk => hk.2.2.2.2.2)) | (rw [add_block]; exact Kd.own_blk (Kd.N_away HO_3.out (fun _ hk => hk.2.2.2.2.2))) | (show (Addr.add _ _).block ≠ _; rw [add_block]; exact Kd.own_blk (Kd.N_away HO_3.out (fun _ hk => hk.2.2.2.2.2))) | (dsimp only; exact Kd.own_blk (Kd.N_away HO_3.out (fun _ hk => hk.2.2.2.2.2)))) _).trans (((cell_far (p := ⟨gb619, _, none⟩) (by first | exact Kd.own_blk (Kd.N_away HO_3.out (fun _ hk => hk.2.2.2.2.2)) | (rw [add_block]; exact Kd.own_blk (Kd.N_away HO_3.out (fun _ hk => hk.2.2.2.2.2))) | (show (Addr.add _ _).block ≠ _; rw [add_block]; exact Kd.own_blk (Kd.N_away HO_3.out (fun _ hk => hk.2.2.2.2.2))) | (dsimp only; exact Kd.own_blk (Kd.N_away HO_3.out (fun _ hk => hk.2.2.2.2.2)))) _).trans (((cell_far (p := ⟨gb619, _, none⟩) (by first | exact Kd.own_blk (Kd.N_away HO_3.out (fun _ hk => hk.2.2.2.2.2)) | (rw [add_block]; exact Kd.own_blk (Kd.N_away HO_3.out (fun _ hk => hk.2.2.2.2.2))) | (show (Addr.add _ _).block ≠ _; rw [add_block]; exact Kd.own_blk (Kd.N_away HO_3.out (fun _ hk => hk.2.2.2.2.2))) | (dsimp only; exact Kd.own_blk (Kd.N_away HO_3.out (fun _ hk => hk.2.2.2.2.2)))) _).trans (((cell_far (p := ⟨gb619, _, none⟩) (by first | exact Kd.own_blk (Kd.N_away HO_3.out (fun _ hk => hk.2.2.2.2.2)) | (rw [add_block]; exact Kd.own_blk (Kd.N_away HO_3.out (fun _ hk => hk.2.2.2.2.2))) | (show (Addr.add _ _).block ≠ _; rw [add_block]; exact Kd.own_blk (Kd.N_away HO_3.out (fun _ hk => hk.2.2.2.2.2))) | (dsimp only; exact Kd.own_blk (Kd.N_away HO_3.out (fun _ hk => hk.2.2.2.2.2)))) _).trans (hHeld.2.2.2.2.2.2.1)))))))), ((cell_far (p := ⟨gb619, _, none⟩) (by first | exact Kd.own_blk (Kd.N_away HO_3.out (fun _ hk => hk.2.2.2.2.2)) | (rw [add_block]; exact Kd.own_blk (Kd.N_away HO_3.out (fun _ hk => hk.2.2.2.2.2))) | (show (Addr.add _ _).block ≠ _; rw [add_block]; exact Kd.own_blk (Kd.N_away HO_3.out (fun _ hk => hk.2.2.2.2.2))) | (dsimp only; exact Kd.own_blk (Kd.N_away HO_3.out (fun _ hk => hk.2.2.2.2.2)))) _).trans (((cell_far (p := ⟨gb619, _, none⟩) (by first | exact Kd.own_blk (Kd.N_away HO_3.out (fun _ hk => hk.2.2.2.2.2)) | (rw [add_block]; exact Kd.own_blk (Kd.N_away HO_3.out (fun _ hk => hk.2.2.2.2.2))) | (show (Addr.add _ _).block ≠ _; rw [add_block]; exact Kd.own_blk (Kd.N_away HO_3.out (fun _ hk => hk.2.2.2.2.2))) | (dsimp only; exact Kd.own_blk (Kd.N_away HO_3.out (fun _ hk => hk.2.2.2.2.2)))) _).trans (((cell_far (p := ⟨gb619, _, none⟩) (by first | exact Kd.own_blk (Kd.N_away HO_3.out (fun _ hk => hk.2.2.2.2.2)) | (rw [add_block]; exact Kd.own_blk (Kd.N_away HO_3.out (fun _ hk => hk.2.2.2.2.2))) | (show (Addr.add _ _).block ≠ _; rw [add_block]; exact Kd.own_blk (Kd.N_away HO_3.out (fun _ hk => hk.2.2.2.2.2))) | (dsimp only; exact Kd.own_blk (Kd.N_away HO_3.out (fun _ hk => hk.2.2.2.2.2)))) _).trans (((cell_far (p := ⟨gb619, _, none⟩) (by first | exact Kd.own_blk (Kd.N_away HO_3.out (fun _ hk => hk.2.2.2.2.2)) | (rw [add_block]; exact Kd.own_blk (Kd.N_away HO_3.out (fun _ hk => hk.2.2.2.2.2))) | (show (Addr.add _ _).block ≠ _; rw [add_block]; exact Kd.own_blk (Kd.N_away HO_3.out (fun _ hk => hk.2.2.2.2.2))) | (dsimp only; exact Kd.own_blk (Kd.N_away HO_3.out (fun _ hk => hk.2.2.2.2.2)))) _).trans (hHeld.2.2.2.2.2.2.2.1)))))))), ((cell_far (p := ⟨gb619, _, none⟩) (by first | exact Kd.own_blk (Kd.N_away HO_3.out (fun _ hk => hk.2.2.2.2.2)) | (rw [add_block]; exact Kd.own_blk (Kd.N_away HO_3.out (fun _ hk => hk.2.2.2.2.2))) | (show (Addr.add _ _).block ≠ _; rw [add_block]; exact Kd.own_blk (Kd.N_away HO_3.out (fun _ hk => hk.2.2.2.2.2))) | (dsimp only; exact Kd.own_blk (Kd.N_away HO_3.out (fun _ hk => hk.2.2.2.2.2)))) _).trans (((cell_far (p := ⟨gb619, _, none⟩) (by first | exact Kd.own_blk (Kd.N_away HO_3.out (fun _ hk => hk.2.2.2.2.2)) | (rw [add_block]; exact Kd.own_blk (Kd.N_away HO_3.out (fun _ hk => hk.2.2.2.2.2))) | (show (Addr.add _ _).block ≠ _; rw [add_block]; exact Kd.own_blk (Kd.N_away HO_3.out (fun _ hk => hk.2.2.2.2.2))) | (dsimp only; exact Kd.own_blk (Kd.N_away HO_3.out (fun _ hk => hk.2.2.2.2.2)))) _).trans (((cell_far (p := ⟨gb619, _, none⟩) (by first | exact Kd.own_blk (Kd.N_away HO_3.out (fun _ hk => hk.2.2.2.2.2)) | (rw [add_block]; exact Kd.own_blk (Kd.N_away HO_3.out (fun _ hk => hk.2.2.2.2.2))) | (show (Addr.add _ _).block ≠ _; rw [add_block]; exact Kd.own_blk (Kd.N_away HO_3.out (fun _ hk => hk.2.2.2.2.2))) | (dsimp only; exact Kd.own_blk (Kd.N_away HO_3.out (fun _ hk => hk.2.2.2.2.2)))) _).trans (((cell_far (p := ⟨gb619, _, none⟩) (by first | exact Kd.own_blk (Kd.N_away HO_3.out (fun _ hk => hk.2.2.2.2.2)) | (rw [add_block]; exact Kd.own_blk (Kd.N_away HO_3.out (fun _ hk => hk.2.2.2.2.2))) | (show (Addr.add _ _).block ≠ _; rw [add_block]; exact Kd.own_blk (Kd.N_away HO_3.out (fun _ hk => hk.2.2.2.2.2))) | (dsimp only; exact Kd.own_blk (Kd.N_away HO_3.out (fun _ hk => hk.2.2.2.2.2)))) _).trans (hHeld.2.2.2.2.2.2.2.2.1)))))))), ((cell_far (p := ⟨gb619, _, none⟩) (by first | exact Kd.own_blk (Kd.N_away HO_3.out (fun _ hk => hk.2.2.2.2.2)) | (rw [add_block]; exact Kd.own_blk (Kd.N_away HO_3.out (fun _ hk => hk.2.2.2.2.2))) | (show (Addr.add _ _).block ≠ _; rw [add_block]; exact Kd.own_blk (Kd.N_away HO_3.out (fun _ hk => hk.2.2.2.2.2))) | (dsimp only; exact Kd.own_blk (Kd.N_away HO_3.out (fun _ hk => hk.2.2.2.2.2)))) _).trans (((cell_far (p := ⟨gb619, _, none⟩) (by first | exact Kd.own_blk (Kd.N_away HO_3.out (fun _ hk => hk.2.2.2.2.2)) | (rw [add_block]; exact Kd.own_blk (Kd.N_away HO_3.out (fun _ hk => hk.2.2.2.2.2))) | (show (Addr.add _ _).block ≠ _; rw [add_block]; exact Kd.own_blk (Kd.N_away HO_3.out (fun _ hk => hk.2.2.2.2.2))) | (dsimp only; exact Kd.own_blk (Kd.N_away HO_3.out (fun _ hk => hk.2.2.2.2.2)))) _).trans (((cell_far (p := ⟨gb619, _, none⟩) (by first | exact Kd.own_blk (Kd.N_away HO_3.out (fun _ hk => hk.2.2.2.2.2)) | (rw [add_block]; exact Kd.own_blk (Kd.N_away HO_3.out (fun _ hk => hk.2.2.2.2.2))) | (show (Addr.add _ _).block ≠ _; rw [add_block]; exact Kd.own_blk (Kd.N_away HO_3.out (fun _ hk => hk.2.2.2.2.2))) | (dsimp only; exact Kd.own_blk (Kd.N_away HO_3.out (fun _ hk => hk.2.2.2.2.2)))) _).trans (((cell_far (p := ⟨gb619, _, none⟩) (by first | exact Kd.own_blk (Kd.N_away HO_3.out (fun _ hk => hk.2.2.2.2.2)) | (rw [add_block]; exact Kd.own_blk (Kd.N_away HO_3.out (fun _ hk => hk.2.2.2.2.2))) | (show (Addr.add _ _).block ≠ _; rw [add_block]; exact Kd.own_blk (Kd.N_away HO_3.out (fun _ hk => hk.2.2.2.2.2))) | (dsimp only; exact Kd.own_blk (Kd.N_away HO_3.out (fun _ hk => hk.2.2.2.2.2)))) _).trans (hHeld.2.2.2.2.2.2.2.2.2))))))))⟩ (fun hHeld => ?_)
             clear hK K
             refine pU 11 (some 12) #[true, true, true, true, true, true, true, true, true, true, true, true] ?_
             refine done_ (done_of HT_.out (by kernel_rfl)) ?_
             have hnb41 := NB619_608.out
             have hnc41 := NB608_619.out
             have hz42 := cz4 BK619
             try go_wp2_with (first | (go_at_call 63; (with_reducible refine (impl_BandCells.calls k2 t610 t611 _ _ t612 _ _ t615 t620 _ ?side1 ?side2 ?side3 ?side4 A26.out).mono ?_); (case side1 => refine (Kd.N_reads' (e := 71) (base := w.heap.size) (ok := fun k_ => (some k_ ≠ (.slice Ao39 t615.length co39 : Value).ownBlock ∧ (some k_ ≠ (.slice (some ad609) t590.length co28 : Value).ownBlock ∧ (some k_ ≠ (.slice Ao29 x609002_2.length co29 : Value).ownBlock ∧ (some k_ ≠ (.slice Ao30 x609003_2.length co30 : Value).ownBlock ∧ (k_ ≠ gb608 ∧ k_ ≠ gb619)))))) (n := t612.length) (c := co37) ?_).2.2; exact (by (with_reducible repeat (first | apply Kd.N_alloc | apply Kd.N_drewN | apply Kd.N_drew)); exact (Kd.N_mono (Kd.N_far (p := ⟨gb619, 3, none⟩) (Kd.N_far (p := ⟨gb619, 2, none⟩) (Kd.N_far (p := ⟨gb619, 1, none⟩) (Kd.N_far (p := ⟨gb619, 0, none⟩) (Kd.N_mono HO614.out (fun k_ hk => (⟨hk, hk.2.2.2.2.2⟩ : _ ∧ k_ ≠ gb619))) (fun _ hk => hk.2) (.int .i64 t610)) (fun _ hk => hk.2) (.int .i64 t611)) (fun _ hk => hk.2) (.slice Ao37 t612.length co37)) (fun _ hk => hk.2) (.slice Ao39 t615.length co39)) (fun _ h_ => h_.1)))); (case side2 => exact (Kd.N_reads' HO614.out).2.1); (case side3 => refine (Kd.N_reads' (e := 45) (base := w.heap.size) (ok := fun k_ => (some k_ ≠ (.slice Ao37 t612.length co37 : Value).ownBlock ∧ (some k_ ≠ (.slice (some ad609) t590.length co28 : Value).ownBlock ∧ (some k_ ≠ (.slice Ao29 x609002_2.length co29 : Value).ownBlock ∧ (some k_ ≠ (.slice Ao30 x609003_2.length co30 : Value).ownBlock ∧ (k_ ≠ gb608 ∧ k_ ≠ gb619)))))) (n := t615.length) (c := co39) ?_).2.2; exact (by (with_reducible repeat (first | apply Kd.N_alloc | apply Kd.N_drewN | apply Kd.N_drew)); exact (Kd.N_mono (Kd.N_far (p := ⟨gb619, 3, none⟩) (Kd.N_far (p := ⟨gb619, 2, none⟩) (Kd.N_far (p := ⟨gb619, 1, none⟩) (Kd.N_far (p := ⟨gb619, 0, none⟩) (Kd.N_mono HO617.out (fun k_ hk => (⟨hk, hk.2.2.2.2.2⟩ : _ ∧ k_ ≠ gb619))) (fun _ hk => hk.2) (.int .i64 t610)) (fun _ hk => hk.2) (.int .i64 t611)) (fun _ hk => hk.2) (.slice Ao37 t612.length co37)) (fun _ hk => hk.2) (.slice Ao39 t615.length co39)) (fun _ h_ => h_.1)))); (case side4 => exact (Kd.N_reads' HO617.out).2.1); rintro e w43 ⟨rfl, hb⟩; replace HO_3 := Aside0.mk (Kd.N_below (by (with_reducible repeat (first | apply Kd.N_alloc | apply Kd.N_drewN | apply Kd.N_drew)); exact (Kd.N_mono (Kd.N_far (p := ⟨gb619, 3, none⟩) (Kd.N_far (p := ⟨gb619, 2, none⟩) (Kd.N_far (p := ⟨gb619, 1, none⟩) (Kd.N_far (p := ⟨gb619, 0, none⟩) (Kd.N_mono HO_3.out (fun k_ hk => (⟨hk, hk.2.2.2.2.2⟩ : _ ∧ k_ ≠ gb619))) (fun _ hk => hk.2) (.int .i64 t610)) (fun _ hk => hk.2) (.int .i64 t611)) (fun _ hk => hk.2) (.slice Ao37 t612.length co37)) (fun _ hk => hk.2) (.slice Ao39 t615.length co39)) (fun _ h_ => h_.1))) hb); replace HO_609002 := Aside0.mk (Kd.N_below (by (with_reducible repeat (first | apply Kd.N_alloc | apply Kd.N_drewN | apply Kd.N_drew)); exact (Kd.N_mono (Kd.N_far (p := ⟨gb619, 3, none⟩) (Kd.N_far (p := ⟨gb619, 2, none⟩) (Kd.N_far (p := ⟨gb619, 1, none⟩) (Kd.N_far (p := ⟨gb619, 0, none⟩) (Kd.N_mono HO_609002.out (fun k_ hk => (⟨hk, hk.2.2.2.2.2⟩ : _ ∧ k_ ≠ gb619))) (fun _ hk => hk.2) (.int .i64 t610)) (fun _ hk => hk.2) (.int .i64 t611)) (fun _ hk => hk.2) (.slice Ao37 t612.length co37)) (fun _ hk => hk.2) (.slice Ao39 t615.length co39)) (fun _ h_ => h_.1))) hb); replace HO_609003 := Aside0.mk (Kd.N_below (by (with_reducible repeat (first | apply Kd.N_alloc | apply Kd.N_drewN | apply Kd.N_drew)); exact (Kd.N_mono (Kd.N_far (p := ⟨gb619, 3, none⟩) (Kd.N_far (p := ⟨gb619, 2, none⟩) (Kd.N_far (p := ⟨gb619, 1, none⟩) (Kd.N_far (p := ⟨gb619, 0, none⟩) (Kd.N_mono HO_609003.out (fun k_ hk => (⟨hk, hk.2.2.2.2.2⟩ : _ ∧ k_ ≠ gb619))) (fun _ hk => hk.2) (.int .i64 t610)) (fun _ hk => hk.2) (.int .i64 t611)) (fun _ hk => hk.2) (.slice Ao37 t612.length co37)) (fun _ hk => hk.2) (.slice Ao39 t615.length co39)) (fun _ h_ => h_.1))) hb); replace HL609_0 := Aside0.mk (Kd.V_below (by (with_reducible repeat (first | apply Kd.V_alloc | apply Kd.V_drewN | apply Kd.V_drew)); exact (Kd.V_mono (Kd.V_far (p := ⟨gb619, 3, none⟩) (Kd.V_far (p := ⟨gb619, 2, none⟩) (Kd.V_far (p := ⟨gb619, 1, none⟩) (Kd.V_far (p := ⟨gb619, 0, none⟩) (Kd.V_mono HL609_0.out (fun k_ hk => (⟨hk, hk.2.2.2.2.2.2⟩ : _ ∧ k_ ≠ gb619))) (fun _ hk => hk.2) (.int .i64 t610)) (fun _ hk => hk.2) (.int .i64 t611)) (fun _ hk => hk.2) (.slice Ao37 t612.length co37)) (fun _ hk => hk.2) (.slice Ao39 t615.length co39)) (fun _ h_ => h_.1))) hb); replace HO614 := Aside0.mk (Kd.N_below (by (with_reducible repeat (first | apply Kd.N_alloc | apply Kd.N_drewN | apply Kd.N_drew)); exact (Kd.N_mono (Kd.N_far (p := ⟨gb619, 3, none⟩) (Kd.N_far (p := ⟨gb619, 2, none⟩) (Kd.N_far (p := ⟨gb619, 1, none⟩) (Kd.N_far (p := ⟨gb619, 0, none⟩) (Kd.N_mono HO614.out (fun k_ hk => (⟨hk, hk.2.2.2.2.2⟩ : _ ∧ k_ ≠ gb619))) (fun _ hk => hk.2) (.int .i64 t610)) (fun _ hk => hk.2) (.int .i64 t611)) (fun _ hk => hk.2) (.slice Ao37 t612.length co37)) (fun _ hk => hk.2) (.slice Ao39 t615.length co39)) (fun _ h_ => h_.1))) hb); replace HO617 := Aside0.mk (Kd.N_below (by (with_reducible repeat (first | apply Kd.N_alloc | apply Kd.N_drewN | apply Kd.N_drew)); exact (Kd.N_mono (Kd.N_far (p := ⟨gb619, 3, none⟩) (Kd.N_far (p := ⟨gb619, 2, none⟩) (Kd.N_far (p := ⟨gb619, 1, none⟩) (Kd.N_far (p := ⟨gb619, 0, none⟩) (Kd.N_mono HO617.out (fun k_ hk => (⟨hk, hk.2.2.2.2.2⟩ : _ ∧ k_ ≠ gb619))) (fun _ hk => hk.2) (.int .i64 t610)) (fun _ hk => hk.2) (.int .i64 t611)) (fun _ hk => hk.2) (.slice Ao37 t612.length co37)) (fun _ hk => hk.2) (.slice Ao39 t615.length co39)) (fun _ h_ => h_.1))) hb); replace BK608 := kB (g := gb608) hb; replace BK619 := Aside0.mk (blk_below (g := gb619) (o := .cells #[.int .i64 t610, .int .i64 t611, .slice Ao37 t612.length co37, .slice Ao39 t615.length co39] 58 (0, 0)) kS hb); replace HB := hB hb; (try clear hb); (try clear hb2); (try clear hk); (try clear hi); have hz44 := cz4 BK619; have hz45 := cz4 BK608))
             go_roundg k2
             case measure => have := HK1.out; have := HK2.out; omega
             case rel => exact ⟨(wrap64 (x10_2 + 1)), (t610), (t611), (t612), (t615), (.slice Ao37 t612.length co37), (.slice Ao39 t615.length co39), (by first | rfl | (simp; done) | (simp [*]; done)), H', ⟨by have := HK1.out; have := HK2.out; omega⟩, ⟨by (with_reducible repeat (first | apply Kd.N_alloc | apply Kd.N_drewN | apply Kd.N_drew)); exact Kd.N_mono (Kd.N_far (p := ⟨gb608, 3, none⟩) (Kd.N_far (p := ⟨gb608, 2, none⟩) (Kd.N_far (p := ⟨gb608, 1, none⟩) (Kd.N_far (p := ⟨gb608, 0, none⟩) (Kd.N_mono HO_3.out (fun k_ hk => (⟨hk, hk.2.2.2.2.1⟩ : _ ∧ k_ ≠ gb608))) (fun _ hk => hk.2) (.int .i64 t610)) (fun _ hk => hk.2) (.int .i64 t611)) (fun _ hk => hk.2) (.slice Ao37 t612.length co37)) (fun _ hk => hk.2) (.slice Ao39 t615.length co39)) (fun _ hk => ⟨hk.1.1, ⟨hk.1.2.1, hk.1.2.2.2.2.1⟩⟩)⟩, ⟨by (with_reducible repeat (first | apply Kd.N_alloc | apply Kd.N_drewN | apply Kd.N_drew)); exact Kd.N_mono (Kd.N_far (p := ⟨gb608, 3, none⟩) (Kd.N_far (p := ⟨gb608, 2, none⟩) (Kd.N_far (p := ⟨gb608, 1, none⟩) (Kd.N_far (p := ⟨gb608, 0, none⟩) (Kd.N_mono HO614.out (fun k_ hk => (⟨hk, hk.2.2.2.2.1⟩ : _ ∧ k_ ≠ gb608))) (fun _ hk => hk.2) (.int .i64 t610)) (fun _ hk => hk.2) (.int .i64 t611)) (fun _ hk => hk.2) (.slice Ao37 t612.length co37)) (fun _ hk => hk.2) (.slice Ao39 t615.length co39)) (fun _ hk => ⟨hk.1.2.1, ⟨hk.1.1, hk.1.2.2.2.2.1⟩⟩)⟩, ⟨by (with_reducible repeat (first | apply Kd.N_alloc | apply Kd.N_drewN | apply Kd.N_drew)); exact Kd.N_mono (Kd.N_far (p := ⟨gb608, 3, none⟩) (Kd.N_far (p := ⟨gb608, 2, none⟩) (Kd.N_far (p := ⟨gb608, 1, none⟩) (Kd.N_far (p := ⟨gb608, 0, none⟩) (Kd.N_mono HO617.out (fun k_ hk => (⟨hk, hk.2.2.2.2.1⟩ : _ ∧ k_ ≠ gb608))) (fun _ hk => hk.2) (.int .i64 t610)) (fun _ hk => hk.2) (.int .i64 t611)) (fun _ hk => hk.2) (.slice Ao37 t612.length co37)) (fun _ hk => hk.2) (.slice Ao39 t615.length co39)) (fun _ hk => ⟨hk.1.2.1, ⟨hk.1.1, hk.1.2.2.2.2.1⟩⟩)⟩, ⟨kS⟩, ⟨bS⟩⟩
           ·obtain rfl := Bool.eq_false_iff.mpr c25
            rw [if_neg nF] at H
            exact absurd ((Option.some.inj H).trans hT) (by decide)
          ·rw [if_neg c23] at H
           exact absurd H (by simp)
         ·rw [if_neg c22] at H
          have c22b0 : decide (x10_2 < (t590.length : Int)) = false := decide_eq_false c22
          clear c22
          have H' := Aside0.mk H
          clear H
          obtain ⟨Ao46, co46, eo46⟩ := Kd.N_slice HO_3.out
          subst eo46
          go_wp2
          go_roundg k2
          case measure => have := HK1.out; have := HK2.out; omega
          case rel => exact ⟨(wrap64 (x9_1 + 1)), (x609000_2), (x609001_2), (x609002_2), (x609003_2), (u609002), (u609003), (by first | rfl | (simp; done) | (simp [*]; done)), H', ⟨by have := HK1.out; have := HK2.out; omega⟩, ⟨by (with_reducible repeat (first | apply Kd.N_alloc | apply Kd.N_drewN | apply Kd.N_drew)); exact HO_3.out⟩, ⟨by (with_reducible repeat (first | apply Kd.N_alloc | apply Kd.N_drewN | apply Kd.N_drew)); exact HO_609002.out⟩, ⟨by (with_reducible repeat (first | apply Kd.N_alloc | apply Kd.N_drewN | apply Kd.N_drew)); exact HO_609003.out⟩, ⟨kS⟩, ⟨bS⟩⟩
      ·rw [if_neg c21] at H
       have c21b0 : decide (x9_1 < 3) = false := decide_eq_false c21
       clear c21
       by_cases c47 : t607 = true
       ·subst c47
        rw [if_pos rfl] at H
        replace H := bN H
        obtain ⟨t621, A48, H⟩ := H
        by_cases c49 : t621 = true
        ·subst c49
         rw [if_pos rfl] at H
         replace H := bN H
         obtain ⟨t622, A50, H⟩ := H
         obtain ⟨y625, hy625⟩ : ∃ y_ : List (S45), y_ = (([] : List (S45))) := ⟨_, rfl⟩
         replace H : (if y625.length + t590.length < 2199023255552 then ((some (y625 ++ t590 : List (S45))).bind fun y628 => (if y628.length + t590.length < 2199023255552 then ((some (y628 ++ t590 : List (S45))).bind fun y631 => (if y631.length + t590.length < 2199023255552 then ((impl_RenderBand.f k1 (y631 ++ t590) t593 (Int.tmod (rd t594 0) t598)).bind fun t637 => ((impl_SameRows.f k1 t622 t637).bind fun t640 => (some t640))) else (none))) else (none))) else (none)) = some r := by first | (rw [hy625]; with_reducible exact H) | (have H2_ := (Option.bind_some _ _).symm.trans H; rw [hy625]; with_reducible exact H2_) | (have H2_ := (Option.bind_some _ _).symm.trans H; with_reducible exact H2_) | with_reducible exact H | (rw [hy625]; exact H) | exact H
         have Ny625 := Aside0.mk hy625
         clear hy625
         by_cases c51 : y625.length + t590.length < 2199023255552
         ·rw [if_pos c51] at H
          have LMc51 := Aside0.mk c51
          clear c51
          obtain ⟨y628, hy628⟩ : ∃ y_ : List (S45), y_ = (y625 ++ t590) := ⟨_, rfl⟩
          replace H : (if y628.length + t590.length < 2199023255552 then ((some (y628 ++ t590 : List (S45))).bind fun y631 => (if y631.length + t590.length < 2199023255552 then ((impl_RenderBand.f k1 (y631 ++ t590) t593 (Int.tmod (rd t594 0) t598)).bind fun t637 => ((impl_SameRows.f k1 t622 t637).bind fun t640 => (some t640))) else (none))) else (none)) = some r := by first | (rw [hy628]; with_reducible exact H) | (have H2_ := (Option.bind_some _ _).symm.trans H; rw [hy628]; with_reducible exact H2_) | (have H2_ := (Option.bind_some _ _).symm.trans H; with_reducible exact H2_) | with_reducible exact H | (rw [hy628]; exact H) | exact H
          have Ny628 := Aside0.mk hy628
          clear hy628
          by_cases c52 : y628.length + t590.length < 2199023255552
          ·rw [if_pos c52] at H
           have LMc52 := Aside0.mk c52
           clear c52
           obtain ⟨y631, hy631⟩ : ∃ y_ : List (S45), y_ = (y628 ++ t590) := ⟨_, rfl⟩
           replace H : (if y631.length + t590.length < 2199023255552 then ((impl_RenderBand.f k1 (y631 ++ t590) t593 (Int.tmod (rd t594 0) t598)).bind fun t637 => ((impl_SameRows.f k1 t622 t637).bind fun t640 => (some t640))) else (none)) = some r := by first | (rw [hy631]; with_reducible exact H) | (have H2_ := (Option.bind_some _ _).symm.trans H; rw [hy631]; with_reducible exact H2_) | (have H2_ := (Option.bind_some _ _).symm.trans H; with_reducible exact H2_) | with_reducible exact H | (rw [hy631]; exact H) | exact H
           have Ny631 := Aside0.mk hy631
           clear hy631
           by_cases c53 : y631.length + t590.length < 2199023255552
           ·rw [if_pos c53] at H
            have LMc53 := Aside0.mk c53
            clear c53
            obtain ⟨y634, hy634⟩ : ∃ y_ : List (S45), y_ = (y631 ++ t590) := ⟨_, rfl⟩
            replace H : ((impl_RenderBand.f k1 y634 t593 (Int.tmod (rd t594 0) t598)).bind fun t637 => ((impl_SameRows.f k1 t622 t637).bind fun t640 => (some t640))) = some r := by first | (rw [hy634]; with_reducible exact H) | (have H2_ := (Option.bind_some _ _).symm.trans H; rw [hy634]; with_reducible exact H2_) | (have H2_ := (Option.bind_some _ _).symm.trans H; with_reducible exact H2_) | with_reducible exact H | (rw [hy634]; exact H) | exact H
            have Ny634 := Aside0.mk hy634
            clear hy634
            replace H := bN H
            obtain ⟨t637, A54, H⟩ := H
            replace H := bN H
            obtain ⟨t640, A55, H⟩ := H
            obtain rfl := Option.some.inj H
            (try clear hT)
            have hz56 := cz4 BK608
            obtain ⟨Ao57, co57, eo57⟩ := Kd.N_slice HO_609002.out
            subst eo57
            obtain ⟨Ao58, co58, eo58⟩ := Kd.N_slice HO_609003.out
            subst eo58
            go_wp2_with (first | (go_at_call 35; (with_reducible refine (impl_BandOk.calls k1 x609000_1 x609001_1 _ _ x609002_1 _ _ x609003_1 _ _ ?side1 ?side2 ?side3 ?side4 A48.out).mono ?_); (case side1 => exact cS (Kd.N_reads' HO_609002.out).2.2); (case side2 => exact (Kd.N_reads' HO_609002.out).2.1); (case side3 => exact cS (Kd.N_reads' HO_609003.out).2.2); (case side4 => exact (Kd.N_reads' HO_609003.out).2.1); rintro e w59 ⟨rfl, hb⟩; replace HO_3 := Aside0.mk (Kd.N_below (by (with_reducible repeat (first | apply Kd.N_alloc | apply Kd.N_drewN | apply Kd.N_drew)); exact HO_3.out) hb); replace HO_609002 := Aside0.mk (Kd.N_below (by (with_reducible repeat (first | apply Kd.N_alloc | apply Kd.N_drewN | apply Kd.N_drew)); exact HO_609002.out) hb); replace HO_609003 := Aside0.mk (Kd.N_below (by (with_reducible repeat (first | apply Kd.N_alloc | apply Kd.N_drewN | apply Kd.N_drew)); exact HO_609003.out) hb); replace BK608 := kB (g := gb608) hb; replace HB := hB hb; (try clear hb); (try clear hb2); (try clear hk); (try clear hi); have hz60 := cz4 BK608) | (go_at_call 64; (with_reducible refine (impl_RowsOfBand.calls k1 x609000_1 x609001_1 _ _ x609002_1 _ _ x609003_1 t622 _ ?side1 ?side2 ?side3 ?side4 A50.out).mono ?_); (case side1 => exact cS (Kd.N_reads' HO_609002.out).2.2); (case side2 => exact (Kd.N_reads' HO_609002.out).2.1); (case side3 => exact cS (Kd.N_reads' HO_609003.out).2.2); (case side4 => exact (Kd.N_reads' HO_609003.out).2.1); rintro e w61 ⟨v623, rfl, ho0, hb⟩; have HO624 := Aside0.mk (Kd.N_lower (Kd.N_mono (ok' := fun k_ => some k_ ≠ (v591 : Value).ownBlock ∧ some k_ ≠ (.slice Ao57 x609002_1.length co57 : Value).ownBlock ∧ some k_ ≠ (.slice Ao58 x609003_1.length co58 : Value).ownBlock ∧ k_ ≠ gb608) (Kd.S_N (Kd.S_bound ho0)) (fun k_ hk_ => ⟨(Kd.fresh' (Kd.N_lt (by (with_reducible repeat (first | apply Kd.N_alloc | apply Kd.N_drewN | apply Kd.N_drew)); exact HO_3.out)) k_ hk_.2.1), (Kd.fresh' (Kd.N_lt (by (with_reducible repeat (first | apply Kd.N_alloc | apply Kd.N_drewN | apply Kd.N_drew)); exact HO_609002.out)) k_ hk_.2.1), (Kd.fresh' (Kd.N_lt (by (with_reducible repeat (first | apply Kd.N_alloc | apply Kd.N_drewN | apply Kd.N_drew)); exact HO_609003.out)) k_ hk_.2.1), (Kd.freshB (g := gb608) kS k_ hk_.2.1)⟩)) (below_size bS)); replace HO_3 := Aside0.mk (Kd.N_elder' (by (with_reducible repeat (first | apply Kd.N_alloc | apply Kd.N_drewN | apply Kd.N_drew)); exact HO_3.out) (Kd.S_base ho0) hb); replace HO_609002 := Aside0.mk (Kd.N_elder' (by (with_reducible repeat (first | apply Kd.N_alloc | apply Kd.N_drewN | apply Kd.N_drew)); exact HO_609002.out) (Kd.S_base ho0) hb); replace HO_609003 := Aside0.mk (Kd.N_elder' (by (with_reducible repeat (first | apply Kd.N_alloc | apply Kd.N_drewN | apply Kd.N_drew)); exact HO_609003.out) (Kd.S_base ho0) hb); replace BK608 := kB (g := gb608) hb; replace HB := hB hb; (try clear hb); (try clear hb2); (try clear hk); (try clear hi); (try clear ho0)) | ((with_reducible refine gate_dst (N := 68) rfl ?_); (try (refine gG (by rfl) (by rfl) ?_; dsimp only)); refine Kd.N_lit k45 _ 45 ?hg (N' := 68) ?hd (xs := ([] : List (S45))) (inner := []) (ok := (fun k_ => some k_ ≠ (v591 : Value).ownBlock ∧ some k_ ≠ (.slice Ao57 x609002_1.length co57 : Value).ownBlock ∧ some k_ ≠ (.slice Ao58 x609003_1.length co58 : Value).ownBlock ∧ some k_ ≠ (v623 : Value).ownBlock ∧ k_ ≠ gb608)) (okp := (fun k_ => some k_ ≠ (v591 : Value).ownBlock ∧ some k_ ≠ (.slice Ao57 x609002_1.length co57 : Value).ownBlock ∧ some k_ ≠ (.slice Ao58 x609003_1.length co58 : Value).ownBlock ∧ some k_ ≠ (v623 : Value).ownBlock ∧ k_ ≠ gb608)) ?hr ?hp (fun _ hk => hk) ((show ∀ k_, w61.heap.size ≤ k_ → (fun k_ => some k_ ≠ (v591 : Value).ownBlock ∧ some k_ ≠ (.slice Ao57 x609002_1.length co57 : Value).ownBlock ∧ some k_ ≠ (.slice Ao58 x609003_1.length co58 : Value).ownBlock ∧ some k_ ≠ (v623 : Value).ownBlock ∧ k_ ≠ gb608) k_ from fun k_ hk => ⟨Kd.fresh' (Kd.N_lt (by (with_reducible repeat (first | apply Kd.N_alloc | apply Kd.N_drewN | apply Kd.N_drew)); exact HO_3.out)) k_ hk, Kd.fresh' (Kd.N_lt (by (with_reducible repeat (first | apply Kd.N_alloc | apply Kd.N_drewN | apply Kd.N_drew)); exact HO_609002.out)) k_ hk, Kd.fresh' (Kd.N_lt (by (with_reducible repeat (first | apply Kd.N_alloc | apply Kd.N_drewN | apply Kd.N_drew)); exact HO_609003.out)) k_ hk, Kd.fresh' (Kd.N_lt (by (with_reducible repeat (first | apply Kd.N_alloc | apply Kd.N_drewN | apply Kd.N_drew)); exact HO624.out)) k_ hk, Kd.freshB (g := gb608) kS k_ hk⟩) _ (Nat.le_refl _)) (Below.refl _ _) (Nat.le_refl _) (by simp) ?_; (case hd => rfl); (case hg => rfl); (case hr => first | (go_simp; done) | (go_simp; rfl)); (case hp => exact (Reps.none _ _)); intro v626 w62 ho63 hb hg_ hnew_; clear hg_ hnew_; (first | rw [← Ny625.out] at ho63 | (simp only [Int.reduceToNat] at ho63; rw [← Ny625.out] at ho63)); have HO627 := Aside0.mk (Kd.N_lower ho63 (below_size bS)); replace HO_3 := Aside0.mk (Kd.N_elder' (by (with_reducible repeat (first | apply Kd.N_alloc | apply Kd.N_drewN | apply Kd.N_drew)); exact HO_3.out) (Kd.N_base ho63) hb); replace HO_609002 := Aside0.mk (Kd.N_elder' (by (with_reducible repeat (first | apply Kd.N_alloc | apply Kd.N_drewN | apply Kd.N_drew)); exact HO_609002.out) (Kd.N_base ho63) hb); replace HO_609003 := Aside0.mk (Kd.N_elder' (by (with_reducible repeat (first | apply Kd.N_alloc | apply Kd.N_drewN | apply Kd.N_drew)); exact HO_609003.out) (Kd.N_base ho63) hb); replace HO624 := Aside0.mk (Kd.N_elder' (by (with_reducible repeat (first | apply Kd.N_alloc | apply Kd.N_drewN | apply Kd.N_drew)); exact HO624.out) (Kd.N_base ho63) hb); replace BK608 := kB (g := gb608) hb; replace HB := hB hb; clear hb ho63; obtain ⟨Ao65, co65, eo65⟩ := Kd.N_slice HO_3.out; subst eo65) | ((with_reducible refine gate_builtin (b := .append) (xs := #[.tmp 68, .tmp 69]) rfl ?_); (try (refine gG (by rfl) (by rfl) ?_; dsimp only)); at_builtin; refine Kd.N_append_rows k45 (w0 := w) w.heap.size rfl (.tmp 68) (.tmp 69) 24 45 (.agg #[(.slice none 0 0), (.int .i64 0), (.int .i64 0), (.int .i64 0), (.int .i64 0), (.int .i64 0)]) 64 rfl Try.underlying24 info45 rfl (by decide) (by omega) v626 y625 t590 _ _ _ (fun k_ => some k_ ≠ (.slice Ao57 x609002_1.length co57 : Value).ownBlock ∧ some k_ ≠ (.slice Ao58 x609003_1.length co58 : Value).ownBlock ∧ some k_ ≠ (v623 : Value).ownBlock ∧ k_ ≠ gb608) (fun k_ => ((fun k_ => some k_ ≠ (.slice Ao57 x609002_1.length co57 : Value).ownBlock ∧ some k_ ≠ (.slice Ao58 x609003_1.length co58 : Value).ownBlock ∧ some k_ ≠ (v623 : Value).ownBlock ∧ k_ ≠ gb608)) k_ ∧ some k_ ≠ (v626 : Value).ownBlock) rfl rfl ?aO ?aR (fun _ hk => hk) ?aF ?aB ?aS ?aL ?_; (case aR => exact (by skip; exact Kd.N_F (Kd.N_mono (ok' := (fun k_ => ((fun k_ => some k_ ≠ (.slice Ao57 x609002_1.length co57 : Value).ownBlock ∧ some k_ ≠ (.slice Ao58 x609003_1.length co58 : Value).ownBlock ∧ some k_ ≠ (v623 : Value).ownBlock ∧ k_ ≠ gb608)) k_ ∧ some k_ ≠ (v626 : Value).ownBlock)) (HO_3.out) (fun k_ hk => ⟨⟨hk.1.1.1, ⟨hk.1.1.2.1, ⟨hk.1.2, hk.1.1.2.2⟩⟩⟩, hk.2⟩)))); (case aB => exact bS); (case aF => exact (fun k_ hk => ⟨Kd.fresh' (Kd.N_lt (by (with_reducible repeat (first | apply Kd.N_alloc | apply Kd.N_drewN | apply Kd.N_drew)); exact HO_609002.out)) k_ hk, Kd.fresh' (Kd.N_lt (by (with_reducible repeat (first | apply Kd.N_alloc | apply Kd.N_drewN | apply Kd.N_drew)); exact HO_609003.out)) k_ hk, Kd.fresh' (Kd.N_lt (by (with_reducible repeat (first | apply Kd.N_alloc | apply Kd.N_drewN | apply Kd.N_drew)); exact HO624.out)) k_ hk, Kd.freshB (g := gb608) kS k_ hk⟩)); (case aO => exact (by (with_reducible repeat (first | apply Kd.N_alloc | apply Kd.N_drewN | apply Kd.N_drew)); exact Kd.N_mono HO627.out (fun _ hk => ⟨hk.2.1, ⟨hk.2.2.1, ⟨hk.2.2.2.1, hk.2.2.2.2⟩⟩⟩))); (case aS => exact (below_size bS)); (case aL => have := LMc51.out; omega); intro v629 w64 ho hb hg hat; rw [← Ny628.out] at ho; have HO630 := Aside0.mk (ho); replace HO_3 := Aside0.mk (Kd.N_afterv (ok := (fun k_ => some k_ ≠ (.slice Ao57 x609002_1.length co57 : Value).ownBlock ∧ some k_ ≠ (.slice Ao58 x609003_1.length co58 : Value).ownBlock ∧ some k_ ≠ (v623 : Value).ownBlock ∧ k_ ≠ gb608)) (by (with_reducible repeat (first | apply Kd.N_alloc | apply Kd.N_drewN | apply Kd.N_drew)); exact Kd.N_mono HO_3.out (fun _ hk => ⟨⟨hk.1.1.1, ⟨hk.1.1.2.1, ⟨hk.1.2, hk.1.1.2.2⟩⟩⟩, hk.2⟩)) hg hat); replace HO_609002 := Aside0.mk (Kd.N_afterv (ok := (fun k_ => some k_ ≠ (.slice Ao65 t590.length co65 : Value).ownBlock ∧ some k_ ≠ (.slice Ao58 x609003_1.length co58 : Value).ownBlock ∧ some k_ ≠ (v623 : Value).ownBlock ∧ k_ ≠ gb608)) (by (with_reducible repeat (first | apply Kd.N_alloc | apply Kd.N_drewN | apply Kd.N_drew)); exact Kd.N_mono HO_609002.out (fun _ hk => ⟨⟨hk.1.1.1, ⟨hk.1.1.2.1, ⟨hk.1.2, hk.1.1.2.2⟩⟩⟩, hk.2⟩)) hg hat); replace HO_609003 := Aside0.mk (Kd.N_afterv (ok := (fun k_ => some k_ ≠ (.slice Ao65 t590.length co65 : Value).ownBlock ∧ some k_ ≠ (.slice Ao57 x609002_1.length co57 : Value).ownBlock ∧ some k_ ≠ (v623 : Value).ownBlock ∧ k_ ≠ gb608)) (by (with_reducible repeat (first | apply Kd.N_alloc | apply Kd.N_drewN | apply Kd.N_drew)); exact Kd.N_mono HO_609003.out (fun _ hk => ⟨⟨hk.1.1.1, ⟨hk.1.1.2.1, ⟨hk.1.2, hk.1.1.2.2⟩⟩⟩, hk.2⟩)) hg hat); replace BK608 := Aside0.mk (blk_grown (g := gb608) kS hg (Kd.N_ne HO627.out BK608.out (by decide))); replace HO624 := Aside0.mk (Kd.N_afterv (ok := (fun k_ => some k_ ≠ (.slice Ao65 t590.length co65 : Value).ownBlock ∧ some k_ ≠ (.slice Ao57 x609002_1.length co57 : Value).ownBlock ∧ some k_ ≠ (.slice Ao58 x609003_1.length co58 : Value).ownBlock ∧ k_ ≠ gb608)) (by (with_reducible repeat (first | apply Kd.N_alloc | apply Kd.N_drewN | apply Kd.N_drew)); exact HO624.out) hg hat); replace HB := Aside0.mk (hb); clear HO627; clear ho hb hg hat) | ((with_reducible refine gate_builtin (b := .append) (xs := #[.tmp 70, .tmp 71]) rfl ?_); (try (refine gG (by rfl) (by rfl) ?_; dsimp only)); at_builtin; refine Kd.N_append_rows k45 (w0 := w) w.heap.size rfl (.tmp 70) (.tmp 71) 24 45 (.agg #[(.slice none 0 0), (.int .i64 0), (.int .i64 0), (.int .i64 0), (.int .i64 0), (.int .i64 0)]) 64 rfl Try.underlying24 info45 rfl (by decide) (by omega) v629 y628 t590 _ _ _ (fun k_ => some k_ ≠ (.slice Ao57 x609002_1.length co57 : Value).ownBlock ∧ some k_ ≠ (.slice Ao58 x609003_1.length co58 : Value).ownBlock ∧ some k_ ≠ (v623 : Value).ownBlock ∧ k_ ≠ gb608) (fun k_ => ((fun k_ => some k_ ≠ (.slice Ao57 x609002_1.length co57 : Value).ownBlock ∧ some k_ ≠ (.slice Ao58 x609003_1.length co58 : Value).ownBlock ∧ some k_ ≠ (v623 : Value).ownBlock ∧ k_ ≠ gb608)) k_ ∧ some k_ ≠ (v629 : Value).ownBlock) rfl rfl ?aO ?aR (fun _ hk => hk) ?aF ?aB ?aS ?aL ?_; (case aR => exact (by skip; exact Kd.N_F (Kd.N_mono (ok' := (fun k_ => ((fun k_ => some k_ ≠ (.slice Ao57 x609002_1.length co57 : Value).ownBlock ∧ some k_ ≠ (.slice Ao58 x609003_1.length co58 : Value).ownBlock ∧ some k_ ≠ (v623 : Value).ownBlock ∧ k_ ≠ gb608)) k_ ∧ some k_ ≠ (v629 : Value).ownBlock)) (HO_3.out) (fun k_ hk => ⟨⟨hk.1.1, ⟨hk.1.2.1, ⟨hk.1.2.2.1, hk.1.2.2.2⟩⟩⟩, hk.2⟩)))); (case aB => exact bS); (case aF => exact (fun k_ hk => ⟨Kd.fresh' (Kd.N_lt (by (with_reducible repeat (first | apply Kd.N_alloc | apply Kd.N_drewN | apply Kd.N_drew)); exact HO_609002.out)) k_ hk, Kd.fresh' (Kd.N_lt (by (with_reducible repeat (first | apply Kd.N_alloc | apply Kd.N_drewN | apply Kd.N_drew)); exact HO_609003.out)) k_ hk, Kd.fresh' (Kd.N_lt (by (with_reducible repeat (first | apply Kd.N_alloc | apply Kd.N_drewN | apply Kd.N_drew)); exact HO624.out)) k_ hk, Kd.freshB (g := gb608) kS k_ hk⟩)); (case aO => exact (by (with_reducible repeat (first | apply Kd.N_alloc | apply Kd.N_drewN | apply Kd.N_drew)); exact HO630.out)); (case aS => exact (below_size bS)); (case aL => have := LMc52.out; omega); intro v632 w66 ho hb hg hat; rw [← Ny631.out] at ho; have HO633 := Aside0.mk (ho); replace HO_3 := Aside0.mk (Kd.N_afterv (ok := (fun k_ => some k_ ≠ (.slice Ao57 x609002_1.length co57 : Value).ownBlock ∧ some k_ ≠ (.slice Ao58 x609003_1.length co58 : Value).ownBlock ∧ some k_ ≠ (v623 : Value).ownBlock ∧ k_ ≠ gb608)) (by (with_reducible repeat (first | apply Kd.N_alloc | apply Kd.N_drewN | apply Kd.N_drew)); exact HO_3.out) hg hat); replace HO_609002 := Aside0.mk (Kd.N_afterv (ok := (fun k_ => some k_ ≠ (.slice Ao65 t590.length co65 : Value).ownBlock ∧ some k_ ≠ (.slice Ao58 x609003_1.length co58 : Value).ownBlock ∧ some k_ ≠ (v623 : Value).ownBlock ∧ k_ ≠ gb608)) (by (with_reducible repeat (first | apply Kd.N_alloc | apply Kd.N_drewN | apply Kd.N_drew)); exact HO_609002.out) hg hat); replace HO_609003 := Aside0.mk (Kd.N_afterv (ok := (fun k_ => some k_ ≠ (.slice Ao65 t590.length co65 : Value).ownBlock ∧ some k_ ≠ (.slice Ao57 x609002_1.length co57 : Value).ownBlock ∧ some k_ ≠ (v623 : Value).ownBlock ∧ k_ ≠ gb608)) (by (with_reducible repeat (first | apply Kd.N_alloc | apply Kd.N_drewN | apply Kd.N_drew)); exact HO_609003.out) hg hat); replace BK608 := Aside0.mk (blk_grown (g := gb608) kS hg (Kd.N_ne HO630.out BK608.out (by decide))); replace HO624 := Aside0.mk (Kd.N_afterv (ok := (fun k_ => some k_ ≠ (.slice Ao65 t590.length co65 : Value).ownBlock ∧ some k_ ≠ (.slice Ao57 x609002_1.length co57 : Value).ownBlock ∧ some k_ ≠ (.slice Ao58 x609003_1.length co58 : Value).ownBlock ∧ k_ ≠ gb608)) (by (with_reducible repeat (first | apply Kd.N_alloc | apply Kd.N_drewN | apply Kd.N_drew)); exact HO624.out) hg hat); replace HB := Aside0.mk (hb); clear HO630; clear ho hb hg hat) | ((with_reducible refine gate_builtin (b := .append) (xs := #[.tmp 72, .tmp 73]) rfl ?_); (try (refine gG (by rfl) (by rfl) ?_; dsimp only)); at_builtin; refine Kd.N_append_rows k45 (w0 := w) w.heap.size rfl (.tmp 72) (.tmp 73) 24 45 (.agg #[(.slice none 0 0), (.int .i64 0), (.int .i64 0), (.int .i64 0), (.int .i64 0), (.int .i64 0)]) 64 rfl Try.underlying24 info45 rfl (by decide) (by omega) v632 y631 t590 _ _ _ (fun k_ => some k_ ≠ (.slice Ao57 x609002_1.length co57 : Value).ownBlock ∧ some k_ ≠ (.slice Ao58 x609003_1.length co58 : Value).ownBlock ∧ some k_ ≠ (v623 : Value).ownBlock ∧ k_ ≠ gb608) (fun k_ => ((fun k_ => some k_ ≠ (.slice Ao57 x609002_1.length co57 : Value).ownBlock ∧ some k_ ≠ (.slice Ao58 x609003_1.length co58 : Value).ownBlock ∧ some k_ ≠ (v623 : Value).ownBlock ∧ k_ ≠ gb608)) k_ ∧ some k_ ≠ (v632 : Value).ownBlock) rfl rfl ?aO ?aR (fun _ hk => hk) ?aF ?aB ?aS ?aL ?_; (case aR => exact (by skip; exact Kd.N_F (Kd.N_mono (ok' := (fun k_ => ((fun k_ => some k_ ≠ (.slice Ao57 x609002_1.length co57 : Value).ownBlock ∧ some k_ ≠ (.slice Ao58 x609003_1.length co58 : Value).ownBlock ∧ some k_ ≠ (v623 : Value).ownBlock ∧ k_ ≠ gb608)) k_ ∧ some k_ ≠ (v632 : Value).ownBlock)) (HO_3.out) (fun k_ hk => ⟨⟨hk.1.1, ⟨hk.1.2.1, ⟨hk.1.2.2.1, hk.1.2.2.2⟩⟩⟩, hk.2⟩)))); (case aB => exact bS); (case aF => exact (fun k_ hk => ⟨Kd.fresh' (Kd.N_lt (by (with_reducible repeat (first | apply Kd.N_alloc | apply Kd.N_drewN | apply Kd.N_drew)); exact HO_609002.out)) k_ hk, Kd.fresh' (Kd.N_lt (by (with_reducible repeat (first | apply Kd.N_alloc | apply Kd.N_drewN | apply Kd.N_drew)); exact HO_609003.out)) k_ hk, Kd.fresh' (Kd.N_lt (by (with_reducible repeat (first | apply Kd.N_alloc | apply Kd.N_drewN | apply Kd.N_drew)); exact HO624.out)) k_ hk, Kd.freshB (g := gb608) kS k_ hk⟩)); (case aO => exact (by (with_reducible repeat (first | apply Kd.N_alloc | apply Kd.N_drewN | apply Kd.N_drew)); exact HO633.out)); (case aS => exact (below_size bS)); (case aL => have := LMc53.out; omega); intro v635 w67 ho hb hg hat; rw [← Ny634.out] at ho; have HO636 := Aside0.mk (ho); replace HO_3 := Aside0.mk (Kd.N_afterv (ok := (fun k_ => some k_ ≠ (.slice Ao57 x609002_1.length co57 : Value).ownBlock ∧ some k_ ≠ (.slice Ao58 x609003_1.length co58 : Value).ownBlock ∧ some k_ ≠ (v623 : Value).ownBlock ∧ k_ ≠ gb608)) (by (with_reducible repeat (first | apply Kd.N_alloc | apply Kd.N_drewN | apply Kd.N_drew)); exact HO_3.out) hg hat); replace HO_609002 := Aside0.mk (Kd.N_afterv (ok := (fun k_ => some k_ ≠ (.slice Ao65 t590.length co65 : Value).ownBlock ∧ some k_ ≠ (.slice Ao58 x609003_1.length co58 : Value).ownBlock ∧ some k_ ≠ (v623 : Value).ownBlock ∧ k_ ≠ gb608)) (by (with_reducible repeat (first | apply Kd.N_alloc | apply Kd.N_drewN | apply Kd.N_drew)); exact HO_609002.out) hg hat); replace HO_609003 := Aside0.mk (Kd.N_afterv (ok := (fun k_ => some k_ ≠ (.slice Ao65 t590.length co65 : Value).ownBlock ∧ some k_ ≠ (.slice Ao57 x609002_1.length co57 : Value).ownBlock ∧ some k_ ≠ (v623 : Value).ownBlock ∧ k_ ≠ gb608)) (by (with_reducible repeat (first | apply Kd.N_alloc | apply Kd.N_drewN | apply Kd.N_drew)); exact HO_609003.out) hg hat); replace BK608 := Aside0.mk (blk_grown (g := gb608) kS hg (Kd.N_ne HO633.out BK608.out (by decide))); replace HO624 := Aside0.mk (Kd.N_afterv (ok := (fun k_ => some k_ ≠ (.slice Ao65 t590.length co65 : Value).ownBlock ∧ some k_ ≠ (.slice Ao57 x609002_1.length co57 : Value).ownBlock ∧ some k_ ≠ (.slice Ao58 x609003_1.length co58 : Value).ownBlock ∧ k_ ≠ gb608)) (by (with_reducible repeat (first | apply Kd.N_alloc | apply Kd.N_drewN | apply Kd.N_drew)); exact HO624.out) hg hat); replace HB := Aside0.mk (hb); clear HO633; clear ho hb hg hat; obtain ⟨Ao68, co68, eo68⟩ := Kd.N_slice HO636.out; subst eo68) | (go_at_call 60; (with_reducible refine (impl_RenderBand.calls k1 _ _ y634 t593 (Int.tmod (rd t594 0) t598) t637 _ ?side1 ?side2 A54.out).mono ?_); (case side1 => exact cS (Kd.N_reads' HO636.out).2.2); (case side2 => exact (Kd.N_reads' HO636.out).2.1); rintro e w69 ⟨v638, rfl, ho0, hb⟩; have HO639 := Aside0.mk (Kd.N_lower (Kd.N_mono (ok' := fun k_ => some k_ ≠ (.slice Ao65 t590.length co65 : Value).ownBlock ∧ some k_ ≠ (.slice Ao57 x609002_1.length co57 : Value).ownBlock ∧ some k_ ≠ (.slice Ao58 x609003_1.length co58 : Value).ownBlock ∧ some k_ ≠ (v623 : Value).ownBlock ∧ some k_ ≠ (.slice Ao68 y634.length co68 : Value).ownBlock ∧ k_ ≠ gb608) (Kd.S_N (Kd.S_bound ho0)) (fun k_ hk_ => ⟨(Kd.fresh' (Kd.N_lt (by (with_reducible repeat (first | apply Kd.N_alloc | apply Kd.N_drewN | apply Kd.N_drew)); exact HO_3.out)) k_ hk_.2.1), (Kd.fresh' (Kd.N_lt (by (with_reducible repeat (first | apply Kd.N_alloc | apply Kd.N_drewN | apply Kd.N_drew)); exact HO_609002.out)) k_ hk_.2.1), (Kd.fresh' (Kd.N_lt (by (with_reducible repeat (first | apply Kd.N_alloc | apply Kd.N_drewN | apply Kd.N_drew)); exact HO_609003.out)) k_ hk_.2.1), (Kd.fresh' (Kd.N_lt (by (with_reducible repeat (first | apply Kd.N_alloc | apply Kd.N_drewN | apply Kd.N_drew)); exact HO624.out)) k_ hk_.2.1), (Kd.fresh' (Kd.N_lt (by (with_reducible repeat (first | apply Kd.N_alloc | apply Kd.N_drewN | apply Kd.N_drew)); exact HO636.out)) k_ hk_.2.1), (Kd.freshB (g := gb608) kS k_ hk_.2.1)⟩)) (below_size bS)); replace HO_3 := Aside0.mk (Kd.N_elder' (by (with_reducible repeat (first | apply Kd.N_alloc | apply Kd.N_drewN | apply Kd.N_drew)); exact HO_3.out) (Kd.S_base ho0) hb); replace HO_609002 := Aside0.mk (Kd.N_elder' (by (with_reducible repeat (first | apply Kd.N_alloc | apply Kd.N_drewN | apply Kd.N_drew)); exact HO_609002.out) (Kd.S_base ho0) hb); replace HO_609003 := Aside0.mk (Kd.N_elder' (by (with_reducible repeat (first | apply Kd.N_alloc | apply Kd.N_drewN | apply Kd.N_drew)); exact HO_609003.out) (Kd.S_base ho0) hb); replace HO624 := Aside0.mk (Kd.N_elder' (by (with_reducible repeat (first | apply Kd.N_alloc | apply Kd.N_drewN | apply Kd.N_drew)); exact HO624.out) (Kd.S_base ho0) hb); replace HO636 := Aside0.mk (Kd.N_elder' (by (with_reducible repeat (first | apply Kd.N_alloc | apply Kd.N_drewN | apply Kd.N_drew)); exact HO636.out) (Kd.S_base ho0) hb); replace BK608 := kB (g := gb608) hb; replace HB := hB hb; (try clear hb); (try clear hb2); (try clear hk); (try clear hi); (try clear ho0); obtain ⟨Ao70, co70, eo70⟩ := Kd.N_slice HO624.out; subst eo70; obtain ⟨Ao71, co71, eo71⟩ := Kd.N_slice HO639.out; subst eo71) | (go_at_call 22; (with_reducible refine (impl_SameRows.calls k1 _ _ t622 _ _ t637 t640 _ ?side1 ?side2 ?side3 ?side4 A55.out).mono ?_); (case side1 => exact cS (Kd.N_reads' HO624.out).2.2); (case side2 => exact (Kd.N_reads' HO624.out).2.1); (case side3 => exact cS (Kd.N_reads' HO639.out).2.2); (case side4 => exact (Kd.N_reads' HO639.out).2.1); rintro e w' ⟨rfl, ⟨nd, rfl⟩⟩))
            go_ret
            exact ⟨eS, bS⟩
           ·rw [if_neg c53] at H
            exact absurd H (by simp)
          ·rw [if_neg c52] at H
           exact absurd H (by simp)
         ·rw [if_neg c51] at H
          exact absurd H (by simp)
        ·obtain rfl := Bool.eq_false_iff.mpr c49
         rw [if_neg nF] at H
         exact absurd ((Option.some.inj H).trans hT) (by decide)
       ·obtain rfl := Bool.eq_false_iff.mpr c47
        rw [if_neg nF] at H
        exact absurd ((Option.some.inj H).trans hT) (by decide)
  ·rw [if_neg c7] at H
   exact absurd H (by simp)

end Go.Proofs.Ytigodjcnkgebaaa.QFnMemory
