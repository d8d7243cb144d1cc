-- Made out of the translation by a program of this session (a changed copy of the print). Not trusted: Lean checks it.
import Derived.Test.YtigodjcnkgebaaaQFnMergesx0
import Derived.Test.YtigodjcnkgebaaaQFnMergesx2
import Derived.Test.YtigodjcnkgebaaaQFnMergesx16
import Derived.Test.YtigodjcnkgebaaaQFnMergesx17
namespace Go.Proofs.Ytigodjcnkgebaaa.QFnMerges
open Go.RowKit Go.Proofs.YtigodjcnkgebaaaW.PrintWords Go.Proofs.YtigodjcnkgebaaaW.PrintLast Go.Proofs.YtigodjcnkgebaaaW.PrintMore
attribute [local go_sem] max2_int min2_int max_two min_two max_three min_three max_four min_four   -- for this text's walks alone
set_option linter.unusedVariables false
set_option linter.unusedSimpArgs false
set_option maxHeartbeats 8000000
set_option maxRecDepth 100000

/-! ### impl_ObjectRow: function 26 -/
def impl_ObjectRow.j0 : Nat → Int → Bool → List (S171) → Int → Int → Int → Int → Int → Int → Int → Int → Int → Option ((List (S124)))
 | 0, _, _, _, _, _, _, _, _, _, _, _, _ => none
 | k + 1, x1, x20, x681000, x681001, x681002, x681003, x681004, x681005, x687000, x687001, x687002, x687003 => if x20 = true then (some ([] : List (S124))) else ((impl_SpansAt.f k x681000 x1).bind fun t687 => ((impl_MeetSpans.f k t687 x687000 x687002).bind fun t690 => (some t690)))
def impl_ObjectRow.f (k : Nat) (l0_0 : List (S171)) (a0_1 : Int) (a0_2 : Int) (a0_3 : Int) (a0_4 : Int) (a0_5 : Int) (a1 : Int) : Option ((List (S124))) := (impl_ObjectOk.f k l0_0 a0_1 a0_2 a0_3 a0_4 a0_5).bind fun t681 => (if t681 = true then ((impl_ObjectBox.f k l0_0 a0_1 a0_2 a0_3 a0_4 a0_5).bind fun bt682 => (if a1 < bt682.2.1 then (impl_ObjectRow.j0 k a1 true l0_0 a0_1 a0_2 a0_3 a0_4 a0_5 bt682.1 bt682.2.1 bt682.2.2.1 bt682.2.2.2) else (impl_ObjectRow.j0 k a1 (decide (a1 ≥ bt682.2.2.2)) l0_0 a0_1 a0_2 a0_3 a0_4 a0_5 bt682.1 bt682.2.1 bt682.2.2.1 bt682.2.2.2))) else (some ([] : List (S124))))
def impl_ObjectRow.T6 : Bool × List (List Nat × List Nat) := (true, [([], []), ([0], [0]), ([], []), ([1, 2], [1, 2]), ([], []), ([4], [4]), ([], []), ([6], [6]), ([3, 5, 7, 3], [3, 5, 7]), ([8, 8, 0, 1, 2, 3, 4, 5, 6, 7, 8], [8])])
def impl_ObjectRow.B6 : List Nat := [0, 1, 0, 7, 0, 16, 0, 64, 255, 511]
theorem impl_ObjectRow.tab6 : rtab .any (opsOf Try.f26 6) = impl_ObjectRow.T6 := by kernel_rfl
theorem impl_ObjectRow.bits6 : waitsOk impl_ObjectRow.T6.2 impl_ObjectRow.B6 = true := by kernel_rfl
theorem impl_ObjectRow.calls (k : Nat) (A0_0 : Option Addr) (c0_0 : Nat) (l0_0 : List (S171)) (a0_1 : Int) (a0_2 : Int) (a0_3 : Int) (a0_4 : Int) (a0_5 : Int) (a1 : Int) (r : List (S124)) (w : World) (hr0_0 : Kd.C k171 w A0_0 l0_0.length l0_0) (hc0_0 : l0_0.length ≤ c0_0) (h : impl_ObjectRow.f k l0_0 a0_1 a0_2 a0_3 a0_4 a0_5 a1 = some r) :
  Calls Try.prog 26 #[.agg #[.slice A0_0 l0_0.length c0_0, .int .i64 a0_1, .int .i64 a0_2, .int .i64 a0_3, .int .i64 a0_4, .int .i64 a0_5], .int .i64 a1] w fun e w' => ∃ v0_ : Value, e = .returned (v0_) ∧ Kd.R k124 124 w' w.heap.size (fun _ => True) v0_ r ∧ Below w.heap.size w w' := by
 have hu45 := Try.underlying45
 have hu43 := Try.underlying43
 have HR0_0 := Aside0.mk hr0_0
 have HC0_0 := Aside0.mk hc0_0
 clear hr0_0 hc0_0
 have HB := Aside0.mk (Below.refl w.heap.size w)
 have H : ((impl_ObjectOk.f k l0_0 a0_1 a0_2 a0_3 a0_4 a0_5).bind fun t681 => (if t681 = true then ((impl_ObjectBox.f k l0_0 a0_1 a0_2 a0_3 a0_4 a0_5).bind fun bt682 => (if a1 < bt682.2.1 then (impl_ObjectRow.j0 k a1 true l0_0 a0_1 a0_2 a0_3 a0_4 a0_5 bt682.1 bt682.2.1 bt682.2.2.1 bt682.2.2.2) else (impl_ObjectRow.j0 k a1 (decide (a1 ≥ bt682.2.2.2)) l0_0 a0_1 a0_2 a0_3 a0_4 a0_5 bt682.1 bt682.2.1 bt682.2.2.1 bt682.2.2.2))) else (some ([] : List (S124))))) = some r := h
 clear h
 replace H := bN H
 obtain ⟨t681, A3, H⟩ := H
 by_cases c4 : t681 = true
 ·subst c4
  rw [if_pos rfl] at H
  replace H := bN H
  obtain ⟨⟨t682, t683, t684, t685⟩, A5, H⟩ := H
  have HC6 := Aside0.mk H
  clear H
  go_enter Try.func26, Try.ntmps26
  go_upto_region 4 with (first | ((with_reducible refine gD 2 ?_); refine bxE #[.slice A0_0 l0_0.length c0_0, .int .i64 a0_1, .int .i64 a0_2, .int .i64 a0_3, .int .i64 a0_4, .int .i64 a0_5] 45 ?_; intro gb680 hg w7 BK680 hb; have GW680 := gE hg; have GE680 := gE hg; replace HB := hB hb; clear hb hg; have hcz8_0 : w7.cell? ⟨gb680, 0, none⟩ = some (.slice A0_0 l0_0.length c0_0) := (blk_cell BK680.out 0).trans rfl; have hcz8_1 : w7.cell? ⟨gb680, 1, none⟩ = some (.int .i64 a0_1) := (blk_cell BK680.out 1).trans rfl; have hcz8_2 : w7.cell? ⟨gb680, 2, none⟩ = some (.int .i64 a0_2) := (blk_cell BK680.out 2).trans rfl; have hcz8_3 : w7.cell? ⟨gb680, 3, none⟩ = some (.int .i64 a0_3) := (blk_cell BK680.out 3).trans rfl; have hcz8_4 : w7.cell? ⟨gb680, 4, none⟩ = some (.int .i64 a0_4) := (blk_cell BK680.out 4).trans rfl; have hcz8_5 : w7.cell? ⟨gb680, 5, none⟩ = some (.int .i64 a0_5) := (blk_cell BK680.out 5).trans rfl; have hfz8_0 := blk_frozen BK680.out 0; have hfz8_1 := blk_frozen BK680.out 1; have hfz8_2 := blk_frozen BK680.out 2; have hfz8_3 := blk_frozen BK680.out 3; have hfz8_4 := blk_frozen BK680.out 4; have hfz8_5 := blk_frozen BK680.out 5) | ((with_reducible refine gC 87 ?_); refine cL (some 7) Try.func87 #[.agg #[.slice A0_0 l0_0.length c0_0, .int .i64 a0_1, .int .i64 a0_2, .int .i64 a0_3, .int .i64 a0_4, .int .i64 a0_5]] ?_; (with_reducible refine (impl_ObjectOk.calls k _ _ l0_0 a0_1 a0_2 a0_3 a0_4 a0_5 _ _ (cS (Kd.C_below HR0_0.out HB.out)) HC0_0.out A3.out).mono ?_); rintro e w9 ⟨rfl, hb⟩; refine ⟨_, rfl, ?_⟩; replace BK680 := kB (g := gb680) hb; replace HB := hB hb; (try clear hb); (try clear hb2); (try clear hk); (try clear hi); have hcz10_0 : w9.cell? ⟨gb680, 0, none⟩ = some (.slice A0_0 l0_0.length c0_0) := (blk_cell BK680.out 0).trans rfl; have hcz10_1 : w9.cell? ⟨gb680, 1, none⟩ = some (.int .i64 a0_1) := (blk_cell BK680.out 1).trans rfl; have hcz10_2 : w9.cell? ⟨gb680, 2, none⟩ = some (.int .i64 a0_2) := (blk_cell BK680.out 2).trans rfl; have hcz10_3 : w9.cell? ⟨gb680, 3, none⟩ = some (.int .i64 a0_3) := (blk_cell BK680.out 3).trans rfl; have hcz10_4 : w9.cell? ⟨gb680, 4, none⟩ = some (.int .i64 a0_4) := (blk_cell BK680.out 4).trans rfl; have hcz10_5 : w9.cell? ⟨gb680, 5, none⟩ = some (.int .i64 a0_5) := (blk_cell BK680.out 5).trans rfl; have hfz10_0 := blk_frozen BK680.out 0; have hfz10_1 := blk_frozen BK680.out 1; have hfz10_2 := blk_frozen BK680.out 2; have hfz10_3 := blk_frozen BK680.out 3; have hfz10_4 := blk_frozen BK680.out 4; have hfz10_5 := blk_frozen BK680.out 5) | ((with_reducible refine gC 88 ?_); refine cL (some 10) Try.func88 #[.agg #[.slice A0_0 l0_0.length c0_0, .int .i64 a0_1, .int .i64 a0_2, .int .i64 a0_3, .int .i64 a0_4, .int .i64 a0_5]] ?_; (with_reducible refine (impl_ObjectBox.calls k _ _ l0_0 a0_1 a0_2 a0_3 a0_4 a0_5 t682 t683 t684 t685 _ (cS (Kd.C_below HR0_0.out HB.out)) HC0_0.out A5.out).mono ?_); rintro e w11 ⟨rfl, hb⟩; refine ⟨_, rfl, ?_⟩; replace BK680 := kB (g := gb680) hb; replace HB := hB hb; (try clear hb); (try clear hb2); (try clear hk); (try clear hi)) | ((with_reducible refine gD 5 ?_); refine bxE #[.int .i64 0, .int .i64 0, .int .i64 0, .int .i64 0] 43 ?_; intro gb686 hg w12 BK686 hb; have GW686 := gE hg; have GE686 := gE hg; have NB680_686 := nL (g := gb680) hg; have NB686_680 := nG (g := gb680) hg; replace BK680 := kB (g := gb680) hb; replace HB := hB hb; clear hb hg; have hnb13 := NB686_680.out; have hnc13 := NB680_686.out; have hcz14_0 : w12.cell? ⟨gb686, 0, none⟩ = some (.int .i64 0) := (blk_cell BK686.out 0).trans rfl; have hcz14_1 : w12.cell? ⟨gb686, 1, none⟩ = some (.int .i64 0) := (blk_cell BK686.out 1).trans rfl; have hcz14_2 : w12.cell? ⟨gb686, 2, none⟩ = some (.int .i64 0) := (blk_cell BK686.out 2).trans rfl; have hcz14_3 : w12.cell? ⟨gb686, 3, none⟩ = some (.int .i64 0) := (blk_cell BK686.out 3).trans rfl; have hfz14_0 := blk_frozen BK686.out 0; have hfz14_1 := blk_frozen BK686.out 1; have hfz14_2 := blk_frozen BK686.out 2; have hfz14_3 := blk_frozen BK686.out 3))
  (try simp only [Act.put, List.setIfInBounds_toArray, List.set_cons_zero, List.set_cons_succ])
  go_cut [20] (fun v20 wc => ∃ (kq : Nat) (x20_5 : Bool), v20 = .bool x20_5 ∧ Aside0 (impl_ObjectRow.j0 kq a1 x20_5 l0_0 a0_1 a0_2 a0_3 a0_4 a0_5 t682 t683 t684 t685 = some r) ∧ Aside0 (kq ≤ k) ∧ Aside0 (wc.heap[gb680]? = some (.cells #[(.slice A0_0 l0_0.length c0_0), .int .i64 a0_1, .int .i64 a0_2, .int .i64 a0_3, .int .i64 a0_4, .int .i64 a0_5] 45 (0, 0))) ∧ Aside0 (wc.heap[gb686]? = some (.cells #[.int .i64 t682, .int .i64 t683, .int .i64 t684, .int .i64 t685] 43 (0, 0))) ∧ Aside0 (Below w.heap.size w wc))
  case first =>
   have H := HC6.out
   clear HC6
   rcases iD H with ⟨c15b0, H⟩ | ⟨c15b0, H⟩
   ·(first | rw [c15b0] | (simp only [i64_w, i32_w]; rw [c15b0]) | skip)
    have H' := Aside0.mk H
    clear H
    have hnb16 := NB686_680.out
    have hnc16 := NB680_686.out
    have hcz17_0 : w12.cell? ⟨gb686, 0, none⟩ = some (.int .i64 0) := (blk_cell BK686.out 0).trans rfl
    have hcz17_1 : w12.cell? ⟨gb686, 1, none⟩ = some (.int .i64 0) := (blk_cell BK686.out 1).trans rfl
    have hcz17_2 : w12.cell? ⟨gb686, 2, none⟩ = some (.int .i64 0) := (blk_cell BK686.out 2).trans rfl
    have hcz17_3 : w12.cell? ⟨gb686, 3, none⟩ = some (.int .i64 0) := (blk_cell BK686.out 3).trans rfl
    have hfz17_0 := blk_frozen BK686.out 0
    have hfz17_1 := blk_frozen BK686.out 1
    have hfz17_2 := blk_frozen BK686.out 2
    have hfz17_3 := blk_frozen BK686.out 3
    go_wp2
    go_meet
    case rel => exact ⟨_, (true), fS, H', ⟨by first | omega | exact Nat.le_refl _⟩, ⟨kS⟩, ⟨kS⟩, ⟨bS⟩⟩
   ·(first | rw [c15b0] | (simp only [i64_w, i32_w]; rw [c15b0]) | skip)
    have H' := Aside0.mk H
    clear H
    have hnb18 := NB686_680.out
    have hnc18 := NB680_686.out
    have hcz19_0 : w12.cell? ⟨gb686, 0, none⟩ = some (.int .i64 0) := (blk_cell BK686.out 0).trans rfl
    have hcz19_1 : w12.cell? ⟨gb686, 1, none⟩ = some (.int .i64 0) := (blk_cell BK686.out 1).trans rfl
    have hcz19_2 : w12.cell? ⟨gb686, 2, none⟩ = some (.int .i64 0) := (blk_cell BK686.out 2).trans rfl
    have hcz19_3 : w12.cell? ⟨gb686, 3, none⟩ = some (.int .i64 0) := (blk_cell BK686.out 3).trans rfl
    have hfz19_0 := blk_frozen BK686.out 0
    have hfz19_1 := blk_frozen BK686.out 1
    have hfz19_2 := blk_frozen BK686.out 2
    have hfz19_3 := blk_frozen BK686.out 3
    go_wp2
    go_meet
    case rel => exact ⟨_, (decide (a1 ≥ t685)), fS, H', ⟨by first | omega | exact Nat.le_refl _⟩, ⟨kS⟩, ⟨kS⟩, ⟨bS⟩⟩
  case rest =>
   clear HC6
   try clear c1
   try clear c2
   try clear p2
   try clear c4
   try clear c8
   try clear c13
   try clear c15
   try clear c15b0
   try clear c16
   try clear c18
   try clear hcz10_0
   try clear hcz10_1
   try clear hcz10_2
   try clear hcz10_3
   try clear hcz10_4
   try clear hcz10_5
   try clear hcz14_0
   try clear hcz14_1
   try clear hcz14_2
   try clear hcz14_3
   try clear hcz17_0
   try clear hcz17_1
   try clear hcz17_2
   try clear hcz17_3
   try clear hcz19_0
   try clear hcz19_1
   try clear hcz19_2
   try clear hcz19_3
   try clear hcz8_0
   try clear hcz8_1
   try clear hcz8_2
   try clear hcz8_3
   try clear hcz8_4
   try clear hcz8_5
   try clear hfz10_0
   try clear hfz10_1
   try clear hfz10_2
   try clear hfz10_3
   try clear hfz10_4
   try clear hfz10_5
   try clear hfz14_0
   try clear hfz14_1
   try clear hfz14_2
   try clear hfz14_3
   try clear hfz17_0
   try clear hfz17_1
   try clear hfz17_2
   try clear hfz17_3
   try clear hfz19_0
   try clear hfz19_1
   try clear hfz19_2
   try clear hfz19_3
   try clear hfz8_0
   try clear hfz8_1
   try clear hfz8_2
   try clear hfz8_3
   try clear hfz8_4
   try clear hfz8_5
   obtain ⟨kq, x20_5, rfl, HA, HJ5, BK680, BK686, HB⟩ := hcut
   cases kq with
   | zero => exact absurd HA.out (by simp [impl_ObjectRow.j0])
   | succ kj5 =>
    have H := HA.out
    clear HA
    simp only [impl_ObjectRow.j0] at H
    by_cases c20 : x20_5 = true
    ·subst c20
     rw [if_pos rfl] at H
     obtain rfl := Option.some.inj H
     go_wp2
     go_ret
     exact ⟨_, eS, by first | exact Kd.R_nil _ _ _ _ _ | exact Kd.N_nil _ _ _ _ _ | exact Kd.V_nil _ _ _ _ _ | exact Kd.Q_nil _ _ _ _ _ | exact Kd.S_nil _ _ _ _ _, bS⟩
    ·obtain rfl := Bool.eq_false_iff.mpr c20
     rw [if_neg nF] at H
     replace H := bN H
     obtain ⟨t687, A21, H⟩ := H
     replace H := bN H
     obtain ⟨t690, A22, H⟩ := H
     obtain rfl := Option.some.inj H
     try go_wp2
     replace BK680 := Aside0.mk (blk_drew BK680.out)
     replace BK686 := Aside0.mk (blk_drew BK686.out)
     replace HB := Aside0.mk (below_drew1 HB.out)
     refine start_ (n := 10) (S := fun w' => w'.cell? ⟨gb680, 0, none⟩ = some (.slice A0_0 l0_0.length c0_0) ∧ w'.cell? ⟨gb680, 1, none⟩ = some (.int .i64 a0_1) ∧ w'.cell? ⟨gb680, 2, none⟩ = some (.int .i64 a0_2) ∧ w'.cell? ⟨gb680, 3, none⟩ = some (.int .i64 a0_3) ∧ w'.cell? ⟨gb680, 4, none⟩ = some (.int .i64 a0_4) ∧ w'.cell? ⟨gb680, 5, none⟩ = some (.int .i64 a0_5) ∧ w'.cell? ⟨gb686, 0, none⟩ = some (.int .i64 t682) ∧ w'.cell? ⟨gb686, 1, none⟩ = some (.int .i64 t683) ∧ w'.cell? ⟨gb686, 2, none⟩ = some (.int .i64 t684) ∧ w'.cell? ⟨gb686, 3, none⟩ = some (.int .i64 t685)) (ds := []) #[false, false, false, false, false, false, false, false, false, false] (by kernel_rfl) rfl rfl ⟨(blk_cell BK680.out 0).trans rfl, (blk_cell BK680.out 1).trans rfl, (blk_cell BK680.out 2).trans rfl, (blk_cell BK680.out 3).trans rfl, (blk_cell BK680.out 4).trans rfl, (blk_cell BK680.out 5).trans rfl, (blk_cell BK686.out 0).trans rfl, (blk_cell BK686.out 1).trans rfl, (blk_cell BK686.out 2).trans rfl, (blk_cell BK686.out 3).trans rfl⟩ (fun hHeld => ?_); refine with_tabW impl_ObjectRow.tab6 impl_ObjectRow.bits6 (fun HT_ HW_ => ?_)
     generalize wc.drew = w23 at BK680 BK686 HB hHeld ⊢
     refine pU 0 (some 21) #[true, false, false, false, false, false, false, false, false, false] ?_
     refine pU 2 (some 23) #[true, false, true, false, false, false, false, false, false, false] ?_
     refine pU 4 (some 25) #[true, false, true, false, true, false, false, false, false, false] ?_
     refine pU 6 (some 27) #[true, false, true, false, true, false, true, false, false, false] ?_
     refine tK 1 (some 22) #[true, true, true, false, true, false, true, false, false, false] ?_
     refine tK 5 (some 26) #[true, true, true, false, true, true, true, false, false, false] ?_
     refine tK 7 (some 28) #[true, true, true, false, true, true, true, true, false, false] ?_
     refine one_ (i := 3) (N := some 24) #[true, true, true, true, true, true, true, true, false, false] rfl rfl (one_of HT_.out (by kernel_rfl)) (by decide) (fun K hK => ?_)
     refine goes_ Try.func90 (by kernel_rfl) rfl #[.slice A0_0 l0_0.length c0_0, .int .i64 a1] (by rfl) rfl rfl (by (try simp only [List.map_toArray, List.map_cons, List.map_nil]); first | done | rfl | (simp only [List.length_drop, List.length_take]; rfl)) ?_
     with_reducible refine (impl_SpansAt.calls kj5 _ _ l0_0 a1 t687 _ ?side1 ?side2 A21.out).mono ?_
     (case side1 => exact cS (Kd.C_below HR0_0.out HB.out))
     (case side2 => exact HC0_0.out)
     rintro e w24 ⟨v688, rfl, ho0, hb⟩
     refine ⟨_, rfl, ?_⟩
     have HO689 := Aside0.mk (Kd.R_lower ho0 (below_size bS))
     replace BK680 := kB (g := gb680) hb
     replace BK686 := kB (g := gb686) hb
     replace HB := hB hb
     (try clear hb)
     (try clear hb2)
     (try clear hk)
     (try clear hi)
     (try clear ho0)
     obtain ⟨Ao25, co25, eo25⟩ := Kd.R_slice HO689.out
     (first | subst eo25 | (injection eo25 with f1_ f2_ f3_; have f4_ := f1_.symm; have f5_ := f3_.symm; clear f1_ f2_ f3_; subst f4_; subst f5_))
     refine hK.out _ _ ⟨(blk_cell BK680.out 0).trans rfl, (blk_cell BK680.out 1).trans rfl, (blk_cell BK680.out 2).trans rfl, (blk_cell BK680.out 3).trans rfl, (blk_cell BK680.out 4).trans rfl, (blk_cell BK680.out 5).trans rfl, (blk_cell BK686.out 0).trans rfl, (blk_cell BK686.out 1).trans rfl, (blk_cell BK686.out 2).trans rfl, (blk_cell BK686.out 3).trans rfl⟩ (fun hHeld => ?_)
     clear hK K
     refine norm_ (a' := ?_) ?_ ?_
     rotate_left
     ·show Act.put _ (some 24) _ = _
      simp only [Act.put, List.setIfInBounds_toArray, List.set_cons_zero, List.set_cons_succ, i64_w, i32_w]
      rfl
     refine one_ (i := 8) (N := some 29) #[true, true, true, true, true, true, true, true, true, false] rfl rfl (one_of HT_.out (by kernel_rfl)) (by decide) (fun K hK => ?_)
     refine goes_ Try.func89 (by kernel_rfl) rfl #[.slice Ao25 t687.length co25, .int .i64 t682, .int .i64 t684] (by rfl) rfl rfl (by (try simp only [List.map_toArray, List.map_cons, List.map_nil]); first | done | rfl | (simp only [List.length_drop, List.length_take]; rfl)) ?_
     with_reducible refine (impl_MeetSpans.calls kj5 _ _ t687 t682 t684 t690 _ ?side1 ?side2 A22.out).mono ?_
     (case side1 => exact cS (Kd.R_reads' HO689.out).2.2)
     (case side2 => exact (Kd.R_reads' HO689.out).2.1)
     rintro e w26 ⟨v691, rfl, ho0, hb⟩
     refine ⟨_, rfl, ?_⟩
     have HO692 := Aside0.mk (Kd.R_lower (Kd.R_new' ho0 (Kd.R_lt (rS HO689))) (below_size bS))
     replace HO689 := Aside0.mk (Kd.R_elder' (rS HO689) (Kd.R_base ho0) hb)
     replace BK680 := kB (g := gb680) hb
     replace BK686 := kB (g := gb686) hb
     replace HB := hB hb
     (try clear hb)
     (try clear hb2)
     (try clear hk)
     (try clear hi)
     (try clear ho0)
     refine hK.out _ _ ⟨(blk_cell BK680.out 0).trans rfl, (blk_cell BK680.out 1).trans rfl, (blk_cell BK680.out 2).trans rfl, (blk_cell BK680.out 3).trans rfl, (blk_cell BK680.out 4).trans rfl, (blk_cell BK680.out 5).trans rfl, (blk_cell BK686.out 0).trans rfl, (blk_cell BK686.out 1).trans rfl, (blk_cell BK686.out 2).trans rfl, (blk_cell BK686.out 3).trans rfl⟩ (fun hHeld => ?_)
     clear hK K
     refine norm_ (a' := ?_) ?_ ?_
     rotate_left
     ·show Act.put _ (some 29) _ = _
      simp only [Act.put, List.setIfInBounds_toArray, List.set_cons_zero, List.set_cons_succ, i64_w, i32_w]
      rfl
     refine pU 9 (some 4) #[true, true, true, true, true, true, true, true, true, true] ?_
     refine done_ (done_of HT_.out (by kernel_rfl)) ?_
     try go_wp2
     go_ret
     exact ⟨_, eS, by exact rT (Kd.R_mono HO692.out (fun _ hk => trivial)), bS⟩
 ·obtain rfl := Bool.eq_false_iff.mpr c4
  rw [if_neg nF] at H
  obtain rfl := Option.some.inj H
  go_enter Try.func26, Try.ntmps26
  go_wp2_with (first | ((with_reducible refine gD 2 ?_); refine bxE #[.slice A0_0 l0_0.length c0_0, .int .i64 a0_1, .int .i64 a0_2, .int .i64 a0_3, .int .i64 a0_4, .int .i64 a0_5] 45 ?_; intro gb680 hg w27 BK680 hb; have GW680 := gE hg; have GE680 := gE hg; replace HB := hB hb; clear hb hg; have hz28 := cz6 BK680) | ((with_reducible refine gC 87 ?_); refine cL (some 7) Try.func87 #[.agg #[.slice A0_0 l0_0.length c0_0, .int .i64 a0_1, .int .i64 a0_2, .int .i64 a0_3, .int .i64 a0_4, .int .i64 a0_5]] ?_; (with_reducible refine (impl_ObjectOk.calls k _ _ l0_0 a0_1 a0_2 a0_3 a0_4 a0_5 _ _ (cS (Kd.C_below HR0_0.out HB.out)) HC0_0.out A3.out).mono ?_); rintro e w29 ⟨rfl, hb⟩; refine ⟨_, rfl, ?_⟩; replace BK680 := kB (g := gb680) hb; replace HB := hB hb; (try clear hb); (try clear hb2); (try clear hk); (try clear hi)))
  go_ret
  exact ⟨_, eS, by first | exact Kd.R_nil _ _ _ _ _ | exact Kd.N_nil _ _ _ _ _ | exact Kd.V_nil _ _ _ _ _ | exact Kd.Q_nil _ _ _ _ _ | exact Kd.S_nil _ _ _ _ _, bS⟩

/-! ### impl_paint: function 75 -/
mutual
def impl_paint.l0 : Nat → List (List Int) → Int → Int → Int → List (S171) → Int → Int → Int → Int → Int → Option ((List (List Int)))
 | 0, _, _, _, _, _, _, _, _, _, _ => none
 | k + 1, x0, x1, x11, x12, x694000, x694001, x694002, x694003, x694004, x694005 => if x12 < x11 then ((impl_ObjectRow.f k x694000 x694001 x694002 x694003 x694004 x694005 (wrap64 (x1 + x12))).bind fun t694 => (impl_paint.l1 k x0 x1 x12 x11 x12 t694 (t694.length : Int) 0 x694000 x694001 x694002 x694003 x694004 x694005)) else (some x0)
def impl_paint.l1 : Nat → List (List Int) → Int → Int → Int → Int → List (S124) → Int → Int → List (S171) → Int → Int → Int → Int → Int → Option ((List (List Int)))
 | 0, _, _, _, _, _, _, _, _, _, _, _, _, _, _ => none
 | k + 1, x0, x1, x6, x11, x12, x19, x20, x21, x694000, x694001, x694002, x694003, x694004, x694005 => if x21 < x20 then (if 0 ≤ x21 then (if x21 < (x19.length : Int) then (impl_paint.l2 k x0 x1 x6 ((rd_T124 x19 x21).f0) x11 x12 x19 x20 x21 x694000 x694001 x694002 x694003 x694004 x694005 ((rd_T124 x19 x21).f0) ((rd_T124 x19 x21).f1)) else (none)) else (none)) else (impl_paint.l0 k x0 x1 x11 (wrap64 (x12 + 1)) x694000 x694001 x694002 x694003 x694004 x694005)
def impl_paint.l2 : Nat → List (List Int) → Int → Int → Int → Int → Int → List (S124) → Int → Int → List (S171) → Int → Int → Int → Int → Int → Int → Int → Option ((List (List Int)))
 | 0, _, _, _, _, _, _, _, _, _, _, _, _, _, _, _, _, _ => none
 | k + 1, x0, x1, x6, x9, x11, x12, x19, x20, x21, x694000, x694001, x694002, x694003, x694004, x694005, x699000, x699001 => if x9 < x699001 then (if 0 ≤ x6 then (if x6 < (x0.length : Int) then (if 0 ≤ x9 then (if x9 < ((rd_L2 x0 x6).length : Int) then (impl_paint.l2 k (x0.set (x6 : Int).toNat ((rd_L2 x0 x6).set (x9 : Int).toNat x694001)) x1 x6 (wrap64 (x9 + 1)) x11 x12 x19 x20 x21 x694000 x694001 x694002 x694003 x694004 x694005 x699000 x699001) else (none)) else (none)) else (none)) else (none)) else (impl_paint.l1 k x0 x1 x6 x11 x12 x19 x20 (wrap64 (x21 + 1)) x694000 x694001 x694002 x694003 x694004 x694005)
end
def impl_paint.f (k : Nat) (l0 : List (List Int)) (a1 : Int) (l2_0 : List (S171)) (a2_1 : Int) (a2_2 : Int) (a2_3 : Int) (a2_4 : Int) (a2_5 : Int) : Option ((List (List Int))) := impl_paint.l0 k l0 a1 (l0.length : Int) 0 l2_0 a2_1 a2_2 a2_3 a2_4 a2_5
def impl_paint.T10 : Bool × List (List Nat × List Nat) := (true, [([], []), ([], []), ([0, 1], [0, 1]), ([2], [2]), ([], []), ([], []), ([5], [5]), ([3, 4, 0, 1, 2, 3, 4, 5, 6], [3, 4]), ([7, 6, 0, 1, 2, 3, 4, 5, 6], [6, 7])])
def impl_paint.B10 : List Nat := [0, 0, 3, 7, 0, 0, 32, 127, 255]
theorem impl_paint.tab10 : rtab .any (opsOf Try.f75 10) = impl_paint.T10 := by kernel_rfl
theorem impl_paint.bits10 : waitsOk impl_paint.T10.2 impl_paint.B10 = true := by kernel_rfl
theorem impl_paint.calls (k : Nat) (P0_ : Nat → Prop) (u9000_ : Value) (l0 : List (List Int)) (a1 : Int) (A2_0 : Option Addr) (c2_0 : Nat) (l2_0 : List (S171)) (a2_1 : Int) (a2_2 : Int) (a2_3 : Int) (a2_4 : Int) (a2_5 : Int) (r : List (List Int)) (w0 w : World) (hB : Below w0.heap.size w0 w) (ho0 : Kd.S (Kd.slice 3 (Kd.int .i64)) 71 w w0.heap.size P0_ u9000_ l0) (hr2_0 : ∀ W_, Kept w W_ (fun k_ => P0_ k_) → Kd.C k171 W_ A2_0 l2_0.length l2_0) (hc2_0 : l2_0.length ≤ c2_0) (h : impl_paint.f k l0 a1 l2_0 a2_1 a2_2 a2_3 a2_4 a2_5 = some r) :
  Calls Try.prog 75 #[u9000_, .int .i64 a1, .agg #[.slice A2_0 l2_0.length c2_0, .int .i64 a2_1, .int .i64 a2_2, .int .i64 a2_3, .int .i64 a2_4, .int .i64 a2_5]] w fun e w' => e = .returned (.tuple #[]) ∧ Kd.S (Kd.slice 3 (Kd.int .i64)) 71 w' w0.heap.size (fun k_ => (P0_ k_ ∨ w.heap.size ≤ k_)) u9000_ r ∧ Below w0.heap.size w0 w' ∧ Kept w w' (fun k_ => P0_ k_) := by
 have hu45 := Try.underlying45
 have hu124 := Try.underlying124
 have HO0 := Aside0.mk (show Kd.S (Kd.slice 3 (Kd.int .i64)) 71 w w0.heap.size (fun k_ => (P0_ k_ ∨ w.heap.size ≤ k_)) u9000_ l0 from Kd.S_mono ho0 (fun k_ hk => (.inl hk)))
 have HR2_0 := Aside0.mk hr2_0
 have HC2_0 := Aside0.mk hc2_0
 clear hr2_0 hc2_0
 have HK := Aside0.mk (Kept.refl w (fun k_ => P0_ k_))
 have HW0 := Aside0.mk hB.size
 have HB := Aside0.mk hB
 clear hB
 have H : (impl_paint.l0 k l0 a1 (l0.length : Int) 0 l2_0 a2_1 a2_2 a2_3 a2_4 a2_5) = some r := h
 clear h
 have H' := Aside0.mk H
 clear H
 go_enter Try.func75, Try.ntmps75
 go_wp2_with (first | ((with_reducible refine gD 5 ?_); refine bxE #[.slice A2_0 l2_0.length c2_0, .int .i64 a2_1, .int .i64 a2_2, .int .i64 a2_3, .int .i64 a2_4, .int .i64 a2_5] 45 ?_; intro gb693 hg w4 BK693 hb; have GW693 := Aside0.mk ((by rw [hg]; exact (by first | exact HK.out.1 | exact (show Kept w _ (fun k_ => P0_ k_) from by repeat (first | (with_reducible first | exact HK.out | apply Kept.alloc | apply Kept.drewN | apply Kept.drew) | exact HK.out)).1) : w.heap.size ≤ gb693)); have GE693 := Aside0.mk ((by rw [hg]; exact (below_size bS) : w0.heap.size ≤ gb693)); replace HO0 := sB HO0 hb; replace HK := Aside0.mk (Kept.below (S := (fun k_ => P0_ k_)) (by repeat (first | (with_reducible first | exact HK.out | apply Kept.alloc | apply Kept.drewN | apply Kept.drew) | exact HK.out)) hb); replace HB := hB hb; clear hb hg; obtain ⟨Ao5, co5, eo5⟩ := Kd.S_slice HO0.out; subst eo5))
 go_loopg [12] k (fun kq v12 w' => ∃ (x0_1 : List (List Int)) (x12_1 : Int), v12 = .int .i64 x12_1 ∧ Aside0 (impl_paint.l0 kq x0_1 a1 (l0.length : Int) x12_1 l2_0 a2_1 a2_2 a2_3 a2_4 a2_5 = some r) ∧ Aside0 (kq ≤ k) ∧ Aside0 (Kd.S (Kd.slice 3 (Kd.int .i64)) 71 w' w0.heap.size (fun k_ => (P0_ k_ ∨ w.heap.size ≤ k_)) (.slice Ao5 l0.length co5) x0_1) ∧ Aside0 (w'.heap[gb693]? = some (.cells #[(.slice A2_0 l2_0.length c2_0), .int .i64 a2_1, .int .i64 a2_2, .int .i64 a2_3, .int .i64 a2_4, .int .i64 a2_5] 45 (0, 0))) ∧ Aside0 (Kept w w' (fun k_ => P0_ k_)) ∧ Aside0 (Below w0.heap.size w0 w'))
 case atStart => exact ⟨(l0), (0), fS, H', ⟨Nat.le_refl _⟩, ⟨sS HO0⟩, ⟨kS⟩, ⟨by repeat (first | (with_reducible first | exact HK.out | apply Kept.alloc | apply Kept.drewN | apply Kept.drew | refine Kept.setCell ?_ (.inr GW693.out) _) | exact HK.out)⟩, ⟨bS⟩⟩
 case round =>
  clear H'
  try clear c2
  try clear p2
  obtain ⟨x0_1, x12_1, rfl, HA, HK1, HO_0, BK693, HK, HB⟩ := hrel
  have hl0_1 := (Kd.S_reads' HO_0.out).1
  rw [hl0_1] at HO_0
  (try simp only [hl0_1])
  (try simp only [hl0_1] at BK693)
  cases gk with
  | zero => exact absurd HA.out (by simp [impl_paint.l0])
  | succ k1 =>
   have H := HA.out
   clear HA
   simp only [impl_paint.l0] at H
   by_cases c6 : x12_1 < (l0.length : Int)
   ·rw [if_pos c6] at H
    have c6b0 : decide (x12_1 < (l0.length : Int)) = true := decide_eq_true c6
    (try (have c6b0_ := c6b0; simp only [hl0_1] at c6b0_))
    clear c6
    replace H := bN H
    obtain ⟨t694, A7, H⟩ := H
    have H' := Aside0.mk H
    clear H
    have hcz8_0 : wr.cell? ⟨gb693, 0, none⟩ = some (.slice A2_0 l2_0.length c2_0) := (blk_cell BK693.out 0).trans rfl
    have hcz8_1 : wr.cell? ⟨gb693, 1, none⟩ = some (.int .i64 a2_1) := (blk_cell BK693.out 1).trans rfl
    have hcz8_2 : wr.cell? ⟨gb693, 2, none⟩ = some (.int .i64 a2_2) := (blk_cell BK693.out 2).trans rfl
    have hcz8_3 : wr.cell? ⟨gb693, 3, none⟩ = some (.int .i64 a2_3) := (blk_cell BK693.out 3).trans rfl
    have hcz8_4 : wr.cell? ⟨gb693, 4, none⟩ = some (.int .i64 a2_4) := (blk_cell BK693.out 4).trans rfl
    have hcz8_5 : wr.cell? ⟨gb693, 5, none⟩ = some (.int .i64 a2_5) := (blk_cell BK693.out 5).trans rfl
    have hfz8_0 := blk_frozen BK693.out 0
    have hfz8_1 := blk_frozen BK693.out 1
    have hfz8_2 := blk_frozen BK693.out 2
    have hfz8_3 := blk_frozen BK693.out 3
    have hfz8_4 := blk_frozen BK693.out 4
    have hfz8_5 := blk_frozen BK693.out 5
    go_wp2_with (first | ((with_reducible refine gC 26 ?_); refine cL (some 19) Try.func26 #[.agg #[.slice A2_0 l2_0.length c2_0, .int .i64 a2_1, .int .i64 a2_2, .int .i64 a2_3, .int .i64 a2_4, .int .i64 a2_5], .int .i64 (wrap64 (a1 + x12_1))] ?_; (with_reducible refine (impl_ObjectRow.calls k1 _ _ l2_0 a2_1 a2_2 a2_3 a2_4 a2_5 (wrap64 (a1 + x12_1)) t694 _ ?side1 ?side2 A7.out).mono ?_); (case side1 => exact Kd.C_kept_now HR2_0.out (by repeat (first | (with_reducible first | exact HK.out | apply Kept.alloc | apply Kept.drewN | apply Kept.drew | refine Kept.setCell ?_ (.inr GW693.out) _) | exact HK.out))); (case side2 => exact HC2_0.out); rintro e w9 ⟨v695, rfl, ho0, hb⟩; refine ⟨_, rfl, ?_⟩; have HO696 := Aside0.mk (Kd.R_lower (Kd.R_newM (M := fun k_ => (P0_ k_ ∨ w.heap.size ≤ k_)) ho0 (by first | exact HK.out.1 | exact (show Kept w _ (fun k_ => P0_ k_) from by repeat (first | (with_reducible first | exact HK.out | apply Kept.alloc | apply Kept.drewN | apply Kept.drew | refine Kept.setCell ?_ (.inr GW693.out) _) | exact HK.out)).1) (fun k_ h_ => .inr h_)) (below_size bS)); replace HO_0 := sB HO_0 hb; replace BK693 := kB (g := gb693) hb; replace HK := Aside0.mk (Kept.below (S := (fun k_ => P0_ k_)) (by repeat (first | (with_reducible first | exact HK.out | apply Kept.alloc | apply Kept.drewN | apply Kept.drew | refine Kept.setCell ?_ (.inr GW693.out) _) | exact HK.out)) hb); replace HB := hB hb; (try clear hb); (try clear hb2); (try clear hk); (try clear hi); (try clear ho0); obtain ⟨Ao10, co10, eo10⟩ := Kd.R_slice HO696.out; subst eo10))
    go_loopg [21] k1 (fun kq v21 w' => ∃ (x0_2 : List (List Int)) (x21_2 : Int), v21 = .int .i64 x21_2 ∧ Aside0 (impl_paint.l1 kq x0_2 a1 x12_1 (l0.length : Int) x12_1 t694 (t694.length : Int) x21_2 l2_0 a2_1 a2_2 a2_3 a2_4 a2_5 = some r) ∧ Aside0 (kq ≤ k1) ∧ Aside0 (Kd.S (Kd.slice 3 (Kd.int .i64)) 71 w' w0.heap.size (fun k_ => (P0_ k_ ∨ w.heap.size ≤ k_)) (.slice Ao5 x0_1.length co5) x0_2) ∧ Aside0 (Kd.R k124 124 w' w0.heap.size (fun k_ => (P0_ k_ ∨ w.heap.size ≤ k_)) (.slice Ao10 t694.length co10) t694) ∧ Aside0 (w'.heap[gb693]? = some (.cells #[(.slice A2_0 l2_0.length c2_0), .int .i64 a2_1, .int .i64 a2_2, .int .i64 a2_3, .int .i64 a2_4, .int .i64 a2_5] 45 (0, 0))) ∧ Aside0 (Kept w w' (fun k_ => P0_ k_)) ∧ Aside0 (Below w0.heap.size w0 w'))
    case atStart => exact ⟨(x0_1), (0), fS, H', ⟨Nat.le_refl _⟩, ⟨by (try simp only [hl0_1]); (with_reducible repeat (first | apply Kd.S_alloc | apply Kd.S_drewN | apply Kd.S_drew)); exact HO_0.out⟩, ⟨by (try simp only [hl0_1]); (with_reducible repeat (first | apply Kd.R_alloc | apply Kd.R_drewN | apply Kd.R_drew)); exact Kd.R_mono HO696.out (fun _ hk => hk.1)⟩, ⟨by (try simp only [hl0_1]); (with_reducible repeat (first | refine blk_drewN ?_ _ | refine blk_drew ?_ | refine blk_alloc ?_ _)); exact BK693.out⟩, ⟨by repeat (first | (with_reducible first | exact HK.out | apply Kept.alloc | apply Kept.drewN | apply Kept.drew | refine Kept.setCell ?_ (.inr GW693.out) _) | exact HK.out)⟩, ⟨bS⟩⟩
    case round =>
     clear H'
     try clear c2
     try clear p2
     try clear c6
     try clear c6b0
     try clear p6
     try clear c7
     try clear hcz8_0
     try clear hcz8_1
     try clear hcz8_2
     try clear hcz8_3
     try clear hcz8_4
     try clear hcz8_5
     try clear hfz8_0
     try clear hfz8_1
     try clear hfz8_2
     try clear hfz8_3
     try clear hfz8_4
     try clear hfz8_5
     try clear p2
     obtain ⟨x0_2, x21_2, rfl, HA, HK2, HO_0, HO_19, BK693, HK, HB⟩ := hrel
     have hl0_2 := (Kd.S_reads' HO_0.out).1
     rw [hl0_2] at HO_0
     (try simp only [hl0_2])
     (try simp only [hl0_2] at BK693)
     (try simp only [hl0_2] at HO_19)
     cases gk with
     | zero => exact absurd HA.out (by simp [impl_paint.l1])
     | succ k2 =>
      have H := HA.out
      clear HA
      simp only [impl_paint.l1] at H
      by_cases c11 : x21_2 < (t694.length : Int)
      ·rw [if_pos c11] at H
       have c11b0 : decide (x21_2 < (t694.length : Int)) = true := decide_eq_true c11
       (try (have c11b0_ := c11b0; simp only [hl0_1, hl0_2] at c11b0_))
       clear c11
       by_cases c12 : 0 ≤ x21_2
       ·rw [if_pos c12] at H
        have c12b0 : decide (0 ≤ x21_2) = true := decide_eq_true c12
        clear c12
        by_cases c13 : x21_2 < (t694.length : Int)
        ·rw [if_pos c13] at H
         have c13b0 : decide (x21_2 < (t694.length : Int)) = true := decide_eq_true c13
         (try (have c13b0_ := c13b0; simp only [hl0_1, hl0_2] at c13b0_))
         clear c13
         have H' := Aside0.mk H
         clear H
         have p697 : 0 ≤ (x21_2 : Int) := dA
         have q697 : x21_2 < (t694.length : Int) := dA
         obtain ⟨ad697, e697, hx697_0, hx697_1⟩ := at_T124 (Kd.R_reads' HO_19.out).2.2 x21_2 p697 q697
         cases e697
         replace p697 := eq_true p697
         replace q697 := eq_true q697
         go_wp2_with (first | ((with_reducible refine gD 8 ?_); refine bxE #[.int .i64 0, .int .i64 0] 124 ?_; intro gb698 hg w14 BK698 hb; have GW698 := Aside0.mk ((by rw [hg]; exact (by first | exact HK.out.1 | exact (show Kept w _ (fun k_ => P0_ k_) from by repeat (first | (with_reducible first | exact HK.out | apply Kept.alloc | apply Kept.drewN | apply Kept.drew | refine Kept.setCell ?_ (.inr GW693.out) _) | exact HK.out)).1) : w.heap.size ≤ gb698)); have GE698 := Aside0.mk ((by rw [hg]; exact (below_size bS) : w0.heap.size ≤ gb698)); have NB693_698 := nL (g := gb693) hg; have NB698_693 := nG (g := gb693) hg; replace HO_0 := sB HO_0 hb; replace HO_19 := Aside0.mk (Kd.R_below (Kd.R_elderB (rS HO_19) gb698 (Nat.le_of_eq hg.symm)) hb); replace BK693 := kB (g := gb693) hb; replace HK := Aside0.mk (Kept.below (S := (fun k_ => P0_ k_)) (by repeat (first | (with_reducible first | exact HK.out | apply Kept.alloc | apply Kept.drewN | apply Kept.drew | refine Kept.setCell ?_ (.inr GW693.out) _) | exact HK.out)) hb); replace HB := hB hb; clear hb hg; have hnb15 := NB698_693.out; have hnc15 := NB693_698.out; have hcz16_0 : w14.cell? ⟨gb698, 0, none⟩ = some (.int .i64 0) := (blk_cell BK698.out 0).trans rfl; have hcz16_1 : w14.cell? ⟨gb698, 1, none⟩ = some (.int .i64 0) := (blk_cell BK698.out 1).trans rfl; have hfz16_0 := blk_frozen BK698.out 0; have hfz16_1 := blk_frozen BK698.out 1))
         go_loopg [9] k2 (fun kq v9 w' => ∃ (x0_3 : List (List Int)) (x9_3 : Int), v9 = .int .i64 x9_3 ∧ Aside0 (impl_paint.l2 kq x0_3 a1 x12_1 x9_3 (l0.length : Int) x12_1 t694 (t694.length : Int) x21_2 l2_0 a2_1 a2_2 a2_3 a2_4 a2_5 ((rd_T124 t694 x21_2).f0) ((rd_T124 t694 x21_2).f1) = some r) ∧ Aside0 (kq ≤ k2) ∧ Aside0 (Kd.S (Kd.slice 3 (Kd.int .i64)) 71 w' w0.heap.size (fun k_ => (P0_ k_ ∨ w.heap.size ≤ k_)) (.slice Ao5 x0_2.length co5) x0_3) ∧ Aside0 (Kd.R k124 124 w' w0.heap.size (fun k_ => (P0_ k_ ∨ w.heap.size ≤ k_) ∧ k_ ≠ gb698) (.slice (some ad697) t694.length co10) t694) ∧ Aside0 (w'.heap[gb693]? = some (.cells #[(.slice A2_0 l2_0.length c2_0), .int .i64 a2_1, .int .i64 a2_2, .int .i64 a2_3, .int .i64 a2_4, .int .i64 a2_5] 45 (0, 0))) ∧ Aside0 (w'.heap[gb698]? = some (.cells #[.int .i64 ((rd_T124 t694 x21_2).f0), .int .i64 ((rd_T124 t694 x21_2).f1)] 124 (0, 0))) ∧ Aside0 (Kept w w' (fun k_ => P0_ k_)) ∧ Aside0 (Below w0.heap.size w0 w'))
         case atStart => exact ⟨(x0_2), ((rd_T124 t694 x21_2).f0), fS, H', ⟨Nat.le_refl _⟩, ⟨by (try simp only [hl0_1]); (try simp only [hl0_2]); (with_reducible repeat (first | apply Kd.S_alloc | apply Kd.S_drewN | apply Kd.S_drew)); exact Kd.S_mono (Kd.S_far (p := ⟨gb698, 1, none⟩) (Kd.S_far (p := ⟨gb698, 0, none⟩) (Kd.S_types HO_0.out BK698.out (by decide)) (fun _ hk => hk.2) (.int .i64 ((rd_T124 t694 x21_2).f0))) (fun _ hk => hk.2) (.int .i64 ((rd_T124 t694 x21_2).f1))) (fun _ hk => hk.1)⟩, ⟨by (try simp only [hl0_1]); (try simp only [hl0_2]); (with_reducible repeat (first | apply Kd.R_alloc | apply Kd.R_drewN | apply Kd.R_drew)); exact Kd.R_mono (Kd.R_far (p := ⟨gb698, 1, none⟩) (Kd.R_far (p := ⟨gb698, 0, none⟩) (Kd.R_mono HO_19.out (fun k_ hk => (⟨hk, hk.2⟩ : _ ∧ k_ ≠ gb698))) (fun _ hk => hk.2) (.int .i64 ((rd_T124 t694 x21_2).f0))) (fun _ hk => hk.2) (.int .i64 ((rd_T124 t694 x21_2).f1))) (fun _ hk => ⟨hk.1.1, hk.1.2⟩)⟩, ⟨by (try simp only [hl0_1]); (try simp only [hl0_2]); (with_reducible repeat (first | refine blk_drewN ?_ _ | refine blk_drew ?_ | refine blk_alloc ?_ _)); refine blk_far ?_ NB693_698.out _; (with_reducible repeat (first | refine blk_drewN ?_ _ | refine blk_drew ?_ | refine blk_alloc ?_ _)); refine blk_far ?_ NB693_698.out _; (with_reducible repeat (first | refine blk_drewN ?_ _ | refine blk_drew ?_ | refine blk_alloc ?_ _)); exact BK693.out⟩, ⟨by (try simp only [hl0_1]); (try simp only [hl0_2]); (with_reducible repeat (first | refine blk_drewN ?_ _ | refine blk_drew ?_ | refine blk_alloc ?_ _)); refine blk_put (cs := #[.int .i64 ((rd_T124 t694 x21_2).f0), .int .i64 0]) ?_ 1 _ rfl; (with_reducible repeat (first | refine blk_drewN ?_ _ | refine blk_drew ?_ | refine blk_alloc ?_ _)); refine blk_put (cs := #[.int .i64 0, .int .i64 0]) ?_ 0 _ rfl; (with_reducible repeat (first | refine blk_drewN ?_ _ | refine blk_drew ?_ | refine blk_alloc ?_ _)); exact BK698.out⟩, ⟨by repeat (first | (with_reducible first | exact HK.out | apply Kept.alloc | apply Kept.drewN | apply Kept.drew | refine Kept.setCell ?_ (.inr GW693.out) _ | refine Kept.setCell ?_ (.inr GW698.out) _) | exact HK.out)⟩, ⟨bS⟩⟩
         case round =>
          clear H'
          try clear c1
          try clear c2
          try clear p2
          try clear c6
          try clear c6b0
          try clear p6
          try clear q6
          try clear hx6
          try clear c7
          try clear c11
          try clear c11b0
          try clear c12
          try clear c12b0
          try clear c13
          try clear c13b0
          try clear c15
          try clear hcz16_0
          try clear hcz16_1
          try clear hcz8_0
          try clear hcz8_1
          try clear hcz8_2
          try clear hcz8_3
          try clear hcz8_4
          try clear hcz8_5
          try clear hfz16_0
          try clear hfz16_1
          try clear hfz8_0
          try clear hfz8_1
          try clear hfz8_2
          try clear hfz8_3
          try clear hfz8_4
          try clear hfz8_5
          try clear hx697_0
          try clear hx697_1
          try clear p2
          try clear p6
          try clear p697
          try clear q697
          obtain ⟨x0_3, x9_3, rfl, HA, HK3, HO_0, HO_19, BK693, BK698, HK, HB⟩ := hrel
          have hl0_3 := (Kd.S_reads' HO_0.out).1
          rw [hl0_3] at HO_0
          (try simp only [hl0_3])
          (try simp only [hl0_3] at BK693)
          (try simp only [hl0_3] at BK698)
          (try simp only [hl0_3] at HO_19)
          cases gk with
          | zero => exact absurd HA.out (by simp [impl_paint.l2])
          | succ k3 =>
           have H := HA.out
           clear HA
           simp only [impl_paint.l2] at H
           rcases iD H with ⟨c17b0, H⟩ | ⟨c17b0, H⟩
           ·obtain ⟨c18b0, H⟩ := iT H
            by_cases c19 : x12_1 < (x0_3.length : Int)
            ·rw [if_pos c19] at H
             have c19b0 : decide (x12_1 < (x0_3.length : Int)) = true := decide_eq_true c19
             (try (have c19b0_ := c19b0; simp only [hl0_1, hl0_2, hl0_3] at c19b0_))
             clear c19
             obtain ⟨c20b0, H⟩ := iT H
             by_cases c21 : x9_3 < ((rd_L2 x0_3 x12_1).length : Int)
             ·rw [if_pos c21] at H
              have c21b0 : decide (x9_3 < ((rd_L2 x0_3 x12_1).length : Int)) = true := decide_eq_true c21
              (try (have c21b0_ := c21b0; simp only [hl0_1, hl0_2, hl0_3] at c21b0_))
              clear c21
              obtain ⟨y700, hy700⟩ : ∃ y_ : List Int, y_ = ((rd_L2 x0_3 x12_1).set (x9_3 : Int).toNat a2_1) := ⟨_, rfl⟩
              replace H : (impl_paint.l2 k3 (x0_3.set (x12_1 : Int).toNat y700) a1 x12_1 (wrap64 (x9_3 + 1)) (l0.length : Int) x12_1 t694 (t694.length : Int) x21_2 l2_0 a2_1 a2_2 a2_3 a2_4 a2_5 ((rd_T124 t694 x21_2).f0) ((rd_T124 t694 x21_2).f1)) = some r := by first | (rw [hy700]; with_reducible exact H) | (have H2_ := (Option.bind_some _ _).symm.trans H; rw [hy700]; with_reducible exact H2_) | (have H2_ := (Option.bind_some _ _).symm.trans H; with_reducible exact H2_) | with_reducible exact H | (rw [hy700]; exact H) | exact H
              have Ny700 := Aside0.mk hy700
              clear hy700
              obtain ⟨y702, hy702⟩ : ∃ y_ : List (List Int), y_ = (x0_3.set (x12_1 : Int).toNat y700) := ⟨_, rfl⟩
              replace H : (impl_paint.l2 k3 y702 a1 x12_1 (wrap64 (x9_3 + 1)) (l0.length : Int) x12_1 t694 (t694.length : Int) x21_2 l2_0 a2_1 a2_2 a2_3 a2_4 a2_5 ((rd_T124 t694 x21_2).f0) ((rd_T124 t694 x21_2).f1)) = some r := by first | (rw [hy702]; with_reducible exact H) | (have H2_ := (Option.bind_some _ _).symm.trans H; rw [hy702]; with_reducible exact H2_) | (have H2_ := (Option.bind_some _ _).symm.trans H; with_reducible exact H2_) | with_reducible exact H | (rw [hy702]; exact H) | exact H
              have Ny702 := Aside0.mk hy702
              clear hy702
              have H' := Aside0.mk H
              clear H
              have hnb23 := NB698_693.out
              have hnc23 := NB693_698.out
              have hz24 := cz2 BK698
              try go_wp2
              replace HO_0 := Aside0.mk (Kd.S_drew HO_0.out)
              replace HO_19 := Aside0.mk (Kd.R_drew HO_19.out)
              replace BK693 := Aside0.mk (blk_drew BK693.out)
              replace BK698 := Aside0.mk (blk_drew BK698.out)
              replace HK := Aside0.mk (Kept.drew HK.out)
              replace HB := Aside0.mk (below_drew1 HB.out)
              have p699 : 0 ≤ (x12_1 : Int) := dA
              have q699 : x12_1 < (x0_3.length : Int) := dA
              obtain ⟨ad699, A699_0, c699_0, e699, hx699_0, hl699_0, hi699_0⟩ := at_L2 (Kd.S_reads' HO_0.out).2.2 x12_1 p699 q699
              cases e699
              obtain ⟨ce699, hce699, hMe699, hcc699⟩ := Kd.S_get HO_0.out [] x12_1 p699 (by first | exact q699 | exact dA | (have e_ := (Kd.S_reads' HO_0.out).1; omega))
              obtain ⟨ve699_0, rfl, ge699_0⟩ := hMe699
              have hv699_0 := hcc699 0 _ rfl
              rw [Nat.add_zero, show ((Kd.slice 3 (Kd.int .i64))).sz = 1 from rfl, Nat.mul_one] at hv699_0
              replace hv699_0 := Option.some.inj (hv699_0.symm.trans hx699_0)
              rw [hv699_0] at ge699_0
              have HL699_0 := Aside0.mk (show Kd.R (Kd.int .i64) 3 _ _ _ _ (rd_L2 x0_3 x12_1) from ge699_0)
              clear hv699_0 ge699_0
              have HX699_0 := Aside0.mk hx699_0
              clear hcc699 hce699
              have HR699_0 := Aside0.mk hi699_0
              have HC699_0 := Aside0.mk hl699_0
              clear hi699_0 hl699_0
              replace p699 := eq_true p699
              replace q699 := eq_true q699
              have p22 : 0 ≤ (x9_3 : Int) := dA
              have q22 : (x9_3 : Int) < (((rd_L2 x0_3 x12_1).length : Int) : Int) := dA
              obtain ⟨go22, co22, eo22, gb22, gl22, cl22, HG22⟩ := Kd.R_form HL699_0.out (by omega)
              (first | cases eo22 | (injection eo22 with ea_ en_ ec_; (first | subst ea_ | (injection ea_ with ea_; subst ea_)); subst ec_; clear en_))
              have GB22 := Aside0.mk gb22
              have GG22 := Aside0.mk HG22
              clear gb22 gl22 HG22
              have HMgo22 := Aside0.mk (show (P0_ go22 ∨ w.heap.size ≤ go22) from (HL699_0.out.1 _ rfl).1)
              obtain ⟨hx22_0, hf22_0⟩ := Kd.R_celln 0 HL699_0.out (x9_3 : Int) p22 q22
              replace p22 := eq_true p22
              replace q22 := eq_true q22
              have hq26 : (x12_1 : Int) < (x0_3.length : Int) := (by have h_ : (x12_1 : Int) < ((x0_3.length : Int) : Int) := dA; first | exact h_ | (have e_ := (Kd.S_reads' HO_0.out).1; omega) | simpa only [List.length_set, List.length_set] using h_)
              obtain ⟨oki26, ce26, hcl26, hM26, hcc26, hok26, hbk26⟩ := Kd.S_borrow HO_0.out [] (x12_1 : Int) (dA) hq26
              obtain ⟨ve26_0, rfl, ge26_0⟩ := hM26
              have hv26 := hcc26 0 _ rfl
              rw [Nat.add_zero, show ((Kd.slice 3 (Kd.int .i64))).sz = 1 from rfl, Nat.mul_one] at hv26
              replace hv26 := Option.some.inj (hv26.symm.trans HX699_0.out)
              subst hv26
              clear hcc26 hcl26
              replace ge26_0 := (show Kd.R (Kd.int .i64) 3 _ _ _ _ (rd_L2 x0_3 x12_1) from ge26_0)
              have HP26 := Kd.R_putg ge26_0 (x9_3 : Int) a2_1
              rw [← Ny700.out] at HP26
              have HS26 := hbk26 HP26.2 (fun k_ e_ => by injection e_ with e_; subst e_; exact ge26_0.1 _ rfl) (x' := y700) (Kd.M_row HP26.1)
              rw [← Ny702.out] at HS26
              have HQ26 := Aside0.mk HS26
              clear HP26 HS26 hbk26 hok26
              refine start_ (n := 9) (S := fun w' => w'.cell? ⟨gb693, 0, none⟩ = some (.slice A2_0 l2_0.length c2_0) ∧ w'.cell? ⟨gb693, 1, none⟩ = some (.int .i64 a2_1) ∧ w'.cell? ⟨gb693, 2, none⟩ = some (.int .i64 a2_2) ∧ w'.cell? ⟨gb693, 3, none⟩ = some (.int .i64 a2_3) ∧ w'.cell? ⟨gb693, 4, none⟩ = some (.int .i64 a2_4) ∧ w'.cell? ⟨gb693, 5, none⟩ = some (.int .i64 a2_5) ∧ w'.cell? (ad699.add (x12_1).toNat) = some (.slice (some ⟨go22, 0, none⟩) (rd_L2 x0_3 x12_1).length c699_0)) (ds := [8]) #[false, false, false, false, false, false, false, false, false] (by kernel_rfl) rfl rfl ⟨(blk_cell BK693.out 0).trans rfl, (blk_cell BK693.out 1).trans rfl, (blk_cell BK693.out 2).trans rfl, (blk_cell BK693.out 3).trans rfl, (blk_cell BK693.out 4).trans rfl, (blk_cell BK693.out 5).trans rfl, hx699_0⟩ (fun hHeld => ?_); refine with_tabW impl_paint.tab10 impl_paint.bits10 (fun HT_ HW_ => ?_)
              generalize wr.drew = w25 at HO_0 HO_19 BK693 BK698 HK HB GG22 HL699_0 HQ26 HR699_0 HX699_0 hf22_0 hx22_0 hx699_0 hHeld ⊢
              refine pU 0 (some 33) #[true, false, false, false, false, false, false, false, false] ?_
              refine pU 1 (some 34) #[true, true, false, false, false, false, false, false, false] ?_
              refine pU 2 (some 35) #[true, true, true, false, false, false, false, false, false] ?_
              refine pU 4 (some 37) #[true, true, true, false, true, false, false, false, false] ?_
              refine pU 5 (some 38) #[true, true, true, false, true, true, false, false, false] ?_
              refine tK 3 (some 36) #[true, true, true, true, true, true, false, false, false] ?_
              refine tK 6 (some 39) #[true, true, true, true, true, true, true, false, false] ?_
              refine pU 7 (some 40) #[true, true, true, true, true, true, true, true, false] ?_
              refine last_ (i := 8) (N := none) #[true, true, true, true, true, true, true, true, true] rfl rfl (one_of HT_.out (by kernel_rfl)) (by decide) (fun K hK => ?_)
              refine skip_ (w1 := ?_) (by rfl) rfl ?_ ?_
              rotate_left
              ·go_simp
               rfl
              refine hK.out _ _ ?_
              clear hK K
              refine done_ (done_of HT_.out (by kernel_rfl)) ?_
              try go_wp2
              (try simp only [← hl0_3])
              go_roundg k3
              case measure => have := HK1.out; have := HK2.out; have := HK3.out; omega
              case rel => exact ⟨(y702), (wrap64 (x9_3 + 1)), fS, H', ⟨by have := HK1.out; have := HK2.out; have := HK3.out; omega⟩, ⟨by (try simp only [hl0_1]); (try simp only [hl0_2]); (try simp only [hl0_3]); (with_reducible repeat (first | apply Kd.S_alloc | apply Kd.S_drewN | apply Kd.S_drew)); exact HQ26.out⟩, ⟨by (try simp only [hl0_1]); (try simp only [hl0_2]); (try simp only [hl0_3]); (with_reducible repeat (first | apply Kd.R_alloc | apply Kd.R_drewN | apply Kd.R_drew)); exact Kd.R_mono (Kd.R_far (p := ⟨go22, (x9_3 : Int).toNat, none⟩) (Kd.R_types HO_19.out GG22.out (by decide)) (fun _ hk => hk.2) (.int .i64 a2_1)) (fun _ hk => ⟨hk.1.1, hk.1.2⟩)⟩, ⟨by (try simp only [hl0_1]); (try simp only [hl0_2]); (try simp only [hl0_3]); (with_reducible repeat (first | refine blk_drewN ?_ _ | refine blk_drew ?_ | refine blk_alloc ?_ _)); refine blk_far ?_ (by have h_ := Kd.R_ne HL699_0.out BK693.out (by decide); intro e_; exact h_ (by rw [e_]; rfl)) _; (with_reducible repeat (first | refine blk_drewN ?_ _ | refine blk_drew ?_ | refine blk_alloc ?_ _)); exact BK693.out⟩, ⟨by (try simp only [hl0_1]); (try simp only [hl0_2]); (try simp only [hl0_3]); (with_reducible repeat (first | refine blk_drewN ?_ _ | refine blk_drew ?_ | refine blk_alloc ?_ _)); refine blk_far ?_ (by have h_ := Kd.R_ne HL699_0.out BK698.out (by decide); intro e_; exact h_ (by rw [e_]; rfl)) _; (with_reducible repeat (first | refine blk_drewN ?_ _ | refine blk_drew ?_ | refine blk_alloc ?_ _)); exact BK698.out⟩, ⟨by repeat (first | (with_reducible first | exact HK.out | apply Kept.alloc | apply Kept.drewN | apply Kept.drew | refine Kept.setCell ?_ HMgo22.out _ | refine Kept.setCell ?_ (.inr GW693.out) _ | refine Kept.setCell ?_ (.inr GW698.out) _) | exact HK.out)⟩, ⟨by repeat (first | (with_reducible first | exact HB.out | apply below_alloc | apply pw_below_drewN | apply below_drew1 | refine below_set ?_ GB22.out | refine below_set ?_ GE693.out | refine below_set ?_ GE698.out) | exact HB.out)⟩⟩
             ·rw [if_neg c21] at H
              exact absurd H (by simp)
            ·rw [if_neg c19] at H
             exact absurd H (by simp)
           ·have H' := Aside0.mk H
            clear H
            have hnb28 := NB698_693.out
            have hnc28 := NB693_698.out
            have hz29 := cz2 BK698
            go_wp2
            (try simp only [← hl0_2, ← hl0_3])
            go_roundg k3
            case measure => have := HK1.out; have := HK2.out; have := HK3.out; omega
            case rel => exact ⟨(x0_3), (wrap64 (x21_2 + 1)), fS, H', ⟨by have := HK1.out; have := HK2.out; have := HK3.out; omega⟩, ⟨by (try simp only [hl0_1]); (try simp only [hl0_2]); (try simp only [hl0_3]); (with_reducible repeat (first | apply Kd.S_alloc | apply Kd.S_drewN | apply Kd.S_drew)); exact HO_0.out⟩, ⟨by (try simp only [hl0_1]); (try simp only [hl0_2]); (try simp only [hl0_3]); (with_reducible repeat (first | apply Kd.R_alloc | apply Kd.R_drewN | apply Kd.R_drew)); exact Kd.R_mono HO_19.out (fun _ hk => hk.1)⟩, ⟨by (try simp only [hl0_1]); (try simp only [hl0_2]); (try simp only [hl0_3]); (with_reducible repeat (first | refine blk_drewN ?_ _ | refine blk_drew ?_ | refine blk_alloc ?_ _)); exact BK693.out⟩, ⟨by repeat (first | (with_reducible first | exact HK.out | apply Kept.alloc | apply Kept.drewN | apply Kept.drew | refine Kept.setCell ?_ (.inr GW693.out) _ | refine Kept.setCell ?_ (.inr GW698.out) _) | exact HK.out)⟩, ⟨bS⟩⟩
        ·rw [if_neg c13] at H
         exact absurd H (by simp)
       ·rw [if_neg c12] at H
        exact absurd H (by simp)
      ·rw [if_neg c11] at H
       have c11b0 : decide (x21_2 < (t694.length : Int)) = false := decide_eq_false c11
       (try (have c11b0_ := c11b0; simp only [hl0_1, hl0_2] at c11b0_))
       clear c11
       have H' := Aside0.mk H
       clear H
       go_wp2
       (try simp only [← hl0_1, ← hl0_2])
       go_roundg k2
       case measure => have := HK1.out; have := HK2.out; omega
       case rel => exact ⟨(x0_2), (wrap64 (x12_1 + 1)), fS, H', ⟨by have := HK1.out; have := HK2.out; omega⟩, ⟨by (try simp only [hl0_1]); (try simp only [hl0_2]); (with_reducible repeat (first | apply Kd.S_alloc | apply Kd.S_drewN | apply Kd.S_drew)); exact HO_0.out⟩, ⟨by (try simp only [hl0_1]); (try simp only [hl0_2]); (with_reducible repeat (first | refine blk_drewN ?_ _ | refine blk_drew ?_ | refine blk_alloc ?_ _)); exact BK693.out⟩, ⟨by repeat (first | (with_reducible first | exact HK.out | apply Kept.alloc | apply Kept.drewN | apply Kept.drew | refine Kept.setCell ?_ (.inr GW693.out) _) | exact HK.out)⟩, ⟨bS⟩⟩
   ·rw [if_neg c6] at H
    have c6b0 : decide (x12_1 < (l0.length : Int)) = false := decide_eq_false c6
    (try (have c6b0_ := c6b0; simp only [hl0_1] at c6b0_))
    clear c6
    obtain rfl := Option.some.inj H
    go_wp2
    first | go_end0 | ((try simp only [Exit.inBlock, Exit.then]); refine bodyPost_ret (results_none rfl _ _ _) rfl ?_)
    exact ⟨eS, (by first | exact (sS HO_0) | (simp only [hl0_1]; exact (sS HO_0))), bS, by repeat (first | (with_reducible first | exact HK.out | apply Kept.alloc | apply Kept.drewN | apply Kept.drew | refine Kept.setCell ?_ (.inr GW693.out) _) | exact HK.out)⟩

/-! ### slices_Clone_int_int: function 173 -/
def slices_Clone_int_int.f (l0 : List Int) : Option (List Int) := (some (([] : List Int) : List Int)).bind fun y703 => (if y703.length + l0.length < 17592186044416 then (some (y703 ++ l0)) else (none))
theorem slices_Clone_int_int.calls (A0 : Option Addr) (c0 : Nat) (l0 : List Int) (r : List Int) (w : World) (hr0 : Kd.C (Kd.int .i64) w A0 l0.length l0) (hc0 : l0.length ≤ c0) (h : slices_Clone_int_int.f l0 = some r) :
  Calls Try.prog 173 #[.slice A0 l0.length c0] w fun e w' => ∃ v0_ : Value, e = .returned (v0_) ∧ Kd.R (Kd.int .i64) 3 w' w.heap.size (fun _ => True) v0_ r ∧ Below w.heap.size w w' := by
 obtain _ | A0 := A0
 ·have hl0 : l0 = [] := by
   rcases Nat.eq_zero_or_pos l0.length with h0 | h0
   ·exact List.eq_nil_of_length_eq_zero h0
   ·obtain ⟨ad, e, _⟩ := hr0.2.2 h0
    cases e
  subst hl0
  have hr_ : r = [] := by
   have h_ := h
   simp [slices_Clone_int_int.f] at h_
   first | exact h_ | exact h_.symm
  subst hr_
  have he_ : ∀ w : World, (binOp .eql 71 (.slice none 0 c0) (.slice none 0 0)).run Try.prog w = .ok (.bool true) w := fun _ => rfl
  go_enter Try.func173, Try.ntmps173
  go_wp2
  go_ret
  exact ⟨_, rfl, Kd.R_nil _ _ _ _ _, Below.refl _ _⟩
 have he_ : ∀ w : World, (binOp .eql 71 (.slice (some A0) l0.length c0) (.slice none 0 0)).run Try.prog w = .ok (.bool false) w := fun _ => rfl
 have HR0 := Aside0.mk hr0
 have HC0 := Aside0.mk hc0
 clear hr0 hc0
 have HB := Aside0.mk (Below.refl w.heap.size w)
 have H : ((some (([] : List Int) : List Int)).bind fun y703 => (if y703.length + l0.length < 17592186044416 then (some (y703 ++ l0)) else (none))) = some r := h
 clear h
 obtain ⟨y703, hy703⟩ : ∃ y_ : List Int, y_ = (([] : List Int)) := ⟨_, rfl⟩
 replace H : (if y703.length + l0.length < 17592186044416 then (some (y703 ++ l0)) else (none)) = some r := by first | (rw [hy703]; with_reducible exact H) | (have H2_ := (Option.bind_some _ _).symm.trans H; rw [hy703]; with_reducible exact H2_) | (have H2_ := (Option.bind_some _ _).symm.trans H; with_reducible exact H2_) | with_reducible exact H | (rw [hy703]; exact H) | exact H
 have Ny703 := Aside0.mk hy703
 clear hy703
 by_cases c2 : y703.length + l0.length < 17592186044416
 ·rw [if_pos c2] at H
  have LMc2 := Aside0.mk c2
  clear c2
  obtain ⟨y706, hy706⟩ : ∃ y_ : List Int, y_ = (y703 ++ l0) := ⟨_, rfl⟩
  replace H : (some y706) = some r := by first | (rw [hy706]; with_reducible exact H) | (have H2_ := (Option.bind_some _ _).symm.trans H; rw [hy706]; with_reducible exact H2_) | (have H2_ := (Option.bind_some _ _).symm.trans H; with_reducible exact H2_) | with_reducible exact H | (rw [hy706]; exact H) | exact H
  have Ny706 := Aside0.mk hy706
  clear hy706
  obtain rfl := Option.some.inj H
  go_enter Try.func173, Try.ntmps173
  go_wp2_with (first | ((with_reducible refine gate_dst (N := 5) rfl ?_); refine Kd.R_lit (Kd.int .i64) _ 3 ?hg (N := 5) ?hd (xs := ([] : List Int)) (inner := []) (ok := fun _ => True) (okp := fun _ => True) ?hr ?hp (fun _ hk => hk) trivial (Below.refl _ _) (Nat.le_refl _) (by simp) ?_; (case hd => rfl); (case hg => rfl); (case hr => first | (go_simp; done) | (go_simp; rfl)); (case hp => exact (Reps.none _ _)); intro v704 w3 ho4 hb hg_ hnew_; clear hg_ hnew_; (first | rw [← Ny703.out] at ho4 | (simp only [Int.reduceToNat] at ho4; rw [← Ny703.out] at ho4)); have HO705 := Aside0.mk (Kd.R_lower ho4 (below_size bS)); replace HB := hB hb; clear hb ho4) | ((with_reducible refine gate_builtin (b := .append) (xs := #[.tmp 5, .tmp 6]) rfl ?_); at_builtin; refine Kd.R_append_rows (Kd.int .i64) (w0 := w) w.heap.size rfl (.tmp 5) (.tmp 6) 71 3 (.int .i64 0) 8 rfl Try.underlying71 info3 rfl (by decide) (by omega) v704 y703 l0 _ _ _ (fun _ => True) (fun _ => False) rfl rfl ?aO ?aR (fun _ _ h => h) (fun _ h => h.elim) ?aF ?aB ?aS ?aL ?_; (case aR => exact cS (Kd.C_below HR0.out HB.out)); (case aB => exact bS); (case aF => exact (fun _ _ => trivial)); (case aO => exact (rS HO705)); (case aS => exact (below_size bS)); (case aL => have := LMc2.out; omega); intro v707 w5 ho hb hg hat; rw [← Ny706.out] at ho; have HO708 := Aside0.mk (ho); replace HB := Aside0.mk (hb); clear HO705; clear ho hb hg hat))
  go_ret
  exact ⟨_, eS, rS HO708, bS⟩
 ·rw [if_neg c2] at H
  exact absurd H (by simp)

/-! ### impl_copyRows: function 125 -/
def impl_copyRows.l0 : Nat → List (List Int) → List (List Int) → Int → Int → Option ((List (List Int)))
 | 0, _, _, _, _ => none
 | k + 1, x3, x6, x7, x8 => if x8 < x7 then (if 0 ≤ x8 then (if x8 < (x6.length : Int) then ((slices_Clone_int_int.f (rd_L2 x6 x8)).bind fun t710 => (if x3.length < 5864062014805 then (impl_copyRows.l0 k (x3 ++ [t710]) x6 x7 (wrap64 (x8 + 1))) else (none))) else (none)) else (none)) else (some x3)
def impl_copyRows.f (k : Nat) (l0 : List (List Int)) : Option ((List (List Int))) := impl_copyRows.l0 k ([] : List (List Int)) l0 (l0.length : Int) 0
theorem impl_copyRows.calls (k : Nat) (A0 : Option Addr) (c0 : Nat) (l0 : List (List Int)) (r : List (List Int)) (w : World) (hr0 : Kd.C (Kd.slice 3 (Kd.int .i64)) w A0 l0.length l0) (hc0 : l0.length ≤ c0) (h : impl_copyRows.f k l0 = some r) :
  Calls Try.prog 125 #[.slice A0 l0.length c0] w fun e w' => ∃ v0_ : Value, e = .returned (v0_) ∧ Kd.S (Kd.slice 3 (Kd.int .i64)) 71 w' w.heap.size (fun _ => True) v0_ r ∧ Below w.heap.size w w' := by
 have HR0 := Aside0.mk hr0
 have HC0 := Aside0.mk hc0
 clear hr0 hc0
 have HB := Aside0.mk (Below.refl w.heap.size w)
 have H : (impl_copyRows.l0 k ([] : List (List Int)) l0 (l0.length : Int) 0) = some r := h
 clear h
 have H' := Aside0.mk H
 clear H
 go_enter Try.func125, Try.ntmps125
 go_wp2
 go_loopg [3, 8] k (fun kq v3 v8 w' => ∃ (x3_1 : List (List Int)) (x8_1 : Int), v8 = .int .i64 x8_1 ∧ Aside0 (impl_copyRows.l0 kq x3_1 l0 (l0.length : Int) x8_1 = some r) ∧ Aside0 (kq ≤ k) ∧ Aside0 (Kd.S (Kd.slice 3 (Kd.int .i64)) 71 w' w.heap.size (fun _ => True) v3 x3_1) ∧ Aside0 (Below w.heap.size w w'))
 case atStart => exact ⟨(([] : List (List Int))), (0), fS, H', ⟨Nat.le_refl _⟩, ⟨by first | exact Kd.S_nil _ _ _ _ _ | exact Kd.N_nil _ _ _ _ _ | exact Kd.V_nil _ _ _ _ _ | exact Kd.Q_nil _ _ _ _ _ | exact Kd.R_nil _ _ _ _ _⟩, ⟨bS⟩⟩
 case round =>
  clear H'
  try clear c1
  obtain ⟨x3_1, x8_1, rfl, HA, HK1, HO_3, HB⟩ := hrel
  cases gk with
  | zero => exact absurd HA.out (by simp [impl_copyRows.l0])
  | succ k1 =>
   have H := HA.out
   clear HA
   simp only [impl_copyRows.l0] at H
   rcases iD H with ⟨c2b0, H⟩ | ⟨c2b0, H⟩
   ·obtain ⟨c3b0, H⟩ := iT H
    obtain ⟨c4b0, H⟩ := iT H
    replace H := bN H
    obtain ⟨t710, A5, H⟩ := H
    obtain ⟨LMc6, H⟩ := iL H
    obtain ⟨y713, hy713⟩ : ∃ y_ : List (List Int), y_ = (x3_1 ++ [t710]) := ⟨_, rfl⟩
    replace H : (impl_copyRows.l0 k1 y713 l0 (l0.length : Int) (wrap64 (x8_1 + 1))) = some r := by first | (rw [hy713]; with_reducible exact H) | (have H2_ := (Option.bind_some _ _).symm.trans H; rw [hy713]; with_reducible exact H2_) | (have H2_ := (Option.bind_some _ _).symm.trans H; with_reducible exact H2_) | with_reducible exact H | (rw [hy713]; exact H) | exact H
    have Ny713 := Aside0.mk hy713
    clear hy713
    have H' := Aside0.mk H
    clear H
    have p709 : 0 ≤ (x8_1 : Int) := dA
    have q709 : x8_1 < (l0.length : Int) := dA
    obtain ⟨ad709, A709_0, c709_0, e709, hx709_0, hl709_0, hi709_0⟩ := at_L2 HR0.out x8_1 p709 q709
    cases e709
    replace hx709_0 := cB HB hx709_0
    have HR709_0 := Aside0.mk hi709_0
    have HC709_0 := Aside0.mk hl709_0
    clear hi709_0 hl709_0
    replace p709 := eq_true p709
    replace q709 := eq_true q709
    go_wp2_with (first | ((with_reducible refine gC 173 ?_); refine cL (some 14) Try.func173 #[.slice A709_0 (rd_L2 l0 x8_1).length c709_0] ?_; (with_reducible refine (slices_Clone_int_int.calls _ _ (rd_L2 l0 x8_1) t710 _ (cS (Kd.C_below HR709_0.out HB.out)) HC709_0.out A5.out).mono ?_); rintro e w7 ⟨v711, rfl, ho0, hb⟩; refine ⟨_, rfl, ?_⟩; have HO712 := Aside0.mk (Kd.R_lower ho0 (below_size bS)); replace HO_3 := Aside0.mk (Kd.S_elder' (sS HO_3) (Kd.R_base ho0) hb); replace HB := hB hb; (try clear hb); (try clear hb2); (try clear hk); (try clear hi); (try clear ho0); obtain ⟨Ao9, co9, eo9⟩ := Kd.R_slice HO712.out; subst eo9) | ((with_reducible refine gate_builtin (b := .append) (xs := #[.tmp 12, .tmp 15]) rfl ?_); at_builtin; refine Kd.S_append (Kd.slice 3 (Kd.int .i64)) (w0 := w) w.heap.size rfl (.tmp 12) (.tmp 15) 27 71 (.slice none 0 0) 24 rfl Try.underlying27 info71 rfl (by decide) (by omega) u3 x3_1 t710 [.slice Ao9 t710.length co9] (fun _ => True) (fun k_ => some k_ = (.slice Ao9 t710.length co9 : Value).ownBlock) rfl rfl ?aP (fun k_ hk_ => ((Kd.R_mono (ok' := fun k_ => ((fun _ => True)) k_ ∧ some k_ ≠ (u3 : Value).ownBlock) (Kd.R_apart' (HO712.out) (Kd.S_typed HO_3.out) (by decide)) (fun k_ hk => ⟨trivial, hk.2⟩))).1 k_ hk_.symm) ?aF ?aO ?aB ?aS ?aL ?_; (case aP => exact Kd.M_row (Kd.R_mono (Kd.R_tight rfl (Kd.R_mono (ok' := fun k_ => ((fun _ => True)) k_ ∧ some k_ ≠ (u3 : Value).ownBlock) (Kd.R_apart' (HO712.out) (Kd.S_typed HO_3.out) (by decide)) (fun k_ hk => ⟨trivial, hk.2⟩))) (fun _ h_ => h_))); (case aB => exact bS); (case aF => exact (fun _ _ => trivial)); (case aO => exact (by exact sT (Kd.S_mono HO_3.out (fun k_ hk => ⟨trivial, fun e_ => hk.2 e_⟩)))); (case aS => exact (below_size bS)); (case aL => have := LMc6.out; omega); intro v714 w8 ho hb hg hat; rw [← Ny713.out] at ho; have HO715 := Aside0.mk (ho); replace HB := Aside0.mk (hb); clear HO_3 HO712; clear ho hb hg hat))
    go_roundg k1
    case measure => have := HK1.out; omega
    case rel => exact ⟨(y713), (wrap64 (x8_1 + 1)), fS, H', ⟨by have := HK1.out; omega⟩, ⟨sS HO715⟩, ⟨bS⟩⟩
   ·obtain rfl := Option.some.inj H
    go_wp2
    go_ret
    exact ⟨_, eS, sS HO_3, bS⟩

end Go.Proofs.Ytigodjcnkgebaaa.QFnMerges
