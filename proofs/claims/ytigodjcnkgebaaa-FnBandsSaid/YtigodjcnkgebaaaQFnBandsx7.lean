-- Made out of the translation by a program of this session (a changed copy of the print). Not trusted: Lean checks it.
import Derived.Test.YtigodjcnkgebaaaQFnBandsx0
import Derived.Test.YtigodjcnkgebaaaQFnBandsx2
import Derived.Test.YtigodjcnkgebaaaQFnBandsx5
import Derived.Test.YtigodjcnkgebaaaQFnBandsx6
namespace Go.Proofs.Ytigodjcnkgebaaa.QFnBands
open Go.RowKit Go.Proofs.YtigodjcnkgebaaaW.PrintWords Go.Proofs.YtigodjcnkgebaaaW.PrintLast Go.Proofs.YtigodjcnkgebaaaW.PrintMore
attribute [local go_sem] max2_int min2_int max_two min_two max_three min_three max_four min_four   -- for this text's walks alone
set_option linter.unusedVariables false
set_option linter.unusedSimpArgs false
set_option maxHeartbeats 8000000
set_option maxRecDepth 100000

/-! ### impl_ObjectRow: function 26 -/
def impl_ObjectRow.j0 : Nat → Int → Bool → List (S171) → Int → Int → Int → Int → Int → Int → Int → Int → Int → Option ((List (S124)))
 | 0, _, _, _, _, _, _, _, _, _, _, _, _ => none
 | k + 1, x1, x20, x362000, x362001, x362002, x362003, x362004, x362005, x368000, x368001, x368002, x368003 => if x20 = true then (some ([] : List (S124))) else ((impl_SpansAt.f k x362000 x1).bind fun t368 => ((impl_MeetSpans.f k t368 x368000 x368002).bind fun t371 => (some t371)))
def impl_ObjectRow.f (k : Nat) (l0_0 : List (S171)) (a0_1 : Int) (a0_2 : Int) (a0_3 : Int) (a0_4 : Int) (a0_5 : Int) (a1 : Int) : Option ((List (S124))) := (impl_ObjectOk.f k l0_0 a0_1 a0_2 a0_3 a0_4 a0_5).bind fun t362 => (if t362 = true then ((impl_ObjectBox.f k l0_0 a0_1 a0_2 a0_3 a0_4 a0_5).bind fun bt363 => (if a1 < bt363.2.1 then (impl_ObjectRow.j0 k a1 true l0_0 a0_1 a0_2 a0_3 a0_4 a0_5 bt363.1 bt363.2.1 bt363.2.2.1 bt363.2.2.2) else (impl_ObjectRow.j0 k a1 (decide (a1 ≥ bt363.2.2.2)) l0_0 a0_1 a0_2 a0_3 a0_4 a0_5 bt363.1 bt363.2.1 bt363.2.2.1 bt363.2.2.2))) else (some ([] : List (S124))))
def impl_ObjectRow.T6 : Bool × List (List Nat × List Nat) := (true, [([], []), ([0], [0]), ([], []), ([1, 2], [1, 2]), ([], []), ([4], [4]), ([], []), ([6], [6]), ([3, 5, 7, 3], [3, 5, 7]), ([8, 8, 0, 1, 2, 3, 4, 5, 6, 7, 8], [8])])
def impl_ObjectRow.B6 : List Nat := [0, 1, 0, 7, 0, 16, 0, 64, 255, 511]
theorem impl_ObjectRow.tab6 : rtab .any (opsOf Try.f26 6) = impl_ObjectRow.T6 := by kernel_rfl
theorem impl_ObjectRow.bits6 : waitsOk impl_ObjectRow.T6.2 impl_ObjectRow.B6 = true := by kernel_rfl
theorem impl_ObjectRow.calls (k : Nat) (A0_0 : Option Addr) (c0_0 : Nat) (l0_0 : List (S171)) (a0_1 : Int) (a0_2 : Int) (a0_3 : Int) (a0_4 : Int) (a0_5 : Int) (a1 : Int) (r : List (S124)) (w : World) (hr0_0 : Kd.C k171 w A0_0 l0_0.length l0_0) (hc0_0 : l0_0.length ≤ c0_0) (h : impl_ObjectRow.f k l0_0 a0_1 a0_2 a0_3 a0_4 a0_5 a1 = some r) :
  Calls Try.prog 26 #[.agg #[.slice A0_0 l0_0.length c0_0, .int .i64 a0_1, .int .i64 a0_2, .int .i64 a0_3, .int .i64 a0_4, .int .i64 a0_5], .int .i64 a1] w fun e w' => ∃ v0_ : Value, e = .returned (v0_) ∧ Kd.R k124 124 w' w.heap.size (fun _ => True) v0_ r ∧ Below w.heap.size w w' := by
 have hu45 := Try.underlying45
 have hu43 := Try.underlying43
 have HR0_0 := Aside0.mk hr0_0
 have HC0_0 := Aside0.mk hc0_0
 clear hr0_0 hc0_0
 have HB := Aside0.mk (Below.refl w.heap.size w)
 have H : ((impl_ObjectOk.f k l0_0 a0_1 a0_2 a0_3 a0_4 a0_5).bind fun t362 => (if t362 = true then ((impl_ObjectBox.f k l0_0 a0_1 a0_2 a0_3 a0_4 a0_5).bind fun bt363 => (if a1 < bt363.2.1 then (impl_ObjectRow.j0 k a1 true l0_0 a0_1 a0_2 a0_3 a0_4 a0_5 bt363.1 bt363.2.1 bt363.2.2.1 bt363.2.2.2) else (impl_ObjectRow.j0 k a1 (decide (a1 ≥ bt363.2.2.2)) l0_0 a0_1 a0_2 a0_3 a0_4 a0_5 bt363.1 bt363.2.1 bt363.2.2.1 bt363.2.2.2))) else (some ([] : List (S124))))) = some r := h
 clear h
 replace H := bN H
 obtain ⟨t362, A3, H⟩ := H
 by_cases c4 : t362 = true
 ·subst c4
  rw [if_pos rfl] at H
  replace H := bN H
  obtain ⟨⟨t363, t364, t365, t366⟩, A5, H⟩ := H
  have HC6 := Aside0.mk H
  clear H
  go_enter Try.func26, Try.ntmps26
  go_upto_region 4 with (first | ((with_reducible refine gD 2 ?_); refine bxE #[.slice A0_0 l0_0.length c0_0, .int .i64 a0_1, .int .i64 a0_2, .int .i64 a0_3, .int .i64 a0_4, .int .i64 a0_5] 45 ?_; intro gb361 hg w7 BK361 hb; have GW361 := gE hg; have GE361 := gE hg; replace HB := hB hb; clear hb hg; have hcz8_0 : w7.cell? ⟨gb361, 0, none⟩ = some (.slice A0_0 l0_0.length c0_0) := (blk_cell BK361.out 0).trans rfl; have hcz8_1 : w7.cell? ⟨gb361, 1, none⟩ = some (.int .i64 a0_1) := (blk_cell BK361.out 1).trans rfl; have hcz8_2 : w7.cell? ⟨gb361, 2, none⟩ = some (.int .i64 a0_2) := (blk_cell BK361.out 2).trans rfl; have hcz8_3 : w7.cell? ⟨gb361, 3, none⟩ = some (.int .i64 a0_3) := (blk_cell BK361.out 3).trans rfl; have hcz8_4 : w7.cell? ⟨gb361, 4, none⟩ = some (.int .i64 a0_4) := (blk_cell BK361.out 4).trans rfl; have hcz8_5 : w7.cell? ⟨gb361, 5, none⟩ = some (.int .i64 a0_5) := (blk_cell BK361.out 5).trans rfl; have hfz8_0 := blk_frozen BK361.out 0; have hfz8_1 := blk_frozen BK361.out 1; have hfz8_2 := blk_frozen BK361.out 2; have hfz8_3 := blk_frozen BK361.out 3; have hfz8_4 := blk_frozen BK361.out 4; have hfz8_5 := blk_frozen BK361.out 5) | ((with_reducible refine gC 87 ?_); refine cL (some 7) Try.func87 #[.agg #[.slice A0_0 l0_0.length c0_0, .int .i64 a0_1, .int .i64 a0_2, .int .i64 a0_3, .int .i64 a0_4, .int .i64 a0_5]] ?_; (with_reducible refine (impl_ObjectOk.calls k _ _ l0_0 a0_1 a0_2 a0_3 a0_4 a0_5 _ _ ?side1 ?side2 A3.out).mono ?_); (case side1 => exact cS (Kd.C_below HR0_0.out HB.out)); (case side2 => exact HC0_0.out); rintro e w9 ⟨rfl, hb⟩; refine ⟨_, rfl, ?_⟩; replace BK361 := kB (g := gb361) hb; replace HB := hB hb; (try clear hb); (try clear hb2); (try clear hk); (try clear hi); have hcz10_0 : w9.cell? ⟨gb361, 0, none⟩ = some (.slice A0_0 l0_0.length c0_0) := (blk_cell BK361.out 0).trans rfl; have hcz10_1 : w9.cell? ⟨gb361, 1, none⟩ = some (.int .i64 a0_1) := (blk_cell BK361.out 1).trans rfl; have hcz10_2 : w9.cell? ⟨gb361, 2, none⟩ = some (.int .i64 a0_2) := (blk_cell BK361.out 2).trans rfl; have hcz10_3 : w9.cell? ⟨gb361, 3, none⟩ = some (.int .i64 a0_3) := (blk_cell BK361.out 3).trans rfl; have hcz10_4 : w9.cell? ⟨gb361, 4, none⟩ = some (.int .i64 a0_4) := (blk_cell BK361.out 4).trans rfl; have hcz10_5 : w9.cell? ⟨gb361, 5, none⟩ = some (.int .i64 a0_5) := (blk_cell BK361.out 5).trans rfl; have hfz10_0 := blk_frozen BK361.out 0; have hfz10_1 := blk_frozen BK361.out 1; have hfz10_2 := blk_frozen BK361.out 2; have hfz10_3 := blk_frozen BK361.out 3; have hfz10_4 := blk_frozen BK361.out 4; have hfz10_5 := blk_frozen BK361.out 5) | ((with_reducible refine gC 88 ?_); refine cL (some 10) Try.func88 #[.agg #[.slice A0_0 l0_0.length c0_0, .int .i64 a0_1, .int .i64 a0_2, .int .i64 a0_3, .int .i64 a0_4, .int .i64 a0_5]] ?_; (with_reducible refine (impl_ObjectBox.calls k _ _ l0_0 a0_1 a0_2 a0_3 a0_4 a0_5 t363 t364 t365 t366 _ ?side1 ?side2 A5.out).mono ?_); (case side1 => exact cS (Kd.C_below HR0_0.out HB.out)); (case side2 => exact HC0_0.out); rintro e w11 ⟨rfl, hb⟩; refine ⟨_, rfl, ?_⟩; replace BK361 := kB (g := gb361) hb; replace HB := hB hb; (try clear hb); (try clear hb2); (try clear hk); (try clear hi)) | ((with_reducible refine gD 5 ?_); refine bxE #[.int .i64 0, .int .i64 0, .int .i64 0, .int .i64 0] 43 ?_; intro gb367 hg w12 BK367 hb; have GW367 := gE hg; have GE367 := gE hg; have NB361_367 := nL (g := gb361) hg; have NB367_361 := nG (g := gb361) hg; replace BK361 := kB (g := gb361) hb; replace HB := hB hb; clear hb hg; have hnb13 := NB367_361.out; have hnc13 := NB361_367.out; have hcz14_0 : w12.cell? ⟨gb367, 0, none⟩ = some (.int .i64 0) := (blk_cell BK367.out 0).trans rfl; have hcz14_1 : w12.cell? ⟨gb367, 1, none⟩ = some (.int .i64 0) := (blk_cell BK367.out 1).trans rfl; have hcz14_2 : w12.cell? ⟨gb367, 2, none⟩ = some (.int .i64 0) := (blk_cell BK367.out 2).trans rfl; have hcz14_3 : w12.cell? ⟨gb367, 3, none⟩ = some (.int .i64 0) := (blk_cell BK367.out 3).trans rfl; have hfz14_0 := blk_frozen BK367.out 0; have hfz14_1 := blk_frozen BK367.out 1; have hfz14_2 := blk_frozen BK367.out 2; have hfz14_3 := blk_frozen BK367.out 3))
  (try simp only [Act.put, List.setIfInBounds_toArray, List.set_cons_zero, List.set_cons_succ])
  go_cut [20] (fun v20 wc => ∃ (kq : Nat) (x20_5 : Bool), v20 = .bool x20_5 ∧ Aside0 (impl_ObjectRow.j0 kq a1 x20_5 l0_0 a0_1 a0_2 a0_3 a0_4 a0_5 t363 t364 t365 t366 = some r) ∧ Aside0 (kq ≤ k) ∧ Aside0 (wc.heap[gb361]? = some (.cells #[(.slice A0_0 l0_0.length c0_0), .int .i64 a0_1, .int .i64 a0_2, .int .i64 a0_3, .int .i64 a0_4, .int .i64 a0_5] 45 (0, 0))) ∧ Aside0 (wc.heap[gb367]? = some (.cells #[.int .i64 t363, .int .i64 t364, .int .i64 t365, .int .i64 t366] 43 (0, 0))) ∧ Aside0 (Below w.heap.size w wc))
  case first =>
   have H := HC6.out
   clear HC6
   by_cases c15 : a1 < t364
   ·rw [if_pos c15] at H
    have c15b0 : decide (a1 < t364) = true := decide_eq_true c15
    clear c15
    (first | rw [c15b0] | (simp only [i64_w, i32_w]; rw [c15b0]) | skip)
    have H' := Aside0.mk H
    clear H
    have hnb16 := NB367_361.out
    have hnc16 := NB361_367.out
    have hcz17_0 : w12.cell? ⟨gb367, 0, none⟩ = some (.int .i64 0) := (blk_cell BK367.out 0).trans rfl
    have hcz17_1 : w12.cell? ⟨gb367, 1, none⟩ = some (.int .i64 0) := (blk_cell BK367.out 1).trans rfl
    have hcz17_2 : w12.cell? ⟨gb367, 2, none⟩ = some (.int .i64 0) := (blk_cell BK367.out 2).trans rfl
    have hcz17_3 : w12.cell? ⟨gb367, 3, none⟩ = some (.int .i64 0) := (blk_cell BK367.out 3).trans rfl
    have hfz17_0 := blk_frozen BK367.out 0
    have hfz17_1 := blk_frozen BK367.out 1
    have hfz17_2 := blk_frozen BK367.out 2
    have hfz17_3 := blk_frozen BK367.out 3
    go_wp2
    go_meet
    case rel => exact ⟨_, (true), (by first | rfl | (simp; done) | (simp [*]; done)), H', ⟨by first | omega | exact Nat.le_refl _⟩, ⟨kS⟩, ⟨kS⟩, ⟨bS⟩⟩
   ·rw [if_neg c15] at H
    have c15b0 : decide (a1 < t364) = false := decide_eq_false c15
    clear c15
    (first | rw [c15b0] | (simp only [i64_w, i32_w]; rw [c15b0]) | skip)
    have H' := Aside0.mk H
    clear H
    have hnb18 := NB367_361.out
    have hnc18 := NB361_367.out
    have hcz19_0 : w12.cell? ⟨gb367, 0, none⟩ = some (.int .i64 0) := (blk_cell BK367.out 0).trans rfl
    have hcz19_1 : w12.cell? ⟨gb367, 1, none⟩ = some (.int .i64 0) := (blk_cell BK367.out 1).trans rfl
    have hcz19_2 : w12.cell? ⟨gb367, 2, none⟩ = some (.int .i64 0) := (blk_cell BK367.out 2).trans rfl
    have hcz19_3 : w12.cell? ⟨gb367, 3, none⟩ = some (.int .i64 0) := (blk_cell BK367.out 3).trans rfl
    have hfz19_0 := blk_frozen BK367.out 0
    have hfz19_1 := blk_frozen BK367.out 1
    have hfz19_2 := blk_frozen BK367.out 2
    have hfz19_3 := blk_frozen BK367.out 3
    go_wp2
    go_meet
    case rel => exact ⟨_, (decide (a1 ≥ t366)), (by first | rfl | (simp; done) | (simp [*]; done)), H', ⟨by first | omega | exact Nat.le_refl _⟩, ⟨kS⟩, ⟨kS⟩, ⟨bS⟩⟩
  case rest =>
   clear HC6
   try clear c1
   try clear c2
   try clear p2
   try clear c4
   try clear c8
   try clear c13
   try clear c15
   try clear c15b0
   try clear c16
   try clear c18
   try clear hcz10_0
   try clear hcz10_1
   try clear hcz10_2
   try clear hcz10_3
   try clear hcz10_4
   try clear hcz10_5
   try clear hcz14_0
   try clear hcz14_1
   try clear hcz14_2
   try clear hcz14_3
   try clear hcz17_0
   try clear hcz17_1
   try clear hcz17_2
   try clear hcz17_3
   try clear hcz19_0
   try clear hcz19_1
   try clear hcz19_2
   try clear hcz19_3
   try clear hcz8_0
   try clear hcz8_1
   try clear hcz8_2
   try clear hcz8_3
   try clear hcz8_4
   try clear hcz8_5
   try clear hfz10_0
   try clear hfz10_1
   try clear hfz10_2
   try clear hfz10_3
   try clear hfz10_4
   try clear hfz10_5
   try clear hfz14_0
   try clear hfz14_1
   try clear hfz14_2
   try clear hfz14_3
   try clear hfz17_0
   try clear hfz17_1
   try clear hfz17_2
   try clear hfz17_3
   try clear hfz19_0
   try clear hfz19_1
   try clear hfz19_2
   try clear hfz19_3
   try clear hfz8_0
   try clear hfz8_1
   try clear hfz8_2
   try clear hfz8_3
   try clear hfz8_4
   try clear hfz8_5
   obtain ⟨kq, x20_5, rfl, HA, HJ5, BK361, BK367, HB⟩ := hcut
   cases kq with
   | zero => exact absurd HA.out (by simp [impl_ObjectRow.j0])
   | succ kj5 =>
    have H := HA.out
    clear HA
    simp only [impl_ObjectRow.j0] at H
    by_cases c20 : x20_5 = true
    ·subst c20
     rw [if_pos rfl] at H
     obtain rfl := Option.some.inj H
     simp only [Option.some.injEq, Prod.mk.injEq] at H
     obtain ⟨rfl⟩ := H
     go_wp2
     go_ret
     exact ⟨_, eS, by first | exact Kd.R_nil _ _ _ _ _ | exact Kd.N_nil _ _ _ _ _ | exact Kd.V_nil _ _ _ _ _ | exact Kd.Q_nil _ _ _ _ _ | exact Kd.S_nil _ _ _ _ _, bS⟩
    ·obtain rfl := Bool.eq_false_iff.mpr c20
     rw [if_neg nF] at H
     replace H := bN H
     obtain ⟨t368, A21, H⟩ := H
     replace H := bN H
     obtain ⟨t371, A22, H⟩ := H
     obtain rfl := Option.some.inj H
     simp only [Option.some.injEq, Prod.mk.injEq] at H
     obtain ⟨rfl⟩ := H
     try go_wp2
     replace BK361 := Aside0.mk (blk_drew BK361.out)
     replace BK367 := Aside0.mk (blk_drew BK367.out)
     replace HB := Aside0.mk (below_drew1 HB.out)
     refine start_ (n := 10) (S := fun w' => w'.cell? ⟨gb361, 0, none⟩ = some (.slice A0_0 l0_0.length c0_0) ∧ w'.cell? ⟨gb361, 1, none⟩ = some (.int .i64 a0_1) ∧ w'.cell? ⟨gb361, 2, none⟩ = some (.int .i64 a0_2) ∧ w'.cell? ⟨gb361, 3, none⟩ = some (.int .i64 a0_3) ∧ w'.cell? ⟨gb361, 4, none⟩ = some (.int .i64 a0_4) ∧ w'.cell? ⟨gb361, 5, none⟩ = some (.int .i64 a0_5) ∧ w'.cell? ⟨gb367, 0, none⟩ = some (.int .i64 t363) ∧ w'.cell? ⟨gb367, 1, none⟩ = some (.int .i64 t364) ∧ w'.cell? ⟨gb367, 2, none⟩ = some (.int .i64 t365) ∧ w'.cell? ⟨gb367, 3, none⟩ = some (.int .i64 t366)) (ds := []) #[false, false, false, false, false, false, false, false, false, false] (by kernel_rfl) rfl rfl ⟨(blk_cell BK361.out 0).trans rfl, (blk_cell BK361.out 1).trans rfl, (blk_cell BK361.out 2).trans rfl, (blk_cell BK361.out 3).trans rfl, (blk_cell BK361.out 4).trans rfl, (blk_cell BK361.out 5).trans rfl, (blk_cell BK367.out 0).trans rfl, (blk_cell BK367.out 1).trans rfl, (blk_cell BK367.out 2).trans rfl, (blk_cell BK367.out 3).trans rfl⟩ (fun hHeld => ?_); refine with_tabW impl_ObjectRow.tab6 impl_ObjectRow.bits6 (fun HT_ HW_ => ?_)
     generalize wc.drew = w23 at BK361 BK367 HB hHeld ⊢
     refine pU 0 (some 21) #[true, false, false, false, false, false, false, false, false, false] ?_
     refine pU 2 (some 23) #[true, false, true, false, false, false, false, false, false, false] ?_
     refine pU 4 (some 25) #[true, false, true, false, true, false, false, false, false, false] ?_
     refine pU 6 (some 27) #[true, false, true, false, true, false, true, false, false, false] ?_
     refine tK 1 (some 22) #[true, true, true, false, true, false, true, false, false, false] ?_
     refine tK 5 (some 26) #[true, true, true, false, true, true, true, false, false, false] ?_
     refine tK 7 (some 28) #[true, true, true, false, true, true, true, true, false, false] ?_
     refine one_ (i := 3) (N := some 24) #[true, true, true, true, true, true, true, true, false, false] rfl rfl (one_of HT_.out (by kernel_rfl)) (by decide) (fun K hK => ?_)
     refine goes_ Try.func90 (by kernel_rfl) rfl #[.slice A0_0 l0_0.length c0_0, .int .i64 a1] (by rfl) rfl rfl (by (try simp only [List.map_toArray, List.map_cons, List.map_nil]); first | done | rfl | (simp only [List.length_drop, List.length_take]; rfl)) ?_
     with_reducible refine (impl_SpansAt.calls kj5 _ _ l0_0 a1 t368 _ ?side1 ?side2 A21.out).mono ?_
     (case side1 => exact cS (Kd.C_below HR0_0.out HB.out))
     (case side2 => exact HC0_0.out)
     rintro e w24 ⟨v369, rfl, ho0, hb⟩
     refine ⟨_, rfl, ?_⟩
     have HO370 := Aside0.mk (Kd.R_lower ho0 (below_size bS))
     replace BK361 := kB (g := gb361) hb
     replace BK367 := kB (g := gb367) hb
     replace HB := hB hb
     (try clear hb)
     (try clear hb2)
     (try clear hk)
     (try clear hi)
     (try clear ho0)
     obtain ⟨Ao25, co25, eo25⟩ := Kd.R_slice HO370.out
     (first | subst eo25 | (injection eo25 with f1_ f2_ f3_; have f4_ := f1_.symm; have f5_ := f3_.symm; clear f1_ f2_ f3_; subst f4_; subst f5_))
     refine hK.out _ _ ⟨(blk_cell BK361.out 0).trans rfl, (blk_cell BK361.out 1).trans rfl, (blk_cell BK361.out 2).trans rfl, (blk_cell BK361.out 3).trans rfl, (blk_cell BK361.out 4).trans rfl, (blk_cell BK361.out 5).trans rfl, (blk_cell BK367.out 0).trans rfl, (blk_cell BK367.out 1).trans rfl, (blk_cell BK367.out 2).trans rfl, (blk_cell BK367.out 3).trans rfl⟩ (fun hHeld => ?_)
     clear hK K
     refine norm_ (a' := ?_) ?_ ?_
     rotate_left
     ·show Act.put _ (some 24) _ = _
      simp only [Act.put, List.setIfInBounds_toArray, List.set_cons_zero, List.set_cons_succ, i64_w, i32_w]
      rfl
     refine one_ (i := 8) (N := some 29) #[true, true, true, true, true, true, true, true, true, false] rfl rfl (one_of HT_.out (by kernel_rfl)) (by decide) (fun K hK => ?_)
     refine goes_ Try.func89 (by kernel_rfl) rfl #[.slice Ao25 t368.length co25, .int .i64 t363, .int .i64 t365] (by rfl) rfl rfl (by (try simp only [List.map_toArray, List.map_cons, List.map_nil]); first | done | rfl | (simp only [List.length_drop, List.length_take]; rfl)) ?_
     with_reducible refine (impl_MeetSpans.calls kj5 _ _ t368 t363 t365 t371 _ ?side1 ?side2 A22.out).mono ?_
     (case side1 => exact cS (Kd.R_reads' HO370.out).2.2)
     (case side2 => exact (Kd.R_reads' HO370.out).2.1)
     rintro e w26 ⟨v372, rfl, ho0, hb⟩
     refine ⟨_, rfl, ?_⟩
     have HO373 := Aside0.mk (Kd.R_lower (Kd.R_new' ho0 (Kd.R_lt (rS HO370))) (below_size bS))
     replace HO370 := Aside0.mk (Kd.R_elder' (rS HO370) (Kd.R_base ho0) hb)
     replace BK361 := kB (g := gb361) hb
     replace BK367 := kB (g := gb367) hb
     replace HB := hB hb
     (try clear hb)
     (try clear hb2)
     (try clear hk)
     (try clear hi)
     (try clear ho0)
     refine hK.out _ _ ⟨(blk_cell BK361.out 0).trans rfl, (blk_cell BK361.out 1).trans rfl, (blk_cell BK361.out 2).trans rfl, (blk_cell BK361.out 3).trans rfl, (blk_cell BK361.out 4).trans rfl, (blk_cell BK361.out 5).trans rfl, (blk_cell BK367.out 0).trans rfl, (blk_cell BK367.out 1).trans rfl, (blk_cell BK367.out 2).trans rfl, (blk_cell BK367.out 3).trans rfl⟩ (fun hHeld => ?_)
     clear hK K
     refine norm_ (a' := ?_) ?_ ?_
     rotate_left
     ·show Act.put _ (some 29) _ = _
      simp only [Act.put, List.setIfInBounds_toArray, List.set_cons_zero, List.set_cons_succ, i64_w, i32_w]
      rfl
     refine pU 9 (some 4) #[true, true, true, true, true, true, true, true, true, true] ?_
     refine done_ (done_of HT_.out (by kernel_rfl)) ?_
     try go_wp2
     go_ret
     exact ⟨_, eS, by (with_reducible repeat (first | apply Kd.R_alloc | apply Kd.R_drewN | apply Kd.R_drew)); exact Kd.R_mono HO373.out (fun _ hk => trivial), bS⟩
 ·obtain rfl := Bool.eq_false_iff.mpr c4
  rw [if_neg nF] at H
  obtain rfl := Option.some.inj H
  simp only [Option.some.injEq, Prod.mk.injEq] at H
  obtain ⟨rfl⟩ := H
  go_enter Try.func26, Try.ntmps26
  go_wp2_with (first | ((with_reducible refine gD 2 ?_); refine bxE #[.slice A0_0 l0_0.length c0_0, .int .i64 a0_1, .int .i64 a0_2, .int .i64 a0_3, .int .i64 a0_4, .int .i64 a0_5] 45 ?_; intro gb361 hg w27 BK361 hb; have GW361 := gE hg; have GE361 := gE hg; replace HB := hB hb; clear hb hg; have hz28 := cz6 BK361) | ((with_reducible refine gC 87 ?_); refine cL (some 7) Try.func87 #[.agg #[.slice A0_0 l0_0.length c0_0, .int .i64 a0_1, .int .i64 a0_2, .int .i64 a0_3, .int .i64 a0_4, .int .i64 a0_5]] ?_; (with_reducible refine (impl_ObjectOk.calls k _ _ l0_0 a0_1 a0_2 a0_3 a0_4 a0_5 _ _ ?side1 ?side2 A3.out).mono ?_); (case side1 => exact cS (Kd.C_below HR0_0.out HB.out)); (case side2 => exact HC0_0.out); rintro e w29 ⟨rfl, hb⟩; refine ⟨_, rfl, ?_⟩; replace BK361 := kB (g := gb361) hb; replace HB := hB hb; (try clear hb); (try clear hb2); (try clear hk); (try clear hi)))
  go_ret
  exact ⟨_, eS, by first | exact Kd.R_nil _ _ _ _ _ | exact Kd.N_nil _ _ _ _ _ | exact Kd.V_nil _ _ _ _ _ | exact Kd.Q_nil _ _ _ _ _ | exact Kd.S_nil _ _ _ _ _, bS⟩

/-! ### impl_paint: function 75 -/
mutual
def impl_paint.l0 : Nat → List (List Int) → Int → Int → Int → List (S171) → Int → Int → Int → Int → Int → Option ((List (List Int)))
 | 0, _, _, _, _, _, _, _, _, _, _ => none
 | k + 1, x0, x1, x11, x12, x375000, x375001, x375002, x375003, x375004, x375005 => if x12 < x11 then ((impl_ObjectRow.f k x375000 x375001 x375002 x375003 x375004 x375005 (wrap64 (x1 + x12))).bind fun t375 => (impl_paint.l1 k x0 x1 x12 x11 x12 t375 (t375.length : Int) 0 x375000 x375001 x375002 x375003 x375004 x375005)) else (some x0)
def impl_paint.l1 : Nat → List (List Int) → Int → Int → Int → Int → List (S124) → Int → Int → List (S171) → Int → Int → Int → Int → Int → Option ((List (List Int)))
 | 0, _, _, _, _, _, _, _, _, _, _, _, _, _, _ => none
 | k + 1, x0, x1, x6, x11, x12, x19, x20, x21, x375000, x375001, x375002, x375003, x375004, x375005 => if x21 < x20 then (if 0 ≤ x21 then (if x21 < (x19.length : Int) then (impl_paint.l2 k x0 x1 x6 ((rd_T124 x19 x21).f0) x11 x12 x19 x20 x21 x375000 x375001 x375002 x375003 x375004 x375005 ((rd_T124 x19 x21).f0) ((rd_T124 x19 x21).f1)) else (none)) else (none)) else (impl_paint.l0 k x0 x1 x11 (wrap64 (x12 + 1)) x375000 x375001 x375002 x375003 x375004 x375005)
def impl_paint.l2 : Nat → List (List Int) → Int → Int → Int → Int → Int → List (S124) → Int → Int → List (S171) → Int → Int → Int → Int → Int → Int → Int → Option ((List (List Int)))
 | 0, _, _, _, _, _, _, _, _, _, _, _, _, _, _, _, _, _ => none
 | k + 1, x0, x1, x6, x9, x11, x12, x19, x20, x21, x375000, x375001, x375002, x375003, x375004, x375005, x380000, x380001 => if x9 < x380001 then (if 0 ≤ x6 then (if x6 < (x0.length : Int) then (if 0 ≤ x9 then (if x9 < ((rd_L6 x0 x6).length : Int) then (impl_paint.l2 k (x0.set (x6 : Int).toNat ((rd_L6 x0 x6).set (x9 : Int).toNat x375001)) x1 x6 (wrap64 (x9 + 1)) x11 x12 x19 x20 x21 x375000 x375001 x375002 x375003 x375004 x375005 x380000 x380001) else (none)) else (none)) else (none)) else (none)) else (impl_paint.l1 k x0 x1 x6 x11 x12 x19 x20 (wrap64 (x21 + 1)) x375000 x375001 x375002 x375003 x375004 x375005)
end
def impl_paint.f (k : Nat) (l0 : List (List Int)) (a1 : Int) (l2_0 : List (S171)) (a2_1 : Int) (a2_2 : Int) (a2_3 : Int) (a2_4 : Int) (a2_5 : Int) : Option ((List (List Int))) := impl_paint.l0 k l0 a1 (l0.length : Int) 0 l2_0 a2_1 a2_2 a2_3 a2_4 a2_5
def impl_paint.T10 : Bool × List (List Nat × List Nat) := (true, [([], []), ([], []), ([0, 1], [0, 1]), ([2], [2]), ([], []), ([], []), ([5], [5]), ([3, 4, 0, 1, 2, 3, 4, 5, 6], [3, 4]), ([7, 6, 0, 1, 2, 3, 4, 5, 6], [6, 7])])
def impl_paint.B10 : List Nat := [0, 0, 3, 7, 0, 0, 32, 127, 255]
theorem impl_paint.tab10 : rtab .any (opsOf Try.f75 10) = impl_paint.T10 := by kernel_rfl
theorem impl_paint.bits10 : waitsOk impl_paint.T10.2 impl_paint.B10 = true := by kernel_rfl
theorem impl_paint.calls (k : Nat) (P0_ : Nat → Prop) (u9000_ : Value) (l0 : List (List Int)) (a1 : Int) (A2_0 : Option Addr) (c2_0 : Nat) (l2_0 : List (S171)) (a2_1 : Int) (a2_2 : Int) (a2_3 : Int) (a2_4 : Int) (a2_5 : Int) (r : List (List Int)) (w0 w : World) (hB : Below w0.heap.size w0 w) (ho0 : Kd.S (Kd.slice 3 (Kd.int .i64)) 71 w w0.heap.size P0_ u9000_ l0) (hr2_0 : ∀ W_, Kept w W_ (fun k_ => P0_ k_) → Kd.C k171 W_ A2_0 l2_0.length l2_0) (hc2_0 : l2_0.length ≤ c2_0) (h : impl_paint.f k l0 a1 l2_0 a2_1 a2_2 a2_3 a2_4 a2_5 = some r) :
  Calls Try.prog 75 #[u9000_, .int .i64 a1, .agg #[.slice A2_0 l2_0.length c2_0, .int .i64 a2_1, .int .i64 a2_2, .int .i64 a2_3, .int .i64 a2_4, .int .i64 a2_5]] w fun e w' => e = .returned (.tuple #[]) ∧ Kd.S (Kd.slice 3 (Kd.int .i64)) 71 w' w0.heap.size (fun k_ => (P0_ k_ ∨ w.heap.size ≤ k_)) u9000_ r ∧ Below w0.heap.size w0 w' ∧ Kept w w' (fun k_ => P0_ k_) := by
 have hu45 := Try.underlying45
 have hu124 := Try.underlying124
 have HO0 := Aside0.mk (show Kd.S (Kd.slice 3 (Kd.int .i64)) 71 w w0.heap.size (fun k_ => (P0_ k_ ∨ w.heap.size ≤ k_)) u9000_ l0 from Kd.S_mono ho0 (fun k_ hk => (.inl hk)))
 have HR2_0 := Aside0.mk hr2_0
 have HC2_0 := Aside0.mk hc2_0
 clear hr2_0 hc2_0
 have HK := Aside0.mk (Kept.refl w (fun k_ => P0_ k_))
 have HW0 := Aside0.mk hB.size
 have HB := Aside0.mk hB
 clear hB
 have H : (impl_paint.l0 k l0 a1 (l0.length : Int) 0 l2_0 a2_1 a2_2 a2_3 a2_4 a2_5) = some r := h
 clear h
 have H' := Aside0.mk H
 clear H
 go_enter Try.func75, Try.ntmps75
 go_wp2_with (first | ((with_reducible refine gD 5 ?_); refine bxE #[.slice A2_0 l2_0.length c2_0, .int .i64 a2_1, .int .i64 a2_2, .int .i64 a2_3, .int .i64 a2_4, .int .i64 a2_5] 45 ?_; intro gb374 hg w4 BK374 hb; have GW374 := Aside0.mk ((by rw [hg]; exact (by first | exact HK.out.1 | exact (show Kept w _ (fun k_ => P0_ k_) from by repeat (first | (with_reducible first | exact HK.out | apply Kept.alloc | apply Kept.drewN | apply Kept.drew) | exact HK.out)).1) : w.heap.size ≤ gb374)); have GE374 := Aside0.mk ((by rw [hg]; exact (below_size bS) : w0.heap.size ≤ gb374)); replace HO0 := Aside0.mk (Kd.S_below (by (with_reducible repeat (first | apply Kd.S_alloc | apply Kd.S_drewN | apply Kd.S_drew)); exact HO0.out) hb); replace HK := Aside0.mk (Kept.below (S := (fun k_ => P0_ k_)) (by repeat (first | (with_reducible first | exact HK.out | apply Kept.alloc | apply Kept.drewN | apply Kept.drew) | exact HK.out)) hb); replace HB := hB hb; clear hb hg; obtain ⟨Ao5, co5, eo5⟩ := Kd.S_slice HO0.out; subst eo5))
 go_loopg [12] k (fun kq v12 w' => ∃ (x0_1 : List (List Int)) (x12_1 : Int), v12 = .int .i64 x12_1 ∧ Aside0 (impl_paint.l0 kq x0_1 a1 (l0.length : Int) x12_1 l2_0 a2_1 a2_2 a2_3 a2_4 a2_5 = some r) ∧ Aside0 (kq ≤ k) ∧ Aside0 (Kd.S (Kd.slice 3 (Kd.int .i64)) 71 w' w0.heap.size (fun k_ => (P0_ k_ ∨ w.heap.size ≤ k_)) (.slice Ao5 l0.length co5) x0_1) ∧ Aside0 (w'.heap[gb374]? = some (.cells #[(.slice A2_0 l2_0.length c2_0), .int .i64 a2_1, .int .i64 a2_2, .int .i64 a2_3, .int .i64 a2_4, .int .i64 a2_5] 45 (0, 0))) ∧ Aside0 (Kept w w' (fun k_ => P0_ k_)) ∧ Aside0 (Below w0.heap.size w0 w'))
 case atStart => exact ⟨(l0), (0), (by first | rfl | (simp; done) | (simp [*]; done)), H', ⟨Nat.le_refl _⟩, ⟨by (with_reducible repeat (first | apply Kd.S_alloc | apply Kd.S_drewN | apply Kd.S_drew)); exact HO0.out⟩, ⟨kS⟩, ⟨by repeat (first | (with_reducible first | exact HK.out | apply Kept.alloc | apply Kept.drewN | apply Kept.drew | refine Kept.setCell ?_ (.inr GW374.out) _) | exact HK.out)⟩, ⟨bS⟩⟩
 case round =>
  clear H'
  try clear c2
  try clear p2
  obtain ⟨x0_1, x12_1, rfl, HA, HK1, HO_0, BK374, HK, HB⟩ := hrel
  have hl0_1 := (Kd.S_reads' HO_0.out).1
  rw [hl0_1] at HO_0
  (try simp only [hl0_1])
  (try simp only [hl0_1] at BK374)
  cases gk with
  | zero => exact absurd HA.out (by simp [impl_paint.l0])
  | succ k1 =>
   have H := HA.out
   clear HA
   simp only [impl_paint.l0] at H
   by_cases c6 : x12_1 < (l0.length : Int)
   ·rw [if_pos c6] at H
    have c6b0 : decide (x12_1 < (l0.length : Int)) = true := decide_eq_true c6
    (try (have c6b0_ := c6b0; simp only [hl0_1] at c6b0_))
    clear c6
    replace H := bN H
    obtain ⟨t375, A7, H⟩ := H
    have H' := Aside0.mk H
    clear H
    have hcz8_0 : wr.cell? ⟨gb374, 0, none⟩ = some (.slice A2_0 l2_0.length c2_0) := (blk_cell BK374.out 0).trans rfl
    have hcz8_1 : wr.cell? ⟨gb374, 1, none⟩ = some (.int .i64 a2_1) := (blk_cell BK374.out 1).trans rfl
    have hcz8_2 : wr.cell? ⟨gb374, 2, none⟩ = some (.int .i64 a2_2) := (blk_cell BK374.out 2).trans rfl
    have hcz8_3 : wr.cell? ⟨gb374, 3, none⟩ = some (.int .i64 a2_3) := (blk_cell BK374.out 3).trans rfl
    have hcz8_4 : wr.cell? ⟨gb374, 4, none⟩ = some (.int .i64 a2_4) := (blk_cell BK374.out 4).trans rfl
    have hcz8_5 : wr.cell? ⟨gb374, 5, none⟩ = some (.int .i64 a2_5) := (blk_cell BK374.out 5).trans rfl
    have hfz8_0 := blk_frozen BK374.out 0
    have hfz8_1 := blk_frozen BK374.out 1
    have hfz8_2 := blk_frozen BK374.out 2
    have hfz8_3 := blk_frozen BK374.out 3
    have hfz8_4 := blk_frozen BK374.out 4
    have hfz8_5 := blk_frozen BK374.out 5
    go_wp2_with (first | ((with_reducible refine gC 26 ?_); refine cL (some 19) Try.func26 #[.agg #[.slice A2_0 l2_0.length c2_0, .int .i64 a2_1, .int .i64 a2_2, .int .i64 a2_3, .int .i64 a2_4, .int .i64 a2_5], .int .i64 (wrap64 (a1 + x12_1))] ?_; (with_reducible refine (impl_ObjectRow.calls k1 _ _ l2_0 a2_1 a2_2 a2_3 a2_4 a2_5 (wrap64 (a1 + x12_1)) t375 _ ?side1 ?side2 A7.out).mono ?_); (case side1 => exact Kd.C_kept_now HR2_0.out (by repeat (first | (with_reducible first | exact HK.out | apply Kept.alloc | apply Kept.drewN | apply Kept.drew | refine Kept.setCell ?_ (.inr GW374.out) _) | exact HK.out))); (case side2 => exact HC2_0.out); rintro e w9 ⟨v376, rfl, ho0, hb⟩; refine ⟨_, rfl, ?_⟩; have HO377 := Aside0.mk (Kd.R_lower (Kd.R_newM (M := fun k_ => (P0_ k_ ∨ w.heap.size ≤ k_)) ho0 (by first | exact HK.out.1 | exact (show Kept w _ (fun k_ => P0_ k_) from by repeat (first | (with_reducible first | exact HK.out | apply Kept.alloc | apply Kept.drewN | apply Kept.drew | refine Kept.setCell ?_ (.inr GW374.out) _) | exact HK.out)).1) (fun k_ h_ => .inr h_)) (below_size bS)); replace HO_0 := Aside0.mk (Kd.S_below (by (with_reducible repeat (first | apply Kd.S_alloc | apply Kd.S_drewN | apply Kd.S_drew)); exact HO_0.out) hb); replace BK374 := kB (g := gb374) hb; replace HK := Aside0.mk (Kept.below (S := (fun k_ => P0_ k_)) (by repeat (first | (with_reducible first | exact HK.out | apply Kept.alloc | apply Kept.drewN | apply Kept.drew | refine Kept.setCell ?_ (.inr GW374.out) _) | exact HK.out)) hb); replace HB := hB hb; (try clear hb); (try clear hb2); (try clear hk); (try clear hi); (try clear ho0); obtain ⟨Ao10, co10, eo10⟩ := Kd.R_slice HO377.out; subst eo10))
    go_loopg [21] k1 (fun kq v21 w' => ∃ (x0_2 : List (List Int)) (x21_2 : Int), v21 = .int .i64 x21_2 ∧ Aside0 (impl_paint.l1 kq x0_2 a1 x12_1 (l0.length : Int) x12_1 t375 (t375.length : Int) x21_2 l2_0 a2_1 a2_2 a2_3 a2_4 a2_5 = some r) ∧ Aside0 (kq ≤ k1) ∧ Aside0 (Kd.S (Kd.slice 3 (Kd.int .i64)) 71 w' w0.heap.size (fun k_ => (P0_ k_ ∨ w.heap.size ≤ k_)) (.slice Ao5 x0_1.length co5) x0_2) ∧ Aside0 (Kd.R k124 124 w' w0.heap.size (fun k_ => (P0_ k_ ∨ w.heap.size ≤ k_)) (.slice Ao10 t375.length co10) t375) ∧ Aside0 (w'.heap[gb374]? = some (.cells #[(.slice A2_0 l2_0.length c2_0), .int .i64 a2_1, .int .i64 a2_2, .int .i64 a2_3, .int .i64 a2_4, .int .i64 a2_5] 45 (0, 0))) ∧ Aside0 (Kept w w' (fun k_ => P0_ k_)) ∧ Aside0 (Below w0.heap.size w0 w'))
    case atStart => exact ⟨(x0_1), (0), (by first | rfl | (simp; done) | (simp [*]; done)), H', ⟨Nat.le_refl _⟩, ⟨by (try simp only [hl0_1]); (with_reducible repeat (first | apply Kd.S_alloc | apply Kd.S_drewN | apply Kd.S_drew)); exact HO_0.out⟩, ⟨by (try simp only [hl0_1]); (with_reducible repeat (first | apply Kd.R_alloc | apply Kd.R_drewN | apply Kd.R_drew)); exact Kd.R_mono HO377.out (fun _ hk => hk.1)⟩, ⟨by (try simp only [hl0_1]); (with_reducible repeat (first | refine blk_drewN ?_ _ | refine blk_drew ?_ | refine blk_alloc ?_ _)); exact BK374.out⟩, ⟨by repeat (first | (with_reducible first | exact HK.out | apply Kept.alloc | apply Kept.drewN | apply Kept.drew | refine Kept.setCell ?_ (.inr GW374.out) _) | exact HK.out)⟩, ⟨bS⟩⟩
    case round =>
     clear H'
     try clear c2
     try clear p2
     try clear c6
     try clear c6b0
     try clear p6
     try clear c7
     try clear hcz8_0
     try clear hcz8_1
     try clear hcz8_2
     try clear hcz8_3
     try clear hcz8_4
     try clear hcz8_5
     try clear hfz8_0
     try clear hfz8_1
     try clear hfz8_2
     try clear hfz8_3
     try clear hfz8_4
     try clear hfz8_5
     try clear p2
     obtain ⟨x0_2, x21_2, rfl, HA, HK2, HO_0, HO_19, BK374, HK, HB⟩ := hrel
     have hl0_2 := (Kd.S_reads' HO_0.out).1
     rw [hl0_2] at HO_0
     (try simp only [hl0_2])
     (try simp only [hl0_2] at BK374)
     (try simp only [hl0_2] at HO_19)
     cases gk with
     | zero => exact absurd HA.out (by simp [impl_paint.l1])
     | succ k2 =>
      have H := HA.out
      clear HA
      simp only [impl_paint.l1] at H
      by_cases c11 : x21_2 < (t375.length : Int)
      ·rw [if_pos c11] at H
       have c11b0 : decide (x21_2 < (t375.length : Int)) = true := decide_eq_true c11
       (try (have c11b0_ := c11b0; simp only [hl0_1, hl0_2] at c11b0_))
       clear c11
       by_cases c12 : 0 ≤ x21_2
       ·rw [if_pos c12] at H
        have c12b0 : decide (0 ≤ x21_2) = true := decide_eq_true c12
        clear c12
        by_cases c13 : x21_2 < (t375.length : Int)
        ·rw [if_pos c13] at H
         have c13b0 : decide (x21_2 < (t375.length : Int)) = true := decide_eq_true c13
         (try (have c13b0_ := c13b0; simp only [hl0_1, hl0_2] at c13b0_))
         clear c13
         have H' := Aside0.mk H
         clear H
         have p378 : 0 ≤ (x21_2 : Int) := of_decide_eq_true (by first | (with_reducible assumption) | assumption)
         have q378 : x21_2 < (t375.length : Int) := of_decide_eq_true (by first | (with_reducible assumption) | assumption)
         obtain ⟨ad378, e378, hx378_0, hx378_1⟩ := at_T124 (Kd.R_reads' HO_19.out).2.2 x21_2 p378 q378
         cases e378
         replace p378 := eq_true p378
         replace q378 := eq_true q378
         go_wp2_with (first | ((with_reducible refine gD 8 ?_); refine bxE #[.int .i64 0, .int .i64 0] 124 ?_; intro gb379 hg w14 BK379 hb; have GW379 := Aside0.mk ((by rw [hg]; exact (by first | exact HK.out.1 | exact (show Kept w _ (fun k_ => P0_ k_) from by repeat (first | (with_reducible first | exact HK.out | apply Kept.alloc | apply Kept.drewN | apply Kept.drew | refine Kept.setCell ?_ (.inr GW374.out) _) | exact HK.out)).1) : w.heap.size ≤ gb379)); have GE379 := Aside0.mk ((by rw [hg]; exact (below_size bS) : w0.heap.size ≤ gb379)); have NB374_379 := nL (g := gb374) hg; have NB379_374 := nG (g := gb374) hg; replace HO_0 := Aside0.mk (Kd.S_below (by (with_reducible repeat (first | apply Kd.S_alloc | apply Kd.S_drewN | apply Kd.S_drew)); exact HO_0.out) hb); replace HO_19 := Aside0.mk (Kd.R_below (Kd.R_elderB (rS HO_19) gb379 (Nat.le_of_eq hg.symm)) hb); replace BK374 := kB (g := gb374) hb; replace HK := Aside0.mk (Kept.below (S := (fun k_ => P0_ k_)) (by repeat (first | (with_reducible first | exact HK.out | apply Kept.alloc | apply Kept.drewN | apply Kept.drew | refine Kept.setCell ?_ (.inr GW374.out) _) | exact HK.out)) hb); replace HB := hB hb; clear hb hg; have hnb15 := NB379_374.out; have hnc15 := NB374_379.out; have hcz16_0 : w14.cell? ⟨gb379, 0, none⟩ = some (.int .i64 0) := (blk_cell BK379.out 0).trans rfl; have hcz16_1 : w14.cell? ⟨gb379, 1, none⟩ = some (.int .i64 0) := (blk_cell BK379.out 1).trans rfl; have hfz16_0 := blk_frozen BK379.out 0; have hfz16_1 := blk_frozen BK379.out 1))
         go_loopg [9] k2 (fun kq v9 w' => ∃ (x0_3 : List (List Int)) (x9_3 : Int), v9 = .int .i64 x9_3 ∧ Aside0 (impl_paint.l2 kq x0_3 a1 x12_1 x9_3 (l0.length : Int) x12_1 t375 (t375.length : Int) x21_2 l2_0 a2_1 a2_2 a2_3 a2_4 a2_5 ((rd_T124 t375 x21_2).f0) ((rd_T124 t375 x21_2).f1) = some r) ∧ Aside0 (kq ≤ k2) ∧ Aside0 (Kd.S (Kd.slice 3 (Kd.int .i64)) 71 w' w0.heap.size (fun k_ => (P0_ k_ ∨ w.heap.size ≤ k_)) (.slice Ao5 x0_2.length co5) x0_3) ∧ Aside0 (Kd.R k124 124 w' w0.heap.size (fun k_ => (P0_ k_ ∨ w.heap.size ≤ k_) ∧ k_ ≠ gb379) (.slice (some ad378) t375.length co10) t375) ∧ Aside0 (w'.heap[gb374]? = some (.cells #[(.slice A2_0 l2_0.length c2_0), .int .i64 a2_1, .int .i64 a2_2, .int .i64 a2_3, .int .i64 a2_4, .int .i64 a2_5] 45 (0, 0))) ∧ Aside0 (w'.heap[gb379]? = some (.cells #[.int .i64 ((rd_T124 t375 x21_2).f0), .int .i64 ((rd_T124 t375 x21_2).f1)] 124 (0, 0))) ∧ Aside0 (Kept w w' (fun k_ => P0_ k_)) ∧ Aside0 (Below w0.heap.size w0 w'))
         case atStart => exact ⟨(x0_2), ((rd_T124 t375 x21_2).f0), (by first | rfl | (simp; done) | (simp [*]; done)), H', ⟨Nat.le_refl _⟩, ⟨by (try simp only [hl0_1]); (try simp only [hl0_2]); (with_reducible repeat (first | apply Kd.S_alloc | apply Kd.S_drewN | apply Kd.S_drew)); exact Kd.S_mono (Kd.S_far (p := ⟨gb379, 1, none⟩) (Kd.S_far (p := ⟨gb379, 0, none⟩) (Kd.S_types HO_0.out BK379.out (by decide)) (fun _ hk => hk.2) (.int .i64 ((rd_T124 t375 x21_2).f0))) (fun _ hk => hk.2) (.int .i64 ((rd_T124 t375 x21_2).f1))) (fun _ hk => hk.1)⟩, ⟨by (try simp only [hl0_1]); (try simp only [hl0_2]); (with_reducible repeat (first | apply Kd.R_alloc | apply Kd.R_drewN | apply Kd.R_drew)); exact Kd.R_mono (Kd.R_far (p := ⟨gb379, 1, none⟩) (Kd.R_far (p := ⟨gb379, 0, none⟩) (Kd.R_mono HO_19.out (fun k_ hk => (⟨hk, hk.2⟩ : _ ∧ k_ ≠ gb379))) (fun _ hk => hk.2) (.int .i64 ((rd_T124 t375 x21_2).f0))) (fun _ hk => hk.2) (.int .i64 ((rd_T124 t375 x21_2).f1))) (fun _ hk => ⟨hk.1.1, hk.1.2⟩)⟩, ⟨by (try simp only [hl0_1]); (try simp only [hl0_2]); (with_reducible repeat (first | refine blk_drewN ?_ _ | refine blk_drew ?_ | refine blk_alloc ?_ _)); refine blk_far ?_ NB374_379.out _; (with_reducible repeat (first | refine blk_drewN ?_ _ | refine blk_drew ?_ | refine blk_alloc ?_ _)); refine blk_far ?_ NB374_379.out _; (with_reducible repeat (first | refine blk_drewN ?_ _ | refine blk_drew ?_ | refine blk_alloc ?_ _)); exact BK374.out⟩, ⟨by (try simp only [hl0_1]); (try simp only [hl0_2]); (with_reducible repeat (first | refine blk_drewN ?_ _ | refine blk_drew ?_ | refine blk_alloc ?_ _)); refine blk_put (cs := #[.int .i64 ((rd_T124 t375 x21_2).f0), .int .i64 0]) ?_ 1 _ rfl; (with_reducible repeat (first | refine blk_drewN ?_ _ | refine blk_drew ?_ | refine blk_alloc ?_ _)); refine blk_put (cs := #[.int .i64 0, .int .i64 0]) ?_ 0 _ rfl; (with_reducible repeat (first | refine blk_drewN ?_ _ | refine blk_drew ?_ | refine blk_alloc ?_ _)); exact BK379.out⟩, ⟨by repeat (first | (with_reducible first | exact HK.out | apply Kept.alloc | apply Kept.drewN | apply Kept.drew | refine Kept.setCell ?_ (.inr GW374.out) _ | refine Kept.setCell ?_ (.inr GW379.out) _) | exact HK.out)⟩, ⟨bS⟩⟩
         case round =>
          clear H'
          try clear c1
          try clear c2
          try clear p2
          try clear p3
          try clear q3
          try clear hx3
          try clear c6
          try clear c6b0
          try clear p6
          try clear c7
          try clear c11
          try clear c11b0
          try clear c12
          try clear c12b0
          try clear c13
          try clear c13b0
          try clear c15
          try clear hcz16_0
          try clear hcz16_1
          try clear hcz8_0
          try clear hcz8_1
          try clear hcz8_2
          try clear hcz8_3
          try clear hcz8_4
          try clear hcz8_5
          try clear hfz16_0
          try clear hfz16_1
          try clear hfz8_0
          try clear hfz8_1
          try clear hfz8_2
          try clear hfz8_3
          try clear hfz8_4
          try clear hfz8_5
          try clear hx378_0
          try clear hx378_1
          try clear p2
          try clear p378
          try clear p6
          try clear q378
          obtain ⟨x0_3, x9_3, rfl, HA, HK3, HO_0, HO_19, BK374, BK379, HK, HB⟩ := hrel
          have hl0_3 := (Kd.S_reads' HO_0.out).1
          rw [hl0_3] at HO_0
          (try simp only [hl0_3])
          (try simp only [hl0_3] at BK374)
          (try simp only [hl0_3] at BK379)
          (try simp only [hl0_3] at HO_19)
          cases gk with
          | zero => exact absurd HA.out (by simp [impl_paint.l2])
          | succ k3 =>
           have H := HA.out
           clear HA
           simp only [impl_paint.l2] at H
           by_cases c17 : x9_3 < ((rd_T124 t375 x21_2).f1)
           ·rw [if_pos c17] at H
            have c17b0 : decide (x9_3 < ((rd_T124 t375 x21_2).f1)) = true := decide_eq_true c17
            clear c17
            by_cases c18 : 0 ≤ x12_1
            ·rw [if_pos c18] at H
             have c18b0 : decide (0 ≤ x12_1) = true := decide_eq_true c18
             clear c18
             by_cases c19 : x12_1 < (x0_3.length : Int)
             ·rw [if_pos c19] at H
              have c19b0 : decide (x12_1 < (x0_3.length : Int)) = true := decide_eq_true c19
              (try (have c19b0_ := c19b0; simp only [hl0_1, hl0_2, hl0_3] at c19b0_))
              clear c19
              by_cases c20 : 0 ≤ x9_3
              ·rw [if_pos c20] at H
               have c20b0 : decide (0 ≤ x9_3) = true := decide_eq_true c20
               clear c20
               by_cases c21 : x9_3 < ((rd_L6 x0_3 x12_1).length : Int)
               ·rw [if_pos c21] at H
                have c21b0 : decide (x9_3 < ((rd_L6 x0_3 x12_1).length : Int)) = true := decide_eq_true c21
                (try (have c21b0_ := c21b0; simp only [hl0_1, hl0_2, hl0_3] at c21b0_))
                clear c21
                obtain ⟨y381, hy381⟩ : ∃ y_ : List Int, y_ = ((rd_L6 x0_3 x12_1).set (x9_3 : Int).toNat a2_1) := ⟨_, rfl⟩
                replace H : (impl_paint.l2 k3 (x0_3.set (x12_1 : Int).toNat y381) a1 x12_1 (wrap64 (x9_3 + 1)) (l0.length : Int) x12_1 t375 (t375.length : Int) x21_2 l2_0 a2_1 a2_2 a2_3 a2_4 a2_5 ((rd_T124 t375 x21_2).f0) ((rd_T124 t375 x21_2).f1)) = some r := by first | (rw [hy381]; with_reducible exact H) | (have H2_ := (Option.bind_some _ _).symm.trans H; rw [hy381]; with_reducible exact H2_) | (have H2_ := (Option.bind_some _ _).symm.trans H; with_reducible exact H2_) | with_reducible exact H | (rw [hy381]; exact H) | exact H
                have Ny381 := Aside0.mk hy381
                clear hy381
                obtain ⟨y383, hy383⟩ : ∃ y_ : List (List Int), y_ = (x0_3.set (x12_1 : Int).toNat y381) := ⟨_, rfl⟩
                replace H : (impl_paint.l2 k3 y383 a1 x12_1 (wrap64 (x9_3 + 1)) (l0.length : Int) x12_1 t375 (t375.length : Int) x21_2 l2_0 a2_1 a2_2 a2_3 a2_4 a2_5 ((rd_T124 t375 x21_2).f0) ((rd_T124 t375 x21_2).f1)) = some r := by first | (rw [hy383]; with_reducible exact H) | (have H2_ := (Option.bind_some _ _).symm.trans H; rw [hy383]; with_reducible exact H2_) | (have H2_ := (Option.bind_some _ _).symm.trans H; with_reducible exact H2_) | with_reducible exact H | (rw [hy383]; exact H) | exact H
                have Ny383 := Aside0.mk hy383
                clear hy383
                have H' := Aside0.mk H
                clear H
                have hnb23 := NB379_374.out
                have hnc23 := NB374_379.out
                have hz24 := cz2 BK379
                try go_wp2
                replace HO_0 := Aside0.mk (Kd.S_drew HO_0.out)
                replace HO_19 := Aside0.mk (Kd.R_drew HO_19.out)
                replace BK374 := Aside0.mk (blk_drew BK374.out)
                replace BK379 := Aside0.mk (blk_drew BK379.out)
                replace HK := Aside0.mk (Kept.drew HK.out)
                replace HB := Aside0.mk (below_drew1 HB.out)
                have p380 : 0 ≤ (x12_1 : Int) := of_decide_eq_true (by first | (with_reducible assumption) | assumption)
                have q380 : x12_1 < (x0_3.length : Int) := of_decide_eq_true (by first | (with_reducible assumption) | assumption)
                obtain ⟨ad380, A380_0, c380_0, e380, hx380_0, hl380_0, hi380_0⟩ := at_L6 (Kd.S_reads' HO_0.out).2.2 x12_1 p380 q380
                cases e380
                obtain ⟨ce380, hce380, hMe380, hcc380⟩ := Kd.S_get HO_0.out [] x12_1 p380 (by first | exact q380 | exact of_decide_eq_true (by first | (with_reducible assumption) | assumption) | (have e_ := (Kd.S_reads' HO_0.out).1; omega))
                obtain ⟨ve380_0, rfl, ge380_0⟩ := hMe380
                have hv380_0 := hcc380 0 _ rfl
                rw [Nat.add_zero, show ((Kd.slice 3 (Kd.int .i64))).sz = 1 from rfl, Nat.mul_one] at hv380_0
                replace hv380_0 := Option.some.inj (hv380_0.symm.trans hx380_0)
                rw [hv380_0] at ge380_0
                have HL380_0 := Aside0.mk (show Kd.R (Kd.int .i64) 3 _ _ _ _ (rd_L6 x0_3 x12_1) from ge380_0)
                clear hv380_0 ge380_0
                have HX380_0 := Aside0.mk hx380_0
                clear hcc380 hce380
                have HR380_0 := Aside0.mk hi380_0
                have HC380_0 := Aside0.mk hl380_0
                clear hi380_0 hl380_0
                replace p380 := eq_true p380
                replace q380 := eq_true q380
                have p22 : 0 ≤ (x9_3 : Int) := of_decide_eq_true (by first | (with_reducible assumption) | assumption)
                have q22 : (x9_3 : Int) < (((rd_L6 x0_3 x12_1).length : Int) : Int) := of_decide_eq_true (by first | (with_reducible assumption) | assumption)
                obtain ⟨go22, co22, eo22, gb22, gl22, cl22, HG22⟩ := Kd.R_form HL380_0.out (by omega)
                (first | cases eo22 | (injection eo22 with ea_ en_ ec_; (first | subst ea_ | (injection ea_ with ea_; subst ea_)); subst ec_; clear en_))
                have GB22 := Aside0.mk gb22
                have GG22 := Aside0.mk HG22
                clear gb22 gl22 HG22
                have HMgo22 := Aside0.mk (show (P0_ go22 ∨ w.heap.size ≤ go22) from (HL380_0.out.1 _ rfl).1)
                obtain ⟨hx22_0, hf22_0⟩ := Kd.R_celln 0 HL380_0.out (x9_3 : Int) p22 q22
                replace p22 := eq_true p22
                replace q22 := eq_true q22
                have hq26 : (x12_1 : Int) < (x0_3.length : Int) := (by have h_ : (x12_1 : Int) < ((x0_3.length : Int) : Int) := of_decide_eq_true (by first | (with_reducible assumption) | assumption); first | exact h_ | (have e_ := (Kd.S_reads' HO_0.out).1; omega) | simpa only [List.length_set, List.length_set] using h_)
                obtain ⟨oki26, ce26, hcl26, hM26, hcc26, hok26, hbk26⟩ := Kd.S_borrow HO_0.out [] (x12_1 : Int) (of_decide_eq_true (by first | (with_reducible assumption) | assumption)) hq26
                obtain ⟨ve26_0, rfl, ge26_0⟩ := hM26
                have hv26 := hcc26 0 _ rfl
                rw [Nat.add_zero, show ((Kd.slice 3 (Kd.int .i64))).sz = 1 from rfl, Nat.mul_one] at hv26
                replace hv26 := Option.some.inj (hv26.symm.trans HX380_0.out)
                subst hv26
                clear hcc26 hcl26
                replace ge26_0 := (show Kd.R (Kd.int .i64) 3 _ _ _ _ (rd_L6 x0_3 x12_1) from ge26_0)
                have HP26 := Kd.R_putg ge26_0 (x9_3 : Int) a2_1
                rw [← Ny381.out] at HP26
                have HS26 := hbk26 HP26.2 (fun k_ e_ => by injection e_ with e_; subst e_; exact ge26_0.1 _ rfl) (x' := y381) (Kd.M_row HP26.1)
                rw [← Ny383.out] at HS26
                have HQ26 := Aside0.mk HS26
                clear HP26 HS26 hbk26 hok26
                refine start_ (n := 9) (S := fun w' => w'.cell? ⟨gb374, 0, none⟩ = some (.slice A2_0 l2_0.length c2_0) ∧ w'.cell? ⟨gb374, 1, none⟩ = some (.int .i64 a2_1) ∧ w'.cell? ⟨gb374, 2, none⟩ = some (.int .i64 a2_2) ∧ w'.cell? ⟨gb374, 3, none⟩ = some (.int .i64 a2_3) ∧ w'.cell? ⟨gb374, 4, none⟩ = some (.int .i64 a2_4) ∧ w'.cell? ⟨gb374, 5, none⟩ = some (.int .i64 a2_5) ∧ w'.cell? (ad380.add (x12_1).toNat) = some (.slice (some ⟨go22, 0, none⟩) (rd_L6 x0_3 x12_1).length c380_0)) (ds := [8]) #[false, false, false, false, false, false, false, false, false] (by kernel_rfl) rfl rfl ⟨(blk_cell BK374.out 0).trans rfl, (blk_cell BK374.out 1).trans rfl, (blk_cell BK374.out 2).trans rfl, (blk_cell BK374.out 3).trans rfl, (blk_cell BK374.out 4).trans rfl, (blk_cell BK374.out 5).trans rfl, hx380_0⟩ (fun hHeld => ?_); refine with_tabW impl_paint.tab10 impl_paint.bits10 (fun HT_ HW_ => ?_)
                generalize wr.drew = w25 at HO_0 HO_19 BK374 BK379 HK HB GG22 HL380_0 HQ26 HR380_0 HX380_0 hf22_0 hx22_0 hx380_0 hHeld ⊢
                refine pU 0 (some 33) #[true, false, false, false, false, false, false, false, false] ?_
                refine pU 1 (some 34) #[true, true, false, false, false, false, false, false, false] ?_
                refine pU 2 (some 35) #[true, true, true, false, false, false, false, false, false] ?_
                refine pU 4 (some 37) #[true, true, true, false, true, false, false, false, false] ?_
                refine pU 5 (some 38) #[true, true, true, false, true, true, false, false, false] ?_
                refine tK 3 (some 36) #[true, true, true, true, true, true, false, false, false] ?_
                refine tK 6 (some 39) #[true, true, true, true, true, true, true, false, false] ?_
                refine pU 7 (some 40) #[true, true, true, true, true, true, true, true, false] ?_
                refine last_ (i := 8) (N := none) #[true, true, true, true, true, true, true, true, true] rfl rfl (one_of HT_.out (by kernel_rfl)) (by decide) (fun K hK => ?_)
                refine skip_ (w1 := ?_) (by rfl) rfl ?_ ?_
                rotate_left
                ·go_simp
                 rfl
                refine hK.out _ _ ?_
                clear hK K
                refine done_ (done_of HT_.out (by kernel_rfl)) ?_
                try go_wp2
                (try simp only [← hl0_3])
                go_roundg k3
                case measure => have := HK1.out; have := HK2.out; have := HK3.out; omega
                case rel => exact ⟨(y383), (wrap64 (x9_3 + 1)), (by first | rfl | (simp; done) | (simp [*]; done)), H', ⟨by have := HK1.out; have := HK2.out; have := HK3.out; omega⟩, ⟨by (try simp only [hl0_1]); (try simp only [hl0_2]); (try simp only [hl0_3]); (with_reducible repeat (first | apply Kd.S_alloc | apply Kd.S_drewN | apply Kd.S_drew)); exact HQ26.out⟩, ⟨by (try simp only [hl0_1]); (try simp only [hl0_2]); (try simp only [hl0_3]); (with_reducible repeat (first | apply Kd.R_alloc | apply Kd.R_drewN | apply Kd.R_drew)); exact Kd.R_mono (Kd.R_far (p := ⟨go22, (x9_3 : Int).toNat, none⟩) (Kd.R_types HO_19.out GG22.out (by decide)) (fun _ hk => hk.2) (.int .i64 a2_1)) (fun _ hk => ⟨hk.1.1, hk.1.2⟩)⟩, ⟨by (try simp only [hl0_1]); (try simp only [hl0_2]); (try simp only [hl0_3]); (with_reducible repeat (first | refine blk_drewN ?_ _ | refine blk_drew ?_ | refine blk_alloc ?_ _)); refine blk_far ?_ (by have h_ := Kd.R_ne HL380_0.out BK374.out (by decide); intro e_; exact h_ (by rw [e_]; rfl)) _; (with_reducible repeat (first | refine blk_drewN ?_ _ | refine blk_drew ?_ | refine blk_alloc ?_ _)); exact BK374.out⟩, ⟨by (try simp only [hl0_1]); (try simp only [hl0_2]); (try simp only [hl0_3]); (with_reducible repeat (first | refine blk_drewN ?_ _ | refine blk_drew ?_ | refine blk_alloc ?_ _)); refine blk_far ?_ (by have h_ := Kd.R_ne HL380_0.out BK379.out (by decide); intro e_; exact h_ (by rw [e_]; rfl)) _; (with_reducible repeat (first | refine blk_drewN ?_ _ | refine blk_drew ?_ | refine blk_alloc ?_ _)); exact BK379.out⟩, ⟨by repeat (first | (with_reducible first | exact HK.out | apply Kept.alloc | apply Kept.drewN | apply Kept.drew | refine Kept.setCell ?_ HMgo22.out _ | refine Kept.setCell ?_ (.inr GW374.out) _ | refine Kept.setCell ?_ (.inr GW379.out) _) | exact HK.out)⟩, ⟨by repeat (first | (with_reducible first | exact HB.out | apply below_alloc | apply pw_below_drewN | apply below_drew1 | refine below_set ?_ GB22.out | refine below_set ?_ GE374.out | refine below_set ?_ GE379.out) | exact HB.out)⟩⟩
               ·rw [if_neg c21] at H
                exact absurd H (by simp)
              ·rw [if_neg c20] at H
               exact absurd H (by simp)
             ·rw [if_neg c19] at H
              exact absurd H (by simp)
            ·rw [if_neg c18] at H
             exact absurd H (by simp)
           ·rw [if_neg c17] at H
            have c17b0 : decide (x9_3 < ((rd_T124 t375 x21_2).f1)) = false := decide_eq_false c17
            clear c17
            have H' := Aside0.mk H
            clear H
            have hnb28 := NB379_374.out
            have hnc28 := NB374_379.out
            have hz29 := cz2 BK379
            go_wp2
            (try simp only [← hl0_2, ← hl0_3])
            go_roundg k3
            case measure => have := HK1.out; have := HK2.out; have := HK3.out; omega
            case rel => exact ⟨(x0_3), (wrap64 (x21_2 + 1)), (by first | rfl | (simp; done) | (simp [*]; done)), H', ⟨by have := HK1.out; have := HK2.out; have := HK3.out; omega⟩, ⟨by (try simp only [hl0_1]); (try simp only [hl0_2]); (try simp only [hl0_3]); (with_reducible repeat (first | apply Kd.S_alloc | apply Kd.S_drewN | apply Kd.S_drew)); exact HO_0.out⟩, ⟨by (try simp only [hl0_1]); (try simp only [hl0_2]); (try simp only [hl0_3]); (with_reducible repeat (first | apply Kd.R_alloc | apply Kd.R_drewN | apply Kd.R_drew)); exact Kd.R_mono HO_19.out (fun _ hk => hk.1)⟩, ⟨by (try simp only [hl0_1]); (try simp only [hl0_2]); (try simp only [hl0_3]); (with_reducible repeat (first | refine blk_drewN ?_ _ | refine blk_drew ?_ | refine blk_alloc ?_ _)); exact BK374.out⟩, ⟨by repeat (first | (with_reducible first | exact HK.out | apply Kept.alloc | apply Kept.drewN | apply Kept.drew | refine Kept.setCell ?_ (.inr GW374.out) _ | refine Kept.setCell ?_ (.inr GW379.out) _) | exact HK.out)⟩, ⟨bS⟩⟩
        ·rw [if_neg c13] at H
         exact absurd H (by simp)
       ·rw [if_neg c12] at H
        exact absurd H (by simp)
      ·rw [if_neg c11] at H
       have c11b0 : decide (x21_2 < (t375.length : Int)) = false := decide_eq_false c11
       (try (have c11b0_ := c11b0; simp only [hl0_1, hl0_2] at c11b0_))
       clear c11
       have H' := Aside0.mk H
       clear H
       go_wp2
       (try simp only [← hl0_1, ← hl0_2])
       go_roundg k2
       case measure => have := HK1.out; have := HK2.out; omega
       case rel => exact ⟨(x0_2), (wrap64 (x12_1 + 1)), (by first | rfl | (simp; done) | (simp [*]; done)), H', ⟨by have := HK1.out; have := HK2.out; omega⟩, ⟨by (try simp only [hl0_1]); (try simp only [hl0_2]); (with_reducible repeat (first | apply Kd.S_alloc | apply Kd.S_drewN | apply Kd.S_drew)); exact HO_0.out⟩, ⟨by (try simp only [hl0_1]); (try simp only [hl0_2]); (with_reducible repeat (first | refine blk_drewN ?_ _ | refine blk_drew ?_ | refine blk_alloc ?_ _)); exact BK374.out⟩, ⟨by repeat (first | (with_reducible first | exact HK.out | apply Kept.alloc | apply Kept.drewN | apply Kept.drew | refine Kept.setCell ?_ (.inr GW374.out) _) | exact HK.out)⟩, ⟨bS⟩⟩
   ·rw [if_neg c6] at H
    have c6b0 : decide (x12_1 < (l0.length : Int)) = false := decide_eq_false c6
    (try (have c6b0_ := c6b0; simp only [hl0_1] at c6b0_))
    clear c6
    obtain rfl := Option.some.inj H
    simp only [Option.some.injEq, Prod.mk.injEq] at H
    obtain ⟨rfl⟩ := H
    go_wp2
    first | go_end0 | ((try simp only [Exit.inBlock, Exit.then]); refine bodyPost_ret (results_none rfl _ _ _) rfl ?_)
    exact ⟨eS, (by first | exact (by (with_reducible repeat (first | apply Kd.S_alloc | apply Kd.S_drewN | apply Kd.S_drew)); exact HO_0.out) | (simp only [hl0_1]; exact (by (with_reducible repeat (first | apply Kd.S_alloc | apply Kd.S_drewN | apply Kd.S_drew)); exact HO_0.out))), bS, by repeat (first | (with_reducible first | exact HK.out | apply Kept.alloc | apply Kept.drewN | apply Kept.drew | refine Kept.setCell ?_ (.inr GW374.out) _) | exact HK.out)⟩

end Go.Proofs.Ytigodjcnkgebaaa.QFnBands
