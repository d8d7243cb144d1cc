-- Made out of the translation by a program of this session (a changed copy of the print). Not trusted: Lean checks it.
import Derived.Test.YtimpejidlnjhlaaQFnPageDotsx0
import Derived.Test.YtimpejidlnjhlaaQFnPageDotsx2
import Derived.Test.YtimpejidlnjhlaaQFnPageDotsx5
import Derived.Test.YtimpejidlnjhlaaQFnPageDotsx6
namespace Go.Proofs.Ytimpejidlnjhlaa.QFnPageDots
open Go.RowKit Go.Proofs.YtimpejidlnjhlaaW.PrintWords Go.Proofs.YtimpejidlnjhlaaW.PrintLast Go.Proofs.YtimpejidlnjhlaaW.PrintMore
attribute [local go_sem] max2_int min2_int max_two min_two max_three min_three max_four min_four   -- for this text's walks alone
set_option linter.unusedVariables false
set_option linter.unusedSimpArgs false
set_option maxHeartbeats 8000000
set_option maxRecDepth 100000

/-! ### impl_ObjectRow: function 45 -/
def impl_ObjectRow.j0 : Nat → Int → Bool → List (S166) → Int → Int → Int → Int → Int → Int → Int → Int → Int → Option ((List (S140)))
 | 0, _, _, _, _, _, _, _, _, _, _, _, _ => none
 | k + 1, x1, x20, x336000, x336001, x336002, x336003, x336004, x336005, x342000, x342001, x342002, x342003 => if x20 = true then (some ([] : List (S140))) else ((impl_SpansAt.f k x336000 x1).bind fun t342 => ((impl_MeetSpans.f k t342 x342000 x342002).bind fun t345 => (some t345)))
def impl_ObjectRow.f (k : Nat) (l0_0 : List (S166)) (a0_1 : Int) (a0_2 : Int) (a0_3 : Int) (a0_4 : Int) (a0_5 : Int) (a1 : Int) : Option ((List (S140))) := (impl_ObjectOk.f k l0_0 a0_1 a0_2 a0_3 a0_4 a0_5).bind fun t336 => (if t336 = true then ((impl_ObjectBox.f k l0_0 a0_1 a0_2 a0_3 a0_4 a0_5).bind fun bt337 => (if a1 < bt337.2.1 then (impl_ObjectRow.j0 k a1 true l0_0 a0_1 a0_2 a0_3 a0_4 a0_5 bt337.1 bt337.2.1 bt337.2.2.1 bt337.2.2.2) else (impl_ObjectRow.j0 k a1 (decide (a1 ≥ bt337.2.2.2)) l0_0 a0_1 a0_2 a0_3 a0_4 a0_5 bt337.1 bt337.2.1 bt337.2.2.1 bt337.2.2.2))) else (some ([] : List (S140))))
def impl_ObjectRow.T6 : Bool × List (List Nat × List Nat) := (true, [([], []), ([0], [0]), ([], []), ([1, 2], [1, 2]), ([], []), ([4], [4]), ([], []), ([6], [6]), ([3, 5, 7, 3], [3, 5, 7]), ([8, 8, 0, 1, 2, 3, 4, 5, 6, 7, 8], [8])])
def impl_ObjectRow.B6 : List Nat := [0, 1, 0, 7, 0, 16, 0, 64, 255, 511]
theorem impl_ObjectRow.tab6 : rtab .any (opsOf Try.f45 6) = impl_ObjectRow.T6 := by kernel_rfl
theorem impl_ObjectRow.bits6 : waitsOk impl_ObjectRow.T6.2 impl_ObjectRow.B6 = true := by kernel_rfl
theorem impl_ObjectRow.calls (k : Nat) (A0_0 : Option Addr) (c0_0 : Nat) (l0_0 : List (S166)) (a0_1 : Int) (a0_2 : Int) (a0_3 : Int) (a0_4 : Int) (a0_5 : Int) (a1 : Int) (r : List (S140)) (w : World) (hr0_0 : Kd.C k166 w A0_0 l0_0.length l0_0) (hc0_0 : l0_0.length ≤ c0_0) (h : impl_ObjectRow.f k l0_0 a0_1 a0_2 a0_3 a0_4 a0_5 a1 = some r) :
  Calls Try.prog 45 #[.agg #[.slice A0_0 l0_0.length c0_0, .int .i64 a0_1, .int .i64 a0_2, .int .i64 a0_3, .int .i64 a0_4, .int .i64 a0_5], .int .i64 a1] w fun e w' => ∃ v0_ : Value, e = .returned (v0_) ∧ Kd.R k140 140 w' w.heap.size (fun _ => True) v0_ r ∧ Below w.heap.size w w' := by
 have hu41 := Try.underlying41
 have hu39 := Try.underlying39
 have HR0_0 := Aside0.mk hr0_0
 have HC0_0 := Aside0.mk hc0_0
 clear hr0_0 hc0_0
 have HB := Aside0.mk (Below.refl w.heap.size w)
 have H : ((impl_ObjectOk.f k l0_0 a0_1 a0_2 a0_3 a0_4 a0_5).bind fun t336 => (if t336 = true then ((impl_ObjectBox.f k l0_0 a0_1 a0_2 a0_3 a0_4 a0_5).bind fun bt337 => (if a1 < bt337.2.1 then (impl_ObjectRow.j0 k a1 true l0_0 a0_1 a0_2 a0_3 a0_4 a0_5 bt337.1 bt337.2.1 bt337.2.2.1 bt337.2.2.2) else (impl_ObjectRow.j0 k a1 (decide (a1 ≥ bt337.2.2.2)) l0_0 a0_1 a0_2 a0_3 a0_4 a0_5 bt337.1 bt337.2.1 bt337.2.2.1 bt337.2.2.2))) else (some ([] : List (S140))))) = some r := h
 clear h
 replace H := bN H
 obtain ⟨t336, A3, H⟩ := H
 by_cases c4 : t336 = true
 ·subst c4
  rw [if_pos rfl] at H
  replace H := bN H
  obtain ⟨⟨t337, t338, t339, t340⟩, A5, H⟩ := H
  have HC6 := Aside0.mk H
  clear H
  go_enter Try.func45, Try.ntmps45
  go_upto_region 4 with (first | ((with_reducible refine gD 2 ?_); refine bxE #[.slice A0_0 l0_0.length c0_0, .int .i64 a0_1, .int .i64 a0_2, .int .i64 a0_3, .int .i64 a0_4, .int .i64 a0_5] 41 ?_; intro gb335 hg w7 BK335 hb; have GW335 := gE hg; have GE335 := gE hg; replace HB := hB hb; clear hb hg; have hcz8_0 : w7.cell? ⟨gb335, 0, none⟩ = some (.slice A0_0 l0_0.length c0_0) := (blk_cell BK335.out 0).trans rfl; have hcz8_1 : w7.cell? ⟨gb335, 1, none⟩ = some (.int .i64 a0_1) := (blk_cell BK335.out 1).trans rfl; have hcz8_2 : w7.cell? ⟨gb335, 2, none⟩ = some (.int .i64 a0_2) := (blk_cell BK335.out 2).trans rfl; have hcz8_3 : w7.cell? ⟨gb335, 3, none⟩ = some (.int .i64 a0_3) := (blk_cell BK335.out 3).trans rfl; have hcz8_4 : w7.cell? ⟨gb335, 4, none⟩ = some (.int .i64 a0_4) := (blk_cell BK335.out 4).trans rfl; have hcz8_5 : w7.cell? ⟨gb335, 5, none⟩ = some (.int .i64 a0_5) := (blk_cell BK335.out 5).trans rfl; have hfz8_0 := blk_frozen BK335.out 0; have hfz8_1 := blk_frozen BK335.out 1; have hfz8_2 := blk_frozen BK335.out 2; have hfz8_3 := blk_frozen BK335.out 3; have hfz8_4 := blk_frozen BK335.out 4; have hfz8_5 := blk_frozen BK335.out 5) | ((with_reducible refine gC 107 ?_); refine cL (some 7) Try.func107 #[.agg #[.slice A0_0 l0_0.length c0_0, .int .i64 a0_1, .int .i64 a0_2, .int .i64 a0_3, .int .i64 a0_4, .int .i64 a0_5]] ?_; (with_reducible refine (impl_ObjectOk.calls k _ _ l0_0 a0_1 a0_2 a0_3 a0_4 a0_5 _ _ (cS (Kd.C_below HR0_0.out HB.out)) HC0_0.out A3.out).mono ?_); rintro e w9 ⟨rfl, hb⟩; refine ⟨_, rfl, ?_⟩; replace BK335 := kB (g := gb335) hb; replace HB := hB hb; (try clear hb); (try clear hb2); (try clear hk); (try clear hi); have hcz10_0 : w9.cell? ⟨gb335, 0, none⟩ = some (.slice A0_0 l0_0.length c0_0) := (blk_cell BK335.out 0).trans rfl; have hcz10_1 : w9.cell? ⟨gb335, 1, none⟩ = some (.int .i64 a0_1) := (blk_cell BK335.out 1).trans rfl; have hcz10_2 : w9.cell? ⟨gb335, 2, none⟩ = some (.int .i64 a0_2) := (blk_cell BK335.out 2).trans rfl; have hcz10_3 : w9.cell? ⟨gb335, 3, none⟩ = some (.int .i64 a0_3) := (blk_cell BK335.out 3).trans rfl; have hcz10_4 : w9.cell? ⟨gb335, 4, none⟩ = some (.int .i64 a0_4) := (blk_cell BK335.out 4).trans rfl; have hcz10_5 : w9.cell? ⟨gb335, 5, none⟩ = some (.int .i64 a0_5) := (blk_cell BK335.out 5).trans rfl; have hfz10_0 := blk_frozen BK335.out 0; have hfz10_1 := blk_frozen BK335.out 1; have hfz10_2 := blk_frozen BK335.out 2; have hfz10_3 := blk_frozen BK335.out 3; have hfz10_4 := blk_frozen BK335.out 4; have hfz10_5 := blk_frozen BK335.out 5) | ((with_reducible refine gC 100 ?_); refine cL (some 10) Try.func100 #[.agg #[.slice A0_0 l0_0.length c0_0, .int .i64 a0_1, .int .i64 a0_2, .int .i64 a0_3, .int .i64 a0_4, .int .i64 a0_5]] ?_; (with_reducible refine (impl_ObjectBox.calls k _ _ l0_0 a0_1 a0_2 a0_3 a0_4 a0_5 t337 t338 t339 t340 _ (cS (Kd.C_below HR0_0.out HB.out)) HC0_0.out A5.out).mono ?_); rintro e w11 ⟨rfl, hb⟩; refine ⟨_, rfl, ?_⟩; replace BK335 := kB (g := gb335) hb; replace HB := hB hb; (try clear hb); (try clear hb2); (try clear hk); (try clear hi)) | ((with_reducible refine gD 5 ?_); refine bxE #[.int .i64 0, .int .i64 0, .int .i64 0, .int .i64 0] 39 ?_; intro gb341 hg w12 BK341 hb; have GW341 := gE hg; have GE341 := gE hg; have NB335_341 := nL (g := gb335) hg; have NB341_335 := nG (g := gb335) hg; replace BK335 := kB (g := gb335) hb; replace HB := hB hb; clear hb hg; have hnb13 := NB341_335.out; have hnc13 := NB335_341.out; have hcz14_0 : w12.cell? ⟨gb341, 0, none⟩ = some (.int .i64 0) := (blk_cell BK341.out 0).trans rfl; have hcz14_1 : w12.cell? ⟨gb341, 1, none⟩ = some (.int .i64 0) := (blk_cell BK341.out 1).trans rfl; have hcz14_2 : w12.cell? ⟨gb341, 2, none⟩ = some (.int .i64 0) := (blk_cell BK341.out 2).trans rfl; have hcz14_3 : w12.cell? ⟨gb341, 3, none⟩ = some (.int .i64 0) := (blk_cell BK341.out 3).trans rfl; have hfz14_0 := blk_frozen BK341.out 0; have hfz14_1 := blk_frozen BK341.out 1; have hfz14_2 := blk_frozen BK341.out 2; have hfz14_3 := blk_frozen BK341.out 3))
  (try simp only [Act.put, List.setIfInBounds_toArray, List.set_cons_zero, List.set_cons_succ])
  go_cut [20] (fun v20 wc => ∃ (kq : Nat) (x20_5 : Bool), v20 = .bool x20_5 ∧ Aside0 (impl_ObjectRow.j0 kq a1 x20_5 l0_0 a0_1 a0_2 a0_3 a0_4 a0_5 t337 t338 t339 t340 = some r) ∧ Aside0 (kq ≤ k) ∧ Aside0 (wc.heap[gb335]? = some (.cells #[(.slice A0_0 l0_0.length c0_0), .int .i64 a0_1, .int .i64 a0_2, .int .i64 a0_3, .int .i64 a0_4, .int .i64 a0_5] 41 (0, 0))) ∧ Aside0 (wc.heap[gb341]? = some (.cells #[.int .i64 t337, .int .i64 t338, .int .i64 t339, .int .i64 t340] 39 (0, 0))) ∧ Aside0 (Below w.heap.size w wc))
  case first =>
   have H := HC6.out
   clear HC6
   rcases iD H with ⟨c15b0, H⟩ | ⟨c15b0, H⟩
   ·(first | rw [c15b0] | (simp only [i64_w, i32_w]; rw [c15b0]) | skip)
    have H' := Aside0.mk H
    clear H
    have hnb16 := NB341_335.out
    have hnc16 := NB335_341.out
    have hcz17_0 : w12.cell? ⟨gb341, 0, none⟩ = some (.int .i64 0) := (blk_cell BK341.out 0).trans rfl
    have hcz17_1 : w12.cell? ⟨gb341, 1, none⟩ = some (.int .i64 0) := (blk_cell BK341.out 1).trans rfl
    have hcz17_2 : w12.cell? ⟨gb341, 2, none⟩ = some (.int .i64 0) := (blk_cell BK341.out 2).trans rfl
    have hcz17_3 : w12.cell? ⟨gb341, 3, none⟩ = some (.int .i64 0) := (blk_cell BK341.out 3).trans rfl
    have hfz17_0 := blk_frozen BK341.out 0
    have hfz17_1 := blk_frozen BK341.out 1
    have hfz17_2 := blk_frozen BK341.out 2
    have hfz17_3 := blk_frozen BK341.out 3
    go_wp2
    go_meet
    case rel => exact ⟨_, (true), fS, H', ⟨by first | omega | exact Nat.le_refl _⟩, ⟨kS⟩, ⟨kS⟩, ⟨bS⟩⟩
   ·(first | rw [c15b0] | (simp only [i64_w, i32_w]; rw [c15b0]) | skip)
    have H' := Aside0.mk H
    clear H
    have hnb18 := NB341_335.out
    have hnc18 := NB335_341.out
    have hcz19_0 : w12.cell? ⟨gb341, 0, none⟩ = some (.int .i64 0) := (blk_cell BK341.out 0).trans rfl
    have hcz19_1 : w12.cell? ⟨gb341, 1, none⟩ = some (.int .i64 0) := (blk_cell BK341.out 1).trans rfl
    have hcz19_2 : w12.cell? ⟨gb341, 2, none⟩ = some (.int .i64 0) := (blk_cell BK341.out 2).trans rfl
    have hcz19_3 : w12.cell? ⟨gb341, 3, none⟩ = some (.int .i64 0) := (blk_cell BK341.out 3).trans rfl
    have hfz19_0 := blk_frozen BK341.out 0
    have hfz19_1 := blk_frozen BK341.out 1
    have hfz19_2 := blk_frozen BK341.out 2
    have hfz19_3 := blk_frozen BK341.out 3
    go_wp2
    go_meet
    case rel => exact ⟨_, (decide (a1 ≥ t340)), fS, H', ⟨by first | omega | exact Nat.le_refl _⟩, ⟨kS⟩, ⟨kS⟩, ⟨bS⟩⟩
  case rest =>
   clear HC6
   try clear c1
   try clear p2
   try clear c4
   try clear c10
   try clear c13
   try clear c15
   try clear c15b0
   try clear c16
   try clear c18
   try clear hcz10_0
   try clear hcz10_1
   try clear hcz10_2
   try clear hcz10_3
   try clear hcz10_4
   try clear hcz10_5
   try clear hcz14_0
   try clear hcz14_1
   try clear hcz14_2
   try clear hcz14_3
   try clear hcz17_0
   try clear hcz17_1
   try clear hcz17_2
   try clear hcz17_3
   try clear hcz19_0
   try clear hcz19_1
   try clear hcz19_2
   try clear hcz19_3
   try clear hcz8_0
   try clear hcz8_1
   try clear hcz8_2
   try clear hcz8_3
   try clear hcz8_4
   try clear hcz8_5
   try clear hfz10_0
   try clear hfz10_1
   try clear hfz10_2
   try clear hfz10_3
   try clear hfz10_4
   try clear hfz10_5
   try clear hfz14_0
   try clear hfz14_1
   try clear hfz14_2
   try clear hfz14_3
   try clear hfz17_0
   try clear hfz17_1
   try clear hfz17_2
   try clear hfz17_3
   try clear hfz19_0
   try clear hfz19_1
   try clear hfz19_2
   try clear hfz19_3
   try clear hfz8_0
   try clear hfz8_1
   try clear hfz8_2
   try clear hfz8_3
   try clear hfz8_4
   try clear hfz8_5
   obtain ⟨kq, x20_5, rfl, HA, HJ5, BK335, BK341, HB⟩ := hcut
   cases kq with
   | zero => exact absurd HA.out (by simp [impl_ObjectRow.j0])
   | succ kj5 =>
    have H := HA.out
    clear HA
    simp only [impl_ObjectRow.j0] at H
    by_cases c20 : x20_5 = true
    ·subst c20
     rw [if_pos rfl] at H
     obtain rfl := Option.some.inj H
     go_wp2
     go_ret
     exact ⟨_, eS, by first | exact Kd.R_nil _ _ _ _ _ | exact Kd.N_nil _ _ _ _ _ | exact Kd.V_nil _ _ _ _ _ | exact Kd.Q_nil _ _ _ _ _ | exact Kd.S_nil _ _ _ _ _, bS⟩
    ·obtain rfl := Bool.eq_false_iff.mpr c20
     rw [if_neg nF] at H
     replace H := bN H
     obtain ⟨t342, A21, H⟩ := H
     replace H := bN H
     obtain ⟨t345, A22, H⟩ := H
     obtain rfl := Option.some.inj H
     try go_wp2
     replace BK335 := Aside0.mk (blk_drew BK335.out)
     replace BK341 := Aside0.mk (blk_drew BK341.out)
     replace HB := Aside0.mk (below_drew1 HB.out)
     refine start_ (n := 10) (S := fun w' => w'.cell? ⟨gb335, 0, none⟩ = some (.slice A0_0 l0_0.length c0_0) ∧ w'.cell? ⟨gb335, 1, none⟩ = some (.int .i64 a0_1) ∧ w'.cell? ⟨gb335, 2, none⟩ = some (.int .i64 a0_2) ∧ w'.cell? ⟨gb335, 3, none⟩ = some (.int .i64 a0_3) ∧ w'.cell? ⟨gb335, 4, none⟩ = some (.int .i64 a0_4) ∧ w'.cell? ⟨gb335, 5, none⟩ = some (.int .i64 a0_5) ∧ w'.cell? ⟨gb341, 0, none⟩ = some (.int .i64 t337) ∧ w'.cell? ⟨gb341, 1, none⟩ = some (.int .i64 t338) ∧ w'.cell? ⟨gb341, 2, none⟩ = some (.int .i64 t339) ∧ w'.cell? ⟨gb341, 3, none⟩ = some (.int .i64 t340)) (ds := []) #[false, false, false, false, false, false, false, false, false, false] (by kernel_rfl) rfl rfl ⟨(blk_cell BK335.out 0).trans rfl, (blk_cell BK335.out 1).trans rfl, (blk_cell BK335.out 2).trans rfl, (blk_cell BK335.out 3).trans rfl, (blk_cell BK335.out 4).trans rfl, (blk_cell BK335.out 5).trans rfl, (blk_cell BK341.out 0).trans rfl, (blk_cell BK341.out 1).trans rfl, (blk_cell BK341.out 2).trans rfl, (blk_cell BK341.out 3).trans rfl⟩ (fun hHeld => ?_); refine with_tabW impl_ObjectRow.tab6 impl_ObjectRow.bits6 (fun HT_ HW_ => ?_)
     generalize wc.drew = w23 at BK335 BK341 HB hHeld ⊢
     refine pU 0 (some 21) #[true, false, false, false, false, false, false, false, false, false] ?_
     refine pU 2 (some 23) #[true, false, true, false, false, false, false, false, false, false] ?_
     refine pU 4 (some 25) #[true, false, true, false, true, false, false, false, false, false] ?_
     refine pU 6 (some 27) #[true, false, true, false, true, false, true, false, false, false] ?_
     refine tK 1 (some 22) #[true, true, true, false, true, false, true, false, false, false] ?_
     refine tK 5 (some 26) #[true, true, true, false, true, true, true, false, false, false] ?_
     refine tK 7 (some 28) #[true, true, true, false, true, true, true, true, false, false] ?_
     refine one_ (i := 3) (N := some 24) #[true, true, true, true, true, true, true, true, false, false] rfl rfl (one_of HT_.out (by kernel_rfl)) (by decide) (fun K hK => ?_)
     refine goes_ Try.func112 (by kernel_rfl) rfl #[.slice A0_0 l0_0.length c0_0, .int .i64 a1] (by rfl) rfl rfl (by (try simp only [List.map_toArray, List.map_cons, List.map_nil]); first | done | rfl | (simp only [List.length_drop, List.length_take]; rfl)) ?_
     with_reducible refine (impl_SpansAt.calls kj5 _ _ l0_0 a1 t342 _ ?side1 ?side2 A21.out).mono ?_
     (case side1 => exact cS (Kd.C_below HR0_0.out HB.out))
     (case side2 => exact HC0_0.out)
     rintro e w24 ⟨v343, rfl, ho0, hb⟩
     refine ⟨_, rfl, ?_⟩
     have HO344 := Aside0.mk (Kd.R_lower ho0 (below_size bS))
     replace BK335 := kB (g := gb335) hb
     replace BK341 := kB (g := gb341) hb
     replace HB := hB hb
     (try clear hb)
     (try clear hb2)
     (try clear hk)
     (try clear hi)
     (try clear ho0)
     obtain ⟨Ao25, co25, eo25⟩ := Kd.R_slice HO344.out
     (first | subst eo25 | (injection eo25 with f1_ f2_ f3_; have f4_ := f1_.symm; have f5_ := f3_.symm; clear f1_ f2_ f3_; subst f4_; subst f5_))
     refine hK.out _ _ ⟨(blk_cell BK335.out 0).trans rfl, (blk_cell BK335.out 1).trans rfl, (blk_cell BK335.out 2).trans rfl, (blk_cell BK335.out 3).trans rfl, (blk_cell BK335.out 4).trans rfl, (blk_cell BK335.out 5).trans rfl, (blk_cell BK341.out 0).trans rfl, (blk_cell BK341.out 1).trans rfl, (blk_cell BK341.out 2).trans rfl, (blk_cell BK341.out 3).trans rfl⟩ (fun hHeld => ?_)
     clear hK K
     refine norm_ (a' := ?_) ?_ ?_
     rotate_left
     ·show Act.put _ (some 24) _ = _
      simp only [Act.put, List.setIfInBounds_toArray, List.set_cons_zero, List.set_cons_succ, i64_w, i32_w]
      rfl
     refine one_ (i := 8) (N := some 29) #[true, true, true, true, true, true, true, true, true, false] rfl rfl (one_of HT_.out (by kernel_rfl)) (by decide) (fun K hK => ?_)
     refine goes_ Try.func111 (by kernel_rfl) rfl #[.slice Ao25 t342.length co25, .int .i64 t337, .int .i64 t339] (by rfl) rfl rfl (by (try simp only [List.map_toArray, List.map_cons, List.map_nil]); first | done | rfl | (simp only [List.length_drop, List.length_take]; rfl)) ?_
     with_reducible refine (impl_MeetSpans.calls kj5 _ _ t342 t337 t339 t345 _ ?side1 ?side2 A22.out).mono ?_
     (case side1 => exact cS (Kd.R_reads' HO344.out).2.2)
     (case side2 => exact (Kd.R_reads' HO344.out).2.1)
     rintro e w26 ⟨v346, rfl, ho0, hb⟩
     refine ⟨_, rfl, ?_⟩
     have HO347 := Aside0.mk (Kd.R_lower (Kd.R_new' ho0 (Kd.R_lt (rS HO344))) (below_size bS))
     replace HO344 := Aside0.mk (Kd.R_elder' (rS HO344) (Kd.R_base ho0) hb)
     replace BK335 := kB (g := gb335) hb
     replace BK341 := kB (g := gb341) hb
     replace HB := hB hb
     (try clear hb)
     (try clear hb2)
     (try clear hk)
     (try clear hi)
     (try clear ho0)
     refine hK.out _ _ ⟨(blk_cell BK335.out 0).trans rfl, (blk_cell BK335.out 1).trans rfl, (blk_cell BK335.out 2).trans rfl, (blk_cell BK335.out 3).trans rfl, (blk_cell BK335.out 4).trans rfl, (blk_cell BK335.out 5).trans rfl, (blk_cell BK341.out 0).trans rfl, (blk_cell BK341.out 1).trans rfl, (blk_cell BK341.out 2).trans rfl, (blk_cell BK341.out 3).trans rfl⟩ (fun hHeld => ?_)
     clear hK K
     refine norm_ (a' := ?_) ?_ ?_
     rotate_left
     ·show Act.put _ (some 29) _ = _
      simp only [Act.put, List.setIfInBounds_toArray, List.set_cons_zero, List.set_cons_succ, i64_w, i32_w]
      rfl
     refine pU 9 (some 4) #[true, true, true, true, true, true, true, true, true, true] ?_
     refine done_ (done_of HT_.out (by kernel_rfl)) ?_
     try go_wp2
     go_ret
     exact ⟨_, eS, by exact rT (Kd.R_mono HO347.out (fun _ hk => trivial)), bS⟩
 ·obtain rfl := Bool.eq_false_iff.mpr c4
  rw [if_neg nF] at H
  obtain rfl := Option.some.inj H
  go_enter Try.func45, Try.ntmps45
  go_wp2_with (first | ((with_reducible refine gD 2 ?_); refine bxE #[.slice A0_0 l0_0.length c0_0, .int .i64 a0_1, .int .i64 a0_2, .int .i64 a0_3, .int .i64 a0_4, .int .i64 a0_5] 41 ?_; intro gb335 hg w27 BK335 hb; have GW335 := gE hg; have GE335 := gE hg; replace HB := hB hb; clear hb hg; have hz28 := cz6 BK335) | ((with_reducible refine gC 107 ?_); refine cL (some 7) Try.func107 #[.agg #[.slice A0_0 l0_0.length c0_0, .int .i64 a0_1, .int .i64 a0_2, .int .i64 a0_3, .int .i64 a0_4, .int .i64 a0_5]] ?_; (with_reducible refine (impl_ObjectOk.calls k _ _ l0_0 a0_1 a0_2 a0_3 a0_4 a0_5 _ _ (cS (Kd.C_below HR0_0.out HB.out)) HC0_0.out A3.out).mono ?_); rintro e w29 ⟨rfl, hb⟩; refine ⟨_, rfl, ?_⟩; replace BK335 := kB (g := gb335) hb; replace HB := hB hb; (try clear hb); (try clear hb2); (try clear hk); (try clear hi)))
  go_ret
  exact ⟨_, eS, by first | exact Kd.R_nil _ _ _ _ _ | exact Kd.N_nil _ _ _ _ _ | exact Kd.V_nil _ _ _ _ _ | exact Kd.Q_nil _ _ _ _ _ | exact Kd.S_nil _ _ _ _ _, bS⟩

/-! ### impl_paint: function 108 -/
mutual
def impl_paint.l0 : Nat → List (List Int) → Int → Int → Int → List (S166) → Int → Int → Int → Int → Int → Option ((List (List Int)))
 | 0, _, _, _, _, _, _, _, _, _, _ => none
 | k + 1, x0, x1, x11, x12, x349000, x349001, x349002, x349003, x349004, x349005 => if x12 < x11 then ((impl_ObjectRow.f k x349000 x349001 x349002 x349003 x349004 x349005 (wrap64 (x1 + x12))).bind fun t349 => (impl_paint.l1 k x0 x1 x12 x11 x12 t349 (t349.length : Int) 0 x349000 x349001 x349002 x349003 x349004 x349005)) else (some x0)
def impl_paint.l1 : Nat → List (List Int) → Int → Int → Int → Int → List (S140) → Int → Int → List (S166) → Int → Int → Int → Int → Int → Option ((List (List Int)))
 | 0, _, _, _, _, _, _, _, _, _, _, _, _, _, _ => none
 | k + 1, x0, x1, x6, x11, x12, x19, x20, x21, x349000, x349001, x349002, x349003, x349004, x349005 => if x21 < x20 then (if 0 ≤ x21 then (if x21 < (x19.length : Int) then (impl_paint.l2 k x0 x1 x6 ((rd_T140 x19 x21).f0) x11 x12 x19 x20 x21 x349000 x349001 x349002 x349003 x349004 x349005 ((rd_T140 x19 x21).f0) ((rd_T140 x19 x21).f1)) else (none)) else (none)) else (impl_paint.l0 k x0 x1 x11 (wrap64 (x12 + 1)) x349000 x349001 x349002 x349003 x349004 x349005)
def impl_paint.l2 : Nat → List (List Int) → Int → Int → Int → Int → Int → List (S140) → Int → Int → List (S166) → Int → Int → Int → Int → Int → Int → Int → Option ((List (List Int)))
 | 0, _, _, _, _, _, _, _, _, _, _, _, _, _, _, _, _, _ => none
 | k + 1, x0, x1, x6, x9, x11, x12, x19, x20, x21, x349000, x349001, x349002, x349003, x349004, x349005, x354000, x354001 => if x9 < x354001 then (if 0 ≤ x6 then (if x6 < (x0.length : Int) then (if 0 ≤ x9 then (if x9 < ((rd_L3 x0 x6).length : Int) then (impl_paint.l2 k (x0.set (x6 : Int).toNat ((rd_L3 x0 x6).set (x9 : Int).toNat x349001)) x1 x6 (wrap64 (x9 + 1)) x11 x12 x19 x20 x21 x349000 x349001 x349002 x349003 x349004 x349005 x354000 x354001) else (none)) else (none)) else (none)) else (none)) else (impl_paint.l1 k x0 x1 x6 x11 x12 x19 x20 (wrap64 (x21 + 1)) x349000 x349001 x349002 x349003 x349004 x349005)
end
def impl_paint.f (k : Nat) (l0 : List (List Int)) (a1 : Int) (l2_0 : List (S166)) (a2_1 : Int) (a2_2 : Int) (a2_3 : Int) (a2_4 : Int) (a2_5 : Int) : Option ((List (List Int))) := impl_paint.l0 k l0 a1 (l0.length : Int) 0 l2_0 a2_1 a2_2 a2_3 a2_4 a2_5
def impl_paint.T10 : Bool × List (List Nat × List Nat) := (true, [([], []), ([], []), ([0, 1], [0, 1]), ([2], [2]), ([], []), ([], []), ([5], [5]), ([3, 4, 0, 1, 2, 3, 4, 5, 6], [3, 4]), ([7, 6, 0, 1, 2, 3, 4, 5, 6], [6, 7])])
def impl_paint.B10 : List Nat := [0, 0, 3, 7, 0, 0, 32, 127, 255]
theorem impl_paint.tab10 : rtab .any (opsOf Try.f108 10) = impl_paint.T10 := by kernel_rfl
theorem impl_paint.bits10 : waitsOk impl_paint.T10.2 impl_paint.B10 = true := by kernel_rfl
theorem impl_paint.calls (k : Nat) (P0_ : Nat → Prop) (u9000_ : Value) (l0 : List (List Int)) (a1 : Int) (A2_0 : Option Addr) (c2_0 : Nat) (l2_0 : List (S166)) (a2_1 : Int) (a2_2 : Int) (a2_3 : Int) (a2_4 : Int) (a2_5 : Int) (r : List (List Int)) (w0 w : World) (hB : Below w0.heap.size w0 w) (ho0 : Kd.S (Kd.slice 3 (Kd.int .i64)) 22 w w0.heap.size P0_ u9000_ l0) (hr2_0 : ∀ W_, Kept w W_ (fun k_ => P0_ k_) → Kd.C k166 W_ A2_0 l2_0.length l2_0) (hc2_0 : l2_0.length ≤ c2_0) (h : impl_paint.f k l0 a1 l2_0 a2_1 a2_2 a2_3 a2_4 a2_5 = some r) :
  Calls Try.prog 108 #[u9000_, .int .i64 a1, .agg #[.slice A2_0 l2_0.length c2_0, .int .i64 a2_1, .int .i64 a2_2, .int .i64 a2_3, .int .i64 a2_4, .int .i64 a2_5]] w fun e w' => e = .returned (.tuple #[]) ∧ Kd.S (Kd.slice 3 (Kd.int .i64)) 22 w' w0.heap.size (fun k_ => (P0_ k_ ∨ w.heap.size ≤ k_)) u9000_ r ∧ Below w0.heap.size w0 w' ∧ Kept w w' (fun k_ => P0_ k_) := by
 have hu41 := Try.underlying41
 have hu140 := Try.underlying140
 have HO0 := Aside0.mk (show Kd.S (Kd.slice 3 (Kd.int .i64)) 22 w w0.heap.size (fun k_ => (P0_ k_ ∨ w.heap.size ≤ k_)) u9000_ l0 from Kd.S_mono ho0 (fun k_ hk => (.inl hk)))
 have HR2_0 := Aside0.mk hr2_0
 have HC2_0 := Aside0.mk hc2_0
 clear hr2_0 hc2_0
 have HK := Aside0.mk (Kept.refl w (fun k_ => P0_ k_))
 have HW0 := Aside0.mk hB.size
 have HB := Aside0.mk hB
 clear hB
 have H : (impl_paint.l0 k l0 a1 (l0.length : Int) 0 l2_0 a2_1 a2_2 a2_3 a2_4 a2_5) = some r := h
 clear h
 have H' := Aside0.mk H
 clear H
 go_enter Try.func108, Try.ntmps108
 go_wp2_with (first | ((with_reducible refine gD 5 ?_); refine bxE #[.slice A2_0 l2_0.length c2_0, .int .i64 a2_1, .int .i64 a2_2, .int .i64 a2_3, .int .i64 a2_4, .int .i64 a2_5] 41 ?_; intro gb348 hg w4 BK348 hb; have GW348 := Aside0.mk ((by rw [hg]; exact (by first | exact HK.out.1 | exact (show Kept w _ (fun k_ => P0_ k_) from by repeat (first | (with_reducible first | exact HK.out | apply Kept.alloc | apply Kept.drewN | apply Kept.drew) | exact HK.out)).1) : w.heap.size ≤ gb348)); have GE348 := Aside0.mk ((by rw [hg]; exact (below_size bS) : w0.heap.size ≤ gb348)); replace HO0 := sB HO0 hb; replace HK := Aside0.mk (Kept.below (S := (fun k_ => P0_ k_)) (by repeat (first | (with_reducible first | exact HK.out | apply Kept.alloc | apply Kept.drewN | apply Kept.drew) | exact HK.out)) hb); replace HB := hB hb; clear hb hg; obtain ⟨Ao5, co5, eo5⟩ := Kd.S_slice HO0.out; subst eo5))
 go_loopg [12] k (fun kq v12 w' => ∃ (x0_1 : List (List Int)) (x12_1 : Int), v12 = .int .i64 x12_1 ∧ Aside0 (impl_paint.l0 kq x0_1 a1 (l0.length : Int) x12_1 l2_0 a2_1 a2_2 a2_3 a2_4 a2_5 = some r) ∧ Aside0 (kq ≤ k) ∧ Aside0 (Kd.S (Kd.slice 3 (Kd.int .i64)) 22 w' w0.heap.size (fun k_ => (P0_ k_ ∨ w.heap.size ≤ k_)) (.slice Ao5 l0.length co5) x0_1) ∧ Aside0 (w'.heap[gb348]? = some (.cells #[(.slice A2_0 l2_0.length c2_0), .int .i64 a2_1, .int .i64 a2_2, .int .i64 a2_3, .int .i64 a2_4, .int .i64 a2_5] 41 (0, 0))) ∧ Aside0 (Kept w w' (fun k_ => P0_ k_)) ∧ Aside0 (Below w0.heap.size w0 w'))
 case atStart => exact ⟨(l0), (0), fS, H', ⟨Nat.le_refl _⟩, ⟨sS HO0⟩, ⟨kS⟩, ⟨by repeat (first | (with_reducible first | exact HK.out | apply Kept.alloc | apply Kept.drewN | apply Kept.drew | refine Kept.setCell ?_ (.inr GW348.out) _) | exact HK.out)⟩, ⟨bS⟩⟩
 case round =>
  clear H'
  try clear c1
  try clear c2
  try clear p2
  obtain ⟨x0_1, x12_1, rfl, HA, HK1, HO_0, BK348, HK, HB⟩ := hrel
  have hl0_1 := (Kd.S_reads' HO_0.out).1
  rw [hl0_1] at HO_0
  (try simp only [hl0_1])
  (try simp only [hl0_1] at BK348)
  cases gk with
  | zero => exact absurd HA.out (by simp [impl_paint.l0])
  | succ k1 =>
   have H := HA.out
   clear HA
   simp only [impl_paint.l0] at H
   by_cases c6 : x12_1 < (l0.length : Int)
   ·rw [if_pos c6] at H
    have c6b0 : decide (x12_1 < (l0.length : Int)) = true := decide_eq_true c6
    (try (have c6b0_ := c6b0; simp only [hl0_1] at c6b0_))
    clear c6
    replace H := bN H
    obtain ⟨t349, A7, H⟩ := H
    have H' := Aside0.mk H
    clear H
    have hcz8_0 : wr.cell? ⟨gb348, 0, none⟩ = some (.slice A2_0 l2_0.length c2_0) := (blk_cell BK348.out 0).trans rfl
    have hcz8_1 : wr.cell? ⟨gb348, 1, none⟩ = some (.int .i64 a2_1) := (blk_cell BK348.out 1).trans rfl
    have hcz8_2 : wr.cell? ⟨gb348, 2, none⟩ = some (.int .i64 a2_2) := (blk_cell BK348.out 2).trans rfl
    have hcz8_3 : wr.cell? ⟨gb348, 3, none⟩ = some (.int .i64 a2_3) := (blk_cell BK348.out 3).trans rfl
    have hcz8_4 : wr.cell? ⟨gb348, 4, none⟩ = some (.int .i64 a2_4) := (blk_cell BK348.out 4).trans rfl
    have hcz8_5 : wr.cell? ⟨gb348, 5, none⟩ = some (.int .i64 a2_5) := (blk_cell BK348.out 5).trans rfl
    have hfz8_0 := blk_frozen BK348.out 0
    have hfz8_1 := blk_frozen BK348.out 1
    have hfz8_2 := blk_frozen BK348.out 2
    have hfz8_3 := blk_frozen BK348.out 3
    have hfz8_4 := blk_frozen BK348.out 4
    have hfz8_5 := blk_frozen BK348.out 5
    go_wp2_with (first | ((with_reducible refine gC 45 ?_); refine cL (some 19) Try.func45 #[.agg #[.slice A2_0 l2_0.length c2_0, .int .i64 a2_1, .int .i64 a2_2, .int .i64 a2_3, .int .i64 a2_4, .int .i64 a2_5], .int .i64 (wrap64 (a1 + x12_1))] ?_; (with_reducible refine (impl_ObjectRow.calls k1 _ _ l2_0 a2_1 a2_2 a2_3 a2_4 a2_5 (wrap64 (a1 + x12_1)) t349 _ ?side1 ?side2 A7.out).mono ?_); (case side1 => exact Kd.C_kept_now HR2_0.out (by repeat (first | (with_reducible first | exact HK.out | apply Kept.alloc | apply Kept.drewN | apply Kept.drew | refine Kept.setCell ?_ (.inr GW348.out) _) | exact HK.out))); (case side2 => exact HC2_0.out); rintro e w9 ⟨v350, rfl, ho0, hb⟩; refine ⟨_, rfl, ?_⟩; have HO351 := Aside0.mk (Kd.R_lower (Kd.R_newM (M := fun k_ => (P0_ k_ ∨ w.heap.size ≤ k_)) ho0 (by first | exact HK.out.1 | exact (show Kept w _ (fun k_ => P0_ k_) from by repeat (first | (with_reducible first | exact HK.out | apply Kept.alloc | apply Kept.drewN | apply Kept.drew | refine Kept.setCell ?_ (.inr GW348.out) _) | exact HK.out)).1) (fun k_ h_ => .inr h_)) (below_size bS)); replace HO_0 := sB HO_0 hb; replace BK348 := kB (g := gb348) hb; replace HK := Aside0.mk (Kept.below (S := (fun k_ => P0_ k_)) (by repeat (first | (with_reducible first | exact HK.out | apply Kept.alloc | apply Kept.drewN | apply Kept.drew | refine Kept.setCell ?_ (.inr GW348.out) _) | exact HK.out)) hb); replace HB := hB hb; (try clear hb); (try clear hb2); (try clear hk); (try clear hi); (try clear ho0); obtain ⟨Ao10, co10, eo10⟩ := Kd.R_slice HO351.out; subst eo10))
    go_loopg [21] k1 (fun kq v21 w' => ∃ (x0_2 : List (List Int)) (x21_2 : Int), v21 = .int .i64 x21_2 ∧ Aside0 (impl_paint.l1 kq x0_2 a1 x12_1 (l0.length : Int) x12_1 t349 (t349.length : Int) x21_2 l2_0 a2_1 a2_2 a2_3 a2_4 a2_5 = some r) ∧ Aside0 (kq ≤ k1) ∧ Aside0 (Kd.S (Kd.slice 3 (Kd.int .i64)) 22 w' w0.heap.size (fun k_ => (P0_ k_ ∨ w.heap.size ≤ k_)) (.slice Ao5 x0_1.length co5) x0_2) ∧ Aside0 (Kd.R k140 140 w' w0.heap.size (fun k_ => (P0_ k_ ∨ w.heap.size ≤ k_)) (.slice Ao10 t349.length co10) t349) ∧ Aside0 (w'.heap[gb348]? = some (.cells #[(.slice A2_0 l2_0.length c2_0), .int .i64 a2_1, .int .i64 a2_2, .int .i64 a2_3, .int .i64 a2_4, .int .i64 a2_5] 41 (0, 0))) ∧ Aside0 (Kept w w' (fun k_ => P0_ k_)) ∧ Aside0 (Below w0.heap.size w0 w'))
    case atStart => exact ⟨(x0_1), (0), fS, H', ⟨Nat.le_refl _⟩, ⟨by (try simp only [hl0_1]); (with_reducible repeat (first | apply Kd.S_alloc | apply Kd.S_drewN | apply Kd.S_drew)); exact HO_0.out⟩, ⟨by (try simp only [hl0_1]); (with_reducible repeat (first | apply Kd.R_alloc | apply Kd.R_drewN | apply Kd.R_drew)); exact Kd.R_mono HO351.out (fun _ hk => hk.1)⟩, ⟨by (try simp only [hl0_1]); (with_reducible repeat (first | refine blk_drewN ?_ _ | refine blk_drew ?_ | refine blk_alloc ?_ _)); exact BK348.out⟩, ⟨by repeat (first | (with_reducible first | exact HK.out | apply Kept.alloc | apply Kept.drewN | apply Kept.drew | refine Kept.setCell ?_ (.inr GW348.out) _) | exact HK.out)⟩, ⟨bS⟩⟩
    case round =>
     clear H'
     try clear c1
     try clear c2
     try clear p2
     try clear c4
     try clear c6
     try clear c6b0
     try clear p6
     try clear c10
     try clear hcz8_0
     try clear hcz8_1
     try clear hcz8_2
     try clear hcz8_3
     try clear hcz8_4
     try clear hcz8_5
     try clear hfz8_0
     try clear hfz8_1
     try clear hfz8_2
     try clear hfz8_3
     try clear hfz8_4
     try clear hfz8_5
     try clear p2
     obtain ⟨x0_2, x21_2, rfl, HA, HK2, HO_0, HO_19, BK348, HK, HB⟩ := hrel
     have hl0_2 := (Kd.S_reads' HO_0.out).1
     rw [hl0_2] at HO_0
     (try simp only [hl0_2])
     (try simp only [hl0_2] at BK348)
     (try simp only [hl0_2] at HO_19)
     cases gk with
     | zero => exact absurd HA.out (by simp [impl_paint.l1])
     | succ k2 =>
      have H := HA.out
      clear HA
      simp only [impl_paint.l1] at H
      by_cases c11 : x21_2 < (t349.length : Int)
      ·rw [if_pos c11] at H
       have c11b0 : decide (x21_2 < (t349.length : Int)) = true := decide_eq_true c11
       (try (have c11b0_ := c11b0; simp only [hl0_1, hl0_2] at c11b0_))
       clear c11
       by_cases c12 : 0 ≤ x21_2
       ·rw [if_pos c12] at H
        have c12b0 : decide (0 ≤ x21_2) = true := decide_eq_true c12
        clear c12
        by_cases c13 : x21_2 < (t349.length : Int)
        ·rw [if_pos c13] at H
         have c13b0 : decide (x21_2 < (t349.length : Int)) = true := decide_eq_true c13
         (try (have c13b0_ := c13b0; simp only [hl0_1, hl0_2] at c13b0_))
         clear c13
         have H' := Aside0.mk H
         clear H
         have p352 : 0 ≤ (x21_2 : Int) := dA
         have q352 : x21_2 < (t349.length : Int) := dA
         obtain ⟨ad352, e352, hx352_0, hx352_1⟩ := at_T140 (Kd.R_reads' HO_19.out).2.2 x21_2 p352 q352
         cases e352
         replace p352 := eq_true p352
         replace q352 := eq_true q352
         go_wp2_with (first | ((with_reducible refine gD 8 ?_); refine bxE #[.int .i64 0, .int .i64 0] 140 ?_; intro gb353 hg w14 BK353 hb; have GW353 := Aside0.mk ((by rw [hg]; exact (by first | exact HK.out.1 | exact (show Kept w _ (fun k_ => P0_ k_) from by repeat (first | (with_reducible first | exact HK.out | apply Kept.alloc | apply Kept.drewN | apply Kept.drew | refine Kept.setCell ?_ (.inr GW348.out) _) | exact HK.out)).1) : w.heap.size ≤ gb353)); have GE353 := Aside0.mk ((by rw [hg]; exact (below_size bS) : w0.heap.size ≤ gb353)); have NB348_353 := nL (g := gb348) hg; have NB353_348 := nG (g := gb348) hg; replace HO_0 := sB HO_0 hb; replace HO_19 := Aside0.mk (Kd.R_below (Kd.R_elderB (rS HO_19) gb353 (Nat.le_of_eq hg.symm)) hb); replace BK348 := kB (g := gb348) hb; replace HK := Aside0.mk (Kept.below (S := (fun k_ => P0_ k_)) (by repeat (first | (with_reducible first | exact HK.out | apply Kept.alloc | apply Kept.drewN | apply Kept.drew | refine Kept.setCell ?_ (.inr GW348.out) _) | exact HK.out)) hb); replace HB := hB hb; clear hb hg; have hnb15 := NB353_348.out; have hnc15 := NB348_353.out; have hcz16_0 : w14.cell? ⟨gb353, 0, none⟩ = some (.int .i64 0) := (blk_cell BK353.out 0).trans rfl; have hcz16_1 : w14.cell? ⟨gb353, 1, none⟩ = some (.int .i64 0) := (blk_cell BK353.out 1).trans rfl; have hfz16_0 := blk_frozen BK353.out 0; have hfz16_1 := blk_frozen BK353.out 1))
         go_loopg [9] k2 (fun kq v9 w' => ∃ (x0_3 : List (List Int)) (x9_3 : Int), v9 = .int .i64 x9_3 ∧ Aside0 (impl_paint.l2 kq x0_3 a1 x12_1 x9_3 (l0.length : Int) x12_1 t349 (t349.length : Int) x21_2 l2_0 a2_1 a2_2 a2_3 a2_4 a2_5 ((rd_T140 t349 x21_2).f0) ((rd_T140 t349 x21_2).f1) = some r) ∧ Aside0 (kq ≤ k2) ∧ Aside0 (Kd.S (Kd.slice 3 (Kd.int .i64)) 22 w' w0.heap.size (fun k_ => (P0_ k_ ∨ w.heap.size ≤ k_)) (.slice Ao5 x0_2.length co5) x0_3) ∧ Aside0 (Kd.R k140 140 w' w0.heap.size (fun k_ => (P0_ k_ ∨ w.heap.size ≤ k_) ∧ k_ ≠ gb353) (.slice (some ad352) t349.length co10) t349) ∧ Aside0 (w'.heap[gb348]? = some (.cells #[(.slice A2_0 l2_0.length c2_0), .int .i64 a2_1, .int .i64 a2_2, .int .i64 a2_3, .int .i64 a2_4, .int .i64 a2_5] 41 (0, 0))) ∧ Aside0 (w'.heap[gb353]? = some (.cells #[.int .i64 ((rd_T140 t349 x21_2).f0), .int .i64 ((rd_T140 t349 x21_2).f1)] 140 (0, 0))) ∧ Aside0 (Kept w w' (fun k_ => P0_ k_)) ∧ Aside0 (Below w0.heap.size w0 w'))
         case atStart => exact ⟨(x0_2), ((rd_T140 t349 x21_2).f0), fS, H', ⟨Nat.le_refl _⟩, ⟨by (try simp only [hl0_1]); (try simp only [hl0_2]); (with_reducible repeat (first | apply Kd.S_alloc | apply Kd.S_drewN | apply Kd.S_drew)); exact Kd.S_mono (Kd.S_far (p := ⟨gb353, 1, none⟩) (Kd.S_far (p := ⟨gb353, 0, none⟩) (Kd.S_types HO_0.out BK353.out (by decide)) (fun _ hk => hk.2) (.int .i64 ((rd_T140 t349 x21_2).f0))) (fun _ hk => hk.2) (.int .i64 ((rd_T140 t349 x21_2).f1))) (fun _ hk => hk.1)⟩, ⟨by (try simp only [hl0_1]); (try simp only [hl0_2]); (with_reducible repeat (first | apply Kd.R_alloc | apply Kd.R_drewN | apply Kd.R_drew)); exact Kd.R_mono (Kd.R_far (p := ⟨gb353, 1, none⟩) (Kd.R_far (p := ⟨gb353, 0, none⟩) (Kd.R_mono HO_19.out (fun k_ hk => (⟨hk, hk.2⟩ : _ ∧ k_ ≠ gb353))) (fun _ hk => hk.2) (.int .i64 ((rd_T140 t349 x21_2).f0))) (fun _ hk => hk.2) (.int .i64 ((rd_T140 t349 x21_2).f1))) (fun _ hk => ⟨hk.1.1, hk.1.2⟩)⟩, ⟨by (try simp only [hl0_1]); (try simp only [hl0_2]); (with_reducible repeat (first | refine blk_drewN ?_ _ | refine blk_drew ?_ | refine blk_alloc ?_ _)); refine blk_far ?_ NB348_353.out _; (with_reducible repeat (first | refine blk_drewN ?_ _ | refine blk_drew ?_ | refine blk_alloc ?_ _)); refine blk_far ?_ NB348_353.out _; (with_reducible repeat (first | refine blk_drewN ?_ _ | refine blk_drew ?_ | refine blk_alloc ?_ _)); exact BK348.out⟩, ⟨by (try simp only [hl0_1]); (try simp only [hl0_2]); (with_reducible repeat (first | refine blk_drewN ?_ _ | refine blk_drew ?_ | refine blk_alloc ?_ _)); refine blk_put (cs := #[.int .i64 ((rd_T140 t349 x21_2).f0), .int .i64 0]) ?_ 1 _ rfl; (with_reducible repeat (first | refine blk_drewN ?_ _ | refine blk_drew ?_ | refine blk_alloc ?_ _)); refine blk_put (cs := #[.int .i64 0, .int .i64 0]) ?_ 0 _ rfl; (with_reducible repeat (first | refine blk_drewN ?_ _ | refine blk_drew ?_ | refine blk_alloc ?_ _)); exact BK353.out⟩, ⟨by repeat (first | (with_reducible first | exact HK.out | apply Kept.alloc | apply Kept.drewN | apply Kept.drew | refine Kept.setCell ?_ (.inr GW348.out) _ | refine Kept.setCell ?_ (.inr GW353.out) _) | exact HK.out)⟩, ⟨bS⟩⟩
         case round =>
          clear H'
          try clear c1
          try clear c2
          try clear p2
          try clear p3
          try clear q3
          try clear hx3
          try clear c4
          try clear c6
          try clear c6b0
          try clear p6
          try clear c10
          try clear c11
          try clear c11b0
          try clear c12
          try clear c12b0
          try clear c13
          try clear c13b0
          try clear c15
          try clear hcz16_0
          try clear hcz16_1
          try clear hcz8_0
          try clear hcz8_1
          try clear hcz8_2
          try clear hcz8_3
          try clear hcz8_4
          try clear hcz8_5
          try clear hfz16_0
          try clear hfz16_1
          try clear hfz8_0
          try clear hfz8_1
          try clear hfz8_2
          try clear hfz8_3
          try clear hfz8_4
          try clear hfz8_5
          try clear hx352_0
          try clear hx352_1
          try clear p2
          try clear p352
          try clear p6
          try clear q352
          obtain ⟨x0_3, x9_3, rfl, HA, HK3, HO_0, HO_19, BK348, BK353, HK, HB⟩ := hrel
          have hl0_3 := (Kd.S_reads' HO_0.out).1
          rw [hl0_3] at HO_0
          (try simp only [hl0_3])
          (try simp only [hl0_3] at BK348)
          (try simp only [hl0_3] at BK353)
          (try simp only [hl0_3] at HO_19)
          cases gk with
          | zero => exact absurd HA.out (by simp [impl_paint.l2])
          | succ k3 =>
           have H := HA.out
           clear HA
           simp only [impl_paint.l2] at H
           rcases iD H with ⟨c17b0, H⟩ | ⟨c17b0, H⟩
           ·obtain ⟨c18b0, H⟩ := iT H
            by_cases c19 : x12_1 < (x0_3.length : Int)
            ·rw [if_pos c19] at H
             have c19b0 : decide (x12_1 < (x0_3.length : Int)) = true := decide_eq_true c19
             (try (have c19b0_ := c19b0; simp only [hl0_1, hl0_2, hl0_3] at c19b0_))
             clear c19
             obtain ⟨c20b0, H⟩ := iT H
             by_cases c21 : x9_3 < ((rd_L3 x0_3 x12_1).length : Int)
             ·rw [if_pos c21] at H
              have c21b0 : decide (x9_3 < ((rd_L3 x0_3 x12_1).length : Int)) = true := decide_eq_true c21
              (try (have c21b0_ := c21b0; simp only [hl0_1, hl0_2, hl0_3] at c21b0_))
              clear c21
              obtain ⟨y355, hy355⟩ : ∃ y_ : List Int, y_ = ((rd_L3 x0_3 x12_1).set (x9_3 : Int).toNat a2_1) := ⟨_, rfl⟩
              replace H : (impl_paint.l2 k3 (x0_3.set (x12_1 : Int).toNat y355) a1 x12_1 (wrap64 (x9_3 + 1)) (l0.length : Int) x12_1 t349 (t349.length : Int) x21_2 l2_0 a2_1 a2_2 a2_3 a2_4 a2_5 ((rd_T140 t349 x21_2).f0) ((rd_T140 t349 x21_2).f1)) = some r := by first | (rw [hy355]; with_reducible exact H) | (have H2_ := (Option.bind_some _ _).symm.trans H; rw [hy355]; with_reducible exact H2_) | (have H2_ := (Option.bind_some _ _).symm.trans H; with_reducible exact H2_) | with_reducible exact H | (rw [hy355]; exact H) | exact H
              have Ny355 := Aside0.mk hy355
              clear hy355
              obtain ⟨y357, hy357⟩ : ∃ y_ : List (List Int), y_ = (x0_3.set (x12_1 : Int).toNat y355) := ⟨_, rfl⟩
              replace H : (impl_paint.l2 k3 y357 a1 x12_1 (wrap64 (x9_3 + 1)) (l0.length : Int) x12_1 t349 (t349.length : Int) x21_2 l2_0 a2_1 a2_2 a2_3 a2_4 a2_5 ((rd_T140 t349 x21_2).f0) ((rd_T140 t349 x21_2).f1)) = some r := by first | (rw [hy357]; with_reducible exact H) | (have H2_ := (Option.bind_some _ _).symm.trans H; rw [hy357]; with_reducible exact H2_) | (have H2_ := (Option.bind_some _ _).symm.trans H; with_reducible exact H2_) | with_reducible exact H | (rw [hy357]; exact H) | exact H
              have Ny357 := Aside0.mk hy357
              clear hy357
              have H' := Aside0.mk H
              clear H
              have hnb23 := NB353_348.out
              have hnc23 := NB348_353.out
              have hz24 := cz2 BK353
              try go_wp2
              replace HO_0 := Aside0.mk (Kd.S_drew HO_0.out)
              replace HO_19 := Aside0.mk (Kd.R_drew HO_19.out)
              replace BK348 := Aside0.mk (blk_drew BK348.out)
              replace BK353 := Aside0.mk (blk_drew BK353.out)
              replace HK := Aside0.mk (Kept.drew HK.out)
              replace HB := Aside0.mk (below_drew1 HB.out)
              have p354 : 0 ≤ (x12_1 : Int) := dA
              have q354 : x12_1 < (x0_3.length : Int) := dA
              obtain ⟨ad354, A354_0, c354_0, e354, hx354_0, hl354_0, hi354_0⟩ := at_L3 (Kd.S_reads' HO_0.out).2.2 x12_1 p354 q354
              cases e354
              obtain ⟨ce354, hce354, hMe354, hcc354⟩ := Kd.S_get HO_0.out [] x12_1 p354 (by first | exact q354 | exact dA | (have e_ := (Kd.S_reads' HO_0.out).1; omega))
              obtain ⟨ve354_0, rfl, ge354_0⟩ := hMe354
              have hv354_0 := hcc354 0 _ rfl
              rw [Nat.add_zero, show ((Kd.slice 3 (Kd.int .i64))).sz = 1 from rfl, Nat.mul_one] at hv354_0
              replace hv354_0 := Option.some.inj (hv354_0.symm.trans hx354_0)
              rw [hv354_0] at ge354_0
              have HL354_0 := Aside0.mk (show Kd.R (Kd.int .i64) 3 _ _ _ _ (rd_L3 x0_3 x12_1) from ge354_0)
              clear hv354_0 ge354_0
              have HX354_0 := Aside0.mk hx354_0
              clear hcc354 hce354
              have HR354_0 := Aside0.mk hi354_0
              have HC354_0 := Aside0.mk hl354_0
              clear hi354_0 hl354_0
              replace p354 := eq_true p354
              replace q354 := eq_true q354
              have p22 : 0 ≤ (x9_3 : Int) := dA
              have q22 : (x9_3 : Int) < (((rd_L3 x0_3 x12_1).length : Int) : Int) := dA
              obtain ⟨go22, co22, eo22, gb22, gl22, cl22, HG22⟩ := Kd.R_form HL354_0.out (by omega)
              (first | cases eo22 | (injection eo22 with ea_ en_ ec_; (first | subst ea_ | (injection ea_ with ea_; subst ea_)); subst ec_; clear en_))
              have GB22 := Aside0.mk gb22
              have GG22 := Aside0.mk HG22
              clear gb22 gl22 HG22
              have HMgo22 := Aside0.mk (show (P0_ go22 ∨ w.heap.size ≤ go22) from (HL354_0.out.1 _ rfl).1)
              obtain ⟨hx22_0, hf22_0⟩ := Kd.R_celln 0 HL354_0.out (x9_3 : Int) p22 q22
              replace p22 := eq_true p22
              replace q22 := eq_true q22
              have hq26 : (x12_1 : Int) < (x0_3.length : Int) := (by have h_ : (x12_1 : Int) < ((x0_3.length : Int) : Int) := dA; first | exact h_ | (have e_ := (Kd.S_reads' HO_0.out).1; omega) | simpa only [List.length_set, List.length_set] using h_)
              obtain ⟨oki26, ce26, hcl26, hM26, hcc26, hok26, hbk26⟩ := Kd.S_borrow HO_0.out [] (x12_1 : Int) (dA) hq26
              obtain ⟨ve26_0, rfl, ge26_0⟩ := hM26
              have hv26 := hcc26 0 _ rfl
              rw [Nat.add_zero, show ((Kd.slice 3 (Kd.int .i64))).sz = 1 from rfl, Nat.mul_one] at hv26
              replace hv26 := Option.some.inj (hv26.symm.trans HX354_0.out)
              subst hv26
              clear hcc26 hcl26
              replace ge26_0 := (show Kd.R (Kd.int .i64) 3 _ _ _ _ (rd_L3 x0_3 x12_1) from ge26_0)
              have HP26 := Kd.R_putg ge26_0 (x9_3 : Int) a2_1
              rw [← Ny355.out] at HP26
              have HS26 := hbk26 HP26.2 (fun k_ e_ => by injection e_ with e_; subst e_; exact ge26_0.1 _ rfl) (x' := y355) (Kd.M_row HP26.1)
              rw [← Ny357.out] at HS26
              have HQ26 := Aside0.mk HS26
              clear HP26 HS26 hbk26 hok26
              refine start_ (n := 9) (S := fun w' => w'.cell? ⟨gb348, 0, none⟩ = some (.slice A2_0 l2_0.length c2_0) ∧ w'.cell? ⟨gb348, 1, none⟩ = some (.int .i64 a2_1) ∧ w'.cell? ⟨gb348, 2, none⟩ = some (.int .i64 a2_2) ∧ w'.cell? ⟨gb348, 3, none⟩ = some (.int .i64 a2_3) ∧ w'.cell? ⟨gb348, 4, none⟩ = some (.int .i64 a2_4) ∧ w'.cell? ⟨gb348, 5, none⟩ = some (.int .i64 a2_5) ∧ w'.cell? (ad354.add (x12_1).toNat) = some (.slice (some ⟨go22, 0, none⟩) (rd_L3 x0_3 x12_1).length c354_0)) (ds := [8]) #[false, false, false, false, false, false, false, false, false] (by kernel_rfl) rfl rfl ⟨(blk_cell BK348.out 0).trans rfl, (blk_cell BK348.out 1).trans rfl, (blk_cell BK348.out 2).trans rfl, (blk_cell BK348.out 3).trans rfl, (blk_cell BK348.out 4).trans rfl, (blk_cell BK348.out 5).trans rfl, hx354_0⟩ (fun hHeld => ?_); refine with_tabW impl_paint.tab10 impl_paint.bits10 (fun HT_ HW_ => ?_)
              generalize wr.drew = w25 at HO_0 HO_19 BK348 BK353 HK HB GG22 HL354_0 HQ26 HR354_0 HX354_0 hf22_0 hx22_0 hx354_0 hHeld ⊢
              refine pU 0 (some 33) #[true, false, false, false, false, false, false, false, false] ?_
              refine pU 1 (some 34) #[true, true, false, false, false, false, false, false, false] ?_
              refine pU 2 (some 35) #[true, true, true, false, false, false, false, false, false] ?_
              refine pU 4 (some 37) #[true, true, true, false, true, false, false, false, false] ?_
              refine pU 5 (some 38) #[true, true, true, false, true, true, false, false, false] ?_
              refine tK 3 (some 36) #[true, true, true, true, true, true, false, false, false] ?_
              refine tK 6 (some 39) #[true, true, true, true, true, true, true, false, false] ?_
              refine pU 7 (some 40) #[true, true, true, true, true, true, true, true, false] ?_
              refine last_ (i := 8) (N := none) #[true, true, true, true, true, true, true, true, true] rfl rfl (one_of HT_.out (by kernel_rfl)) (by decide) (fun K hK => ?_)
              refine skip_ (w1 := ?_) (by rfl) rfl ?_ ?_
              rotate_left
              ·go_simp
               rfl
              refine hK.out _ _ ?_
              clear hK K
              refine done_ (done_of HT_.out (by kernel_rfl)) ?_
              try go_wp2
              (try simp only [← hl0_3])
              go_roundg k3
              case measure => have := HK1.out; have := HK2.out; have := HK3.out; omega
              case rel => exact ⟨(y357), (wrap64 (x9_3 + 1)), fS, H', ⟨by have := HK1.out; have := HK2.out; have := HK3.out; omega⟩, ⟨by (try simp only [hl0_1]); (try simp only [hl0_2]); (try simp only [hl0_3]); (with_reducible repeat (first | apply Kd.S_alloc | apply Kd.S_drewN | apply Kd.S_drew)); exact HQ26.out⟩, ⟨by (try simp only [hl0_1]); (try simp only [hl0_2]); (try simp only [hl0_3]); (with_reducible repeat (first | apply Kd.R_alloc | apply Kd.R_drewN | apply Kd.R_drew)); exact Kd.R_mono (Kd.R_far (p := ⟨go22, (x9_3 : Int).toNat, none⟩) (Kd.R_types HO_19.out GG22.out (by decide)) (fun _ hk => hk.2) (.int .i64 a2_1)) (fun _ hk => ⟨hk.1.1, hk.1.2⟩)⟩, ⟨by (try simp only [hl0_1]); (try simp only [hl0_2]); (try simp only [hl0_3]); (with_reducible repeat (first | refine blk_drewN ?_ _ | refine blk_drew ?_ | refine blk_alloc ?_ _)); refine blk_far ?_ (by have h_ := Kd.R_ne HL354_0.out BK348.out (by decide); intro e_; exact h_ (by rw [e_]; rfl)) _; (with_reducible repeat (first | refine blk_drewN ?_ _ | refine blk_drew ?_ | refine blk_alloc ?_ _)); exact BK348.out⟩, ⟨by (try simp only [hl0_1]); (try simp only [hl0_2]); (try simp only [hl0_3]); (with_reducible repeat (first | refine blk_drewN ?_ _ | refine blk_drew ?_ | refine blk_alloc ?_ _)); refine blk_far ?_ (by have h_ := Kd.R_ne HL354_0.out BK353.out (by decide); intro e_; exact h_ (by rw [e_]; rfl)) _; (with_reducible repeat (first | refine blk_drewN ?_ _ | refine blk_drew ?_ | refine blk_alloc ?_ _)); exact BK353.out⟩, ⟨by repeat (first | (with_reducible first | exact HK.out | apply Kept.alloc | apply Kept.drewN | apply Kept.drew | refine Kept.setCell ?_ HMgo22.out _ | refine Kept.setCell ?_ (.inr GW348.out) _ | refine Kept.setCell ?_ (.inr GW353.out) _) | exact HK.out)⟩, ⟨by repeat (first | (with_reducible first | exact HB.out | apply below_alloc | apply pw_below_drewN | apply below_drew1 | refine below_set ?_ GB22.out | refine below_set ?_ GE348.out | refine below_set ?_ GE353.out) | exact HB.out)⟩⟩
             ·rw [if_neg c21] at H
              exact absurd H (by simp)
            ·rw [if_neg c19] at H
             exact absurd H (by simp)
           ·have H' := Aside0.mk H
            clear H
            have hnb28 := NB353_348.out
            have hnc28 := NB348_353.out
            have hz29 := cz2 BK353
            go_wp2
            (try simp only [← hl0_2, ← hl0_3])
            go_roundg k3
            case measure => have := HK1.out; have := HK2.out; have := HK3.out; omega
            case rel => exact ⟨(x0_3), (wrap64 (x21_2 + 1)), fS, H', ⟨by have := HK1.out; have := HK2.out; have := HK3.out; omega⟩, ⟨by (try simp only [hl0_1]); (try simp only [hl0_2]); (try simp only [hl0_3]); (with_reducible repeat (first | apply Kd.S_alloc | apply Kd.S_drewN | apply Kd.S_drew)); exact HO_0.out⟩, ⟨by (try simp only [hl0_1]); (try simp only [hl0_2]); (try simp only [hl0_3]); (with_reducible repeat (first | apply Kd.R_alloc | apply Kd.R_drewN | apply Kd.R_drew)); exact Kd.R_mono HO_19.out (fun _ hk => hk.1)⟩, ⟨by (try simp only [hl0_1]); (try simp only [hl0_2]); (try simp only [hl0_3]); (with_reducible repeat (first | refine blk_drewN ?_ _ | refine blk_drew ?_ | refine blk_alloc ?_ _)); exact BK348.out⟩, ⟨by repeat (first | (with_reducible first | exact HK.out | apply Kept.alloc | apply Kept.drewN | apply Kept.drew | refine Kept.setCell ?_ (.inr GW348.out) _ | refine Kept.setCell ?_ (.inr GW353.out) _) | exact HK.out)⟩, ⟨bS⟩⟩
        ·rw [if_neg c13] at H
         exact absurd H (by simp)
       ·rw [if_neg c12] at H
        exact absurd H (by simp)
      ·rw [if_neg c11] at H
       have c11b0 : decide (x21_2 < (t349.length : Int)) = false := decide_eq_false c11
       (try (have c11b0_ := c11b0; simp only [hl0_1, hl0_2] at c11b0_))
       clear c11
       have H' := Aside0.mk H
       clear H
       go_wp2
       (try simp only [← hl0_1, ← hl0_2])
       go_roundg k2
       case measure => have := HK1.out; have := HK2.out; omega
       case rel => exact ⟨(x0_2), (wrap64 (x12_1 + 1)), fS, H', ⟨by have := HK1.out; have := HK2.out; omega⟩, ⟨by (try simp only [hl0_1]); (try simp only [hl0_2]); (with_reducible repeat (first | apply Kd.S_alloc | apply Kd.S_drewN | apply Kd.S_drew)); exact HO_0.out⟩, ⟨by (try simp only [hl0_1]); (try simp only [hl0_2]); (with_reducible repeat (first | refine blk_drewN ?_ _ | refine blk_drew ?_ | refine blk_alloc ?_ _)); exact BK348.out⟩, ⟨by repeat (first | (with_reducible first | exact HK.out | apply Kept.alloc | apply Kept.drewN | apply Kept.drew | refine Kept.setCell ?_ (.inr GW348.out) _) | exact HK.out)⟩, ⟨bS⟩⟩
   ·rw [if_neg c6] at H
    have c6b0 : decide (x12_1 < (l0.length : Int)) = false := decide_eq_false c6
    (try (have c6b0_ := c6b0; simp only [hl0_1] at c6b0_))
    clear c6
    obtain rfl := Option.some.inj H
    go_wp2
    first | go_end0 | ((try simp only [Exit.inBlock, Exit.then]); refine bodyPost_ret (results_none rfl _ _ _) rfl ?_)
    exact ⟨eS, (by first | exact (sS HO_0) | (simp only [hl0_1]; exact (sS HO_0))), bS, by repeat (first | (with_reducible first | exact HK.out | apply Kept.alloc | apply Kept.drewN | apply Kept.drew | refine Kept.setCell ?_ (.inr GW348.out) _) | exact HK.out)⟩

/-! ### impl_objectsOk: function 115 -/
def impl_objectsOk.l0 : Nat → List (S41) → Int → Int → Option (Bool)
 | 0, _, _, _ => none
 | k + 1, x5, x6, x7 => if x7 < x6 then (if 0 ≤ x7 then (if x7 < (x5.length : Int) then ((impl_ObjectOk.f k ((rd_T41 x5 x7).f0) ((rd_T41 x5 x7).f1) ((rd_T41 x5 x7).f2.f0) ((rd_T41 x5 x7).f2.f1) ((rd_T41 x5 x7).f2.f2) ((rd_T41 x5 x7).f2.f3)).bind fun t360 => (if t360 = true then (impl_objectsOk.l0 k x5 x6 (wrap64 (x7 + 1))) else (some false))) else (none)) else (none)) else (some true)
def impl_objectsOk.f (k : Nat) (l0 : List (S41)) : Option (Bool) := impl_objectsOk.l0 k l0 (l0.length : Int) 0
theorem impl_objectsOk.calls (k : Nat) (A0 : Option Addr) (c0 : Nat) (l0 : List (S41)) (r : Bool) (w : World) (hr0 : Kd.C k41 w A0 l0.length l0) (hc0 : l0.length ≤ c0) (h : impl_objectsOk.f k l0 = some r) :
  Calls Try.prog 115 #[.slice A0 l0.length c0] w fun e w' => e = .returned (.bool r) ∧ Below w.heap.size w w' := by
 have hu41 := Try.underlying41
 have HR0 := Aside0.mk hr0
 have HC0 := Aside0.mk hc0
 clear hr0 hc0
 have HB := Aside0.mk (Below.refl w.heap.size w)
 have H : (impl_objectsOk.l0 k l0 (l0.length : Int) 0) = some r := h
 clear h
 have H' := Aside0.mk H
 clear H
 go_enter Try.func115, Try.ntmps115
 go_wp2
 go_loopg [7] k (fun kq v7 w' => ∃ (x7_1 : Int), v7 = .int .i64 x7_1 ∧ Aside0 (impl_objectsOk.l0 kq l0 (l0.length : Int) x7_1 = some r) ∧ Aside0 (kq ≤ k) ∧ Aside0 (Below w.heap.size w w'))
 case atStart => exact ⟨(0), fS, H', ⟨Nat.le_refl _⟩, ⟨bS⟩⟩
 case round =>
  clear H'
  try clear c1
  obtain ⟨x7_1, rfl, HA, HK1, HB⟩ := hrel
  cases gk with
  | zero => exact absurd HA.out (by simp [impl_objectsOk.l0])
  | succ k1 =>
   have H := HA.out
   clear HA
   simp only [impl_objectsOk.l0] at H
   rcases iD H with ⟨c2b0, H⟩ | ⟨c2b0, H⟩
   ·obtain ⟨c3b0, H⟩ := iT H
    obtain ⟨c4b0, H⟩ := iT H
    replace H := bN H
    obtain ⟨t360, A5, H⟩ := H
    by_cases c6 : t360 = true
    ·subst c6
     rw [if_pos rfl] at H
     have H' := Aside0.mk H
     clear H
     have p358 : 0 ≤ (x7_1 : Int) := dA
     have q358 : x7_1 < (l0.length : Int) := dA
     obtain ⟨ad358, A358_0, c358_0, e358, hx358_0, hx358_1, hx358_2, hx358_3, hx358_4, hx358_5, hl358_0, hi358_0⟩ := at_T41 HR0.out x7_1 p358 q358
     cases e358
     replace hx358_0 := cB HB hx358_0
     replace hx358_1 := cB HB hx358_1
     replace hx358_2 := cB HB hx358_2
     replace hx358_3 := cB HB hx358_3
     replace hx358_4 := cB HB hx358_4
     replace hx358_5 := cB HB hx358_5
     have HR358_0 := Aside0.mk hi358_0
     have HC358_0 := Aside0.mk hl358_0
     clear hi358_0 hl358_0
     replace p358 := eq_true p358
     replace q358 := eq_true q358
     go_wp2_with (first | ((with_reducible refine gD 4 ?_); refine bxE #[.slice none 0 0, .int .i64 0, .int .i64 0, .int .i64 0, .int .i64 0, .int .i64 0] 41 ?_; intro gb359 hg w7 BK359 hb; have GW359 := gE hg; have GE359 := gE hg; replace HB := hB hb; clear hb hg; have hz8 := cz6 BK359) | ((with_reducible refine gC 107 ?_); refine cL (some 12) Try.func107 #[.agg #[.slice A358_0 ((rd_T41 l0 x7_1).f0).length c358_0, .int .i64 ((rd_T41 l0 x7_1).f1), .int .i64 ((rd_T41 l0 x7_1).f2.f0), .int .i64 ((rd_T41 l0 x7_1).f2.f1), .int .i64 ((rd_T41 l0 x7_1).f2.f2), .int .i64 ((rd_T41 l0 x7_1).f2.f3)]] ?_; (with_reducible refine (impl_ObjectOk.calls k1 _ _ ((rd_T41 l0 x7_1).f0) ((rd_T41 l0 x7_1).f1) ((rd_T41 l0 x7_1).f2.f0) ((rd_T41 l0 x7_1).f2.f1) ((rd_T41 l0 x7_1).f2.f2) ((rd_T41 l0 x7_1).f2.f3) _ _ (Kd.C_below HR358_0.out bS) HC358_0.out A5.out).mono ?_); rintro e w9 ⟨rfl, hb⟩; refine ⟨_, rfl, ?_⟩; replace BK359 := Aside0.mk (blk_below (g := gb359) (o := .cells #[.slice A358_0 ((rd_T41 l0 x7_1).f0).length c358_0, .int .i64 ((rd_T41 l0 x7_1).f1), .int .i64 ((rd_T41 l0 x7_1).f2.f0), .int .i64 ((rd_T41 l0 x7_1).f2.f1), .int .i64 ((rd_T41 l0 x7_1).f2.f2), .int .i64 ((rd_T41 l0 x7_1).f2.f3)] 41 (0, 0)) kS hb); replace HB := hB hb; (try clear hb); (try clear hb2); (try clear hk); (try clear hi)))
     go_roundg k1
     case measure => have := HK1.out; omega
     case rel => exact ⟨(wrap64 (x7_1 + 1)), fS, H', ⟨by have := HK1.out; omega⟩, ⟨bS⟩⟩
    ·obtain rfl := Bool.eq_false_iff.mpr c6
     rw [if_neg nF] at H
     obtain rfl := Option.some.inj H
     have p358 : 0 ≤ (x7_1 : Int) := dA
     have q358 : x7_1 < (l0.length : Int) := dA
     obtain ⟨ad358, A358_0, c358_0, e358, hx358_0, hx358_1, hx358_2, hx358_3, hx358_4, hx358_5, hl358_0, hi358_0⟩ := at_T41 HR0.out x7_1 p358 q358
     cases e358
     replace hx358_0 := cB HB hx358_0
     replace hx358_1 := cB HB hx358_1
     replace hx358_2 := cB HB hx358_2
     replace hx358_3 := cB HB hx358_3
     replace hx358_4 := cB HB hx358_4
     replace hx358_5 := cB HB hx358_5
     have HR358_0 := Aside0.mk hi358_0
     have HC358_0 := Aside0.mk hl358_0
     clear hi358_0 hl358_0
     replace p358 := eq_true p358
     replace q358 := eq_true q358
     go_wp2_with (first | ((with_reducible refine gD 4 ?_); refine bxE #[.slice none 0 0, .int .i64 0, .int .i64 0, .int .i64 0, .int .i64 0, .int .i64 0] 41 ?_; intro gb359 hg w10 BK359 hb; have GW359 := gE hg; have GE359 := gE hg; replace HB := hB hb; clear hb hg; have hz11 := cz6 BK359) | ((with_reducible refine gC 107 ?_); refine cL (some 12) Try.func107 #[.agg #[.slice A358_0 ((rd_T41 l0 x7_1).f0).length c358_0, .int .i64 ((rd_T41 l0 x7_1).f1), .int .i64 ((rd_T41 l0 x7_1).f2.f0), .int .i64 ((rd_T41 l0 x7_1).f2.f1), .int .i64 ((rd_T41 l0 x7_1).f2.f2), .int .i64 ((rd_T41 l0 x7_1).f2.f3)]] ?_; (with_reducible refine (impl_ObjectOk.calls k1 _ _ ((rd_T41 l0 x7_1).f0) ((rd_T41 l0 x7_1).f1) ((rd_T41 l0 x7_1).f2.f0) ((rd_T41 l0 x7_1).f2.f1) ((rd_T41 l0 x7_1).f2.f2) ((rd_T41 l0 x7_1).f2.f3) _ _ (Kd.C_below HR358_0.out bS) HC358_0.out A5.out).mono ?_); rintro e w12 ⟨rfl, hb⟩; refine ⟨_, rfl, ?_⟩; replace BK359 := Aside0.mk (blk_below (g := gb359) (o := .cells #[.slice A358_0 ((rd_T41 l0 x7_1).f0).length c358_0, .int .i64 ((rd_T41 l0 x7_1).f1), .int .i64 ((rd_T41 l0 x7_1).f2.f0), .int .i64 ((rd_T41 l0 x7_1).f2.f1), .int .i64 ((rd_T41 l0 x7_1).f2.f2), .int .i64 ((rd_T41 l0 x7_1).f2.f3)] 41 (0, 0)) kS hb); replace HB := hB hb; (try clear hb); (try clear hb2); (try clear hk); (try clear hi)))
     go_ret
     exact ⟨eS, bS⟩
   ·obtain rfl := Option.some.inj H
    go_wp2
    go_ret
    exact ⟨eS, bS⟩

end Go.Proofs.Ytimpejidlnjhlaa.QFnPageDots
