-- Made out of the translation by a program of this session (a changed copy of the print). Not trusted: Lean checks it.
import Derived.Test.YtimpejidlnjhlaaQFnTouchesx0
import Derived.Test.YtimpejidlnjhlaaQFnTouchesx2
import Derived.Test.YtimpejidlnjhlaaQFnTouchesx4
import Derived.Test.YtimpejidlnjhlaaQFnTouchesx5
import Derived.Test.YtimpejidlnjhlaaQFnTouchesx6
namespace Go.Proofs.Ytimpejidlnjhlaa.QFnTouches
open Go.RowKit Go.Proofs.YtimpejidlnjhlaaW.PrintWords Go.Proofs.YtimpejidlnjhlaaW.PrintLast Go.Proofs.YtimpejidlnjhlaaW.PrintMore
attribute [local go_sem] max2_int min2_int max_two min_two max_three min_three max_four min_four   -- for this text's walks alone
set_option linter.unusedVariables false
set_option linter.unusedSimpArgs false
set_option maxHeartbeats 8000000
set_option maxRecDepth 100000

/-! ### impl_ObjectRow: function 45 -/
def impl_ObjectRow.j0 : Nat → Int → Bool → List (S166) → Int → Int → Int → Int → Int → Int → Int → Int → Int → Option ((List (S140)))
 | 0, _, _, _, _, _, _, _, _, _, _, _, _ => none
 | k + 1, x1, x20, x366000, x366001, x366002, x366003, x366004, x366005, x372000, x372001, x372002, x372003 => if x20 = true then (some ([] : List (S140))) else ((impl_SpansAt.f k x366000 x1).bind fun t372 => ((impl_MeetSpans.f k t372 x372000 x372002).bind fun t375 => (some t375)))
def impl_ObjectRow.f (k : Nat) (l0_0 : List (S166)) (a0_1 : Int) (a0_2 : Int) (a0_3 : Int) (a0_4 : Int) (a0_5 : Int) (a1 : Int) : Option ((List (S140))) := (impl_ObjectOk.f k l0_0 a0_1 a0_2 a0_3 a0_4 a0_5).bind fun t366 => (if t366 = true then ((impl_ObjectBox.f k l0_0 a0_1 a0_2 a0_3 a0_4 a0_5).bind fun bt367 => (if a1 < bt367.2.1 then (impl_ObjectRow.j0 k a1 true l0_0 a0_1 a0_2 a0_3 a0_4 a0_5 bt367.1 bt367.2.1 bt367.2.2.1 bt367.2.2.2) else (impl_ObjectRow.j0 k a1 (decide (a1 ≥ bt367.2.2.2)) l0_0 a0_1 a0_2 a0_3 a0_4 a0_5 bt367.1 bt367.2.1 bt367.2.2.1 bt367.2.2.2))) else (some ([] : List (S140))))
def impl_ObjectRow.T6 : Bool × List (List Nat × List Nat) := (true, [([], []), ([0], [0]), ([], []), ([1, 2], [1, 2]), ([], []), ([4], [4]), ([], []), ([6], [6]), ([3, 5, 7, 3], [3, 5, 7]), ([8, 8, 0, 1, 2, 3, 4, 5, 6, 7, 8], [8])])
def impl_ObjectRow.B6 : List Nat := [0, 1, 0, 7, 0, 16, 0, 64, 255, 511]
theorem impl_ObjectRow.tab6 : rtab .any (opsOf Try.f45 6) = impl_ObjectRow.T6 := by kernel_rfl
theorem impl_ObjectRow.bits6 : waitsOk impl_ObjectRow.T6.2 impl_ObjectRow.B6 = true := by kernel_rfl
theorem impl_ObjectRow.calls (k : Nat) (A0_0 : Option Addr) (c0_0 : Nat) (l0_0 : List (S166)) (a0_1 : Int) (a0_2 : Int) (a0_3 : Int) (a0_4 : Int) (a0_5 : Int) (a1 : Int) (r : List (S140)) (w : World) (hr0_0 : Kd.C k166 w A0_0 l0_0.length l0_0) (hc0_0 : l0_0.length ≤ c0_0) (h : impl_ObjectRow.f k l0_0 a0_1 a0_2 a0_3 a0_4 a0_5 a1 = some r) :
  Calls Try.prog 45 #[.agg #[.slice A0_0 l0_0.length c0_0, .int .i64 a0_1, .int .i64 a0_2, .int .i64 a0_3, .int .i64 a0_4, .int .i64 a0_5], .int .i64 a1] w fun e w' => ∃ v0_ : Value, e = .returned (v0_) ∧ Kd.R k140 140 w' w.heap.size (fun _ => True) v0_ r ∧ Below w.heap.size w w' := by
 have hu41 := Try.underlying41
 have hu39 := Try.underlying39
 have HR0_0 := Aside0.mk hr0_0
 have HC0_0 := Aside0.mk hc0_0
 clear hr0_0 hc0_0
 have HB := Aside0.mk (Below.refl w.heap.size w)
 have H : ((impl_ObjectOk.f k l0_0 a0_1 a0_2 a0_3 a0_4 a0_5).bind fun t366 => (if t366 = true then ((impl_ObjectBox.f k l0_0 a0_1 a0_2 a0_3 a0_4 a0_5).bind fun bt367 => (if a1 < bt367.2.1 then (impl_ObjectRow.j0 k a1 true l0_0 a0_1 a0_2 a0_3 a0_4 a0_5 bt367.1 bt367.2.1 bt367.2.2.1 bt367.2.2.2) else (impl_ObjectRow.j0 k a1 (decide (a1 ≥ bt367.2.2.2)) l0_0 a0_1 a0_2 a0_3 a0_4 a0_5 bt367.1 bt367.2.1 bt367.2.2.1 bt367.2.2.2))) else (some ([] : List (S140))))) = some r := h
 clear h
 replace H := bN H
 obtain ⟨t366, A3, H⟩ := H
 by_cases c4 : t366 = true
 ·subst c4
  rw [if_pos rfl] at H
  replace H := bN H
  obtain ⟨⟨t367, t368, t369, t370⟩, A5, H⟩ := H
  have HC6 := Aside0.mk H
  clear H
  go_enter Try.func45, Try.ntmps45
  go_upto_region 4 with (first | ((with_reducible refine gD 2 ?_); refine bxE #[.slice A0_0 l0_0.length c0_0, .int .i64 a0_1, .int .i64 a0_2, .int .i64 a0_3, .int .i64 a0_4, .int .i64 a0_5] 41 ?_; intro gb365 hg w7 BK365 hb; have GW365 := gE hg; have GE365 := gE hg; replace HB := hB hb; clear hb hg; have hcz8_0 : w7.cell? ⟨gb365, 0, none⟩ = some (.slice A0_0 l0_0.length c0_0) := (blk_cell BK365.out 0).trans rfl; have hcz8_1 : w7.cell? ⟨gb365, 1, none⟩ = some (.int .i64 a0_1) := (blk_cell BK365.out 1).trans rfl; have hcz8_2 : w7.cell? ⟨gb365, 2, none⟩ = some (.int .i64 a0_2) := (blk_cell BK365.out 2).trans rfl; have hcz8_3 : w7.cell? ⟨gb365, 3, none⟩ = some (.int .i64 a0_3) := (blk_cell BK365.out 3).trans rfl; have hcz8_4 : w7.cell? ⟨gb365, 4, none⟩ = some (.int .i64 a0_4) := (blk_cell BK365.out 4).trans rfl; have hcz8_5 : w7.cell? ⟨gb365, 5, none⟩ = some (.int .i64 a0_5) := (blk_cell BK365.out 5).trans rfl; have hfz8_0 := blk_frozen BK365.out 0; have hfz8_1 := blk_frozen BK365.out 1; have hfz8_2 := blk_frozen BK365.out 2; have hfz8_3 := blk_frozen BK365.out 3; have hfz8_4 := blk_frozen BK365.out 4; have hfz8_5 := blk_frozen BK365.out 5) | ((with_reducible refine gC 107 ?_); refine cL (some 7) Try.func107 #[.agg #[.slice A0_0 l0_0.length c0_0, .int .i64 a0_1, .int .i64 a0_2, .int .i64 a0_3, .int .i64 a0_4, .int .i64 a0_5]] ?_; (with_reducible refine (impl_ObjectOk.calls k _ _ l0_0 a0_1 a0_2 a0_3 a0_4 a0_5 _ _ (cS (Kd.C_below HR0_0.out HB.out)) HC0_0.out A3.out).mono ?_); rintro e w9 ⟨rfl, hb⟩; refine ⟨_, rfl, ?_⟩; replace BK365 := kB (g := gb365) hb; replace HB := hB hb; (try clear hb); (try clear hb2); (try clear hk); (try clear hi); have hcz10_0 : w9.cell? ⟨gb365, 0, none⟩ = some (.slice A0_0 l0_0.length c0_0) := (blk_cell BK365.out 0).trans rfl; have hcz10_1 : w9.cell? ⟨gb365, 1, none⟩ = some (.int .i64 a0_1) := (blk_cell BK365.out 1).trans rfl; have hcz10_2 : w9.cell? ⟨gb365, 2, none⟩ = some (.int .i64 a0_2) := (blk_cell BK365.out 2).trans rfl; have hcz10_3 : w9.cell? ⟨gb365, 3, none⟩ = some (.int .i64 a0_3) := (blk_cell BK365.out 3).trans rfl; have hcz10_4 : w9.cell? ⟨gb365, 4, none⟩ = some (.int .i64 a0_4) := (blk_cell BK365.out 4).trans rfl; have hcz10_5 : w9.cell? ⟨gb365, 5, none⟩ = some (.int .i64 a0_5) := (blk_cell BK365.out 5).trans rfl; have hfz10_0 := blk_frozen BK365.out 0; have hfz10_1 := blk_frozen BK365.out 1; have hfz10_2 := blk_frozen BK365.out 2; have hfz10_3 := blk_frozen BK365.out 3; have hfz10_4 := blk_frozen BK365.out 4; have hfz10_5 := blk_frozen BK365.out 5) | ((with_reducible refine gC 100 ?_); refine cL (some 10) Try.func100 #[.agg #[.slice A0_0 l0_0.length c0_0, .int .i64 a0_1, .int .i64 a0_2, .int .i64 a0_3, .int .i64 a0_4, .int .i64 a0_5]] ?_; (with_reducible refine (impl_ObjectBox.calls k _ _ l0_0 a0_1 a0_2 a0_3 a0_4 a0_5 t367 t368 t369 t370 _ (cS (Kd.C_below HR0_0.out HB.out)) HC0_0.out A5.out).mono ?_); rintro e w11 ⟨rfl, hb⟩; refine ⟨_, rfl, ?_⟩; replace BK365 := kB (g := gb365) hb; replace HB := hB hb; (try clear hb); (try clear hb2); (try clear hk); (try clear hi)) | ((with_reducible refine gD 5 ?_); refine bxE #[.int .i64 0, .int .i64 0, .int .i64 0, .int .i64 0] 39 ?_; intro gb371 hg w12 BK371 hb; have GW371 := gE hg; have GE371 := gE hg; have NB365_371 := nL (g := gb365) hg; have NB371_365 := nG (g := gb365) hg; replace BK365 := kB (g := gb365) hb; replace HB := hB hb; clear hb hg; have hnb13 := NB371_365.out; have hnc13 := NB365_371.out; have hcz14_0 : w12.cell? ⟨gb371, 0, none⟩ = some (.int .i64 0) := (blk_cell BK371.out 0).trans rfl; have hcz14_1 : w12.cell? ⟨gb371, 1, none⟩ = some (.int .i64 0) := (blk_cell BK371.out 1).trans rfl; have hcz14_2 : w12.cell? ⟨gb371, 2, none⟩ = some (.int .i64 0) := (blk_cell BK371.out 2).trans rfl; have hcz14_3 : w12.cell? ⟨gb371, 3, none⟩ = some (.int .i64 0) := (blk_cell BK371.out 3).trans rfl; have hfz14_0 := blk_frozen BK371.out 0; have hfz14_1 := blk_frozen BK371.out 1; have hfz14_2 := blk_frozen BK371.out 2; have hfz14_3 := blk_frozen BK371.out 3))
  (try simp only [Act.put, List.setIfInBounds_toArray, List.set_cons_zero, List.set_cons_succ])
  go_cut [20] (fun v20 wc => ∃ (kq : Nat) (x20_5 : Bool), v20 = .bool x20_5 ∧ Aside0 (impl_ObjectRow.j0 kq a1 x20_5 l0_0 a0_1 a0_2 a0_3 a0_4 a0_5 t367 t368 t369 t370 = some r) ∧ Aside0 (kq ≤ k) ∧ Aside0 (wc.heap[gb365]? = some (.cells #[(.slice A0_0 l0_0.length c0_0), .int .i64 a0_1, .int .i64 a0_2, .int .i64 a0_3, .int .i64 a0_4, .int .i64 a0_5] 41 (0, 0))) ∧ Aside0 (wc.heap[gb371]? = some (.cells #[.int .i64 t367, .int .i64 t368, .int .i64 t369, .int .i64 t370] 39 (0, 0))) ∧ Aside0 (Below w.heap.size w wc))
  case first =>
   have H := HC6.out
   clear HC6
   rcases iD H with ⟨c15b0, H⟩ | ⟨c15b0, H⟩
   ·(first | rw [c15b0] | (simp only [i64_w, i32_w]; rw [c15b0]) | skip)
    have H' := Aside0.mk H
    clear H
    have hnb16 := NB371_365.out
    have hnc16 := NB365_371.out
    have hcz17_0 : w12.cell? ⟨gb371, 0, none⟩ = some (.int .i64 0) := (blk_cell BK371.out 0).trans rfl
    have hcz17_1 : w12.cell? ⟨gb371, 1, none⟩ = some (.int .i64 0) := (blk_cell BK371.out 1).trans rfl
    have hcz17_2 : w12.cell? ⟨gb371, 2, none⟩ = some (.int .i64 0) := (blk_cell BK371.out 2).trans rfl
    have hcz17_3 : w12.cell? ⟨gb371, 3, none⟩ = some (.int .i64 0) := (blk_cell BK371.out 3).trans rfl
    have hfz17_0 := blk_frozen BK371.out 0
    have hfz17_1 := blk_frozen BK371.out 1
    have hfz17_2 := blk_frozen BK371.out 2
    have hfz17_3 := blk_frozen BK371.out 3
    go_wp2
    go_meet
    case rel => exact ⟨_, (true), fS, H', ⟨by first | omega | exact Nat.le_refl _⟩, ⟨kS⟩, ⟨kS⟩, ⟨bS⟩⟩
   ·(first | rw [c15b0] | (simp only [i64_w, i32_w]; rw [c15b0]) | skip)
    have H' := Aside0.mk H
    clear H
    have hnb18 := NB371_365.out
    have hnc18 := NB365_371.out
    have hcz19_0 : w12.cell? ⟨gb371, 0, none⟩ = some (.int .i64 0) := (blk_cell BK371.out 0).trans rfl
    have hcz19_1 : w12.cell? ⟨gb371, 1, none⟩ = some (.int .i64 0) := (blk_cell BK371.out 1).trans rfl
    have hcz19_2 : w12.cell? ⟨gb371, 2, none⟩ = some (.int .i64 0) := (blk_cell BK371.out 2).trans rfl
    have hcz19_3 : w12.cell? ⟨gb371, 3, none⟩ = some (.int .i64 0) := (blk_cell BK371.out 3).trans rfl
    have hfz19_0 := blk_frozen BK371.out 0
    have hfz19_1 := blk_frozen BK371.out 1
    have hfz19_2 := blk_frozen BK371.out 2
    have hfz19_3 := blk_frozen BK371.out 3
    go_wp2
    go_meet
    case rel => exact ⟨_, (decide (a1 ≥ t370)), fS, H', ⟨by first | omega | exact Nat.le_refl _⟩, ⟨kS⟩, ⟨kS⟩, ⟨bS⟩⟩
  case rest =>
   clear HC6
   try clear c1
   try clear p2
   try clear c4
   try clear c10
   try clear c13
   try clear c15
   try clear c15b0
   try clear c16
   try clear c18
   try clear hcz10_0
   try clear hcz10_1
   try clear hcz10_2
   try clear hcz10_3
   try clear hcz10_4
   try clear hcz10_5
   try clear hcz14_0
   try clear hcz14_1
   try clear hcz14_2
   try clear hcz14_3
   try clear hcz17_0
   try clear hcz17_1
   try clear hcz17_2
   try clear hcz17_3
   try clear hcz19_0
   try clear hcz19_1
   try clear hcz19_2
   try clear hcz19_3
   try clear hcz8_0
   try clear hcz8_1
   try clear hcz8_2
   try clear hcz8_3
   try clear hcz8_4
   try clear hcz8_5
   try clear hfz10_0
   try clear hfz10_1
   try clear hfz10_2
   try clear hfz10_3
   try clear hfz10_4
   try clear hfz10_5
   try clear hfz14_0
   try clear hfz14_1
   try clear hfz14_2
   try clear hfz14_3
   try clear hfz17_0
   try clear hfz17_1
   try clear hfz17_2
   try clear hfz17_3
   try clear hfz19_0
   try clear hfz19_1
   try clear hfz19_2
   try clear hfz19_3
   try clear hfz8_0
   try clear hfz8_1
   try clear hfz8_2
   try clear hfz8_3
   try clear hfz8_4
   try clear hfz8_5
   obtain ⟨kq, x20_5, rfl, HA, HJ5, BK365, BK371, HB⟩ := hcut
   cases kq with
   | zero => exact absurd HA.out (by simp [impl_ObjectRow.j0])
   | succ kj5 =>
    have H := HA.out
    clear HA
    simp only [impl_ObjectRow.j0] at H
    by_cases c20 : x20_5 = true
    ·subst c20
     rw [if_pos rfl] at H
     obtain rfl := Option.some.inj H
     go_wp2
     go_ret
     exact ⟨_, eS, by first | exact Kd.R_nil _ _ _ _ _ | exact Kd.N_nil _ _ _ _ _ | exact Kd.V_nil _ _ _ _ _ | exact Kd.Q_nil _ _ _ _ _ | exact Kd.S_nil _ _ _ _ _, bS⟩
    ·obtain rfl := Bool.eq_false_iff.mpr c20
     rw [if_neg nF] at H
     replace H := bN H
     obtain ⟨t372, A21, H⟩ := H
     replace H := bN H
     obtain ⟨t375, A22, H⟩ := H
     obtain rfl := Option.some.inj H
     try go_wp2
     replace BK365 := Aside0.mk (blk_drew BK365.out)
     replace BK371 := Aside0.mk (blk_drew BK371.out)
     replace HB := Aside0.mk (below_drew1 HB.out)
     refine start_ (n := 10) (S := fun w' => w'.cell? ⟨gb365, 0, none⟩ = some (.slice A0_0 l0_0.length c0_0) ∧ w'.cell? ⟨gb365, 1, none⟩ = some (.int .i64 a0_1) ∧ w'.cell? ⟨gb365, 2, none⟩ = some (.int .i64 a0_2) ∧ w'.cell? ⟨gb365, 3, none⟩ = some (.int .i64 a0_3) ∧ w'.cell? ⟨gb365, 4, none⟩ = some (.int .i64 a0_4) ∧ w'.cell? ⟨gb365, 5, none⟩ = some (.int .i64 a0_5) ∧ w'.cell? ⟨gb371, 0, none⟩ = some (.int .i64 t367) ∧ w'.cell? ⟨gb371, 1, none⟩ = some (.int .i64 t368) ∧ w'.cell? ⟨gb371, 2, none⟩ = some (.int .i64 t369) ∧ w'.cell? ⟨gb371, 3, none⟩ = some (.int .i64 t370)) (ds := []) #[false, false, false, false, false, false, false, false, false, false] (by kernel_rfl) rfl rfl ⟨(blk_cell BK365.out 0).trans rfl, (blk_cell BK365.out 1).trans rfl, (blk_cell BK365.out 2).trans rfl, (blk_cell BK365.out 3).trans rfl, (blk_cell BK365.out 4).trans rfl, (blk_cell BK365.out 5).trans rfl, (blk_cell BK371.out 0).trans rfl, (blk_cell BK371.out 1).trans rfl, (blk_cell BK371.out 2).trans rfl, (blk_cell BK371.out 3).trans rfl⟩ (fun hHeld => ?_); refine with_tabW impl_ObjectRow.tab6 impl_ObjectRow.bits6 (fun HT_ HW_ => ?_)
     generalize wc.drew = w23 at BK365 BK371 HB hHeld ⊢
     refine pU 0 (some 21) #[true, false, false, false, false, false, false, false, false, false] ?_
     refine pU 2 (some 23) #[true, false, true, false, false, false, false, false, false, false] ?_
     refine pU 4 (some 25) #[true, false, true, false, true, false, false, false, false, false] ?_
     refine pU 6 (some 27) #[true, false, true, false, true, false, true, false, false, false] ?_
     refine tK 1 (some 22) #[true, true, true, false, true, false, true, false, false, false] ?_
     refine tK 5 (some 26) #[true, true, true, false, true, true, true, false, false, false] ?_
     refine tK 7 (some 28) #[true, true, true, false, true, true, true, true, false, false] ?_
     refine one_ (i := 3) (N := some 24) #[true, true, true, true, true, true, true, true, false, false] rfl rfl (one_of HT_.out (by kernel_rfl)) (by decide) (fun K hK => ?_)
     refine goes_ Try.func112 (by kernel_rfl) rfl #[.slice A0_0 l0_0.length c0_0, .int .i64 a1] (by rfl) rfl rfl (by (try simp only [List.map_toArray, List.map_cons, List.map_nil]); first | done | rfl | (simp only [List.length_drop, List.length_take]; rfl)) ?_
     with_reducible refine (impl_SpansAt.calls kj5 _ _ l0_0 a1 t372 _ ?side1 ?side2 A21.out).mono ?_
     (case side1 => exact cS (Kd.C_below HR0_0.out HB.out))
     (case side2 => exact HC0_0.out)
     rintro e w24 ⟨v373, rfl, ho0, hb⟩
     refine ⟨_, rfl, ?_⟩
     have HO374 := Aside0.mk (Kd.R_lower ho0 (below_size bS))
     replace BK365 := kB (g := gb365) hb
     replace BK371 := kB (g := gb371) hb
     replace HB := hB hb
     (try clear hb)
     (try clear hb2)
     (try clear hk)
     (try clear hi)
     (try clear ho0)
     obtain ⟨Ao25, co25, eo25⟩ := Kd.R_slice HO374.out
     (first | subst eo25 | (injection eo25 with f1_ f2_ f3_; have f4_ := f1_.symm; have f5_ := f3_.symm; clear f1_ f2_ f3_; subst f4_; subst f5_))
     refine hK.out _ _ ⟨(blk_cell BK365.out 0).trans rfl, (blk_cell BK365.out 1).trans rfl, (blk_cell BK365.out 2).trans rfl, (blk_cell BK365.out 3).trans rfl, (blk_cell BK365.out 4).trans rfl, (blk_cell BK365.out 5).trans rfl, (blk_cell BK371.out 0).trans rfl, (blk_cell BK371.out 1).trans rfl, (blk_cell BK371.out 2).trans rfl, (blk_cell BK371.out 3).trans rfl⟩ (fun hHeld => ?_)
     clear hK K
     refine norm_ (a' := ?_) ?_ ?_
     rotate_left
     ·show Act.put _ (some 24) _ = _
      simp only [Act.put, List.setIfInBounds_toArray, List.set_cons_zero, List.set_cons_succ, i64_w, i32_w]
      rfl
     refine one_ (i := 8) (N := some 29) #[true, true, true, true, true, true, true, true, true, false] rfl rfl (one_of HT_.out (by kernel_rfl)) (by decide) (fun K hK => ?_)
     refine goes_ Try.func111 (by kernel_rfl) rfl #[.slice Ao25 t372.length co25, .int .i64 t367, .int .i64 t369] (by rfl) rfl rfl (by (try simp only [List.map_toArray, List.map_cons, List.map_nil]); first | done | rfl | (simp only [List.length_drop, List.length_take]; rfl)) ?_
     with_reducible refine (impl_MeetSpans.calls kj5 _ _ t372 t367 t369 t375 _ ?side1 ?side2 A22.out).mono ?_
     (case side1 => exact cS (Kd.R_reads' HO374.out).2.2)
     (case side2 => exact (Kd.R_reads' HO374.out).2.1)
     rintro e w26 ⟨v376, rfl, ho0, hb⟩
     refine ⟨_, rfl, ?_⟩
     have HO377 := Aside0.mk (Kd.R_lower (Kd.R_new' ho0 (Kd.R_lt (rS HO374))) (below_size bS))
     replace HO374 := Aside0.mk (Kd.R_elder' (rS HO374) (Kd.R_base ho0) hb)
     replace BK365 := kB (g := gb365) hb
     replace BK371 := kB (g := gb371) hb
     replace HB := hB hb
     (try clear hb)
     (try clear hb2)
     (try clear hk)
     (try clear hi)
     (try clear ho0)
     refine hK.out _ _ ⟨(blk_cell BK365.out 0).trans rfl, (blk_cell BK365.out 1).trans rfl, (blk_cell BK365.out 2).trans rfl, (blk_cell BK365.out 3).trans rfl, (blk_cell BK365.out 4).trans rfl, (blk_cell BK365.out 5).trans rfl, (blk_cell BK371.out 0).trans rfl, (blk_cell BK371.out 1).trans rfl, (blk_cell BK371.out 2).trans rfl, (blk_cell BK371.out 3).trans rfl⟩ (fun hHeld => ?_)
     clear hK K
     refine norm_ (a' := ?_) ?_ ?_
     rotate_left
     ·show Act.put _ (some 29) _ = _
      simp only [Act.put, List.setIfInBounds_toArray, List.set_cons_zero, List.set_cons_succ, i64_w, i32_w]
      rfl
     refine pU 9 (some 4) #[true, true, true, true, true, true, true, true, true, true] ?_
     refine done_ (done_of HT_.out (by kernel_rfl)) ?_
     try go_wp2
     go_ret
     exact ⟨_, eS, by exact rT (Kd.R_mono HO377.out (fun _ hk => trivial)), bS⟩
 ·obtain rfl := Bool.eq_false_iff.mpr c4
  rw [if_neg nF] at H
  obtain rfl := Option.some.inj H
  go_enter Try.func45, Try.ntmps45
  go_wp2_with (first | ((with_reducible refine gD 2 ?_); refine bxE #[.slice A0_0 l0_0.length c0_0, .int .i64 a0_1, .int .i64 a0_2, .int .i64 a0_3, .int .i64 a0_4, .int .i64 a0_5] 41 ?_; intro gb365 hg w27 BK365 hb; have GW365 := gE hg; have GE365 := gE hg; replace HB := hB hb; clear hb hg; have hz28 := cz6 BK365) | ((with_reducible refine gC 107 ?_); refine cL (some 7) Try.func107 #[.agg #[.slice A0_0 l0_0.length c0_0, .int .i64 a0_1, .int .i64 a0_2, .int .i64 a0_3, .int .i64 a0_4, .int .i64 a0_5]] ?_; (with_reducible refine (impl_ObjectOk.calls k _ _ l0_0 a0_1 a0_2 a0_3 a0_4 a0_5 _ _ (cS (Kd.C_below HR0_0.out HB.out)) HC0_0.out A3.out).mono ?_); rintro e w29 ⟨rfl, hb⟩; refine ⟨_, rfl, ?_⟩; replace BK365 := kB (g := gb365) hb; replace HB := hB hb; (try clear hb); (try clear hb2); (try clear hk); (try clear hi)))
  go_ret
  exact ⟨_, eS, by first | exact Kd.R_nil _ _ _ _ _ | exact Kd.N_nil _ _ _ _ _ | exact Kd.V_nil _ _ _ _ _ | exact Kd.Q_nil _ _ _ _ _ | exact Kd.S_nil _ _ _ _ _, bS⟩

/-! ### impl_paint: function 108 -/
mutual
def impl_paint.l0 : Nat → List (List Int) → Int → Int → Int → List (S166) → Int → Int → Int → Int → Int → Option ((List (List Int)))
 | 0, _, _, _, _, _, _, _, _, _, _ => none
 | k + 1, x0, x1, x11, x12, x379000, x379001, x379002, x379003, x379004, x379005 => if x12 < x11 then ((impl_ObjectRow.f k x379000 x379001 x379002 x379003 x379004 x379005 (wrap64 (x1 + x12))).bind fun t379 => (impl_paint.l1 k x0 x1 x12 x11 x12 t379 (t379.length : Int) 0 x379000 x379001 x379002 x379003 x379004 x379005)) else (some x0)
def impl_paint.l1 : Nat → List (List Int) → Int → Int → Int → Int → List (S140) → Int → Int → List (S166) → Int → Int → Int → Int → Int → Option ((List (List Int)))
 | 0, _, _, _, _, _, _, _, _, _, _, _, _, _, _ => none
 | k + 1, x0, x1, x6, x11, x12, x19, x20, x21, x379000, x379001, x379002, x379003, x379004, x379005 => if x21 < x20 then (if 0 ≤ x21 then (if x21 < (x19.length : Int) then (impl_paint.l2 k x0 x1 x6 ((rd_T140 x19 x21).f0) x11 x12 x19 x20 x21 x379000 x379001 x379002 x379003 x379004 x379005 ((rd_T140 x19 x21).f0) ((rd_T140 x19 x21).f1)) else (none)) else (none)) else (impl_paint.l0 k x0 x1 x11 (wrap64 (x12 + 1)) x379000 x379001 x379002 x379003 x379004 x379005)
def impl_paint.l2 : Nat → List (List Int) → Int → Int → Int → Int → Int → List (S140) → Int → Int → List (S166) → Int → Int → Int → Int → Int → Int → Int → Option ((List (List Int)))
 | 0, _, _, _, _, _, _, _, _, _, _, _, _, _, _, _, _, _ => none
 | k + 1, x0, x1, x6, x9, x11, x12, x19, x20, x21, x379000, x379001, x379002, x379003, x379004, x379005, x384000, x384001 => if x9 < x384001 then (if 0 ≤ x6 then (if x6 < (x0.length : Int) then (if 0 ≤ x9 then (if x9 < ((rd_L3 x0 x6).length : Int) then (impl_paint.l2 k (x0.set (x6 : Int).toNat ((rd_L3 x0 x6).set (x9 : Int).toNat x379001)) x1 x6 (wrap64 (x9 + 1)) x11 x12 x19 x20 x21 x379000 x379001 x379002 x379003 x379004 x379005 x384000 x384001) else (none)) else (none)) else (none)) else (none)) else (impl_paint.l1 k x0 x1 x6 x11 x12 x19 x20 (wrap64 (x21 + 1)) x379000 x379001 x379002 x379003 x379004 x379005)
end
def impl_paint.f (k : Nat) (l0 : List (List Int)) (a1 : Int) (l2_0 : List (S166)) (a2_1 : Int) (a2_2 : Int) (a2_3 : Int) (a2_4 : Int) (a2_5 : Int) : Option ((List (List Int))) := impl_paint.l0 k l0 a1 (l0.length : Int) 0 l2_0 a2_1 a2_2 a2_3 a2_4 a2_5
def impl_paint.T10 : Bool × List (List Nat × List Nat) := (true, [([], []), ([], []), ([0, 1], [0, 1]), ([2], [2]), ([], []), ([], []), ([5], [5]), ([3, 4, 0, 1, 2, 3, 4, 5, 6], [3, 4]), ([7, 6, 0, 1, 2, 3, 4, 5, 6], [6, 7])])
def impl_paint.B10 : List Nat := [0, 0, 3, 7, 0, 0, 32, 127, 255]
theorem impl_paint.tab10 : rtab .any (opsOf Try.f108 10) = impl_paint.T10 := by kernel_rfl
theorem impl_paint.bits10 : waitsOk impl_paint.T10.2 impl_paint.B10 = true := by kernel_rfl
theorem impl_paint.calls (k : Nat) (P0_ : Nat → Prop) (u9000_ : Value) (l0 : List (List Int)) (a1 : Int) (A2_0 : Option Addr) (c2_0 : Nat) (l2_0 : List (S166)) (a2_1 : Int) (a2_2 : Int) (a2_3 : Int) (a2_4 : Int) (a2_5 : Int) (r : List (List Int)) (w0 w : World) (hB : Below w0.heap.size w0 w) (ho0 : Kd.S (Kd.slice 3 (Kd.int .i64)) 22 w w0.heap.size P0_ u9000_ l0) (hr2_0 : ∀ W_, Kept w W_ (fun k_ => P0_ k_) → Kd.C k166 W_ A2_0 l2_0.length l2_0) (hc2_0 : l2_0.length ≤ c2_0) (h : impl_paint.f k l0 a1 l2_0 a2_1 a2_2 a2_3 a2_4 a2_5 = some r) :
  Calls Try.prog 108 #[u9000_, .int .i64 a1, .agg #[.slice A2_0 l2_0.length c2_0, .int .i64 a2_1, .int .i64 a2_2, .int .i64 a2_3, .int .i64 a2_4, .int .i64 a2_5]] w fun e w' => e = .returned (.tuple #[]) ∧ Kd.S (Kd.slice 3 (Kd.int .i64)) 22 w' w0.heap.size (fun k_ => (P0_ k_ ∨ w.heap.size ≤ k_)) u9000_ r ∧ Below w0.heap.size w0 w' ∧ Kept w w' (fun k_ => P0_ k_) := by
 have hu41 := Try.underlying41
 have hu140 := Try.underlying140
 have HO0 := Aside0.mk (show Kd.S (Kd.slice 3 (Kd.int .i64)) 22 w w0.heap.size (fun k_ => (P0_ k_ ∨ w.heap.size ≤ k_)) u9000_ l0 from Kd.S_mono ho0 (fun k_ hk => (.inl hk)))
 have HR2_0 := Aside0.mk hr2_0
 have HC2_0 := Aside0.mk hc2_0
 clear hr2_0 hc2_0
 have HK := Aside0.mk (Kept.refl w (fun k_ => P0_ k_))
 have HW0 := Aside0.mk hB.size
 have HB := Aside0.mk hB
 clear hB
 have H : (impl_paint.l0 k l0 a1 (l0.length : Int) 0 l2_0 a2_1 a2_2 a2_3 a2_4 a2_5) = some r := h
 clear h
 have H' := Aside0.mk H
 clear H
 go_enter Try.func108, Try.ntmps108
 go_wp2_with (first | ((with_reducible refine gD 5 ?_); refine bxE #[.slice A2_0 l2_0.length c2_0, .int .i64 a2_1, .int .i64 a2_2, .int .i64 a2_3, .int .i64 a2_4, .int .i64 a2_5] 41 ?_; intro gb378 hg w4 BK378 hb; have GW378 := Aside0.mk ((by rw [hg]; exact (by first | exact HK.out.1 | exact (show Kept w _ (fun k_ => P0_ k_) from by repeat (first | (with_reducible first | exact HK.out | apply Kept.alloc | apply Kept.drewN | apply Kept.drew) | exact HK.out)).1) : w.heap.size ≤ gb378)); have GE378 := Aside0.mk ((by rw [hg]; exact (below_size bS) : w0.heap.size ≤ gb378)); replace HO0 := sB HO0 hb; replace HK := Aside0.mk (Kept.below (S := (fun k_ => P0_ k_)) (by repeat (first | (with_reducible first | exact HK.out | apply Kept.alloc | apply Kept.drewN | apply Kept.drew) | exact HK.out)) hb); replace HB := hB hb; clear hb hg; obtain ⟨Ao5, co5, eo5⟩ := Kd.S_slice HO0.out; subst eo5))
 go_loopg [12] k (fun kq v12 w' => ∃ (x0_1 : List (List Int)) (x12_1 : Int), v12 = .int .i64 x12_1 ∧ Aside0 (impl_paint.l0 kq x0_1 a1 (l0.length : Int) x12_1 l2_0 a2_1 a2_2 a2_3 a2_4 a2_5 = some r) ∧ Aside0 (kq ≤ k) ∧ Aside0 (Kd.S (Kd.slice 3 (Kd.int .i64)) 22 w' w0.heap.size (fun k_ => (P0_ k_ ∨ w.heap.size ≤ k_)) (.slice Ao5 l0.length co5) x0_1) ∧ Aside0 (w'.heap[gb378]? = some (.cells #[(.slice A2_0 l2_0.length c2_0), .int .i64 a2_1, .int .i64 a2_2, .int .i64 a2_3, .int .i64 a2_4, .int .i64 a2_5] 41 (0, 0))) ∧ Aside0 (Kept w w' (fun k_ => P0_ k_)) ∧ Aside0 (Below w0.heap.size w0 w'))
 case atStart => exact ⟨(l0), (0), fS, H', ⟨Nat.le_refl _⟩, ⟨sS HO0⟩, ⟨kS⟩, ⟨by repeat (first | (with_reducible first | exact HK.out | apply Kept.alloc | apply Kept.drewN | apply Kept.drew | refine Kept.setCell ?_ (.inr GW378.out) _) | exact HK.out)⟩, ⟨bS⟩⟩
 case round =>
  clear H'
  try clear c1
  try clear c2
  try clear p2
  obtain ⟨x0_1, x12_1, rfl, HA, HK1, HO_0, BK378, HK, HB⟩ := hrel
  have hl0_1 := (Kd.S_reads' HO_0.out).1
  rw [hl0_1] at HO_0
  (try simp only [hl0_1])
  (try simp only [hl0_1] at BK378)
  cases gk with
  | zero => exact absurd HA.out (by simp [impl_paint.l0])
  | succ k1 =>
   have H := HA.out
   clear HA
   simp only [impl_paint.l0] at H
   by_cases c6 : x12_1 < (l0.length : Int)
   ·rw [if_pos c6] at H
    have c6b0 : decide (x12_1 < (l0.length : Int)) = true := decide_eq_true c6
    (try (have c6b0_ := c6b0; simp only [hl0_1] at c6b0_))
    clear c6
    replace H := bN H
    obtain ⟨t379, A7, H⟩ := H
    have H' := Aside0.mk H
    clear H
    have hcz8_0 : wr.cell? ⟨gb378, 0, none⟩ = some (.slice A2_0 l2_0.length c2_0) := (blk_cell BK378.out 0).trans rfl
    have hcz8_1 : wr.cell? ⟨gb378, 1, none⟩ = some (.int .i64 a2_1) := (blk_cell BK378.out 1).trans rfl
    have hcz8_2 : wr.cell? ⟨gb378, 2, none⟩ = some (.int .i64 a2_2) := (blk_cell BK378.out 2).trans rfl
    have hcz8_3 : wr.cell? ⟨gb378, 3, none⟩ = some (.int .i64 a2_3) := (blk_cell BK378.out 3).trans rfl
    have hcz8_4 : wr.cell? ⟨gb378, 4, none⟩ = some (.int .i64 a2_4) := (blk_cell BK378.out 4).trans rfl
    have hcz8_5 : wr.cell? ⟨gb378, 5, none⟩ = some (.int .i64 a2_5) := (blk_cell BK378.out 5).trans rfl
    have hfz8_0 := blk_frozen BK378.out 0
    have hfz8_1 := blk_frozen BK378.out 1
    have hfz8_2 := blk_frozen BK378.out 2
    have hfz8_3 := blk_frozen BK378.out 3
    have hfz8_4 := blk_frozen BK378.out 4
    have hfz8_5 := blk_frozen BK378.out 5
    go_wp2_with (first | ((with_reducible refine gC 45 ?_); refine cL (some 19) Try.func45 #[.agg #[.slice A2_0 l2_0.length c2_0, .int .i64 a2_1, .int .i64 a2_2, .int .i64 a2_3, .int .i64 a2_4, .int .i64 a2_5], .int .i64 (wrap64 (a1 + x12_1))] ?_; (with_reducible refine (impl_ObjectRow.calls k1 _ _ l2_0 a2_1 a2_2 a2_3 a2_4 a2_5 (wrap64 (a1 + x12_1)) t379 _ ?side1 ?side2 A7.out).mono ?_); (case side1 => exact Kd.C_kept_now HR2_0.out (by repeat (first | (with_reducible first | exact HK.out | apply Kept.alloc | apply Kept.drewN | apply Kept.drew | refine Kept.setCell ?_ (.inr GW378.out) _) | exact HK.out))); (case side2 => exact HC2_0.out); rintro e w9 ⟨v380, rfl, ho0, hb⟩; refine ⟨_, rfl, ?_⟩; have HO381 := Aside0.mk (Kd.R_lower (Kd.R_newM (M := fun k_ => (P0_ k_ ∨ w.heap.size ≤ k_)) ho0 (by first | exact HK.out.1 | exact (show Kept w _ (fun k_ => P0_ k_) from by repeat (first | (with_reducible first | exact HK.out | apply Kept.alloc | apply Kept.drewN | apply Kept.drew | refine Kept.setCell ?_ (.inr GW378.out) _) | exact HK.out)).1) (fun k_ h_ => .inr h_)) (below_size bS)); replace HO_0 := sB HO_0 hb; replace BK378 := kB (g := gb378) hb; replace HK := Aside0.mk (Kept.below (S := (fun k_ => P0_ k_)) (by repeat (first | (with_reducible first | exact HK.out | apply Kept.alloc | apply Kept.drewN | apply Kept.drew | refine Kept.setCell ?_ (.inr GW378.out) _) | exact HK.out)) hb); replace HB := hB hb; (try clear hb); (try clear hb2); (try clear hk); (try clear hi); (try clear ho0); obtain ⟨Ao10, co10, eo10⟩ := Kd.R_slice HO381.out; subst eo10))
    go_loopg [21] k1 (fun kq v21 w' => ∃ (x0_2 : List (List Int)) (x21_2 : Int), v21 = .int .i64 x21_2 ∧ Aside0 (impl_paint.l1 kq x0_2 a1 x12_1 (l0.length : Int) x12_1 t379 (t379.length : Int) x21_2 l2_0 a2_1 a2_2 a2_3 a2_4 a2_5 = some r) ∧ Aside0 (kq ≤ k1) ∧ Aside0 (Kd.S (Kd.slice 3 (Kd.int .i64)) 22 w' w0.heap.size (fun k_ => (P0_ k_ ∨ w.heap.size ≤ k_)) (.slice Ao5 x0_1.length co5) x0_2) ∧ Aside0 (Kd.R k140 140 w' w0.heap.size (fun k_ => (P0_ k_ ∨ w.heap.size ≤ k_)) (.slice Ao10 t379.length co10) t379) ∧ Aside0 (w'.heap[gb378]? = some (.cells #[(.slice A2_0 l2_0.length c2_0), .int .i64 a2_1, .int .i64 a2_2, .int .i64 a2_3, .int .i64 a2_4, .int .i64 a2_5] 41 (0, 0))) ∧ Aside0 (Kept w w' (fun k_ => P0_ k_)) ∧ Aside0 (Below w0.heap.size w0 w'))
    case atStart => exact ⟨(x0_1), (0), fS, H', ⟨Nat.le_refl _⟩, ⟨by (try simp only [hl0_1]); (with_reducible repeat (first | apply Kd.S_alloc | apply Kd.S_drewN | apply Kd.S_drew)); exact HO_0.out⟩, ⟨by (try simp only [hl0_1]); (with_reducible repeat (first | apply Kd.R_alloc | apply Kd.R_drewN | apply Kd.R_drew)); exact Kd.R_mono HO381.out (fun _ hk => hk.1)⟩, ⟨by (try simp only [hl0_1]); (with_reducible repeat (first | refine blk_drewN ?_ _ | refine blk_drew ?_ | refine blk_alloc ?_ _)); exact BK378.out⟩, ⟨by repeat (first | (with_reducible first | exact HK.out | apply Kept.alloc | apply Kept.drewN | apply Kept.drew | refine Kept.setCell ?_ (.inr GW378.out) _) | exact HK.out)⟩, ⟨bS⟩⟩
    case round =>
     clear H'
     try clear c1
     try clear c2
     try clear p2
     try clear c4
     try clear c6
     try clear c6b0
     try clear p6
     try clear c10
     try clear hcz8_0
     try clear hcz8_1
     try clear hcz8_2
     try clear hcz8_3
     try clear hcz8_4
     try clear hcz8_5
     try clear hfz8_0
     try clear hfz8_1
     try clear hfz8_2
     try clear hfz8_3
     try clear hfz8_4
     try clear hfz8_5
     try clear p2
     obtain ⟨x0_2, x21_2, rfl, HA, HK2, HO_0, HO_19, BK378, HK, HB⟩ := hrel
     have hl0_2 := (Kd.S_reads' HO_0.out).1
     rw [hl0_2] at HO_0
     (try simp only [hl0_2])
     (try simp only [hl0_2] at BK378)
     (try simp only [hl0_2] at HO_19)
     cases gk with
     | zero => exact absurd HA.out (by simp [impl_paint.l1])
     | succ k2 =>
      have H := HA.out
      clear HA
      simp only [impl_paint.l1] at H
      by_cases c11 : x21_2 < (t379.length : Int)
      ·rw [if_pos c11] at H
       have c11b0 : decide (x21_2 < (t379.length : Int)) = true := decide_eq_true c11
       (try (have c11b0_ := c11b0; simp only [hl0_1, hl0_2] at c11b0_))
       clear c11
       by_cases c12 : 0 ≤ x21_2
       ·rw [if_pos c12] at H
        have c12b0 : decide (0 ≤ x21_2) = true := decide_eq_true c12
        clear c12
        by_cases c13 : x21_2 < (t379.length : Int)
        ·rw [if_pos c13] at H
         have c13b0 : decide (x21_2 < (t379.length : Int)) = true := decide_eq_true c13
         (try (have c13b0_ := c13b0; simp only [hl0_1, hl0_2] at c13b0_))
         clear c13
         have H' := Aside0.mk H
         clear H
         have p382 : 0 ≤ (x21_2 : Int) := dA
         have q382 : x21_2 < (t379.length : Int) := dA
         obtain ⟨ad382, e382, hx382_0, hx382_1⟩ := at_T140 (Kd.R_reads' HO_19.out).2.2 x21_2 p382 q382
         cases e382
         replace p382 := eq_true p382
         replace q382 := eq_true q382
         go_wp2_with (first | ((with_reducible refine gD 8 ?_); refine bxE #[.int .i64 0, .int .i64 0] 140 ?_; intro gb383 hg w14 BK383 hb; have GW383 := Aside0.mk ((by rw [hg]; exact (by first | exact HK.out.1 | exact (show Kept w _ (fun k_ => P0_ k_) from by repeat (first | (with_reducible first | exact HK.out | apply Kept.alloc | apply Kept.drewN | apply Kept.drew | refine Kept.setCell ?_ (.inr GW378.out) _) | exact HK.out)).1) : w.heap.size ≤ gb383)); have GE383 := Aside0.mk ((by rw [hg]; exact (below_size bS) : w0.heap.size ≤ gb383)); have NB378_383 := nL (g := gb378) hg; have NB383_378 := nG (g := gb378) hg; replace HO_0 := sB HO_0 hb; replace HO_19 := Aside0.mk (Kd.R_below (Kd.R_elderB (rS HO_19) gb383 (Nat.le_of_eq hg.symm)) hb); replace BK378 := kB (g := gb378) hb; replace HK := Aside0.mk (Kept.below (S := (fun k_ => P0_ k_)) (by repeat (first | (with_reducible first | exact HK.out | apply Kept.alloc | apply Kept.drewN | apply Kept.drew | refine Kept.setCell ?_ (.inr GW378.out) _) | exact HK.out)) hb); replace HB := hB hb; clear hb hg; have hnb15 := NB383_378.out; have hnc15 := NB378_383.out; have hcz16_0 : w14.cell? ⟨gb383, 0, none⟩ = some (.int .i64 0) := (blk_cell BK383.out 0).trans rfl; have hcz16_1 : w14.cell? ⟨gb383, 1, none⟩ = some (.int .i64 0) := (blk_cell BK383.out 1).trans rfl; have hfz16_0 := blk_frozen BK383.out 0; have hfz16_1 := blk_frozen BK383.out 1))
         go_loopg [9] k2 (fun kq v9 w' => ∃ (x0_3 : List (List Int)) (x9_3 : Int), v9 = .int .i64 x9_3 ∧ Aside0 (impl_paint.l2 kq x0_3 a1 x12_1 x9_3 (l0.length : Int) x12_1 t379 (t379.length : Int) x21_2 l2_0 a2_1 a2_2 a2_3 a2_4 a2_5 ((rd_T140 t379 x21_2).f0) ((rd_T140 t379 x21_2).f1) = some r) ∧ Aside0 (kq ≤ k2) ∧ Aside0 (Kd.S (Kd.slice 3 (Kd.int .i64)) 22 w' w0.heap.size (fun k_ => (P0_ k_ ∨ w.heap.size ≤ k_)) (.slice Ao5 x0_2.length co5) x0_3) ∧ Aside0 (Kd.R k140 140 w' w0.heap.size (fun k_ => (P0_ k_ ∨ w.heap.size ≤ k_) ∧ k_ ≠ gb383) (.slice (some ad382) t379.length co10) t379) ∧ Aside0 (w'.heap[gb378]? = some (.cells #[(.slice A2_0 l2_0.length c2_0), .int .i64 a2_1, .int .i64 a2_2, .int .i64 a2_3, .int .i64 a2_4, .int .i64 a2_5] 41 (0, 0))) ∧ Aside0 (w'.heap[gb383]? = some (.cells #[.int .i64 ((rd_T140 t379 x21_2).f0), .int .i64 ((rd_T140 t379 x21_2).f1)] 140 (0, 0))) ∧ Aside0 (Kept w w' (fun k_ => P0_ k_)) ∧ Aside0 (Below w0.heap.size w0 w'))
         case atStart => exact ⟨(x0_2), ((rd_T140 t379 x21_2).f0), fS, H', ⟨Nat.le_refl _⟩, ⟨by (try simp only [hl0_1]); (try simp only [hl0_2]); (with_reducible repeat (first | apply Kd.S_alloc | apply Kd.S_drewN | apply Kd.S_drew)); exact Kd.S_mono (Kd.S_far (p := ⟨gb383, 1, none⟩) (Kd.S_far (p := ⟨gb383, 0, none⟩) (Kd.S_types HO_0.out BK383.out (by decide)) (fun _ hk => hk.2) (.int .i64 ((rd_T140 t379 x21_2).f0))) (fun _ hk => hk.2) (.int .i64 ((rd_T140 t379 x21_2).f1))) (fun _ hk => hk.1)⟩, ⟨by (try simp only [hl0_1]); (try simp only [hl0_2]); (with_reducible repeat (first | apply Kd.R_alloc | apply Kd.R_drewN | apply Kd.R_drew)); exact Kd.R_mono (Kd.R_far (p := ⟨gb383, 1, none⟩) (Kd.R_far (p := ⟨gb383, 0, none⟩) (Kd.R_mono HO_19.out (fun k_ hk => (⟨hk, hk.2⟩ : _ ∧ k_ ≠ gb383))) (fun _ hk => hk.2) (.int .i64 ((rd_T140 t379 x21_2).f0))) (fun _ hk => hk.2) (.int .i64 ((rd_T140 t379 x21_2).f1))) (fun _ hk => ⟨hk.1.1, hk.1.2⟩)⟩, ⟨by (try simp only [hl0_1]); (try simp only [hl0_2]); (with_reducible repeat (first | refine blk_drewN ?_ _ | refine blk_drew ?_ | refine blk_alloc ?_ _)); refine blk_far ?_ NB378_383.out _; (with_reducible repeat (first | refine blk_drewN ?_ _ | refine blk_drew ?_ | refine blk_alloc ?_ _)); refine blk_far ?_ NB378_383.out _; (with_reducible repeat (first | refine blk_drewN ?_ _ | refine blk_drew ?_ | refine blk_alloc ?_ _)); exact BK378.out⟩, ⟨by (try simp only [hl0_1]); (try simp only [hl0_2]); (with_reducible repeat (first | refine blk_drewN ?_ _ | refine blk_drew ?_ | refine blk_alloc ?_ _)); refine blk_put (cs := #[.int .i64 ((rd_T140 t379 x21_2).f0), .int .i64 0]) ?_ 1 _ rfl; (with_reducible repeat (first | refine blk_drewN ?_ _ | refine blk_drew ?_ | refine blk_alloc ?_ _)); refine blk_put (cs := #[.int .i64 0, .int .i64 0]) ?_ 0 _ rfl; (with_reducible repeat (first | refine blk_drewN ?_ _ | refine blk_drew ?_ | refine blk_alloc ?_ _)); exact BK383.out⟩, ⟨by repeat (first | (with_reducible first | exact HK.out | apply Kept.alloc | apply Kept.drewN | apply Kept.drew | refine Kept.setCell ?_ (.inr GW378.out) _ | refine Kept.setCell ?_ (.inr GW383.out) _) | exact HK.out)⟩, ⟨bS⟩⟩
         case round =>
          clear H'
          try clear c1
          try clear c2
          try clear p2
          try clear p3
          try clear q3
          try clear hx3
          try clear c4
          try clear c6
          try clear c6b0
          try clear p6
          try clear c10
          try clear c11
          try clear c11b0
          try clear c12
          try clear c12b0
          try clear c13
          try clear c13b0
          try clear c15
          try clear hcz16_0
          try clear hcz16_1
          try clear hcz8_0
          try clear hcz8_1
          try clear hcz8_2
          try clear hcz8_3
          try clear hcz8_4
          try clear hcz8_5
          try clear hfz16_0
          try clear hfz16_1
          try clear hfz8_0
          try clear hfz8_1
          try clear hfz8_2
          try clear hfz8_3
          try clear hfz8_4
          try clear hfz8_5
          try clear hx382_0
          try clear hx382_1
          try clear p2
          try clear p382
          try clear p6
          try clear q382
          obtain ⟨x0_3, x9_3, rfl, HA, HK3, HO_0, HO_19, BK378, BK383, HK, HB⟩ := hrel
          have hl0_3 := (Kd.S_reads' HO_0.out).1
          rw [hl0_3] at HO_0
          (try simp only [hl0_3])
          (try simp only [hl0_3] at BK378)
          (try simp only [hl0_3] at BK383)
          (try simp only [hl0_3] at HO_19)
          cases gk with
          | zero => exact absurd HA.out (by simp [impl_paint.l2])
          | succ k3 =>
           have H := HA.out
           clear HA
           simp only [impl_paint.l2] at H
           rcases iD H with ⟨c17b0, H⟩ | ⟨c17b0, H⟩
           ·obtain ⟨c18b0, H⟩ := iT H
            by_cases c19 : x12_1 < (x0_3.length : Int)
            ·rw [if_pos c19] at H
             have c19b0 : decide (x12_1 < (x0_3.length : Int)) = true := decide_eq_true c19
             (try (have c19b0_ := c19b0; simp only [hl0_1, hl0_2, hl0_3] at c19b0_))
             clear c19
             obtain ⟨c20b0, H⟩ := iT H
             by_cases c21 : x9_3 < ((rd_L3 x0_3 x12_1).length : Int)
             ·rw [if_pos c21] at H
              have c21b0 : decide (x9_3 < ((rd_L3 x0_3 x12_1).length : Int)) = true := decide_eq_true c21
              (try (have c21b0_ := c21b0; simp only [hl0_1, hl0_2, hl0_3] at c21b0_))
              clear c21
              obtain ⟨y385, hy385⟩ : ∃ y_ : List Int, y_ = ((rd_L3 x0_3 x12_1).set (x9_3 : Int).toNat a2_1) := ⟨_, rfl⟩
              replace H : (impl_paint.l2 k3 (x0_3.set (x12_1 : Int).toNat y385) a1 x12_1 (wrap64 (x9_3 + 1)) (l0.length : Int) x12_1 t379 (t379.length : Int) x21_2 l2_0 a2_1 a2_2 a2_3 a2_4 a2_5 ((rd_T140 t379 x21_2).f0) ((rd_T140 t379 x21_2).f1)) = some r := by first | (rw [hy385]; with_reducible exact H) | (have H2_ := (Option.bind_some _ _).symm.trans H; rw [hy385]; with_reducible exact H2_) | (have H2_ := (Option.bind_some _ _).symm.trans H; with_reducible exact H2_) | with_reducible exact H | (rw [hy385]; exact H) | exact H
              have Ny385 := Aside0.mk hy385
              clear hy385
              obtain ⟨y387, hy387⟩ : ∃ y_ : List (List Int), y_ = (x0_3.set (x12_1 : Int).toNat y385) := ⟨_, rfl⟩
              replace H : (impl_paint.l2 k3 y387 a1 x12_1 (wrap64 (x9_3 + 1)) (l0.length : Int) x12_1 t379 (t379.length : Int) x21_2 l2_0 a2_1 a2_2 a2_3 a2_4 a2_5 ((rd_T140 t379 x21_2).f0) ((rd_T140 t379 x21_2).f1)) = some r := by first | (rw [hy387]; with_reducible exact H) | (have H2_ := (Option.bind_some _ _).symm.trans H; rw [hy387]; with_reducible exact H2_) | (have H2_ := (Option.bind_some _ _).symm.trans H; with_reducible exact H2_) | with_reducible exact H | (rw [hy387]; exact H) | exact H
              have Ny387 := Aside0.mk hy387
              clear hy387
              have H' := Aside0.mk H
              clear H
              have hnb23 := NB383_378.out
              have hnc23 := NB378_383.out
              have hz24 := cz2 BK383
              try go_wp2
              replace HO_0 := Aside0.mk (Kd.S_drew HO_0.out)
              replace HO_19 := Aside0.mk (Kd.R_drew HO_19.out)
              replace BK378 := Aside0.mk (blk_drew BK378.out)
              replace BK383 := Aside0.mk (blk_drew BK383.out)
              replace HK := Aside0.mk (Kept.drew HK.out)
              replace HB := Aside0.mk (below_drew1 HB.out)
              have p384 : 0 ≤ (x12_1 : Int) := dA
              have q384 : x12_1 < (x0_3.length : Int) := dA
              obtain ⟨ad384, A384_0, c384_0, e384, hx384_0, hl384_0, hi384_0⟩ := at_L3 (Kd.S_reads' HO_0.out).2.2 x12_1 p384 q384
              cases e384
              obtain ⟨ce384, hce384, hMe384, hcc384⟩ := Kd.S_get HO_0.out [] x12_1 p384 (by first | exact q384 | exact dA | (have e_ := (Kd.S_reads' HO_0.out).1; omega))
              obtain ⟨ve384_0, rfl, ge384_0⟩ := hMe384
              have hv384_0 := hcc384 0 _ rfl
              rw [Nat.add_zero, show ((Kd.slice 3 (Kd.int .i64))).sz = 1 from rfl, Nat.mul_one] at hv384_0
              replace hv384_0 := Option.some.inj (hv384_0.symm.trans hx384_0)
              rw [hv384_0] at ge384_0
              have HL384_0 := Aside0.mk (show Kd.R (Kd.int .i64) 3 _ _ _ _ (rd_L3 x0_3 x12_1) from ge384_0)
              clear hv384_0 ge384_0
              have HX384_0 := Aside0.mk hx384_0
              clear hcc384 hce384
              have HR384_0 := Aside0.mk hi384_0
              have HC384_0 := Aside0.mk hl384_0
              clear hi384_0 hl384_0
              replace p384 := eq_true p384
              replace q384 := eq_true q384
              have p22 : 0 ≤ (x9_3 : Int) := dA
              have q22 : (x9_3 : Int) < (((rd_L3 x0_3 x12_1).length : Int) : Int) := dA
              obtain ⟨go22, co22, eo22, gb22, gl22, cl22, HG22⟩ := Kd.R_form HL384_0.out (by omega)
              (first | cases eo22 | (injection eo22 with ea_ en_ ec_; (first | subst ea_ | (injection ea_ with ea_; subst ea_)); subst ec_; clear en_))
              have GB22 := Aside0.mk gb22
              have GG22 := Aside0.mk HG22
              clear gb22 gl22 HG22
              have HMgo22 := Aside0.mk (show (P0_ go22 ∨ w.heap.size ≤ go22) from (HL384_0.out.1 _ rfl).1)
              obtain ⟨hx22_0, hf22_0⟩ := Kd.R_celln 0 HL384_0.out (x9_3 : Int) p22 q22
              replace p22 := eq_true p22
              replace q22 := eq_true q22
              have hq26 : (x12_1 : Int) < (x0_3.length : Int) := (by have h_ : (x12_1 : Int) < ((x0_3.length : Int) : Int) := dA; first | exact h_ | (have e_ := (Kd.S_reads' HO_0.out).1; omega) | simpa only [List.length_set, List.length_set] using h_)
              obtain ⟨oki26, ce26, hcl26, hM26, hcc26, hok26, hbk26⟩ := Kd.S_borrow HO_0.out [] (x12_1 : Int) (dA) hq26
              obtain ⟨ve26_0, rfl, ge26_0⟩ := hM26
              have hv26 := hcc26 0 _ rfl
              rw [Nat.add_zero, show ((Kd.slice 3 (Kd.int .i64))).sz = 1 from rfl, Nat.mul_one] at hv26
              replace hv26 := Option.some.inj (hv26.symm.trans HX384_0.out)
              subst hv26
              clear hcc26 hcl26
              replace ge26_0 := (show Kd.R (Kd.int .i64) 3 _ _ _ _ (rd_L3 x0_3 x12_1) from ge26_0)
              have HP26 := Kd.R_putg ge26_0 (x9_3 : Int) a2_1
              rw [← Ny385.out] at HP26
              have HS26 := hbk26 HP26.2 (fun k_ e_ => by injection e_ with e_; subst e_; exact ge26_0.1 _ rfl) (x' := y385) (Kd.M_row HP26.1)
              rw [← Ny387.out] at HS26
              have HQ26 := Aside0.mk HS26
              clear HP26 HS26 hbk26 hok26
              refine start_ (n := 9) (S := fun w' => w'.cell? ⟨gb378, 0, none⟩ = some (.slice A2_0 l2_0.length c2_0) ∧ w'.cell? ⟨gb378, 1, none⟩ = some (.int .i64 a2_1) ∧ w'.cell? ⟨gb378, 2, none⟩ = some (.int .i64 a2_2) ∧ w'.cell? ⟨gb378, 3, none⟩ = some (.int .i64 a2_3) ∧ w'.cell? ⟨gb378, 4, none⟩ = some (.int .i64 a2_4) ∧ w'.cell? ⟨gb378, 5, none⟩ = some (.int .i64 a2_5) ∧ w'.cell? (ad384.add (x12_1).toNat) = some (.slice (some ⟨go22, 0, none⟩) (rd_L3 x0_3 x12_1).length c384_0)) (ds := [8]) #[false, false, false, false, false, false, false, false, false] (by kernel_rfl) rfl rfl ⟨(blk_cell BK378.out 0).trans rfl, (blk_cell BK378.out 1).trans rfl, (blk_cell BK378.out 2).trans rfl, (blk_cell BK378.out 3).trans rfl, (blk_cell BK378.out 4).trans rfl, (blk_cell BK378.out 5).trans rfl, hx384_0⟩ (fun hHeld => ?_); refine with_tabW impl_paint.tab10 impl_paint.bits10 (fun HT_ HW_ => ?_)
              generalize wr.drew = w25 at HO_0 HO_19 BK378 BK383 HK HB GG22 HL384_0 HQ26 HR384_0 HX384_0 hf22_0 hx22_0 hx384_0 hHeld ⊢
              refine pU 0 (some 33) #[true, false, false, false, false, false, false, false, false] ?_
              refine pU 1 (some 34) #[true, true, false, false, false, false, false, false, false] ?_
              refine pU 2 (some 35) #[true, true, true, false, false, false, false, false, false] ?_
              refine pU 4 (some 37) #[true, true, true, false, true, false, false, false, false] ?_
              refine pU 5 (some 38) #[true, true, true, false, true, true, false, false, false] ?_
              refine tK 3 (some 36) #[true, true, true, true, true, true, false, false, false] ?_
              refine tK 6 (some 39) #[true, true, true, true, true, true, true, false, false] ?_
              refine pU 7 (some 40) #[true, true, true, true, true, true, true, true, false] ?_
              refine last_ (i := 8) (N := none) #[true, true, true, true, true, true, true, true, true] rfl rfl (one_of HT_.out (by kernel_rfl)) (by decide) (fun K hK => ?_)
              refine skip_ (w1 := ?_) (by rfl) rfl ?_ ?_
              rotate_left
              ·go_simp
               rfl
              refine hK.out _ _ ?_
              clear hK K
              refine done_ (done_of HT_.out (by kernel_rfl)) ?_
              try go_wp2
              (try simp only [← hl0_3])
              go_roundg k3
              case measure => have := HK1.out; have := HK2.out; have := HK3.out; omega
              case rel => exact ⟨(y387), (wrap64 (x9_3 + 1)), fS, H', ⟨by have := HK1.out; have := HK2.out; have := HK3.out; omega⟩, ⟨by (try simp only [hl0_1]); (try simp only [hl0_2]); (try simp only [hl0_3]); (with_reducible repeat (first | apply Kd.S_alloc | apply Kd.S_drewN | apply Kd.S_drew)); exact HQ26.out⟩, ⟨by (try simp only [hl0_1]); (try simp only [hl0_2]); (try simp only [hl0_3]); (with_reducible repeat (first | apply Kd.R_alloc | apply Kd.R_drewN | apply Kd.R_drew)); exact Kd.R_mono (Kd.R_far (p := ⟨go22, (x9_3 : Int).toNat, none⟩) (Kd.R_types HO_19.out GG22.out (by decide)) (fun _ hk => hk.2) (.int .i64 a2_1)) (fun _ hk => ⟨hk.1.1, hk.1.2⟩)⟩, ⟨by (try simp only [hl0_1]); (try simp only [hl0_2]); (try simp only [hl0_3]); (with_reducible repeat (first | refine blk_drewN ?_ _ | refine blk_drew ?_ | refine blk_alloc ?_ _)); refine blk_far ?_ (by have h_ := Kd.R_ne HL384_0.out BK378.out (by decide); intro e_; exact h_ (by rw [e_]; rfl)) _; (with_reducible repeat (first | refine blk_drewN ?_ _ | refine blk_drew ?_ | refine blk_alloc ?_ _)); exact BK378.out⟩, ⟨by (try simp only [hl0_1]); (try simp only [hl0_2]); (try simp only [hl0_3]); (with_reducible repeat (first | refine blk_drewN ?_ _ | refine blk_drew ?_ | refine blk_alloc ?_ _)); refine blk_far ?_ (by have h_ := Kd.R_ne HL384_0.out BK383.out (by decide); intro e_; exact h_ (by rw [e_]; rfl)) _; (with_reducible repeat (first | refine blk_drewN ?_ _ | refine blk_drew ?_ | refine blk_alloc ?_ _)); exact BK383.out⟩, ⟨by repeat (first | (with_reducible first | exact HK.out | apply Kept.alloc | apply Kept.drewN | apply Kept.drew | refine Kept.setCell ?_ HMgo22.out _ | refine Kept.setCell ?_ (.inr GW378.out) _ | refine Kept.setCell ?_ (.inr GW383.out) _) | exact HK.out)⟩, ⟨by repeat (first | (with_reducible first | exact HB.out | apply below_alloc | apply pw_below_drewN | apply below_drew1 | refine below_set ?_ GB22.out | refine below_set ?_ GE378.out | refine below_set ?_ GE383.out) | exact HB.out)⟩⟩
             ·rw [if_neg c21] at H
              exact absurd H (by simp)
            ·rw [if_neg c19] at H
             exact absurd H (by simp)
           ·have H' := Aside0.mk H
            clear H
            have hnb28 := NB383_378.out
            have hnc28 := NB378_383.out
            have hz29 := cz2 BK383
            go_wp2
            (try simp only [← hl0_2, ← hl0_3])
            go_roundg k3
            case measure => have := HK1.out; have := HK2.out; have := HK3.out; omega
            case rel => exact ⟨(x0_3), (wrap64 (x21_2 + 1)), fS, H', ⟨by have := HK1.out; have := HK2.out; have := HK3.out; omega⟩, ⟨by (try simp only [hl0_1]); (try simp only [hl0_2]); (try simp only [hl0_3]); (with_reducible repeat (first | apply Kd.S_alloc | apply Kd.S_drewN | apply Kd.S_drew)); exact HO_0.out⟩, ⟨by (try simp only [hl0_1]); (try simp only [hl0_2]); (try simp only [hl0_3]); (with_reducible repeat (first | apply Kd.R_alloc | apply Kd.R_drewN | apply Kd.R_drew)); exact Kd.R_mono HO_19.out (fun _ hk => hk.1)⟩, ⟨by (try simp only [hl0_1]); (try simp only [hl0_2]); (try simp only [hl0_3]); (with_reducible repeat (first | refine blk_drewN ?_ _ | refine blk_drew ?_ | refine blk_alloc ?_ _)); exact BK378.out⟩, ⟨by repeat (first | (with_reducible first | exact HK.out | apply Kept.alloc | apply Kept.drewN | apply Kept.drew | refine Kept.setCell ?_ (.inr GW378.out) _ | refine Kept.setCell ?_ (.inr GW383.out) _) | exact HK.out)⟩, ⟨bS⟩⟩
        ·rw [if_neg c13] at H
         exact absurd H (by simp)
       ·rw [if_neg c12] at H
        exact absurd H (by simp)
      ·rw [if_neg c11] at H
       have c11b0 : decide (x21_2 < (t379.length : Int)) = false := decide_eq_false c11
       (try (have c11b0_ := c11b0; simp only [hl0_1, hl0_2] at c11b0_))
       clear c11
       have H' := Aside0.mk H
       clear H
       go_wp2
       (try simp only [← hl0_1, ← hl0_2])
       go_roundg k2
       case measure => have := HK1.out; have := HK2.out; omega
       case rel => exact ⟨(x0_2), (wrap64 (x12_1 + 1)), fS, H', ⟨by have := HK1.out; have := HK2.out; omega⟩, ⟨by (try simp only [hl0_1]); (try simp only [hl0_2]); (with_reducible repeat (first | apply Kd.S_alloc | apply Kd.S_drewN | apply Kd.S_drew)); exact HO_0.out⟩, ⟨by (try simp only [hl0_1]); (try simp only [hl0_2]); (with_reducible repeat (first | refine blk_drewN ?_ _ | refine blk_drew ?_ | refine blk_alloc ?_ _)); exact BK378.out⟩, ⟨by repeat (first | (with_reducible first | exact HK.out | apply Kept.alloc | apply Kept.drewN | apply Kept.drew | refine Kept.setCell ?_ (.inr GW378.out) _) | exact HK.out)⟩, ⟨bS⟩⟩
   ·rw [if_neg c6] at H
    have c6b0 : decide (x12_1 < (l0.length : Int)) = false := decide_eq_false c6
    (try (have c6b0_ := c6b0; simp only [hl0_1] at c6b0_))
    clear c6
    obtain rfl := Option.some.inj H
    go_wp2
    first | go_end0 | ((try simp only [Exit.inBlock, Exit.then]); refine bodyPost_ret (results_none rfl _ _ _) rfl ?_)
    exact ⟨eS, (by first | exact (sS HO_0) | (simp only [hl0_1]; exact (sS HO_0))), bS, by repeat (first | (with_reducible first | exact HK.out | apply Kept.alloc | apply Kept.drewN | apply Kept.drew | refine Kept.setCell ?_ (.inr GW378.out) _) | exact HK.out)⟩

end Go.Proofs.Ytimpejidlnjhlaa.QFnTouches
