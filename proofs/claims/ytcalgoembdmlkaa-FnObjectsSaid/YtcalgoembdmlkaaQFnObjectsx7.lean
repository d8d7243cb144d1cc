-- Made out of the translation by a program of this session (a changed copy of the print). Not trusted: Lean checks it.
import Derived.Test.YtcalgoembdmlkaaQFnObjectsx0
import Derived.Test.YtcalgoembdmlkaaQFnObjectsx1
import Derived.Test.YtcalgoembdmlkaaQFnObjectsx4
import Derived.Test.YtcalgoembdmlkaaQFnObjectsx6
namespace Go.Proofs.Ytcalgoembdmlkaa.QFnObjects
open Go.RowKit Go.Proofs.YtcalgoembdmlkaaW.PrintWords Go.Proofs.YtcalgoembdmlkaaW.PrintLast Go.Proofs.YtcalgoembdmlkaaW.PrintMore
attribute [local go_sem] max2_int min2_int max_two min_two max_three min_three max_four min_four   -- for this text's walks alone
set_option linter.unusedVariables false
set_option linter.unusedSimpArgs false
set_option maxHeartbeats 8000000
set_option maxRecDepth 100000

/-! ### impl_SpansOk: function 139 -/
def impl_SpansOk.l0 : Nat → List (S128) → List (S128) → Int → Int → Option (Bool)
 | 0, _, _, _, _ => none
 | k + 1, x0, x8, x9, x10 => if x10 < x9 then (if 0 ≤ x10 then (if x10 < (x8.length : Int) then (if ((rd_T128 x8 x10).f0) ≥ ((rd_T128 x8 x10).f1) then (some false) else (if x10 > 0 then (if 0 ≤ (wrap64 (x10 - 1)) then (if (wrap64 (x10 - 1)) < (x0.length : Int) then (if ((rd_T128 x0 (wrap64 (x10 - 1))).f1) ≥ ((rd_T128 x8 x10).f0) then (some false) else (impl_SpansOk.l0 k x0 x8 x9 (wrap64 (x10 + 1)))) else (none)) else (none)) else (impl_SpansOk.l0 k x0 x8 x9 (wrap64 (x10 + 1))))) else (none)) else (none)) else (some true)
def impl_SpansOk.f (k : Nat) (l0 : List (S128)) : Option (Bool) := if (l0.length : Int) > 8 then (some false) else (impl_SpansOk.l0 k l0 l0 (l0.length : Int) 0)
theorem impl_SpansOk.calls (k : Nat) (A0 : Option Addr) (c0 : Nat) (l0 : List (S128)) (r : Bool) (w : World) (hr0 : Kd.C k128 w A0 l0.length l0) (hc0 : l0.length ≤ c0) (h : impl_SpansOk.f k l0 = some r) :
  Calls Try.prog 139 #[.slice A0 l0.length c0] w fun e w' => e = .returned (.bool r) ∧ Below w.heap.size w w' := by
 have hu128 := Try.underlying128
 have HR0 := Aside0.mk hr0
 have HC0 := Aside0.mk hc0
 clear hr0 hc0
 have HB := Aside0.mk (Below.refl w.heap.size w)
 have H : (if (l0.length : Int) > 8 then (some false) else (impl_SpansOk.l0 k l0 l0 (l0.length : Int) 0)) = some r := h
 clear h
 by_cases c2 : (l0.length : Int) > 8
 ·rw [if_pos c2] at H
  have c2b0 : decide (8 < (l0.length : Int)) = true := decide_eq_true c2
  have c2b1 : decide (8 < l0.length) = true := decide_eq_true (by omega)
  clear c2
  obtain rfl := Option.some.inj H
  simp only [Option.some.injEq, Prod.mk.injEq] at H
  obtain ⟨rfl⟩ := H
  go_enter Try.func139, Try.ntmps139
  go_wp2
  repeat (go_quiet (fail); try go_wp2)
  go_ret
  exact ⟨eS, bS⟩
 ·rw [if_neg c2] at H
  have c2b0 : decide (8 < (l0.length : Int)) = false := decide_eq_false c2
  have c2b1 : decide (8 < l0.length) = false := decide_eq_false (by omega)
  clear c2
  have H' := Aside0.mk H
  clear H
  go_enter Try.func139, Try.ntmps139
  go_wp2
  repeat (go_quiet (fail); try go_wp2)
  go_loopg [10] k (fun kq v10 w' => ∃ (x10_1 : Int), v10 = .int .i64 x10_1 ∧ Aside0 (impl_SpansOk.l0 kq l0 l0 (l0.length : Int) x10_1 = some r) ∧ Aside0 (kq ≤ k) ∧ Aside0 (Below w.heap.size w w'))
  case atStart => exact ⟨(0), (by first | rfl | (simp; done) | (simp [*]; done)), H', ⟨Nat.le_refl _⟩, ⟨bS⟩⟩
  case round =>
   clear H'
   try clear c1
   try clear c2
   try clear c2b0
   try clear c2b1
   try clear p2
   obtain ⟨x10_1, rfl, HA, HK1, HB⟩ := hrel
   cases gk with
   | zero => exact absurd HA.out (by simp [impl_SpansOk.l0])
   | succ k1 =>
    have H := HA.out
    clear HA
    simp only [impl_SpansOk.l0] at H
    by_cases c3 : x10_1 < (l0.length : Int)
    ·rw [if_pos c3] at H
     have c3b0 : decide (x10_1 < (l0.length : Int)) = true := decide_eq_true c3
     clear c3
     by_cases c4 : 0 ≤ x10_1
     ·rw [if_pos c4] at H
      have c4b0 : decide (0 ≤ x10_1) = true := decide_eq_true c4
      clear c4
      by_cases c5 : x10_1 < (l0.length : Int)
      ·rw [if_pos c5] at H
       have c5b0 : decide (x10_1 < (l0.length : Int)) = true := decide_eq_true c5
       clear c5
       by_cases c6 : ((rd_T128 l0 x10_1).f0) ≥ ((rd_T128 l0 x10_1).f1)
       ·rw [if_pos c6] at H
        have c6b0 : decide (((rd_T128 l0 x10_1).f1) ≤ ((rd_T128 l0 x10_1).f0)) = true := decide_eq_true c6
        clear c6
        obtain rfl := Option.some.inj H
        simp only [Option.some.injEq, Prod.mk.injEq] at H
        obtain ⟨rfl⟩ := H
        have p368 : 0 ≤ (x10_1 : Int) := of_decide_eq_true (by first | (with_reducible assumption) | assumption)
        have q368 : x10_1 < (l0.length : Int) := of_decide_eq_true (by first | (with_reducible assumption) | assumption)
        obtain ⟨ad368, e368, hx368_0, hx368_1⟩ := at_T128 HR0.out x10_1 p368 q368
        cases e368
        replace hx368_0 := (HB.out.cell (World.block_lt_of_cell? w _ hx368_0)).trans hx368_0
        replace hx368_1 := (HB.out.cell (World.block_lt_of_cell? w _ hx368_1)).trans hx368_1
        replace p368 := eq_true p368
        replace q368 := eq_true q368
        go_wp2_with (first | ((with_reducible refine gD 4 ?_); refine bxE #[.int .i64 0, .int .i64 0] 128 ?_; intro gb369 hg w7 BK369 hb; have GW369 := gE hg; have GE369 := gE hg; replace HB := hB hb; clear hb hg; have hz8 := cz2 BK369))
        repeat (go_quiet (first | ((with_reducible refine gD 4 ?_); refine bxE #[.int .i64 0, .int .i64 0] 128 ?_; intro gb369 hg w7 BK369 hb; have GW369 := gE hg; have GE369 := gE hg; replace HB := hB hb; clear hb hg; have hz8 := cz2 BK369)); try go_wp2_with (first | ((with_reducible refine gD 4 ?_); refine bxE #[.int .i64 0, .int .i64 0] 128 ?_; intro gb369 hg w7 BK369 hb; have GW369 := gE hg; have GE369 := gE hg; replace HB := hB hb; clear hb hg; have hz8 := cz2 BK369)))
        go_ret
        exact ⟨eS, bS⟩
       ·rw [if_neg c6] at H
        have c6b0 : decide (((rd_T128 l0 x10_1).f1) ≤ ((rd_T128 l0 x10_1).f0)) = false := decide_eq_false c6
        clear c6
        by_cases c9 : x10_1 > 0
        ·rw [if_pos c9] at H
         have c9b0 : decide (0 < x10_1) = true := decide_eq_true c9
         clear c9
         obtain ⟨ji10, hji10⟩ : ∃ j_ : Int, (wrap64 (x10_1 - 1)) = j_ := ⟨_, rfl⟩
         replace H : (if 0 ≤ (ji10) then (if (ji10) < (l0.length : Int) then (if ((rd_T128 l0 (ji10)).f1) ≥ ((rd_T128 l0 x10_1).f0) then (some false) else (impl_SpansOk.l0 k1 l0 l0 (l0.length : Int) (wrap64 (x10_1 + 1)))) else (none)) else (none)) = some r := by first | (rw [hji10] at H; exact H) | (simp only [hji10] at H ⊢; exact H)
         have hji10w : (IntKind.i64.wrap (x10_1 - 1)) = ji10 := (i64_w _).trans hji10
         by_cases c11 : 0 ≤ (ji10)
         ·rw [if_pos c11] at H
          have c11b0 : decide (0 ≤ (ji10)) = true := decide_eq_true c11
          clear c11
          by_cases c12 : (ji10) < (l0.length : Int)
          ·rw [if_pos c12] at H
           have c12b0 : decide ((ji10) < (l0.length : Int)) = true := decide_eq_true c12
           clear c12
           by_cases c13 : ((rd_T128 l0 (ji10)).f1) ≥ ((rd_T128 l0 x10_1).f0)
           ·rw [if_pos c13] at H
            have c13b0 : decide (((rd_T128 l0 x10_1).f0) ≤ ((rd_T128 l0 (ji10)).f1)) = true := decide_eq_true c13
            clear c13
            obtain rfl := Option.some.inj H
            simp only [Option.some.injEq, Prod.mk.injEq] at H
            obtain ⟨rfl⟩ := H
            have p368 : 0 ≤ (x10_1 : Int) := of_decide_eq_true (by first | (with_reducible assumption) | assumption)
            have q368 : x10_1 < (l0.length : Int) := of_decide_eq_true (by first | (with_reducible assumption) | assumption)
            obtain ⟨ad368, e368, hx368_0, hx368_1⟩ := at_T128 HR0.out x10_1 p368 q368
            cases e368
            replace hx368_0 := (HB.out.cell (World.block_lt_of_cell? w _ hx368_0)).trans hx368_0
            replace hx368_1 := (HB.out.cell (World.block_lt_of_cell? w _ hx368_1)).trans hx368_1
            replace p368 := eq_true p368
            replace q368 := eq_true q368
            go_wp2_with (first | ((with_reducible refine gD 4 ?_); refine bxE #[.int .i64 0, .int .i64 0] 128 ?_; intro gb369 hg w14 BK369 hb; have GW369 := gE hg; have GE369 := gE hg; replace HB := hB hb; clear hb hg; have hz15 := cz2 BK369; have p370 : 0 ≤ ((ji10) : Int) := of_decide_eq_true (by first | (with_reducible assumption) | assumption); have q370 : (ji10) < (l0.length : Int) := of_decide_eq_true (by first | (with_reducible assumption) | assumption); obtain ⟨ad370, e370, hx370_0, hx370_1⟩ := at_T128 HR0.out (ji10) p370 q370; obtain rfl : ad368 = ad370 := (by injection e370); have hn370_0 : ad368.block ≠ gb369 := nA hx370_0 GW369; have hn370_1 : ad368.block ≠ gb369 := nA hx370_0 GW369; replace hx370_0 := (HB.out.cell (World.block_lt_of_cell? w _ hx370_0)).trans hx370_0; replace hx370_1 := (HB.out.cell (World.block_lt_of_cell? w _ hx370_1)).trans hx370_1; replace hx370_0 := (cell_far (p := ⟨gb369, 0, none⟩) (by first | (rw [add_block]; exact hn370_0) | (show (Addr.add _ _).block ≠ _; rw [add_block]; exact hn370_0) | exact hn370_0) (.int .i64 ((rd_T128 l0 x10_1).f0))).trans hx370_0; replace hx370_1 := (cell_far (p := ⟨gb369, 0, none⟩) (by first | (rw [add_block]; exact hn370_0) | (show (Addr.add _ _).block ≠ _; rw [add_block]; exact hn370_0) | exact hn370_0) (.int .i64 ((rd_T128 l0 x10_1).f0))).trans hx370_1; replace hx370_0 := (cell_far (p := ⟨gb369, 1, none⟩) (by first | (rw [add_block]; exact hn370_1) | (show (Addr.add _ _).block ≠ _; rw [add_block]; exact hn370_1) | exact hn370_1) (.int .i64 ((rd_T128 l0 x10_1).f1))).trans hx370_0; replace hx370_1 := (cell_far (p := ⟨gb369, 1, none⟩) (by first | (rw [add_block]; exact hn370_1) | (show (Addr.add _ _).block ≠ _; rw [add_block]; exact hn370_1) | exact hn370_1) (.int .i64 ((rd_T128 l0 x10_1).f1))).trans hx370_1; (try have hy370_0 := fun (n_ : Nat) => (show ((((w14.drewN n_).setCell ⟨gb369, 0, none⟩ (.int .i64 ((rd_T128 l0 x10_1).f0))).setCell ⟨gb369, 1, none⟩ (.int .i64 ((rd_T128 l0 x10_1).f1)))).cell? _ = some _ from hx370_0)); (try have hy370_1 := fun (n_ : Nat) => (show ((((w14.drewN n_).setCell ⟨gb369, 0, none⟩ (.int .i64 ((rd_T128 l0 x10_1).f0))).setCell ⟨gb369, 1, none⟩ (.int .i64 ((rd_T128 l0 x10_1).f1)))).cell? _ = some _ from hx370_1)); clear hn370_0; clear hn370_1; replace p370 := eq_true p370; replace q370 := eq_true q370))
            repeat (go_quiet (first | ((with_reducible refine gD 4 ?_); refine bxE #[.int .i64 0, .int .i64 0] 128 ?_; intro gb369 hg w14 BK369 hb; have GW369 := gE hg; have GE369 := gE hg; replace HB := hB hb; clear hb hg; have hz15 := cz2 BK369; have p370 : 0 ≤ ((ji10) : Int) := of_decide_eq_true (by first | (with_reducible assumption) | assumption); have q370 : (ji10) < (l0.length : Int) := of_decide_eq_true (by first | (with_reducible assumption) | assumption); obtain ⟨ad370, e370, hx370_0, hx370_1⟩ := at_T128 HR0.out (ji10) p370 q370; obtain rfl : ad368 = ad370 := (by injection e370); have hn370_0 : ad368.block ≠ gb369 := nA hx370_0 GW369; have hn370_1 : ad368.block ≠ gb369 := nA hx370_0 GW369; replace hx370_0 := (HB.out.cell (World.block_lt_of_cell? w _ hx370_0)).trans hx370_0; replace hx370_1 := (HB.out.cell (World.block_lt_of_cell? w _ hx370_1)).trans hx370_1; replace hx370_0 := (cell_far (p := ⟨gb369, 0, none⟩) (by first | (rw [add_block]; exact hn370_0) | (show (Addr.add _ _).block ≠ _; rw [add_block]; exact hn370_0) | exact hn370_0) (.int .i64 ((rd_T128 l0 x10_1).f0))).trans hx370_0; replace hx370_1 := (cell_far (p := ⟨gb369, 0, none⟩) (by first | (rw [add_block]; exact hn370_0) | (show (Addr.add _ _).block ≠ _; rw [add_block]; exact hn370_0) | exact hn370_0) (.int .i64 ((rd_T128 l0 x10_1).f0))).trans hx370_1; replace hx370_0 := (cell_far (p := ⟨gb369, 1, none⟩) (by first | (rw [add_block]; exact hn370_1) | (show (Addr.add _ _).block ≠ _; rw [add_block]; exact hn370_1) | exact hn370_1) (.int .i64 ((rd_T128 l0 x10_1).f1))).trans hx370_0; replace hx370_1 := (cell_far (p := ⟨gb369, 1, none⟩) (by first | (rw [add_block]; exact hn370_1) | (show (Addr.add _ _).block ≠ _; rw [add_block]; exact hn370_1) | exact hn370_1) (.int .i64 ((rd_T128 l0 x10_1).f1))).trans hx370_1; (try have hy370_0 := fun (n_ : Nat) => (show ((((w14.drewN n_).setCell ⟨gb369, 0, none⟩ (.int .i64 ((rd_T128 l0 x10_1).f0))).setCell ⟨gb369, 1, none⟩ (.int .i64 ((rd_T128 l0 x10_1).f1)))).cell? _ = some _ from hx370_0)); (try have hy370_1 := fun (n_ : Nat) => (show ((((w14.drewN n_).setCell ⟨gb369, 0, none⟩ (.int .i64 ((rd_T128 l0 x10_1).f0))).setCell ⟨gb369, 1, none⟩ (.int .i64 ((rd_T128 l0 x10_1).f1)))).cell? _ = some _ from hx370_1)); clear hn370_0; clear hn370_1; replace p370 := eq_true p370; replace q370 := eq_true q370)); try go_wp2_with (first | ((with_reducible refine gD 4 ?_); refine bxE #[.int .i64 0, .int .i64 0] 128 ?_; intro gb369 hg w14 BK369 hb; have GW369 := gE hg; have GE369 := gE hg; replace HB := hB hb; clear hb hg; have hz15 := cz2 BK369; have p370 : 0 ≤ ((ji10) : Int) := of_decide_eq_true (by first | (with_reducible assumption) | assumption); have q370 : (ji10) < (l0.length : Int) := of_decide_eq_true (by first | (with_reducible assumption) | assumption); obtain ⟨ad370, e370, hx370_0, hx370_1⟩ := at_T128 HR0.out (ji10) p370 q370; obtain rfl : ad368 = ad370 := (by injection e370); have hn370_0 : ad368.block ≠ gb369 := nA hx370_0 GW369; have hn370_1 : ad368.block ≠ gb369 := nA hx370_0 GW369; replace hx370_0 := (HB.out.cell (World.block_lt_of_cell? w _ hx370_0)).trans hx370_0; replace hx370_1 := (HB.out.cell (World.block_lt_of_cell? w _ hx370_1)).trans hx370_1; replace hx370_0 := (cell_far (p := ⟨gb369, 0, none⟩) (by first | (rw [add_block]; exact hn370_0) | (show (Addr.add _ _).block ≠ _; rw [add_block]; exact hn370_0) | exact hn370_0) (.int .i64 ((rd_T128 l0 x10_1).f0))).trans hx370_0; replace hx370_1 := (cell_far (p := ⟨gb369, 0, none⟩) (by first | (rw [add_block]; exact hn370_0) | (show (Addr.add _ _).block ≠ _; rw [add_block]; exact hn370_0) | exact hn370_0) (.int .i64 ((rd_T128 l0 x10_1).f0))).trans hx370_1; replace hx370_0 := (cell_far (p := ⟨gb369, 1, none⟩) (by first | (rw [add_block]; exact hn370_1) | (show (Addr.add _ _).block ≠ _; rw [add_block]; exact hn370_1) | exact hn370_1) (.int .i64 ((rd_T128 l0 x10_1).f1))).trans hx370_0; replace hx370_1 := (cell_far (p := ⟨gb369, 1, none⟩) (by first | (rw [add_block]; exact hn370_1) | (show (Addr.add _ _).block ≠ _; rw [add_block]; exact hn370_1) | exact hn370_1) (.int .i64 ((rd_T128 l0 x10_1).f1))).trans hx370_1; (try have hy370_0 := fun (n_ : Nat) => (show ((((w14.drewN n_).setCell ⟨gb369, 0, none⟩ (.int .i64 ((rd_T128 l0 x10_1).f0))).setCell ⟨gb369, 1, none⟩ (.int .i64 ((rd_T128 l0 x10_1).f1)))).cell? _ = some _ from hx370_0)); (try have hy370_1 := fun (n_ : Nat) => (show ((((w14.drewN n_).setCell ⟨gb369, 0, none⟩ (.int .i64 ((rd_T128 l0 x10_1).f0))).setCell ⟨gb369, 1, none⟩ (.int .i64 ((rd_T128 l0 x10_1).f1)))).cell? _ = some _ from hx370_1)); clear hn370_0; clear hn370_1; replace p370 := eq_true p370; replace q370 := eq_true q370)))
            go_ret
            exact ⟨by first | rfl | (simp [errW_none, errW_some] <;> rfl) | (simp only [← hji10]; first | rfl | (simp [errW_none, errW_some] <;> rfl)) | (simp [*, errW_none, errW_some] <;> rfl), bS⟩
           ·rw [if_neg c13] at H
            have c13b0 : decide (((rd_T128 l0 x10_1).f0) ≤ ((rd_T128 l0 (ji10)).f1)) = false := decide_eq_false c13
            clear c13
            have H' := Aside0.mk H
            clear H
            have p368 : 0 ≤ (x10_1 : Int) := of_decide_eq_true (by first | (with_reducible assumption) | assumption)
            have q368 : x10_1 < (l0.length : Int) := of_decide_eq_true (by first | (with_reducible assumption) | assumption)
            obtain ⟨ad368, e368, hx368_0, hx368_1⟩ := at_T128 HR0.out x10_1 p368 q368
            cases e368
            replace hx368_0 := (HB.out.cell (World.block_lt_of_cell? w _ hx368_0)).trans hx368_0
            replace hx368_1 := (HB.out.cell (World.block_lt_of_cell? w _ hx368_1)).trans hx368_1
            replace p368 := eq_true p368
            replace q368 := eq_true q368
            go_wp2_with (first | ((with_reducible refine gD 4 ?_); refine bxE #[.int .i64 0, .int .i64 0] 128 ?_; intro gb369 hg w16 BK369 hb; have GW369 := gE hg; have GE369 := gE hg; replace HB := hB hb; clear hb hg; have hz17 := cz2 BK369; have p370 : 0 ≤ ((ji10) : Int) := of_decide_eq_true (by first | (with_reducible assumption) | assumption); have q370 : (ji10) < (l0.length : Int) := of_decide_eq_true (by first | (with_reducible assumption) | assumption); obtain ⟨ad370, e370, hx370_0, hx370_1⟩ := at_T128 HR0.out (ji10) p370 q370; obtain rfl : ad368 = ad370 := (by injection e370); have hn370_0 : ad368.block ≠ gb369 := nA hx370_0 GW369; have hn370_1 : ad368.block ≠ gb369 := nA hx370_0 GW369; replace hx370_0 := (HB.out.cell (World.block_lt_of_cell? w _ hx370_0)).trans hx370_0; replace hx370_1 := (HB.out.cell (World.block_lt_of_cell? w _ hx370_1)).trans hx370_1; replace hx370_0 := (cell_far (p := ⟨gb369, 0, none⟩) (by first | (rw [add_block]; exact hn370_0) | (show (Addr.add _ _).block ≠ _; rw [add_block]; exact hn370_0) | exact hn370_0) (.int .i64 ((rd_T128 l0 x10_1).f0))).trans hx370_0; replace hx370_1 := (cell_far (p := ⟨gb369, 0, none⟩) (by first | (rw [add_block]; exact hn370_0) | (show (Addr.add _ _).block ≠ _; rw [add_block]; exact hn370_0) | exact hn370_0) (.int .i64 ((rd_T128 l0 x10_1).f0))).trans hx370_1; replace hx370_0 := (cell_far (p := ⟨gb369, 1, none⟩) (by first | (rw [add_block]; exact hn370_1) | (show (Addr.add _ _).block ≠ _; rw [add_block]; exact hn370_1) | exact hn370_1) (.int .i64 ((rd_T128 l0 x10_1).f1))).trans hx370_0; replace hx370_1 := (cell_far (p := ⟨gb369, 1, none⟩) (by first | (rw [add_block]; exact hn370_1) | (show (Addr.add _ _).block ≠ _; rw [add_block]; exact hn370_1) | exact hn370_1) (.int .i64 ((rd_T128 l0 x10_1).f1))).trans hx370_1; (try have hy370_0 := fun (n_ : Nat) => (show ((((w16.drewN n_).setCell ⟨gb369, 0, none⟩ (.int .i64 ((rd_T128 l0 x10_1).f0))).setCell ⟨gb369, 1, none⟩ (.int .i64 ((rd_T128 l0 x10_1).f1)))).cell? _ = some _ from hx370_0)); (try have hy370_1 := fun (n_ : Nat) => (show ((((w16.drewN n_).setCell ⟨gb369, 0, none⟩ (.int .i64 ((rd_T128 l0 x10_1).f0))).setCell ⟨gb369, 1, none⟩ (.int .i64 ((rd_T128 l0 x10_1).f1)))).cell? _ = some _ from hx370_1)); clear hn370_0; clear hn370_1; replace p370 := eq_true p370; replace q370 := eq_true q370))
            repeat (go_quiet (first | ((with_reducible refine gD 4 ?_); refine bxE #[.int .i64 0, .int .i64 0] 128 ?_; intro gb369 hg w16 BK369 hb; have GW369 := gE hg; have GE369 := gE hg; replace HB := hB hb; clear hb hg; have hz17 := cz2 BK369; have p370 : 0 ≤ ((ji10) : Int) := of_decide_eq_true (by first | (with_reducible assumption) | assumption); have q370 : (ji10) < (l0.length : Int) := of_decide_eq_true (by first | (with_reducible assumption) | assumption); obtain ⟨ad370, e370, hx370_0, hx370_1⟩ := at_T128 HR0.out (ji10) p370 q370; obtain rfl : ad368 = ad370 := (by injection e370); have hn370_0 : ad368.block ≠ gb369 := nA hx370_0 GW369; have hn370_1 : ad368.block ≠ gb369 := nA hx370_0 GW369; replace hx370_0 := (HB.out.cell (World.block_lt_of_cell? w _ hx370_0)).trans hx370_0; replace hx370_1 := (HB.out.cell (World.block_lt_of_cell? w _ hx370_1)).trans hx370_1; replace hx370_0 := (cell_far (p := ⟨gb369, 0, none⟩) (by first | (rw [add_block]; exact hn370_0) | (show (Addr.add _ _).block ≠ _; rw [add_block]; exact hn370_0) | exact hn370_0) (.int .i64 ((rd_T128 l0 x10_1).f0))).trans hx370_0; replace hx370_1 := (cell_far (p := ⟨gb369, 0, none⟩) (by first | (rw [add_block]; exact hn370_0) | (show (Addr.add _ _).block ≠ _; rw [add_block]; exact hn370_0) | exact hn370_0) (.int .i64 ((rd_T128 l0 x10_1).f0))).trans hx370_1; replace hx370_0 := (cell_far (p := ⟨gb369, 1, none⟩) (by first | (rw [add_block]; exact hn370_1) | (show (Addr.add _ _).block ≠ _; rw [add_block]; exact hn370_1) | exact hn370_1) (.int .i64 ((rd_T128 l0 x10_1).f1))).trans hx370_0; replace hx370_1 := (cell_far (p := ⟨gb369, 1, none⟩) (by first | (rw [add_block]; exact hn370_1) | (show (Addr.add _ _).block ≠ _; rw [add_block]; exact hn370_1) | exact hn370_1) (.int .i64 ((rd_T128 l0 x10_1).f1))).trans hx370_1; (try have hy370_0 := fun (n_ : Nat) => (show ((((w16.drewN n_).setCell ⟨gb369, 0, none⟩ (.int .i64 ((rd_T128 l0 x10_1).f0))).setCell ⟨gb369, 1, none⟩ (.int .i64 ((rd_T128 l0 x10_1).f1)))).cell? _ = some _ from hx370_0)); (try have hy370_1 := fun (n_ : Nat) => (show ((((w16.drewN n_).setCell ⟨gb369, 0, none⟩ (.int .i64 ((rd_T128 l0 x10_1).f0))).setCell ⟨gb369, 1, none⟩ (.int .i64 ((rd_T128 l0 x10_1).f1)))).cell? _ = some _ from hx370_1)); clear hn370_0; clear hn370_1; replace p370 := eq_true p370; replace q370 := eq_true q370)); try go_wp2_with (first | ((with_reducible refine gD 4 ?_); refine bxE #[.int .i64 0, .int .i64 0] 128 ?_; intro gb369 hg w16 BK369 hb; have GW369 := gE hg; have GE369 := gE hg; replace HB := hB hb; clear hb hg; have hz17 := cz2 BK369; have p370 : 0 ≤ ((ji10) : Int) := of_decide_eq_true (by first | (with_reducible assumption) | assumption); have q370 : (ji10) < (l0.length : Int) := of_decide_eq_true (by first | (with_reducible assumption) | assumption); obtain ⟨ad370, e370, hx370_0, hx370_1⟩ := at_T128 HR0.out (ji10) p370 q370; obtain rfl : ad368 = ad370 := (by injection e370); have hn370_0 : ad368.block ≠ gb369 := nA hx370_0 GW369; have hn370_1 : ad368.block ≠ gb369 := nA hx370_0 GW369; replace hx370_0 := (HB.out.cell (World.block_lt_of_cell? w _ hx370_0)).trans hx370_0; replace hx370_1 := (HB.out.cell (World.block_lt_of_cell? w _ hx370_1)).trans hx370_1; replace hx370_0 := (cell_far (p := ⟨gb369, 0, none⟩) (by first | (rw [add_block]; exact hn370_0) | (show (Addr.add _ _).block ≠ _; rw [add_block]; exact hn370_0) | exact hn370_0) (.int .i64 ((rd_T128 l0 x10_1).f0))).trans hx370_0; replace hx370_1 := (cell_far (p := ⟨gb369, 0, none⟩) (by first | (rw [add_block]; exact hn370_0) | (show (Addr.add _ _).block ≠ _; rw [add_block]; exact hn370_0) | exact hn370_0) (.int .i64 ((rd_T128 l0 x10_1).f0))).trans hx370_1; replace hx370_0 := (cell_far (p := ⟨gb369, 1, none⟩) (by first | (rw [add_block]; exact hn370_1) | (show (Addr.add _ _).block ≠ _; rw [add_block]; exact hn370_1) | exact hn370_1) (.int .i64 ((rd_T128 l0 x10_1).f1))).trans hx370_0; replace hx370_1 := (cell_far (p := ⟨gb369, 1, none⟩) (by first | (rw [add_block]; exact hn370_1) | (show (Addr.add _ _).block ≠ _; rw [add_block]; exact hn370_1) | exact hn370_1) (.int .i64 ((rd_T128 l0 x10_1).f1))).trans hx370_1; (try have hy370_0 := fun (n_ : Nat) => (show ((((w16.drewN n_).setCell ⟨gb369, 0, none⟩ (.int .i64 ((rd_T128 l0 x10_1).f0))).setCell ⟨gb369, 1, none⟩ (.int .i64 ((rd_T128 l0 x10_1).f1)))).cell? _ = some _ from hx370_0)); (try have hy370_1 := fun (n_ : Nat) => (show ((((w16.drewN n_).setCell ⟨gb369, 0, none⟩ (.int .i64 ((rd_T128 l0 x10_1).f0))).setCell ⟨gb369, 1, none⟩ (.int .i64 ((rd_T128 l0 x10_1).f1)))).cell? _ = some _ from hx370_1)); clear hn370_0; clear hn370_1; replace p370 := eq_true p370; replace q370 := eq_true q370)))
            go_roundg k1
            case measure => have := HK1.out; omega
            case rel => exact ⟨(wrap64 (x10_1 + 1)), (by first | rfl | (simp; done) | (simp [*]; done)), H', ⟨by have := HK1.out; omega⟩, ⟨bS⟩⟩
          ·rw [if_neg c12] at H
           exact absurd H (by simp)
         ·rw [if_neg c11] at H
          exact absurd H (by simp)
        ·rw [if_neg c9] at H
         have c9b0 : decide (0 < x10_1) = false := decide_eq_false c9
         clear c9
         have H' := Aside0.mk H
         clear H
         have p368 : 0 ≤ (x10_1 : Int) := of_decide_eq_true (by first | (with_reducible assumption) | assumption)
         have q368 : x10_1 < (l0.length : Int) := of_decide_eq_true (by first | (with_reducible assumption) | assumption)
         obtain ⟨ad368, e368, hx368_0, hx368_1⟩ := at_T128 HR0.out x10_1 p368 q368
         cases e368
         replace hx368_0 := (HB.out.cell (World.block_lt_of_cell? w _ hx368_0)).trans hx368_0
         replace hx368_1 := (HB.out.cell (World.block_lt_of_cell? w _ hx368_1)).trans hx368_1
         replace p368 := eq_true p368
         replace q368 := eq_true q368
         go_wp2_with (first | ((with_reducible refine gD 4 ?_); refine bxE #[.int .i64 0, .int .i64 0] 128 ?_; intro gb369 hg w18 BK369 hb; have GW369 := gE hg; have GE369 := gE hg; replace HB := hB hb; clear hb hg; have hz19 := cz2 BK369))
         repeat (go_quiet (first | ((with_reducible refine gD 4 ?_); refine bxE #[.int .i64 0, .int .i64 0] 128 ?_; intro gb369 hg w18 BK369 hb; have GW369 := gE hg; have GE369 := gE hg; replace HB := hB hb; clear hb hg; have hz19 := cz2 BK369)); try go_wp2_with (first | ((with_reducible refine gD 4 ?_); refine bxE #[.int .i64 0, .int .i64 0] 128 ?_; intro gb369 hg w18 BK369 hb; have GW369 := gE hg; have GE369 := gE hg; replace HB := hB hb; clear hb hg; have hz19 := cz2 BK369)))
         go_roundg k1
         case measure => have := HK1.out; omega
         case rel => exact ⟨(wrap64 (x10_1 + 1)), (by first | rfl | (simp; done) | (simp [*]; done)), H', ⟨by have := HK1.out; omega⟩, ⟨bS⟩⟩
      ·rw [if_neg c5] at H
       exact absurd H (by simp)
     ·rw [if_neg c4] at H
      exact absurd H (by simp)
    ·rw [if_neg c3] at H
     have c3b0 : decide (x10_1 < (l0.length : Int)) = false := decide_eq_false c3
     clear c3
     obtain rfl := Option.some.inj H
     simp only [Option.some.injEq, Prod.mk.injEq] at H
     obtain ⟨rfl⟩ := H
     go_wp2
     repeat (go_quiet (fail); try go_wp2)
     go_ret
     exact ⟨eS, bS⟩

/-! ### impl_MeetSpans: function 138 -/
def impl_MeetSpans.l0 : Nat → Int → Int → List (S128) → List (S128) → Int → Int → Option ((List (S128)))
 | 0, _, _, _, _, _, _ => none
 | k + 1, x1, x2, x7, x14, x15, x16 => if x16 < x15 then (if 0 ≤ x16 then (if x16 < (x14.length : Int) then (if (mx ((rd_T128 x14 x16).f0) x1) < (mn ((rd_T128 x14 x16).f1) x2) then (if x7.length < 8796093022208 then (impl_MeetSpans.l0 k x1 x2 (x7 ++ [(⟨mx ((rd_T128 x14 x16).f0) x1, mn ((rd_T128 x14 x16).f1) x2⟩ : S128)]) x14 x15 (wrap64 (x16 + 1))) else (none)) else (impl_MeetSpans.l0 k x1 x2 x7 x14 x15 (wrap64 (x16 + 1)))) else (none)) else (none)) else (some x7)
def impl_MeetSpans.f (k : Nat) (l0 : List (S128)) (a1 : Int) (a2 : Int) : Option ((List (S128))) := (impl_SpansOk.f k l0).bind fun t371 => (if t371 = true then (impl_MeetSpans.l0 k a1 a2 ([] : List (S128)) l0 (l0.length : Int) 0) else (some ([] : List (S128))))
theorem impl_MeetSpans.calls (k : Nat) (A0 : Option Addr) (c0 : Nat) (l0 : List (S128)) (a1 : Int) (a2 : Int) (r : List (S128)) (w : World) (hr0 : Kd.C k128 w A0 l0.length l0) (hc0 : l0.length ≤ c0) (h : impl_MeetSpans.f k l0 a1 a2 = some r) :
  Calls Try.prog 138 #[.slice A0 l0.length c0, .int .i64 a1, .int .i64 a2] w fun e w' => ∃ v0_ : Value, e = .returned (v0_) ∧ Kd.R k128 128 w' w.heap.size (fun _ => True) v0_ r ∧ Below w.heap.size w w' := by
 have hu128 := Try.underlying128
 have HR0 := Aside0.mk hr0
 have HC0 := Aside0.mk hc0
 clear hr0 hc0
 have HB := Aside0.mk (Below.refl w.heap.size w)
 have H : ((impl_SpansOk.f k l0).bind fun t371 => (if t371 = true then (impl_MeetSpans.l0 k a1 a2 ([] : List (S128)) l0 (l0.length : Int) 0) else (some ([] : List (S128))))) = some r := h
 clear h
 replace H := bN H
 obtain ⟨t371, A4, H⟩ := H
 by_cases c5 : t371 = true
 ·subst c5
  rw [if_pos rfl] at H
  have H' := Aside0.mk H
  clear H
  go_enter Try.func138, Try.ntmps138
  go_wp2_with (first | ((with_reducible refine gC 139 ?_); refine cL (some 12) Try.func139 #[.slice A0 l0.length c0] ?_; (with_reducible refine (impl_SpansOk.calls k _ _ l0 _ _ ?side1 ?side2 A4.out).mono ?_); (case side1 => repeat (first | exact HR0.out | (with_reducible refine Kd.C_alloc ?_ _) | (with_reducible refine Kd.C_drewN ?_ _) | (with_reducible refine Kd.C_drew ?_))); (case side2 => exact HC0.out); rintro e w6 ⟨rfl, hb⟩; refine ⟨_, rfl, ?_⟩; replace HB := hB hb; (try clear hb); (try clear hb2); (try clear hk); (try clear hi)))
  go_loopg [7, 16] k (fun kq v7 v16 w' => ∃ (x7_1 : List (S128)) (x16_1 : Int), v16 = .int .i64 x16_1 ∧ Aside0 (impl_MeetSpans.l0 kq a1 a2 x7_1 l0 (l0.length : Int) x16_1 = some r) ∧ Aside0 (kq ≤ k) ∧ Aside0 (Kd.R k128 128 w' w.heap.size (fun _ => True) v7 x7_1) ∧ Aside0 (Below w.heap.size w w'))
  case atStart => exact ⟨(([] : List (S128))), (0), (by first | rfl | (simp; done) | (simp [*]; done)), H', ⟨Nat.le_refl _⟩, ⟨by first | exact Kd.R_nil _ _ _ _ _ | exact Kd.N_nil _ _ _ _ _ | exact Kd.V_nil _ _ _ _ _ | exact Kd.Q_nil _ _ _ _ _ | exact Kd.S_nil _ _ _ _ _⟩, ⟨bS⟩⟩
  case round =>
   clear H'
   try clear c1
   try clear p2
   try clear c5
   obtain ⟨x7_1, x16_1, rfl, HA, HK1, HO_7, HB⟩ := hrel
   cases gk with
   | zero => exact absurd HA.out (by simp [impl_MeetSpans.l0])
   | succ k1 =>
    have H := HA.out
    clear HA
    simp only [impl_MeetSpans.l0] at H
    by_cases c7 : x16_1 < (l0.length : Int)
    ·rw [if_pos c7] at H
     have c7b0 : decide (x16_1 < (l0.length : Int)) = true := decide_eq_true c7
     clear c7
     by_cases c8 : 0 ≤ x16_1
     ·rw [if_pos c8] at H
      have c8b0 : decide (0 ≤ x16_1) = true := decide_eq_true c8
      clear c8
      by_cases c9 : x16_1 < (l0.length : Int)
      ·rw [if_pos c9] at H
       have c9b0 : decide (x16_1 < (l0.length : Int)) = true := decide_eq_true c9
       clear c9
       obtain ⟨ji10, hji10⟩ : ∃ j_ : Int, (mx ((rd_T128 l0 x16_1).f0) a1) = j_ := ⟨_, rfl⟩
       replace H : (if (ji10) < (mn ((rd_T128 l0 x16_1).f1) a2) then (if x7_1.length < 8796093022208 then (impl_MeetSpans.l0 k1 a1 a2 (x7_1 ++ [(⟨ji10, mn ((rd_T128 l0 x16_1).f1) a2⟩ : S128)]) l0 (l0.length : Int) (wrap64 (x16_1 + 1))) else (none)) else (impl_MeetSpans.l0 k1 a1 a2 x7_1 l0 (l0.length : Int) (wrap64 (x16_1 + 1)))) = some r := by first | (rw [hji10] at H; exact H) | (simp only [hji10] at H ⊢; exact H)
       have hji10_ : (if ((rd_T128 l0 x16_1).f0) < a1 then a1 else ((rd_T128 l0 x16_1).f0)) = ji10 := hji10
       obtain ⟨ji11, hji11⟩ : ∃ j_ : Int, (mn ((rd_T128 l0 x16_1).f1) a2) = j_ := ⟨_, rfl⟩
       replace H : (if (ji10) < (ji11) then (if x7_1.length < 8796093022208 then (impl_MeetSpans.l0 k1 a1 a2 (x7_1 ++ [(⟨ji10, ji11⟩ : S128)]) l0 (l0.length : Int) (wrap64 (x16_1 + 1))) else (none)) else (impl_MeetSpans.l0 k1 a1 a2 x7_1 l0 (l0.length : Int) (wrap64 (x16_1 + 1)))) = some r := by first | (rw [hji11] at H; exact H) | (simp only [hji11] at H ⊢; exact H)
       have hji11_ : (if a2 < ((rd_T128 l0 x16_1).f1) then a2 else ((rd_T128 l0 x16_1).f1)) = ji11 := hji11
       by_cases c12 : (ji10) < (ji11)
       ·rw [if_pos c12] at H
        have c12b0 : decide ((ji10) < (ji11)) = true := decide_eq_true c12
        clear c12
        by_cases c13 : x7_1.length < 8796093022208
        ·rw [if_pos c13] at H
         have LMc13 := Aside0.mk c13
         clear c13
         obtain ⟨y375, hy375⟩ : ∃ y_ : List (S128), y_ = (x7_1 ++ [(⟨ji10, ji11⟩ : S128)]) := ⟨_, rfl⟩
         replace H : (impl_MeetSpans.l0 k1 a1 a2 y375 l0 (l0.length : Int) (wrap64 (x16_1 + 1))) = some r := by first | (rw [hy375]; with_reducible exact H) | (have H2_ := (Option.bind_some _ _).symm.trans H; rw [hy375]; with_reducible exact H2_) | (have H2_ := (Option.bind_some _ _).symm.trans H; with_reducible exact H2_) | with_reducible exact H | (rw [hy375]; exact H) | exact H
         have Ny375 := Aside0.mk hy375
         clear hy375
         have H' := Aside0.mk H
         clear H
         have p372 : 0 ≤ (x16_1 : Int) := of_decide_eq_true (by first | (with_reducible assumption) | assumption)
         have q372 : x16_1 < (l0.length : Int) := of_decide_eq_true (by first | (with_reducible assumption) | assumption)
         obtain ⟨ad372, e372, hx372_0, hx372_1⟩ := at_T128 HR0.out x16_1 p372 q372
         cases e372
         replace hx372_0 := (HB.out.cell (World.block_lt_of_cell? w _ hx372_0)).trans hx372_0
         replace hx372_1 := (HB.out.cell (World.block_lt_of_cell? w _ hx372_1)).trans hx372_1
         replace p372 := eq_true p372
         replace q372 := eq_true q372
         go_wp2_with (first | ((with_reducible refine gD 9 ?_); refine bxE #[.int .i64 0, .int .i64 0] 128 ?_; intro gb373 hg w14 BK373 hb; have GW373 := gE hg; have GE373 := gE hg; replace HO_7 := Aside0.mk (Kd.R_below (Kd.R_elderB (rS HO_7) gb373 (Nat.le_of_eq hg.symm)) hb); replace HB := hB hb; clear hb hg; have hz15 := cz2 BK373) | ((with_reducible refine gD 10 ?_); refine bxE #[.int .i64 0, .int .i64 0] 128 ?_; intro gb374 hg w16 BK374 hb; have GW374 := gE hg; have GE374 := gE hg; have NB373_374 := Aside0.mk ((by rw [hg]; exact Nat.ne_of_lt (blk_lt (g := gb373) (o := .cells #[.int .i64 ((rd_T128 l0 x16_1).f0), .int .i64 ((rd_T128 l0 x16_1).f1)] 128 (0, 0)) kS) : gb373 ≠ gb374)); have NB374_373 := Aside0.mk ((by rw [hg]; exact Nat.ne_of_gt (blk_lt (g := gb373) (o := .cells #[.int .i64 ((rd_T128 l0 x16_1).f0), .int .i64 ((rd_T128 l0 x16_1).f1)] 128 (0, 0)) kS) : gb374 ≠ gb373)); replace HO_7 := Aside0.mk (Kd.R_below (Kd.R_elderB (by (with_reducible repeat (first | apply Kd.R_alloc | apply Kd.R_drewN | apply Kd.R_drew)); exact (Kd.R_mono (Kd.R_far (p := ⟨gb373, 1, none⟩) (Kd.R_far (p := ⟨gb373, 0, none⟩) (Kd.R_mono HO_7.out (fun k_ hk => (⟨hk, hk.2⟩ : _ ∧ k_ ≠ gb373))) (fun _ hk => hk.2) (.int .i64 ((rd_T128 l0 x16_1).f0))) (fun _ hk => hk.2) (.int .i64 ((rd_T128 l0 x16_1).f1))) (fun _ h_ => h_.1))) gb374 (Nat.le_of_eq hg.symm)) hb); replace BK373 := Aside0.mk (blk_below (g := gb373) (o := .cells #[.int .i64 ((rd_T128 l0 x16_1).f0), .int .i64 ((rd_T128 l0 x16_1).f1)] 128 (0, 0)) kS hb); replace HB := hB hb; clear hb hg; have hnb17 := NB374_373.out; have hnc17 := NB373_374.out; have hz18 := cz2 BK374) | ((with_reducible refine gate_builtin (b := .append) (xs := #[.tmp 34, .tmp 36]) rfl ?_); at_builtin; refine Kd.R_append k128 (w0 := w) w.heap.size rfl (.tmp 34) (.tmp 36) 62 128 (.agg #[(.int .i64 0), (.int .i64 0)]) 16 rfl Try.underlying62 info128 rfl (by decide) (by omega) u7 x7_1 (⟨ji10, ji11⟩ : S128) [.int .i64 ji10, .int .i64 ji11] (fun k_ => k_ ≠ gb373 ∧ k_ ≠ gb374) (fun _ => False) rfl (by first | (go_simp; done) | (go_simp; rfl)) ?aP (fun _ hk => hk.elim) ?aF ?aO ?aB ?aS ?aL ?_; (case aP => exact k128_mkM _ _ _ (⟨ji10, ji11⟩ : S128)); (case aB => exact bS); (case aF => exact (fun k_ hk => ⟨Kd.freshB (g := gb373) kS k_ hk, Kd.freshB (g := gb374) (o := .cells #[.int .i64 ji10, .int .i64 ji11] 128 (0, 0)) kS k_ hk⟩)); (case aO => exact (by (with_reducible repeat (first | apply Kd.R_alloc | apply Kd.R_drewN | apply Kd.R_drew)); exact Kd.R_mono (Kd.R_far (p := ⟨gb374, 1, none⟩) (Kd.R_far (p := ⟨gb374, 0, none⟩) (Kd.R_mono HO_7.out (fun k_ hk => (⟨hk, hk.2⟩ : _ ∧ k_ ≠ gb374))) (fun _ hk => hk.2) (.int .i64 ji10)) (fun _ hk => hk.2) (.int .i64 ji11)) (fun _ hk => ⟨hk.1.1.2, hk.1.2⟩))); (case aS => exact (below_size bS)); (case aL => have := LMc13.out; omega); intro v376 w19 ho hb hg hat; rw [← Ny375.out] at ho; have HO377 := Aside0.mk (ho); replace BK373 := Aside0.mk (blk_grown (g := gb373) kS hg (Kd.R_away HO_7.out (fun _ hk => hk.1.2))); replace BK374 := Aside0.mk (blk_grown (g := gb374) (o := .cells #[.int .i64 ji10, .int .i64 ji11] 128 (0, 0)) kS hg (Kd.R_away HO_7.out (fun _ hk => hk.2))); replace HB := Aside0.mk (hb); clear HO_7; clear ho hb hg hat))
         go_roundg k1
         case measure => have := HK1.out; omega
         case rel => exact ⟨(y375), (wrap64 (x16_1 + 1)), (by first | rfl | (simp; done) | (simp [*]; done)), H', ⟨by have := HK1.out; omega⟩, ⟨by (with_reducible repeat (first | apply Kd.R_alloc | apply Kd.R_drewN | apply Kd.R_drew)); exact Kd.R_mono HO377.out (fun _ hk => trivial)⟩, ⟨bS⟩⟩
        ·rw [if_neg c13] at H
         exact absurd H (by simp)
       ·rw [if_neg c12] at H
        have c12b0 : decide ((ji10) < (ji11)) = false := decide_eq_false c12
        clear c12
        have H' := Aside0.mk H
        clear H
        have p372 : 0 ≤ (x16_1 : Int) := of_decide_eq_true (by first | (with_reducible assumption) | assumption)
        have q372 : x16_1 < (l0.length : Int) := of_decide_eq_true (by first | (with_reducible assumption) | assumption)
        obtain ⟨ad372, e372, hx372_0, hx372_1⟩ := at_T128 HR0.out x16_1 p372 q372
        cases e372
        replace hx372_0 := (HB.out.cell (World.block_lt_of_cell? w _ hx372_0)).trans hx372_0
        replace hx372_1 := (HB.out.cell (World.block_lt_of_cell? w _ hx372_1)).trans hx372_1
        replace p372 := eq_true p372
        replace q372 := eq_true q372
        go_wp2_with (first | ((with_reducible refine gD 9 ?_); refine bxE #[.int .i64 0, .int .i64 0] 128 ?_; intro gb373 hg w20 BK373 hb; have GW373 := gE hg; have GE373 := gE hg; replace HO_7 := Aside0.mk (Kd.R_below (Kd.R_elderB (rS HO_7) gb373 (Nat.le_of_eq hg.symm)) hb); replace HB := hB hb; clear hb hg; have hz21 := cz2 BK373) | ((with_reducible refine gD 10 ?_); refine bxE #[.int .i64 0, .int .i64 0] 128 ?_; intro gb374 hg w22 BK374 hb; have GW374 := gE hg; have GE374 := gE hg; have NB373_374 := Aside0.mk ((by rw [hg]; exact Nat.ne_of_lt (blk_lt (g := gb373) (o := .cells #[.int .i64 ((rd_T128 l0 x16_1).f0), .int .i64 ((rd_T128 l0 x16_1).f1)] 128 (0, 0)) kS) : gb373 ≠ gb374)); have NB374_373 := Aside0.mk ((by rw [hg]; exact Nat.ne_of_gt (blk_lt (g := gb373) (o := .cells #[.int .i64 ((rd_T128 l0 x16_1).f0), .int .i64 ((rd_T128 l0 x16_1).f1)] 128 (0, 0)) kS) : gb374 ≠ gb373)); replace HO_7 := Aside0.mk (Kd.R_below (Kd.R_elderB (by (with_reducible repeat (first | apply Kd.R_alloc | apply Kd.R_drewN | apply Kd.R_drew)); exact (Kd.R_mono (Kd.R_far (p := ⟨gb373, 1, none⟩) (Kd.R_far (p := ⟨gb373, 0, none⟩) (Kd.R_mono HO_7.out (fun k_ hk => (⟨hk, hk.2⟩ : _ ∧ k_ ≠ gb373))) (fun _ hk => hk.2) (.int .i64 ((rd_T128 l0 x16_1).f0))) (fun _ hk => hk.2) (.int .i64 ((rd_T128 l0 x16_1).f1))) (fun _ h_ => h_.1))) gb374 (Nat.le_of_eq hg.symm)) hb); replace BK373 := Aside0.mk (blk_below (g := gb373) (o := .cells #[.int .i64 ((rd_T128 l0 x16_1).f0), .int .i64 ((rd_T128 l0 x16_1).f1)] 128 (0, 0)) kS hb); replace HB := hB hb; clear hb hg; have hnb23 := NB374_373.out; have hnc23 := NB373_374.out; have hz24 := cz2 BK374))
        go_roundg k1
        case measure => have := HK1.out; omega
        case rel => exact ⟨(x7_1), (wrap64 (x16_1 + 1)), (by first | rfl | (simp; done) | (simp [*]; done)), H', ⟨by have := HK1.out; omega⟩, ⟨by (with_reducible repeat (first | apply Kd.R_alloc | apply Kd.R_drewN | apply Kd.R_drew)); exact Kd.R_mono (Kd.R_far (p := ⟨gb374, 1, none⟩) (Kd.R_far (p := ⟨gb374, 0, none⟩) (Kd.R_mono HO_7.out (fun k_ hk => (⟨hk, hk.2⟩ : _ ∧ k_ ≠ gb374))) (fun _ hk => hk.2) (.int .i64 ji10)) (fun _ hk => hk.2) (.int .i64 ji11)) (fun _ hk => trivial)⟩, ⟨bS⟩⟩
      ·rw [if_neg c9] at H
       exact absurd H (by simp)
     ·rw [if_neg c8] at H
      exact absurd H (by simp)
    ·rw [if_neg c7] at H
     have c7b0 : decide (x16_1 < (l0.length : Int)) = false := decide_eq_false c7
     clear c7
     obtain rfl := Option.some.inj H
     simp only [Option.some.injEq, Prod.mk.injEq] at H
     obtain ⟨rfl⟩ := H
     go_wp2
     go_ret
     exact ⟨_, eS, by (with_reducible repeat (first | apply Kd.R_alloc | apply Kd.R_drewN | apply Kd.R_drew)); exact HO_7.out, bS⟩
 ·obtain rfl := Bool.eq_false_iff.mpr c5
  rw [if_neg nF] at H
  obtain rfl := Option.some.inj H
  simp only [Option.some.injEq, Prod.mk.injEq] at H
  obtain ⟨rfl⟩ := H
  go_enter Try.func138, Try.ntmps138
  go_wp2_with (first | ((with_reducible refine gC 139 ?_); refine cL (some 12) Try.func139 #[.slice A0 l0.length c0] ?_; (with_reducible refine (impl_SpansOk.calls k _ _ l0 _ _ ?side1 ?side2 A4.out).mono ?_); (case side1 => repeat (first | exact HR0.out | (with_reducible refine Kd.C_alloc ?_ _) | (with_reducible refine Kd.C_drewN ?_ _) | (with_reducible refine Kd.C_drew ?_))); (case side2 => exact HC0.out); rintro e w25 ⟨rfl, hb⟩; refine ⟨_, rfl, ?_⟩; replace HB := hB hb; (try clear hb); (try clear hb2); (try clear hk); (try clear hi)))
  go_ret
  exact ⟨_, eS, by first | exact Kd.R_nil _ _ _ _ _ | exact Kd.N_nil _ _ _ _ _ | exact Kd.V_nil _ _ _ _ _ | exact Kd.Q_nil _ _ _ _ _ | exact Kd.S_nil _ _ _ _ _, bS⟩

/-! ### impl_ObjectRow: function 81 -/
def impl_ObjectRow.j0 : Nat → Int → Bool → List (S130) → Int → Int → Int → Int → Int → Int → Int → Int → Int → Option ((List (S128)))
 | 0, _, _, _, _, _, _, _, _, _, _, _, _ => none
 | k + 1, x1, x20, x379000, x379001, x379002, x379003, x379004, x379005, x385000, x385001, x385002, x385003 => if x20 = true then (some ([] : List (S128))) else ((impl_SpansAt.f k x379000 x1).bind fun t385 => ((impl_MeetSpans.f k t385 x385000 x385002).bind fun t388 => (some t388)))
def impl_ObjectRow.f (k : Nat) (l0_0 : List (S130)) (a0_1 : Int) (a0_2 : Int) (a0_3 : Int) (a0_4 : Int) (a0_5 : Int) (a1 : Int) : Option ((List (S128))) := (impl_ObjectOk.f k l0_0 a0_1 a0_2 a0_3 a0_4 a0_5).bind fun t379 => (if t379 = true then ((impl_ObjectBox.f k l0_0 a0_1 a0_2 a0_3 a0_4 a0_5).bind fun bt380 => (if a1 < bt380.2.1 then (impl_ObjectRow.j0 k a1 true l0_0 a0_1 a0_2 a0_3 a0_4 a0_5 bt380.1 bt380.2.1 bt380.2.2.1 bt380.2.2.2) else (impl_ObjectRow.j0 k a1 (decide (a1 ≥ bt380.2.2.2)) l0_0 a0_1 a0_2 a0_3 a0_4 a0_5 bt380.1 bt380.2.1 bt380.2.2.1 bt380.2.2.2))) else (some ([] : List (S128))))
def impl_ObjectRow.T6 : Bool × List (List Nat × List Nat) := (true, [([], []), ([0], [0]), ([], []), ([1, 2], [1, 2]), ([], []), ([4], [4]), ([], []), ([6], [6]), ([3, 5, 7, 3], [3, 5, 7]), ([8, 8, 0, 1, 2, 3, 4, 5, 6, 7, 8], [8])])
def impl_ObjectRow.B6 : List Nat := [0, 1, 0, 7, 0, 16, 0, 64, 255, 511]
theorem impl_ObjectRow.tab6 : rtab .any (opsOf Try.f81 6) = impl_ObjectRow.T6 := by kernel_rfl
theorem impl_ObjectRow.bits6 : waitsOk impl_ObjectRow.T6.2 impl_ObjectRow.B6 = true := by kernel_rfl
theorem impl_ObjectRow.calls (k : Nat) (A0_0 : Option Addr) (c0_0 : Nat) (l0_0 : List (S130)) (a0_1 : Int) (a0_2 : Int) (a0_3 : Int) (a0_4 : Int) (a0_5 : Int) (a1 : Int) (r : List (S128)) (w : World) (hr0_0 : Kd.C k130 w A0_0 l0_0.length l0_0) (hc0_0 : l0_0.length ≤ c0_0) (h : impl_ObjectRow.f k l0_0 a0_1 a0_2 a0_3 a0_4 a0_5 a1 = some r) :
  Calls Try.prog 81 #[.agg #[.slice A0_0 l0_0.length c0_0, .int .i64 a0_1, .int .i64 a0_2, .int .i64 a0_3, .int .i64 a0_4, .int .i64 a0_5], .int .i64 a1] w fun e w' => ∃ v0_ : Value, e = .returned (v0_) ∧ Kd.R k128 128 w' w.heap.size (fun _ => True) v0_ r ∧ Below w.heap.size w w' := by
 have hu56 := Try.underlying56
 have hu52 := Try.underlying52
 have HR0_0 := Aside0.mk hr0_0
 have HC0_0 := Aside0.mk hc0_0
 clear hr0_0 hc0_0
 have HB := Aside0.mk (Below.refl w.heap.size w)
 have H : ((impl_ObjectOk.f k l0_0 a0_1 a0_2 a0_3 a0_4 a0_5).bind fun t379 => (if t379 = true then ((impl_ObjectBox.f k l0_0 a0_1 a0_2 a0_3 a0_4 a0_5).bind fun bt380 => (if a1 < bt380.2.1 then (impl_ObjectRow.j0 k a1 true l0_0 a0_1 a0_2 a0_3 a0_4 a0_5 bt380.1 bt380.2.1 bt380.2.2.1 bt380.2.2.2) else (impl_ObjectRow.j0 k a1 (decide (a1 ≥ bt380.2.2.2)) l0_0 a0_1 a0_2 a0_3 a0_4 a0_5 bt380.1 bt380.2.1 bt380.2.2.1 bt380.2.2.2))) else (some ([] : List (S128))))) = some r := h
 clear h
 replace H := bN H
 obtain ⟨t379, A3, H⟩ := H
 by_cases c4 : t379 = true
 ·subst c4
  rw [if_pos rfl] at H
  replace H := bN H
  obtain ⟨⟨t380, t381, t382, t383⟩, A5, H⟩ := H
  have HC6 := Aside0.mk H
  clear H
  go_enter Try.func81, Try.ntmps81
  go_upto_region 4 with (first | ((with_reducible refine gD 2 ?_); refine bxE #[.slice A0_0 l0_0.length c0_0, .int .i64 a0_1, .int .i64 a0_2, .int .i64 a0_3, .int .i64 a0_4, .int .i64 a0_5] 56 ?_; intro gb378 hg w7 BK378 hb; have GW378 := gE hg; have GE378 := gE hg; replace HB := hB hb; clear hb hg; have hcz8_0 : w7.cell? ⟨gb378, 0, none⟩ = some (.slice A0_0 l0_0.length c0_0) := (blk_cell BK378.out 0).trans rfl; have hcz8_1 : w7.cell? ⟨gb378, 1, none⟩ = some (.int .i64 a0_1) := (blk_cell BK378.out 1).trans rfl; have hcz8_2 : w7.cell? ⟨gb378, 2, none⟩ = some (.int .i64 a0_2) := (blk_cell BK378.out 2).trans rfl; have hcz8_3 : w7.cell? ⟨gb378, 3, none⟩ = some (.int .i64 a0_3) := (blk_cell BK378.out 3).trans rfl; have hcz8_4 : w7.cell? ⟨gb378, 4, none⟩ = some (.int .i64 a0_4) := (blk_cell BK378.out 4).trans rfl; have hcz8_5 : w7.cell? ⟨gb378, 5, none⟩ = some (.int .i64 a0_5) := (blk_cell BK378.out 5).trans rfl; have hfz8_0 := blk_frozen BK378.out 0; have hfz8_1 := blk_frozen BK378.out 1; have hfz8_2 := blk_frozen BK378.out 2; have hfz8_3 := blk_frozen BK378.out 3; have hfz8_4 := blk_frozen BK378.out 4; have hfz8_5 := blk_frozen BK378.out 5) | ((with_reducible refine gC 86 ?_); refine cL (some 7) Try.func86 #[.agg #[.slice A0_0 l0_0.length c0_0, .int .i64 a0_1, .int .i64 a0_2, .int .i64 a0_3, .int .i64 a0_4, .int .i64 a0_5]] ?_; (with_reducible refine (impl_ObjectOk.calls k _ _ l0_0 a0_1 a0_2 a0_3 a0_4 a0_5 _ _ ?side1 ?side2 A3.out).mono ?_); (case side1 => exact cS (Kd.C_below HR0_0.out HB.out)); (case side2 => exact HC0_0.out); rintro e w9 ⟨rfl, hb⟩; refine ⟨_, rfl, ?_⟩; replace BK378 := kB (g := gb378) hb; replace HB := hB hb; (try clear hb); (try clear hb2); (try clear hk); (try clear hi); have hcz10_0 : w9.cell? ⟨gb378, 0, none⟩ = some (.slice A0_0 l0_0.length c0_0) := (blk_cell BK378.out 0).trans rfl; have hcz10_1 : w9.cell? ⟨gb378, 1, none⟩ = some (.int .i64 a0_1) := (blk_cell BK378.out 1).trans rfl; have hcz10_2 : w9.cell? ⟨gb378, 2, none⟩ = some (.int .i64 a0_2) := (blk_cell BK378.out 2).trans rfl; have hcz10_3 : w9.cell? ⟨gb378, 3, none⟩ = some (.int .i64 a0_3) := (blk_cell BK378.out 3).trans rfl; have hcz10_4 : w9.cell? ⟨gb378, 4, none⟩ = some (.int .i64 a0_4) := (blk_cell BK378.out 4).trans rfl; have hcz10_5 : w9.cell? ⟨gb378, 5, none⟩ = some (.int .i64 a0_5) := (blk_cell BK378.out 5).trans rfl; have hfz10_0 := blk_frozen BK378.out 0; have hfz10_1 := blk_frozen BK378.out 1; have hfz10_2 := blk_frozen BK378.out 2; have hfz10_3 := blk_frozen BK378.out 3; have hfz10_4 := blk_frozen BK378.out 4; have hfz10_5 := blk_frozen BK378.out 5) | ((with_reducible refine gC 41 ?_); refine cL (some 10) Try.func41 #[.agg #[.slice A0_0 l0_0.length c0_0, .int .i64 a0_1, .int .i64 a0_2, .int .i64 a0_3, .int .i64 a0_4, .int .i64 a0_5]] ?_; (with_reducible refine (impl_ObjectBox.calls k _ _ l0_0 a0_1 a0_2 a0_3 a0_4 a0_5 t380 t381 t382 t383 _ ?side1 ?side2 A5.out).mono ?_); (case side1 => exact cS (Kd.C_below HR0_0.out HB.out)); (case side2 => exact HC0_0.out); rintro e w11 ⟨rfl, hb⟩; refine ⟨_, rfl, ?_⟩; replace BK378 := kB (g := gb378) hb; replace HB := hB hb; (try clear hb); (try clear hb2); (try clear hk); (try clear hi)) | ((with_reducible refine gD 5 ?_); refine bxE #[.int .i64 0, .int .i64 0, .int .i64 0, .int .i64 0] 52 ?_; intro gb384 hg w12 BK384 hb; have GW384 := gE hg; have GE384 := gE hg; have NB378_384 := nL (g := gb378) hg; have NB384_378 := nG (g := gb378) hg; replace BK378 := kB (g := gb378) hb; replace HB := hB hb; clear hb hg; have hnb13 := NB384_378.out; have hnc13 := NB378_384.out; have hcz14_0 : w12.cell? ⟨gb384, 0, none⟩ = some (.int .i64 0) := (blk_cell BK384.out 0).trans rfl; have hcz14_1 : w12.cell? ⟨gb384, 1, none⟩ = some (.int .i64 0) := (blk_cell BK384.out 1).trans rfl; have hcz14_2 : w12.cell? ⟨gb384, 2, none⟩ = some (.int .i64 0) := (blk_cell BK384.out 2).trans rfl; have hcz14_3 : w12.cell? ⟨gb384, 3, none⟩ = some (.int .i64 0) := (blk_cell BK384.out 3).trans rfl; have hfz14_0 := blk_frozen BK384.out 0; have hfz14_1 := blk_frozen BK384.out 1; have hfz14_2 := blk_frozen BK384.out 2; have hfz14_3 := blk_frozen BK384.out 3))
  (try simp only [Act.put, List.setIfInBounds_toArray, List.set_cons_zero, List.set_cons_succ])
  go_cut [20] (fun v20 wc => ∃ (kq : Nat) (x20_5 : Bool), v20 = .bool x20_5 ∧ Aside0 (impl_ObjectRow.j0 kq a1 x20_5 l0_0 a0_1 a0_2 a0_3 a0_4 a0_5 t380 t381 t382 t383 = some r) ∧ Aside0 (kq ≤ k) ∧ Aside0 (wc.heap[gb378]? = some (.cells #[(.slice A0_0 l0_0.length c0_0), .int .i64 a0_1, .int .i64 a0_2, .int .i64 a0_3, .int .i64 a0_4, .int .i64 a0_5] 56 (0, 0))) ∧ Aside0 (wc.heap[gb384]? = some (.cells #[.int .i64 t380, .int .i64 t381, .int .i64 t382, .int .i64 t383] 52 (0, 0))) ∧ Aside0 (Below w.heap.size w wc))
  case first =>
   have H := HC6.out
   clear HC6
   by_cases c15 : a1 < t381
   ·rw [if_pos c15] at H
    have c15b0 : decide (a1 < t381) = true := decide_eq_true c15
    clear c15
    (first | rw [c15b0] | (simp only [i64_w, i32_w]; rw [c15b0]) | skip)
    have H' := Aside0.mk H
    clear H
    have hnb16 := NB384_378.out
    have hnc16 := NB378_384.out
    have hcz17_0 : w12.cell? ⟨gb384, 0, none⟩ = some (.int .i64 0) := (blk_cell BK384.out 0).trans rfl
    have hcz17_1 : w12.cell? ⟨gb384, 1, none⟩ = some (.int .i64 0) := (blk_cell BK384.out 1).trans rfl
    have hcz17_2 : w12.cell? ⟨gb384, 2, none⟩ = some (.int .i64 0) := (blk_cell BK384.out 2).trans rfl
    have hcz17_3 : w12.cell? ⟨gb384, 3, none⟩ = some (.int .i64 0) := (blk_cell BK384.out 3).trans rfl
    have hfz17_0 := blk_frozen BK384.out 0
    have hfz17_1 := blk_frozen BK384.out 1
    have hfz17_2 := blk_frozen BK384.out 2
    have hfz17_3 := blk_frozen BK384.out 3
    go_wp2
    go_meet
    case rel => exact ⟨_, (true), (by first | rfl | (simp; done) | (simp [*]; done)), H', ⟨by first | omega | exact Nat.le_refl _⟩, ⟨kS⟩, ⟨kS⟩, ⟨bS⟩⟩
   ·rw [if_neg c15] at H
    have c15b0 : decide (a1 < t381) = false := decide_eq_false c15
    clear c15
    (first | rw [c15b0] | (simp only [i64_w, i32_w]; rw [c15b0]) | skip)
    have H' := Aside0.mk H
    clear H
    have hnb18 := NB384_378.out
    have hnc18 := NB378_384.out
    have hcz19_0 : w12.cell? ⟨gb384, 0, none⟩ = some (.int .i64 0) := (blk_cell BK384.out 0).trans rfl
    have hcz19_1 : w12.cell? ⟨gb384, 1, none⟩ = some (.int .i64 0) := (blk_cell BK384.out 1).trans rfl
    have hcz19_2 : w12.cell? ⟨gb384, 2, none⟩ = some (.int .i64 0) := (blk_cell BK384.out 2).trans rfl
    have hcz19_3 : w12.cell? ⟨gb384, 3, none⟩ = some (.int .i64 0) := (blk_cell BK384.out 3).trans rfl
    have hfz19_0 := blk_frozen BK384.out 0
    have hfz19_1 := blk_frozen BK384.out 1
    have hfz19_2 := blk_frozen BK384.out 2
    have hfz19_3 := blk_frozen BK384.out 3
    go_wp2
    go_meet
    case rel => exact ⟨_, (decide (a1 ≥ t383)), (by first | rfl | (simp; done) | (simp [*]; done)), H', ⟨by first | omega | exact Nat.le_refl _⟩, ⟨kS⟩, ⟨kS⟩, ⟨bS⟩⟩
  case rest =>
   clear HC6
   try clear c1
   try clear p2
   try clear c4
   try clear c8
   try clear c13
   try clear c15
   try clear c15b0
   try clear c16
   try clear c18
   try clear hcz10_0
   try clear hcz10_1
   try clear hcz10_2
   try clear hcz10_3
   try clear hcz10_4
   try clear hcz10_5
   try clear hcz14_0
   try clear hcz14_1
   try clear hcz14_2
   try clear hcz14_3
   try clear hcz17_0
   try clear hcz17_1
   try clear hcz17_2
   try clear hcz17_3
   try clear hcz19_0
   try clear hcz19_1
   try clear hcz19_2
   try clear hcz19_3
   try clear hcz8_0
   try clear hcz8_1
   try clear hcz8_2
   try clear hcz8_3
   try clear hcz8_4
   try clear hcz8_5
   try clear hfz10_0
   try clear hfz10_1
   try clear hfz10_2
   try clear hfz10_3
   try clear hfz10_4
   try clear hfz10_5
   try clear hfz14_0
   try clear hfz14_1
   try clear hfz14_2
   try clear hfz14_3
   try clear hfz17_0
   try clear hfz17_1
   try clear hfz17_2
   try clear hfz17_3
   try clear hfz19_0
   try clear hfz19_1
   try clear hfz19_2
   try clear hfz19_3
   try clear hfz8_0
   try clear hfz8_1
   try clear hfz8_2
   try clear hfz8_3
   try clear hfz8_4
   try clear hfz8_5
   obtain ⟨kq, x20_5, rfl, HA, HJ5, BK378, BK384, HB⟩ := hcut
   cases kq with
   | zero => exact absurd HA.out (by simp [impl_ObjectRow.j0])
   | succ kj5 =>
    have H := HA.out
    clear HA
    simp only [impl_ObjectRow.j0] at H
    by_cases c20 : x20_5 = true
    ·subst c20
     rw [if_pos rfl] at H
     obtain rfl := Option.some.inj H
     simp only [Option.some.injEq, Prod.mk.injEq] at H
     obtain ⟨rfl⟩ := H
     go_wp2
     go_ret
     exact ⟨_, eS, by first | exact Kd.R_nil _ _ _ _ _ | exact Kd.N_nil _ _ _ _ _ | exact Kd.V_nil _ _ _ _ _ | exact Kd.Q_nil _ _ _ _ _ | exact Kd.S_nil _ _ _ _ _, bS⟩
    ·obtain rfl := Bool.eq_false_iff.mpr c20
     rw [if_neg nF] at H
     replace H := bN H
     obtain ⟨t385, A21, H⟩ := H
     replace H := bN H
     obtain ⟨t388, A22, H⟩ := H
     obtain rfl := Option.some.inj H
     simp only [Option.some.injEq, Prod.mk.injEq] at H
     obtain ⟨rfl⟩ := H
     try go_wp2
     replace BK378 := Aside0.mk (blk_drew BK378.out)
     replace BK384 := Aside0.mk (blk_drew BK384.out)
     replace HB := Aside0.mk (below_drew1 HB.out)
     refine start_ (n := 10) (S := fun w' => w'.cell? ⟨gb378, 0, none⟩ = some (.slice A0_0 l0_0.length c0_0) ∧ w'.cell? ⟨gb378, 1, none⟩ = some (.int .i64 a0_1) ∧ w'.cell? ⟨gb378, 2, none⟩ = some (.int .i64 a0_2) ∧ w'.cell? ⟨gb378, 3, none⟩ = some (.int .i64 a0_3) ∧ w'.cell? ⟨gb378, 4, none⟩ = some (.int .i64 a0_4) ∧ w'.cell? ⟨gb378, 5, none⟩ = some (.int .i64 a0_5) ∧ w'.cell? ⟨gb384, 0, none⟩ = some (.int .i64 t380) ∧ w'.cell? ⟨gb384, 1, none⟩ = some (.int .i64 t381) ∧ w'.cell? ⟨gb384, 2, none⟩ = some (.int .i64 t382) ∧ w'.cell? ⟨gb384, 3, none⟩ = some (.int .i64 t383)) (ds := []) #[false, false, false, false, false, false, false, false, false, false] (by kernel_rfl) rfl rfl ⟨(blk_cell BK378.out 0).trans rfl, (blk_cell BK378.out 1).trans rfl, (blk_cell BK378.out 2).trans rfl, (blk_cell BK378.out 3).trans rfl, (blk_cell BK378.out 4).trans rfl, (blk_cell BK378.out 5).trans rfl, (blk_cell BK384.out 0).trans rfl, (blk_cell BK384.out 1).trans rfl, (blk_cell BK384.out 2).trans rfl, (blk_cell BK384.out 3).trans rfl⟩ (fun hHeld => ?_); refine with_tabW impl_ObjectRow.tab6 impl_ObjectRow.bits6 (fun HT_ HW_ => ?_)
     generalize wc.drew = w23 at BK378 BK384 HB hHeld ⊢
     refine pU 0 (some 21) #[true, false, false, false, false, false, false, false, false, false] ?_
     refine pU 2 (some 23) #[true, false, true, false, false, false, false, false, false, false] ?_
     refine pU 4 (some 25) #[true, false, true, false, true, false, false, false, false, false] ?_
     refine pU 6 (some 27) #[true, false, true, false, true, false, true, false, false, false] ?_
     refine tK 1 (some 22) #[true, true, true, false, true, false, true, false, false, false] ?_
     refine tK 5 (some 26) #[true, true, true, false, true, true, true, false, false, false] ?_
     refine tK 7 (some 28) #[true, true, true, false, true, true, true, true, false, false] ?_
     refine one_ (i := 3) (N := some 24) #[true, true, true, true, true, true, true, true, false, false] rfl rfl (one_of HT_.out (by kernel_rfl)) (by decide) (fun K hK => ?_)
     refine goes_ Try.func47 (by kernel_rfl) rfl #[.slice A0_0 l0_0.length c0_0, .int .i64 a1] (by rfl) rfl rfl (by (try simp only [List.map_toArray, List.map_cons, List.map_nil]); first | done | rfl | (simp only [List.length_drop, List.length_take]; rfl)) ?_
     with_reducible refine (impl_SpansAt.calls kj5 _ _ l0_0 a1 t385 _ ?side1 ?side2 A21.out).mono ?_
     (case side1 => exact cS (Kd.C_below HR0_0.out HB.out))
     (case side2 => exact HC0_0.out)
     rintro e w24 ⟨v386, rfl, ho0, hb⟩
     refine ⟨_, rfl, ?_⟩
     have HO387 := Aside0.mk (Kd.R_lower ho0 (below_size bS))
     replace BK378 := kB (g := gb378) hb
     replace BK384 := kB (g := gb384) hb
     replace HB := hB hb
     (try clear hb)
     (try clear hb2)
     (try clear hk)
     (try clear hi)
     (try clear ho0)
     obtain ⟨Ao25, co25, eo25⟩ := Kd.R_slice HO387.out
     (first | subst eo25 | (injection eo25 with f1_ f2_ f3_; have f4_ := f1_.symm; have f5_ := f3_.symm; clear f1_ f2_ f3_; subst f4_; subst f5_))
     refine hK.out _ _ ⟨(blk_cell BK378.out 0).trans rfl, (blk_cell BK378.out 1).trans rfl, (blk_cell BK378.out 2).trans rfl, (blk_cell BK378.out 3).trans rfl, (blk_cell BK378.out 4).trans rfl, (blk_cell BK378.out 5).trans rfl, (blk_cell BK384.out 0).trans rfl, (blk_cell BK384.out 1).trans rfl, (blk_cell BK384.out 2).trans rfl, (blk_cell BK384.out 3).trans rfl⟩ (fun hHeld => ?_)
     clear hK K
     refine norm_ (a' := ?_) ?_ ?_
     rotate_left
     ·show Act.put _ (some 24) _ = _
      simp only [Act.put, List.setIfInBounds_toArray, List.set_cons_zero, List.set_cons_succ, i64_w, i32_w]
      rfl
     refine one_ (i := 8) (N := some 29) #[true, true, true, true, true, true, true, true, true, false] rfl rfl (one_of HT_.out (by kernel_rfl)) (by decide) (fun K hK => ?_)
     refine goes_ Try.func138 (by kernel_rfl) rfl #[.slice Ao25 t385.length co25, .int .i64 t380, .int .i64 t382] (by rfl) rfl rfl (by (try simp only [List.map_toArray, List.map_cons, List.map_nil]); first | done | rfl | (simp only [List.length_drop, List.length_take]; rfl)) ?_
     with_reducible refine (impl_MeetSpans.calls kj5 _ _ t385 t380 t382 t388 _ ?side1 ?side2 A22.out).mono ?_
     (case side1 => exact cS (Kd.R_reads' HO387.out).2.2)
     (case side2 => exact (Kd.R_reads' HO387.out).2.1)
     rintro e w26 ⟨v389, rfl, ho0, hb⟩
     refine ⟨_, rfl, ?_⟩
     have HO390 := Aside0.mk (Kd.R_lower (Kd.R_new' ho0 (Kd.R_lt (rS HO387))) (below_size bS))
     replace HO387 := Aside0.mk (Kd.R_elder' (rS HO387) (Kd.R_base ho0) hb)
     replace BK378 := kB (g := gb378) hb
     replace BK384 := kB (g := gb384) hb
     replace HB := hB hb
     (try clear hb)
     (try clear hb2)
     (try clear hk)
     (try clear hi)
     (try clear ho0)
     refine hK.out _ _ ⟨(blk_cell BK378.out 0).trans rfl, (blk_cell BK378.out 1).trans rfl, (blk_cell BK378.out 2).trans rfl, (blk_cell BK378.out 3).trans rfl, (blk_cell BK378.out 4).trans rfl, (blk_cell BK378.out 5).trans rfl, (blk_cell BK384.out 0).trans rfl, (blk_cell BK384.out 1).trans rfl, (blk_cell BK384.out 2).trans rfl, (blk_cell BK384.out 3).trans rfl⟩ (fun hHeld => ?_)
     clear hK K
     refine norm_ (a' := ?_) ?_ ?_
     rotate_left
     ·show Act.put _ (some 29) _ = _
      simp only [Act.put, List.setIfInBounds_toArray, List.set_cons_zero, List.set_cons_succ, i64_w, i32_w]
      rfl
     refine pU 9 (some 4) #[true, true, true, true, true, true, true, true, true, true] ?_
     refine done_ (done_of HT_.out (by kernel_rfl)) ?_
     try go_wp2
     go_ret
     exact ⟨_, eS, by (with_reducible repeat (first | apply Kd.R_alloc | apply Kd.R_drewN | apply Kd.R_drew)); exact Kd.R_mono HO390.out (fun _ hk => trivial), bS⟩
 ·obtain rfl := Bool.eq_false_iff.mpr c4
  rw [if_neg nF] at H
  obtain rfl := Option.some.inj H
  simp only [Option.some.injEq, Prod.mk.injEq] at H
  obtain ⟨rfl⟩ := H
  go_enter Try.func81, Try.ntmps81
  go_wp2_with (first | ((with_reducible refine gD 2 ?_); refine bxE #[.slice A0_0 l0_0.length c0_0, .int .i64 a0_1, .int .i64 a0_2, .int .i64 a0_3, .int .i64 a0_4, .int .i64 a0_5] 56 ?_; intro gb378 hg w27 BK378 hb; have GW378 := gE hg; have GE378 := gE hg; replace HB := hB hb; clear hb hg; have hz28 := cz6 BK378) | ((with_reducible refine gC 86 ?_); refine cL (some 7) Try.func86 #[.agg #[.slice A0_0 l0_0.length c0_0, .int .i64 a0_1, .int .i64 a0_2, .int .i64 a0_3, .int .i64 a0_4, .int .i64 a0_5]] ?_; (with_reducible refine (impl_ObjectOk.calls k _ _ l0_0 a0_1 a0_2 a0_3 a0_4 a0_5 _ _ ?side1 ?side2 A3.out).mono ?_); (case side1 => exact cS (Kd.C_below HR0_0.out HB.out)); (case side2 => exact HC0_0.out); rintro e w29 ⟨rfl, hb⟩; refine ⟨_, rfl, ?_⟩; replace BK378 := kB (g := gb378) hb; replace HB := hB hb; (try clear hb); (try clear hb2); (try clear hk); (try clear hi)))
  go_ret
  exact ⟨_, eS, by first | exact Kd.R_nil _ _ _ _ _ | exact Kd.N_nil _ _ _ _ _ | exact Kd.V_nil _ _ _ _ _ | exact Kd.Q_nil _ _ _ _ _ | exact Kd.S_nil _ _ _ _ _, bS⟩

/-! ### impl_SpanDots: function 82 -/
def impl_SpanDots.l0 : Nat → Int → List (S128) → Int → Int → Option (Int)
 | 0, _, _, _, _ => none
 | k + 1, x3, x9, x10, x11 => if x11 < x10 then (if 0 ≤ x11 then (if x11 < (x9.length : Int) then (impl_SpanDots.l0 k (wrap64 (x3 + (wrap64 (((rd_T128 x9 x11).f1) - ((rd_T128 x9 x11).f0))))) x9 x10 (wrap64 (x11 + 1))) else (none)) else (none)) else (some x3)
def impl_SpanDots.f (k : Nat) (l0 : List (S128)) : Option (Int) := (impl_SpansOk.f k l0).bind fun t391 => (if t391 = true then (impl_SpanDots.l0 k 0 l0 (l0.length : Int) 0) else (some 0))
theorem impl_SpanDots.calls (k : Nat) (A0 : Option Addr) (c0 : Nat) (l0 : List (S128)) (r : Int) (w : World) (hr0 : Kd.C k128 w A0 l0.length l0) (hc0 : l0.length ≤ c0) (h : impl_SpanDots.f k l0 = some r) :
  Calls Try.prog 82 #[.slice A0 l0.length c0] w fun e w' => e = .returned (.int .i64 r) ∧ Below w.heap.size w w' := by
 have hu128 := Try.underlying128
 have HR0 := Aside0.mk hr0
 have HC0 := Aside0.mk hc0
 clear hr0 hc0
 have HB := Aside0.mk (Below.refl w.heap.size w)
 have H : ((impl_SpansOk.f k l0).bind fun t391 => (if t391 = true then (impl_SpanDots.l0 k 0 l0 (l0.length : Int) 0) else (some 0))) = some r := h
 clear h
 replace H := bN H
 obtain ⟨t391, A2, H⟩ := H
 by_cases c3 : t391 = true
 ·subst c3
  rw [if_pos rfl] at H
  have H' := Aside0.mk H
  clear H
  go_enter Try.func82, Try.ntmps82
  go_wp2_with (first | ((with_reducible refine gC 139 ?_); refine cL (some 7) Try.func139 #[.slice A0 l0.length c0] ?_; (with_reducible refine (impl_SpansOk.calls k _ _ l0 _ _ ?side1 ?side2 A2.out).mono ?_); (case side1 => repeat (first | exact HR0.out | (with_reducible refine Kd.C_alloc ?_ _) | (with_reducible refine Kd.C_drewN ?_ _) | (with_reducible refine Kd.C_drew ?_))); (case side2 => exact HC0.out); rintro e w4 ⟨rfl, hb⟩; refine ⟨_, rfl, ?_⟩; replace HB := hB hb; (try clear hb); (try clear hb2); (try clear hk); (try clear hi)))
  go_loopg [3, 11] k (fun kq v3 v11 w' => ∃ (x3_1 : Int) (x11_1 : Int), v3 = .int .i64 x3_1 ∧ v11 = .int .i64 x11_1 ∧ Aside0 (impl_SpanDots.l0 kq x3_1 l0 (l0.length : Int) x11_1 = some r) ∧ Aside0 (kq ≤ k) ∧ Aside0 (Below w.heap.size w w'))
  case atStart => exact ⟨(0), (0), (by first | rfl | (simp; done) | (simp [*]; done)), (by first | rfl | (simp; done) | (simp [*]; done)), H', ⟨Nat.le_refl _⟩, ⟨bS⟩⟩
  case round =>
   clear H'
   try clear c1
   try clear p2
   try clear c3
   obtain ⟨x3_1, x11_1, rfl, rfl, HA, HK1, HB⟩ := hrel
   cases gk with
   | zero => exact absurd HA.out (by simp [impl_SpanDots.l0])
   | succ k1 =>
    have H := HA.out
    clear HA
    simp only [impl_SpanDots.l0] at H
    by_cases c5 : x11_1 < (l0.length : Int)
    ·rw [if_pos c5] at H
     have c5b0 : decide (x11_1 < (l0.length : Int)) = true := decide_eq_true c5
     clear c5
     by_cases c6 : 0 ≤ x11_1
     ·rw [if_pos c6] at H
      have c6b0 : decide (0 ≤ x11_1) = true := decide_eq_true c6
      clear c6
      by_cases c7 : x11_1 < (l0.length : Int)
      ·rw [if_pos c7] at H
       have c7b0 : decide (x11_1 < (l0.length : Int)) = true := decide_eq_true c7
       clear c7
       have H' := Aside0.mk H
       clear H
       have p392 : 0 ≤ (x11_1 : Int) := of_decide_eq_true (by first | (with_reducible assumption) | assumption)
       have q392 : x11_1 < (l0.length : Int) := of_decide_eq_true (by first | (with_reducible assumption) | assumption)
       obtain ⟨ad392, e392, hx392_0, hx392_1⟩ := at_T128 HR0.out x11_1 p392 q392
       cases e392
       replace hx392_0 := (HB.out.cell (World.block_lt_of_cell? w _ hx392_0)).trans hx392_0
       replace hx392_1 := (HB.out.cell (World.block_lt_of_cell? w _ hx392_1)).trans hx392_1
       replace p392 := eq_true p392
       replace q392 := eq_true q392
       go_wp2_with (first | ((with_reducible refine gD 5 ?_); refine bxE #[.int .i64 0, .int .i64 0] 128 ?_; intro gb393 hg w8 BK393 hb; have GW393 := gE hg; have GE393 := gE hg; replace HB := hB hb; clear hb hg; have hz9 := cz2 BK393))
       go_roundg k1
       case measure => have := HK1.out; omega
       case rel => exact ⟨(wrap64 (x3_1 + (wrap64 (((rd_T128 l0 x11_1).f1) - ((rd_T128 l0 x11_1).f0))))), (wrap64 (x11_1 + 1)), (by first | rfl | (simp; done) | (simp [*]; done)), (by first | rfl | (simp; done) | (simp [*]; done)), H', ⟨by have := HK1.out; omega⟩, ⟨bS⟩⟩
      ·rw [if_neg c7] at H
       exact absurd H (by simp)
     ·rw [if_neg c6] at H
      exact absurd H (by simp)
    ·rw [if_neg c5] at H
     have c5b0 : decide (x11_1 < (l0.length : Int)) = false := decide_eq_false c5
     clear c5
     obtain rfl := Option.some.inj H
     simp only [Option.some.injEq, Prod.mk.injEq] at H
     obtain ⟨rfl⟩ := H
     go_wp2
     go_ret
     exact ⟨eS, bS⟩
 ·obtain rfl := Bool.eq_false_iff.mpr c3
  rw [if_neg nF] at H
  obtain rfl := Option.some.inj H
  simp only [Option.some.injEq, Prod.mk.injEq] at H
  obtain ⟨rfl⟩ := H
  go_enter Try.func82, Try.ntmps82
  go_wp2_with (first | ((with_reducible refine gC 139 ?_); refine cL (some 7) Try.func139 #[.slice A0 l0.length c0] ?_; (with_reducible refine (impl_SpansOk.calls k _ _ l0 _ _ ?side1 ?side2 A2.out).mono ?_); (case side1 => repeat (first | exact HR0.out | (with_reducible refine Kd.C_alloc ?_ _) | (with_reducible refine Kd.C_drewN ?_ _) | (with_reducible refine Kd.C_drew ?_))); (case side2 => exact HC0.out); rintro e w10 ⟨rfl, hb⟩; refine ⟨_, rfl, ?_⟩; replace HB := hB hb; (try clear hb); (try clear hb2); (try clear hk); (try clear hi)))
  go_ret
  exact ⟨eS, bS⟩

/-! ### impl_InBox: function 84 -/
def impl_InBox.f (a0_0 : Int) (a0_1 : Int) (a0_2 : Int) (a0_3 : Int) (a1 : Int) (a2 : Int) : Option (Bool) := (impl_BoxOk.f a0_0 a0_1 a0_2 a0_3).bind fun t395 => (if t395 = true then (if a1 ≥ a0_0 then (if a1 < a0_2 then (if a2 ≥ a0_1 then (some (decide (a2 < a0_3))) else (some false)) else (some false)) else (some false)) else (some false))
theorem impl_InBox.calls (a0_0 : Int) (a0_1 : Int) (a0_2 : Int) (a0_3 : Int) (a1 : Int) (a2 : Int) (r : Bool) (w : World) (h : impl_InBox.f a0_0 a0_1 a0_2 a0_3 a1 a2 = some r) :
  Calls Try.prog 84 #[.agg #[.int .i64 a0_0, .int .i64 a0_1, .int .i64 a0_2, .int .i64 a0_3], .int .i64 a1, .int .i64 a2] w fun e w' => e = .returned (.bool r) ∧ Below w.heap.size w w' := by
 have hu52 := Try.underlying52
 have HB := Aside0.mk (Below.refl w.heap.size w)
 have H : ((impl_BoxOk.f a0_0 a0_1 a0_2 a0_3).bind fun t395 => (if t395 = true then (if a1 ≥ a0_0 then (if a1 < a0_2 then (if a2 ≥ a0_1 then (some (decide (a2 < a0_3))) else (some false)) else (some false)) else (some false)) else (some false))) = some r := h
 clear h
 replace H := bN H
 obtain ⟨t395, A4, H⟩ := H
 by_cases c5 : t395 = true
 ·subst c5
  rw [if_pos rfl] at H
  by_cases c6 : a1 ≥ a0_0
  ·rw [if_pos c6] at H
   have c6b0 : decide (a0_0 ≤ a1) = true := decide_eq_true c6
   clear c6
   by_cases c7 : a1 < a0_2
   ·rw [if_pos c7] at H
    have c7b0 : decide (a1 < a0_2) = true := decide_eq_true c7
    clear c7
    by_cases c8 : a2 ≥ a0_1
    ·rw [if_pos c8] at H
     have c8b0 : decide (a0_1 ≤ a2) = true := decide_eq_true c8
     clear c8
     obtain rfl := Option.some.inj H
     simp only [Option.some.injEq, Prod.mk.injEq] at H
     obtain ⟨rfl⟩ := H
     go_enter Try.func84, Try.ntmps84
     go_wp2_with (first | ((with_reducible refine gD 3 ?_); refine bxE #[.int .i64 a0_0, .int .i64 a0_1, .int .i64 a0_2, .int .i64 a0_3] 52 ?_; intro gb394 hg w9 BK394 hb; have GW394 := gE hg; have GE394 := gE hg; replace HB := hB hb; clear hb hg; have hz10 := cz4 BK394) | ((with_reducible refine gC 141 ?_); refine cL (some 8) Try.func141 #[.agg #[.int .i64 a0_0, .int .i64 a0_1, .int .i64 a0_2, .int .i64 a0_3]] ?_; (with_reducible refine (impl_BoxOk.calls a0_0 a0_1 a0_2 a0_3 _ _ A4.out).mono ?_); rintro e w11 ⟨rfl, hb⟩; refine ⟨_, rfl, ?_⟩; replace BK394 := kB (g := gb394) hb; replace HB := hB hb; (try clear hb); (try clear hb2); (try clear hk); (try clear hi); have hz12 := cz4 BK394))
     go_ret
     exact ⟨eS, bS⟩
    ·rw [if_neg c8] at H
     have c8b0 : decide (a0_1 ≤ a2) = false := decide_eq_false c8
     clear c8
     obtain rfl := Option.some.inj H
     simp only [Option.some.injEq, Prod.mk.injEq] at H
     obtain ⟨rfl⟩ := H
     go_enter Try.func84, Try.ntmps84
     go_wp2_with (first | ((with_reducible refine gD 3 ?_); refine bxE #[.int .i64 a0_0, .int .i64 a0_1, .int .i64 a0_2, .int .i64 a0_3] 52 ?_; intro gb394 hg w13 BK394 hb; have GW394 := gE hg; have GE394 := gE hg; replace HB := hB hb; clear hb hg; have hz14 := cz4 BK394) | ((with_reducible refine gC 141 ?_); refine cL (some 8) Try.func141 #[.agg #[.int .i64 a0_0, .int .i64 a0_1, .int .i64 a0_2, .int .i64 a0_3]] ?_; (with_reducible refine (impl_BoxOk.calls a0_0 a0_1 a0_2 a0_3 _ _ A4.out).mono ?_); rintro e w15 ⟨rfl, hb⟩; refine ⟨_, rfl, ?_⟩; replace BK394 := kB (g := gb394) hb; replace HB := hB hb; (try clear hb); (try clear hb2); (try clear hk); (try clear hi); have hz16 := cz4 BK394))
     go_ret
     exact ⟨eS, bS⟩
   ·rw [if_neg c7] at H
    have c7b0 : decide (a1 < a0_2) = false := decide_eq_false c7
    clear c7
    obtain rfl := Option.some.inj H
    simp only [Option.some.injEq, Prod.mk.injEq] at H
    obtain ⟨rfl⟩ := H
    go_enter Try.func84, Try.ntmps84
    go_wp2_with (first | ((with_reducible refine gD 3 ?_); refine bxE #[.int .i64 a0_0, .int .i64 a0_1, .int .i64 a0_2, .int .i64 a0_3] 52 ?_; intro gb394 hg w17 BK394 hb; have GW394 := gE hg; have GE394 := gE hg; replace HB := hB hb; clear hb hg; have hz18 := cz4 BK394) | ((with_reducible refine gC 141 ?_); refine cL (some 8) Try.func141 #[.agg #[.int .i64 a0_0, .int .i64 a0_1, .int .i64 a0_2, .int .i64 a0_3]] ?_; (with_reducible refine (impl_BoxOk.calls a0_0 a0_1 a0_2 a0_3 _ _ A4.out).mono ?_); rintro e w19 ⟨rfl, hb⟩; refine ⟨_, rfl, ?_⟩; replace BK394 := kB (g := gb394) hb; replace HB := hB hb; (try clear hb); (try clear hb2); (try clear hk); (try clear hi); have hz20 := cz4 BK394))
    go_ret
    exact ⟨eS, bS⟩
  ·rw [if_neg c6] at H
   have c6b0 : decide (a0_0 ≤ a1) = false := decide_eq_false c6
   clear c6
   obtain rfl := Option.some.inj H
   simp only [Option.some.injEq, Prod.mk.injEq] at H
   obtain ⟨rfl⟩ := H
   go_enter Try.func84, Try.ntmps84
   go_wp2_with (first | ((with_reducible refine gD 3 ?_); refine bxE #[.int .i64 a0_0, .int .i64 a0_1, .int .i64 a0_2, .int .i64 a0_3] 52 ?_; intro gb394 hg w21 BK394 hb; have GW394 := gE hg; have GE394 := gE hg; replace HB := hB hb; clear hb hg; have hz22 := cz4 BK394) | ((with_reducible refine gC 141 ?_); refine cL (some 8) Try.func141 #[.agg #[.int .i64 a0_0, .int .i64 a0_1, .int .i64 a0_2, .int .i64 a0_3]] ?_; (with_reducible refine (impl_BoxOk.calls a0_0 a0_1 a0_2 a0_3 _ _ A4.out).mono ?_); rintro e w23 ⟨rfl, hb⟩; refine ⟨_, rfl, ?_⟩; replace BK394 := kB (g := gb394) hb; replace HB := hB hb; (try clear hb); (try clear hb2); (try clear hk); (try clear hi); have hz24 := cz4 BK394))
   go_ret
   exact ⟨eS, bS⟩
 ·obtain rfl := Bool.eq_false_iff.mpr c5
  rw [if_neg nF] at H
  obtain rfl := Option.some.inj H
  simp only [Option.some.injEq, Prod.mk.injEq] at H
  obtain ⟨rfl⟩ := H
  go_enter Try.func84, Try.ntmps84
  go_wp2_with (first | ((with_reducible refine gD 3 ?_); refine bxE #[.int .i64 a0_0, .int .i64 a0_1, .int .i64 a0_2, .int .i64 a0_3] 52 ?_; intro gb394 hg w25 BK394 hb; have GW394 := gE hg; have GE394 := gE hg; replace HB := hB hb; clear hb hg; have hz26 := cz4 BK394) | ((with_reducible refine gC 141 ?_); refine cL (some 8) Try.func141 #[.agg #[.int .i64 a0_0, .int .i64 a0_1, .int .i64 a0_2, .int .i64 a0_3]] ?_; (with_reducible refine (impl_BoxOk.calls a0_0 a0_1 a0_2 a0_3 _ _ A4.out).mono ?_); rintro e w27 ⟨rfl, hb⟩; refine ⟨_, rfl, ?_⟩; replace BK394 := kB (g := gb394) hb; replace HB := hB hb; (try clear hb); (try clear hb2); (try clear hk); (try clear hi)))
  go_ret
  exact ⟨eS, bS⟩

end Go.Proofs.Ytcalgoembdmlkaa.QFnObjects
