/- Walks of functions of the program, made out of the translation by a program of this session: each answers what its plain function tells, for every input at which that is told. -/
import Derived.Test.YtjkgponlahfnjaaGreatQFnExactExecTokenx0
import Derived.Test.YtjkgponlahfnjaaGreatQFnExactExecTokenx21
import Derived.Test.YtjkgponlahfnjaaGreatQFnExactExecTokenx22
namespace Go.Proofs.YtjkgponlahfnjaaGreat.QFnExactExecToken
open Go.RowKit Go.Proofs.YtjkgponlahfnjaaGreatW.PrintWords Go.Proofs.YtjkgponlahfnjaaGreatW.PrintLast Go.Proofs.YtjkgponlahfnjaaGreatW.PrintMore
attribute [local go_sem] max2_int min2_int max_two min_two max_three min_three max_four min_four   -- for this text's walks alone
set_option linter.unusedVariables false
set_option linter.unusedSimpArgs false
set_option maxHeartbeats 8000000
set_option maxRecDepth 100000
/-! ### laws_eqObjectS: function 47 -/
def laws_eqObjectS.l0 : Nat → List (S103) → List (S103) → Int → Option (Bool)
 | 0, _, _, _ => none
 | k + 1, x0, x1, x5 => if x5 < (x0.length : Int) then (if 0 ≤ x5 then (if x5 < (x1.length : Int) then ((laws_eqObject.f k ((rd_T103 x0 x5).f0) ((rd_T103 x0 x5).f1) ((rd_T103 x0 x5).f2.f0) ((rd_T103 x0 x5).f2.f1) ((rd_T103 x0 x5).f2.f2) ((rd_T103 x0 x5).f2.f3) ((rd_T103 x1 x5).f0) ((rd_T103 x1 x5).f1) ((rd_T103 x1 x5).f2.f0) ((rd_T103 x1 x5).f2.f1) ((rd_T103 x1 x5).f2.f2) ((rd_T103 x1 x5).f2.f3)).bind fun a2 => (if a2 = true then (laws_eqObjectS.l0 k x0 x1 (wrap64 (x5 + 1))) else (some false))) else (none)) else (none)) else (some true)
def laws_eqObjectS.f (k : Nat) (l0 : List (S103)) (l1 : List (S103)) : Option (Bool) := if (l0.length : Int) = (l1.length : Int) then (laws_eqObjectS.l0 k l0 l1 0) else (some false)
theorem laws_eqObjectS.calls (k : Nat) (A0 : Option Addr) (c0 : Nat) (l0 : List (S103)) (A1 : Option Addr) (c1 : Nat) (l1 : List (S103)) (r : Bool) (w : World) (hr0 : Kd.C k103 w A0 l0.length l0) (f7 : l0.length ≤ c0) (f8 : Kd.C k103 w A1 l1.length l1) (f9 : l1.length ≤ c1) (h : laws_eqObjectS.f k l0 l1 = some r) :
  Calls Tryz.prog 47 #[.slice A0 l0.length c0, .slice A1 l1.length c1] w fun e w' => e = .returned (.bool r) ∧ Below w.heap.size w w' := by
 have hu103 := Tryz.underlying103
 have g0 := aM hr0
 have g6 := aM f7
 clear hr0 f7
 have g1 := aM f8
 have g7 := aM f9
 clear f8 f9
 have HB := aM (Below.refl w.heap.size w)
 have H := h
 clear h
 unfold laws_eqObjectS.f at H
 by_cases c3 : (l0.length : Int) = (l1.length : Int)
 ·rw [if_pos c3] at H
  have e8 : ((l0.length : Int) == (l1.length : Int)) = true := beq_iff_eq.mpr c3
  have e9 : ((l0.length : Int) != (l1.length : Int)) = false := bne_eq_false_iff_eq.mpr c3
  have f4 : (l0.length == l1.length) = true := by first | simpa using c3 | (simp at c3 ⊢; omega)
  clear c3
  have H' := aM H
  clear H
  go_enter Tryz.func47, Tryz.ntmps47
  go_wp2
  go_loopg [5] k (fun kq v5 w' => ∃ (a2 : Int), v5 = .int .i64 a2 ∧ Aside0 (laws_eqObjectS.l0 kq l0 l1 a2 = some r) ∧ Aside0 (kq ≤ k) ∧ Aside0 (Below w.heap.size w w'))
  case atStart => exact ⟨(0), fS, H', ⟨Nat.le_refl _⟩, ⟨bS⟩⟩
  case round =>
   clear H'
   try clear c1
   try clear p2
   try clear c3
   try clear e8
   try clear e9
   try clear f4
   obtain ⟨a2, rfl, HA, g2, HB⟩ := hrel
   cases gk with
   | zero => exact absurd HA.out (by simp [laws_eqObjectS.l0])
   | succ k1 =>
    have H := HA.out
    clear HA
    simp only [laws_eqObjectS.l0] at H
    rcases iD H with ⟨f6, H⟩ | ⟨f6, H⟩
    ·obtain ⟨g3, H⟩ := iT H
     obtain ⟨g4, H⟩ := iT H
     replace H := bN H
     obtain ⟨f5, A7, H⟩ := H
     by_cases c8 : f5 = true
     ·subst c8
      rw [if_pos rfl] at H
      have H' := aM H
      clear H
      try go_wp2
      replace HB := hD HB
      have e0 : 0 ≤ (a2 : Int) := dA
      have e1 : a2 < (l0.length : Int) := dA
      obtain ⟨a3, d3, d4, e6, a6, a7, a8, a9, b0, b1, hl1107_0, hi1107_0⟩ := at_T103 g0.out a2 e0 e1
      have hw1107_5 := b1
      have hw1107_4 := b0
      have hw1107_3 := a9
      have hw1107_2 := a8
      have hw1107_1 := a7
      have hw1107_0 := a6
      cases e6
      replace a6 := cB HB a6
      replace a7 := cB HB a7
      replace a8 := cB HB a8
      replace a9 := cB HB a9
      replace b0 := cB HB b0
      replace b1 := cB HB b1
      have d1 := aM hi1107_0
      have e2 := aM hl1107_0
      clear hi1107_0 hl1107_0
      replace e0 := eq_true e0
      replace e1 := eq_true e1
      have e3 : 0 ≤ (a2 : Int) := dA
      have e4 : a2 < (l1.length : Int) := dA
      obtain ⟨a5, d5, d6, e7, b2, b6, b7, b8, b9, d0, hl1108_0, hi1108_0⟩ := at_T103 g1.out a2 e3 e4
      have hw1108_5 := d0
      have hw1108_4 := b9
      have hw1108_3 := b8
      have hw1108_2 := b7
      have hw1108_1 := b6
      have hw1108_0 := b2
      cases e7
      replace b2 := cB HB b2
      replace b6 := cB HB b6
      replace b7 := cB HB b7
      replace b8 := cB HB b8
      replace b9 := cB HB b9
      replace d0 := cB HB d0
      have d2 := aM hi1108_0
      have e5 := aM hl1108_0
      clear hi1108_0 hl1108_0
      replace e3 := eq_true e3
      replace e4 := eq_true e4
      refine start_ (n := 10) (S := fun w' => w'.cell? (a3.add ((a2).toNat * 6)) = some (.slice d3 ((rd_T103 l0 a2).f0).length d4) ∧ w'.cell? ⟨(a3.add ((a2).toNat * 6)).block, (a3.add ((a2).toNat * 6)).off + 1, none⟩ = some (.int .i64 ((rd_T103 l0 a2).f1)) ∧ w'.cell? ⟨(a3.add ((a2).toNat * 6)).block, (a3.add ((a2).toNat * 6)).off + 2, none⟩ = some (.int .i64 ((rd_T103 l0 a2).f2.f0)) ∧ w'.cell? ⟨(a3.add ((a2).toNat * 6)).block, (a3.add ((a2).toNat * 6)).off + 3, none⟩ = some (.int .i64 ((rd_T103 l0 a2).f2.f1)) ∧ w'.cell? ⟨(a3.add ((a2).toNat * 6)).block, (a3.add ((a2).toNat * 6)).off + 4, none⟩ = some (.int .i64 ((rd_T103 l0 a2).f2.f2)) ∧ w'.cell? ⟨(a3.add ((a2).toNat * 6)).block, (a3.add ((a2).toNat * 6)).off + 5, none⟩ = some (.int .i64 ((rd_T103 l0 a2).f2.f3)) ∧ w'.cell? (a5.add ((a2).toNat * 6)) = some (.slice d5 ((rd_T103 l1 a2).f0).length d6) ∧ w'.cell? ⟨(a5.add ((a2).toNat * 6)).block, (a5.add ((a2).toNat * 6)).off + 1, none⟩ = some (.int .i64 ((rd_T103 l1 a2).f1)) ∧ w'.cell? ⟨(a5.add ((a2).toNat * 6)).block, (a5.add ((a2).toNat * 6)).off + 2, none⟩ = some (.int .i64 ((rd_T103 l1 a2).f2.f0)) ∧ w'.cell? ⟨(a5.add ((a2).toNat * 6)).block, (a5.add ((a2).toNat * 6)).off + 3, none⟩ = some (.int .i64 ((rd_T103 l1 a2).f2.f1)) ∧ w'.cell? ⟨(a5.add ((a2).toNat * 6)).block, (a5.add ((a2).toNat * 6)).off + 4, none⟩ = some (.int .i64 ((rd_T103 l1 a2).f2.f2)) ∧ w'.cell? ⟨(a5.add ((a2).toNat * 6)).block, (a5.add ((a2).toNat * 6)).off + 5, none⟩ = some (.int .i64 ((rd_T103 l1 a2).f2.f3))) (ds := []) (mB 10 0) (by kernel_rfl) rfl rfl ⟨(cB HB hw1107_0), (cB HB hw1107_1), (cB HB hw1107_2), (cB HB hw1107_3), (cB HB hw1107_4), (cB HB hw1107_5), (cB HB hw1108_0), (cB HB hw1108_1), (cB HB hw1108_2), (cB HB hw1108_3), (cB HB hw1108_4), (cB HB hw1108_5)⟩ (fun hHeld => ?_)
      generalize wr.drew = w9 at HB d1 d2 a6 a7 a8 a9 b0 b1 b2 b6 b7 b8 b9 d0 hHeld ⊢
      refine pU 0 (some 17) (mB 10 1) ?_
      refine pU 1 (some 18) (mB 10 3) ?_
      refine pU 2 (some 19) (mB 10 7) ?_
      refine pU 4 (some 21) (mB 10 23) ?_
      refine pU 5 (some 22) (mB 10 55) ?_
      refine pU 6 (some 23) (mB 10 119) ?_
      refine tK 3 (some 20) (mB 10 127) ?_
      refine tK 7 (some 24) (mB 10 255) ?_
      refine one_ (i := 8) (N := some 25) (mB 10 511) rfl rfl (by kernel_rfl) (by decide) (fun K hK => ?_)
      refine goes_ Tryz.func99 (by kernel_rfl) rfl #[.agg #[.slice d3 ((rd_T103 l0 a2).f0).length d4, .int .i64 ((rd_T103 l0 a2).f1), .int .i64 ((rd_T103 l0 a2).f2.f0), .int .i64 ((rd_T103 l0 a2).f2.f1), .int .i64 ((rd_T103 l0 a2).f2.f2), .int .i64 ((rd_T103 l0 a2).f2.f3)], .agg #[.slice d5 ((rd_T103 l1 a2).f0).length d6, .int .i64 ((rd_T103 l1 a2).f1), .int .i64 ((rd_T103 l1 a2).f2.f0), .int .i64 ((rd_T103 l1 a2).f2.f1), .int .i64 ((rd_T103 l1 a2).f2.f2), .int .i64 ((rd_T103 l1 a2).f2.f3)]] (by rfl) rfl rfl mA ?_
      with_reducible refine (laws_eqObject.calls k1 _ _ ((rd_T103 l0 a2).f0) ((rd_T103 l0 a2).f1) ((rd_T103 l0 a2).f2.f0) ((rd_T103 l0 a2).f2.f1) ((rd_T103 l0 a2).f2.f2) ((rd_T103 l0 a2).f2.f3) _ _ ((rd_T103 l1 a2).f0) ((rd_T103 l1 a2).f1) ((rd_T103 l1 a2).f2.f0) ((rd_T103 l1 a2).f2.f1) ((rd_T103 l1 a2).f2.f2) ((rd_T103 l1 a2).f2.f3) _ _ ?side1 ?side2 ?side3 ?side4 A7.out).mono ?_
      (case side1 => exact cS (Kd.C_below d1.out HB.out))
      (case side2 => exact e2.out)
      (case side3 => exact cS (Kd.C_below d2.out HB.out))
      (case side4 => exact e5.out)
      rintro e g8 ⟨rfl, hb⟩
      refine ⟨_, rfl, ?_⟩
      replace HB := hB hb
      (try clear hb)
      (try clear g5)
      (try clear hk)
      (try clear hi)
      refine hK.out _ _ ⟨(cB HB hw1107_0), (cB HB hw1107_1), (cB HB hw1107_2), (cB HB hw1107_3), (cB HB hw1107_4), (cB HB hw1107_5), (cB HB hw1108_0), (cB HB hw1108_1), (cB HB hw1108_2), (cB HB hw1108_3), (cB HB hw1108_4), (cB HB hw1108_5)⟩ (fun hHeld => ?_)
      clear hK K
      refine norm_ (a' := ?_) ?_ ?_
      rotate_left
      ·show Act.put _ (some 25) _ = _
       simp only [Act.put, List.setIfInBounds_toArray, List.set_cons_zero, List.set_cons_succ, i64_w, i32_w]
       rfl
      refine pU 9 (some 26) (mB 10 1023) ?_
      refine done_ (by kernel_rfl) ?_
      try go_wp2
      go_roundg k1
      case measure => have := g2.out; omega
      case rel => exact ⟨(wrap64 (a2 + 1)), fS, H', ⟨by have := g2.out; omega⟩, ⟨bS⟩⟩
     ·obtain rfl := Bool.eq_false_iff.mpr c8
      rw [if_neg nF] at H
      obtain rfl := Option.some.inj H
      try go_wp2
      replace HB := hD HB
      have e0 : 0 ≤ (a2 : Int) := dA
      have e1 : a2 < (l0.length : Int) := dA
      obtain ⟨a3, d3, d4, e6, a6, a7, a8, a9, b0, b1, hl1107_0, hi1107_0⟩ := at_T103 g0.out a2 e0 e1
      have hw1107_5 := b1
      have hw1107_4 := b0
      have hw1107_3 := a9
      have hw1107_2 := a8
      have hw1107_1 := a7
      have hw1107_0 := a6
      cases e6
      replace a6 := cB HB a6
      replace a7 := cB HB a7
      replace a8 := cB HB a8
      replace a9 := cB HB a9
      replace b0 := cB HB b0
      replace b1 := cB HB b1
      have d1 := aM hi1107_0
      have e2 := aM hl1107_0
      clear hi1107_0 hl1107_0
      replace e0 := eq_true e0
      replace e1 := eq_true e1
      have e3 : 0 ≤ (a2 : Int) := dA
      have e4 : a2 < (l1.length : Int) := dA
      obtain ⟨a5, d5, d6, e7, b2, b6, b7, b8, b9, d0, hl1108_0, hi1108_0⟩ := at_T103 g1.out a2 e3 e4
      have hw1108_5 := d0
      have hw1108_4 := b9
      have hw1108_3 := b8
      have hw1108_2 := b7
      have hw1108_1 := b6
      have hw1108_0 := b2
      cases e7
      replace b2 := cB HB b2
      replace b6 := cB HB b6
      replace b7 := cB HB b7
      replace b8 := cB HB b8
      replace b9 := cB HB b9
      replace d0 := cB HB d0
      have d2 := aM hi1108_0
      have e5 := aM hl1108_0
      clear hi1108_0 hl1108_0
      replace e3 := eq_true e3
      replace e4 := eq_true e4
      refine start_ (n := 10) (S := fun w' => w'.cell? (a3.add ((a2).toNat * 6)) = some (.slice d3 ((rd_T103 l0 a2).f0).length d4) ∧ w'.cell? ⟨(a3.add ((a2).toNat * 6)).block, (a3.add ((a2).toNat * 6)).off + 1, none⟩ = some (.int .i64 ((rd_T103 l0 a2).f1)) ∧ w'.cell? ⟨(a3.add ((a2).toNat * 6)).block, (a3.add ((a2).toNat * 6)).off + 2, none⟩ = some (.int .i64 ((rd_T103 l0 a2).f2.f0)) ∧ w'.cell? ⟨(a3.add ((a2).toNat * 6)).block, (a3.add ((a2).toNat * 6)).off + 3, none⟩ = some (.int .i64 ((rd_T103 l0 a2).f2.f1)) ∧ w'.cell? ⟨(a3.add ((a2).toNat * 6)).block, (a3.add ((a2).toNat * 6)).off + 4, none⟩ = some (.int .i64 ((rd_T103 l0 a2).f2.f2)) ∧ w'.cell? ⟨(a3.add ((a2).toNat * 6)).block, (a3.add ((a2).toNat * 6)).off + 5, none⟩ = some (.int .i64 ((rd_T103 l0 a2).f2.f3)) ∧ w'.cell? (a5.add ((a2).toNat * 6)) = some (.slice d5 ((rd_T103 l1 a2).f0).length d6) ∧ w'.cell? ⟨(a5.add ((a2).toNat * 6)).block, (a5.add ((a2).toNat * 6)).off + 1, none⟩ = some (.int .i64 ((rd_T103 l1 a2).f1)) ∧ w'.cell? ⟨(a5.add ((a2).toNat * 6)).block, (a5.add ((a2).toNat * 6)).off + 2, none⟩ = some (.int .i64 ((rd_T103 l1 a2).f2.f0)) ∧ w'.cell? ⟨(a5.add ((a2).toNat * 6)).block, (a5.add ((a2).toNat * 6)).off + 3, none⟩ = some (.int .i64 ((rd_T103 l1 a2).f2.f1)) ∧ w'.cell? ⟨(a5.add ((a2).toNat * 6)).block, (a5.add ((a2).toNat * 6)).off + 4, none⟩ = some (.int .i64 ((rd_T103 l1 a2).f2.f2)) ∧ w'.cell? ⟨(a5.add ((a2).toNat * 6)).block, (a5.add ((a2).toNat * 6)).off + 5, none⟩ = some (.int .i64 ((rd_T103 l1 a2).f2.f3))) (ds := []) (mB 10 0) (by kernel_rfl) rfl rfl ⟨(cB HB hw1107_0), (cB HB hw1107_1), (cB HB hw1107_2), (cB HB hw1107_3), (cB HB hw1107_4), (cB HB hw1107_5), (cB HB hw1108_0), (cB HB hw1108_1), (cB HB hw1108_2), (cB HB hw1108_3), (cB HB hw1108_4), (cB HB hw1108_5)⟩ (fun hHeld => ?_)
      generalize wr.drew = g9 at HB d1 d2 a6 a7 a8 a9 b0 b1 b2 b6 b7 b8 b9 d0 hHeld ⊢
      refine pU 0 (some 17) (mB 10 1) ?_
      refine pU 1 (some 18) (mB 10 3) ?_
      refine pU 2 (some 19) (mB 10 7) ?_
      refine pU 4 (some 21) (mB 10 23) ?_
      refine pU 5 (some 22) (mB 10 55) ?_
      refine pU 6 (some 23) (mB 10 119) ?_
      refine tK 3 (some 20) (mB 10 127) ?_
      refine tK 7 (some 24) (mB 10 255) ?_
      refine one_ (i := 8) (N := some 25) (mB 10 511) rfl rfl (by kernel_rfl) (by decide) (fun K hK => ?_)
      refine goes_ Tryz.func99 (by kernel_rfl) rfl #[.agg #[.slice d3 ((rd_T103 l0 a2).f0).length d4, .int .i64 ((rd_T103 l0 a2).f1), .int .i64 ((rd_T103 l0 a2).f2.f0), .int .i64 ((rd_T103 l0 a2).f2.f1), .int .i64 ((rd_T103 l0 a2).f2.f2), .int .i64 ((rd_T103 l0 a2).f2.f3)], .agg #[.slice d5 ((rd_T103 l1 a2).f0).length d6, .int .i64 ((rd_T103 l1 a2).f1), .int .i64 ((rd_T103 l1 a2).f2.f0), .int .i64 ((rd_T103 l1 a2).f2.f1), .int .i64 ((rd_T103 l1 a2).f2.f2), .int .i64 ((rd_T103 l1 a2).f2.f3)]] (by rfl) rfl rfl mA ?_
      with_reducible refine (laws_eqObject.calls k1 _ _ ((rd_T103 l0 a2).f0) ((rd_T103 l0 a2).f1) ((rd_T103 l0 a2).f2.f0) ((rd_T103 l0 a2).f2.f1) ((rd_T103 l0 a2).f2.f2) ((rd_T103 l0 a2).f2.f3) _ _ ((rd_T103 l1 a2).f0) ((rd_T103 l1 a2).f1) ((rd_T103 l1 a2).f2.f0) ((rd_T103 l1 a2).f2.f1) ((rd_T103 l1 a2).f2.f2) ((rd_T103 l1 a2).f2.f3) _ _ ?side1 ?side2 ?side3 ?side4 A7.out).mono ?_
      (case side1 => exact cS (Kd.C_below d1.out HB.out))
      (case side2 => exact e2.out)
      (case side3 => exact cS (Kd.C_below d2.out HB.out))
      (case side4 => exact e5.out)
      rintro e h0 ⟨rfl, hb⟩
      refine ⟨_, rfl, ?_⟩
      replace HB := hB hb
      (try clear hb)
      (try clear g5)
      (try clear hk)
      (try clear hi)
      refine hK.out _ _ ⟨(cB HB hw1107_0), (cB HB hw1107_1), (cB HB hw1107_2), (cB HB hw1107_3), (cB HB hw1107_4), (cB HB hw1107_5), (cB HB hw1108_0), (cB HB hw1108_1), (cB HB hw1108_2), (cB HB hw1108_3), (cB HB hw1108_4), (cB HB hw1108_5)⟩ (fun hHeld => ?_)
      clear hK K
      refine norm_ (a' := ?_) ?_ ?_
      rotate_left
      ·show Act.put _ (some 25) _ = _
       simp only [Act.put, List.setIfInBounds_toArray, List.set_cons_zero, List.set_cons_succ, i64_w, i32_w]
       rfl
      refine pU 9 (some 26) (mB 10 1023) ?_
      refine done_ (by kernel_rfl) ?_
      try go_wp2
      go_ret
      exact ⟨eS, bS⟩
    ·obtain rfl := Option.some.inj H
     go_wp2
     go_ret
     exact ⟨eS, bS⟩
 ·rw [if_neg c3] at H
  have e8 : ((l0.length : Int) == (l1.length : Int)) = false := beq_eq_false_iff_ne.mpr c3
  have e9 : ((l0.length : Int) != (l1.length : Int)) = true := bne_iff_ne.mpr c3
  have f4 : (l0.length == l1.length) = false := by first | simpa using c3 | (simp at c3 ⊢; omega)
  obtain rfl := Option.some.inj H
  go_enter Tryz.func47, Tryz.ntmps47
  go_wp2
  go_ret
  exact ⟨eS, bS⟩
def laws_eqPage.f (k : Nat) (b2 : List Int) (b6 : Int) (b7 : Int) (b8 : Int) (b9 : Int) (d0 : List (S111)) (d1 : Int) (d2 : Int) (d3 : Int) (d4 : Int) (a2 : Int) (a3 : List (S42)) (a5 : List (S103)) (d5 : List Int) (d6 : Int) (e0 : Int) (e1 : Int) (e2 : Int) (e3 : List (S111)) (e4 : Int) (e5 : Int) (e6 : Int) (e7 : Int) (a6 : Int) (a7 : List (S42)) (a8 : List (S103)) : Option (Bool) := (laws_eqGraphics.f k b2 b6 b7 b8 b9 d0 d1 d2 d3 d4 a2 d5 d6 e0 e1 e2 e3 e4 e5 e6 e7 a6).bind fun a9 => (if a9 = true then ((laws_eqGraphicsS.f k a3 a7).bind fun b0 => (if b0 = true then ((laws_eqObjectS.f k a5 a8).bind fun b1 => (if b1 = true then (some true) else (some false))) else (some false))) else (some false))
theorem laws_eqPage.lf0 {p : Prop} (h : p := by
 go_enter Tryz.func11, Tryz.ntmps11
 go_wp2_with (first | ((with_reducible refine gD 2 ?_); refine bxE #[.slice g1 b8.length g2, .int .i64 d2, .int .i64 d3, .int .i64 d4, .int .i64 d5, .slice g3 b9.length g4, .int .i64 d6, .int .i64 e0, .int .i64 e1, .int .i64 e2, .int .i64 b6, .slice e3 a9.length e4, .slice e5 b1.length e6] 46 ?_; intro a3 hg m3 a2 hb; have GE1110 := gE hg; replace HB := hB hb; clear hb hg) | ((with_reducible refine gD 3 ?_); refine bxE #[.slice g5 d0.length g6, .int .i64 e7, .int .i64 e8, .int .i64 e9, .int .i64 f0, .slice g7 d1.length g8, .int .i64 f3, .int .i64 f4, .int .i64 f5, .int .i64 f6, .int .i64 b7, .slice f7 b0.length f8, .slice f9 b2.length g0] 46 ?_; intro a8 hg m4 a5 hb; have GE1111 := gE hg; have a6 := nL_ a3 hg; have a7 := nG_ a3 hg; replace a2 := kB_ a3 hb; replace HB := hB hb; clear hb hg; have hnb23 := nP a6 a7; have hz24 := cz13 a2; have hz25 := cz13 a5) | ((with_reducible refine gC 45 ?_); refine cM (some 9) Tryz.func45 (laws_eqGraphics.calls k _ _ b8 d2 d3 d4 d5 _ _ b9 d6 e0 e1 e2 b6 _ _ d0 e7 e8 e9 f0 _ _ d1 f3 f4 f5 f6 b7 _ _ (cC g9 HB) h0.out (cC h1 HB) h2.out (cC h3 HB) h4.out (cC h5 HB) h6.out A3.out) ?_; rintro e m5 ⟨rfl, hb⟩; refine ⟨_, rfl, ?_⟩; replace a2 := kB_ a3 hb; replace a5 := kB_ a8 hb; replace HB := hB hb; (try clear hb); have k9 := cg11 a2; have l3 := cg12 a2; have l4 := cg11 a5; have l5 := cg12 a5) | ((with_reducible refine gC 46 ?_); refine cM (some 15) Tryz.func46 (laws_eqGraphicsS.calls k _ _ a9 _ _ b0 _ _ (cC h7 HB) h8.out (cC h9 HB) i1.out A5.out) ?_; rintro e m6 ⟨rfl, hb⟩; refine ⟨_, rfl, ?_⟩; replace a2 := kB_ a3 hb; replace a5 := kB_ a8 hb; replace HB := hB hb; (try clear hb); have l6 := cg12 a2; have l7 := cg12 a5) | ((with_reducible refine gC 47 ?_); refine cM (some 21) Tryz.func47 (laws_eqObjectS.calls k _ _ b1 _ _ b2 _ _ (cC k4 HB) k5.out (cC k6 HB) k7.out A7.out) ?_; rintro e m7 ⟨rfl, hb⟩; refine ⟨_, rfl, ?_⟩; replace a2 := kB_ a3 hb; replace a5 := kB_ a8 hb; replace HB := hB hb; (try clear hb)))
 go_ret
 exact ⟨eS, bS⟩) : p := h
theorem laws_eqPage.calls (k : Nat) (g1 : Option Addr) (g2 : Nat) (b8 : List Int) (d2 : Int) (d3 : Int) (d4 : Int) (d5 : Int) (g3 : Option Addr) (g4 : Nat) (b9 : List (S111)) (d6 : Int) (e0 : Int) (e1 : Int) (e2 : Int) (b6 : Int) (e3 : Option Addr) (e4 : Nat) (a9 : List (S42)) (e5 : Option Addr) (e6 : Nat) (b1 : List (S103)) (g5 : Option Addr) (g6 : Nat) (d0 : List Int) (e7 : Int) (e8 : Int) (e9 : Int) (f0 : Int) (g7 : Option Addr) (g8 : Nat) (d1 : List (S111)) (f3 : Int) (f4 : Int) (f5 : Int) (f6 : Int) (b7 : Int) (f7 : Option Addr) (f8 : Nat) (b0 : List (S42)) (f9 : Option Addr) (g0 : Nat) (b2 : List (S103)) (r : Bool) (w : World) (j6 : Kd.C (Kd.int .i64) w g1 b8.length b8) (j7 : b8.length ≤ g2) (j8 : Kd.C k111 w g3 b9.length b9) (j9 : b9.length ≤ g4) (i3 : Kd.C k42 w e3 a9.length a9) (i4 : a9.length ≤ e4) (i5 : Kd.C k103 w e5 b1.length b1) (i6 : b1.length ≤ e6) (k0 : Kd.C (Kd.int .i64) w g5 d0.length d0) (k1 : d0.length ≤ g6) (k2 : Kd.C k111 w g7 d1.length d1) (k3 : d1.length ≤ g8) (i7 : Kd.C k42 w f7 b0.length b0) (i8 : b0.length ≤ f8) (i9 : Kd.C k103 w f9 b2.length b2) (j5 : b2.length ≤ g0) (h : laws_eqPage.f k b8 d2 d3 d4 d5 b9 d6 e0 e1 e2 b6 a9 b1 d0 e7 e8 e9 f0 d1 f3 f4 f5 f6 b7 b0 b2 = some r) :
  Calls Tryz.prog 11 #[.agg #[.slice g1 b8.length g2, .int .i64 d2, .int .i64 d3, .int .i64 d4, .int .i64 d5, .slice g3 b9.length g4, .int .i64 d6, .int .i64 e0, .int .i64 e1, .int .i64 e2, .int .i64 b6, .slice e3 a9.length e4, .slice e5 b1.length e6], .agg #[.slice g5 d0.length g6, .int .i64 e7, .int .i64 e8, .int .i64 e9, .int .i64 f0, .slice g7 d1.length g8, .int .i64 f3, .int .i64 f4, .int .i64 f5, .int .i64 f6, .int .i64 b7, .slice f7 b0.length f8, .slice f9 b2.length g0]] w fun e w' => e = .returned (.bool r) ∧ Below w.heap.size w w' := by
 have hu46 := Tryz.underlying46
 have hu42 := Tryz.underlying42
 have g9 := aM j6
 have h0 := aM j7
 clear j6 j7
 have h1 := aM j8
 have h2 := aM j9
 clear j8 j9
 have h7 := aM i3
 have h8 := aM i4
 clear i3 i4
 have k4 := aM i5
 have k5 := aM i6
 clear i5 i6
 have h3 := aM k0
 have h4 := aM k1
 clear k0 k1
 have h5 := aM k2
 have h6 := aM k3
 clear k2 k3
 have h9 := aM i7
 have i1 := aM i8
 clear i7 i8
 have k6 := aM i9
 have k7 := aM j5
 clear i9 j5
 have HB := aM (Below.refl w.heap.size w)
 have H := h
 clear h
 unfold laws_eqPage.f at H
 replace H := bN H
 obtain ⟨l8, A3, H⟩ := H
 by_cases c4 : l8 = true
 ·subst c4
  rw [if_pos rfl] at H
  replace H := bN H
  obtain ⟨l9, A5, H⟩ := H
  by_cases c6 : l9 = true
  ·subst c6
   rw [if_pos rfl] at H
   replace H := bN H
   obtain ⟨m0, A7, H⟩ := H
   by_cases c8 : m0 = true
   ·subst c8
    rw [if_pos rfl] at H
    obtain rfl := Option.some.inj H
    exact laws_eqPage.lf0
   ·obtain rfl := Bool.eq_false_iff.mpr c8
    rw [if_neg nF] at H
    obtain rfl := Option.some.inj H
    exact laws_eqPage.lf0
  ·obtain rfl := Bool.eq_false_iff.mpr c6
   rw [if_neg nF] at H
   obtain rfl := Option.some.inj H
   go_enter Tryz.func11, Tryz.ntmps11
   go_wp2_with (first | ((with_reducible refine gD 2 ?_); refine bxE #[.slice g1 b8.length g2, .int .i64 d2, .int .i64 d3, .int .i64 d4, .int .i64 d5, .slice g3 b9.length g4, .int .i64 d6, .int .i64 e0, .int .i64 e1, .int .i64 e2, .int .i64 b6, .slice e3 a9.length e4, .slice e5 b1.length e6] 46 ?_; intro a3 hg m8 a2 hb; have GE1110 := gE hg; replace HB := hB hb; clear hb hg) | ((with_reducible refine gD 3 ?_); refine bxE #[.slice g5 d0.length g6, .int .i64 e7, .int .i64 e8, .int .i64 e9, .int .i64 f0, .slice g7 d1.length g8, .int .i64 f3, .int .i64 f4, .int .i64 f5, .int .i64 f6, .int .i64 b7, .slice f7 b0.length f8, .slice f9 b2.length g0] 46 ?_; intro a8 hg m9 a5 hb; have GE1111 := gE hg; have a6 := nL_ a3 hg; have a7 := nG_ a3 hg; replace a2 := kB_ a3 hb; replace HB := hB hb; clear hb hg; have hnb35 := nP a6 a7; have hz36 := cz13 a2; have hz37 := cz13 a5) | ((with_reducible refine gC 45 ?_); refine cM (some 9) Tryz.func45 (laws_eqGraphics.calls k _ _ b8 d2 d3 d4 d5 _ _ b9 d6 e0 e1 e2 b6 _ _ d0 e7 e8 e9 f0 _ _ d1 f3 f4 f5 f6 b7 _ _ (cC g9 HB) h0.out (cC h1 HB) h2.out (cC h3 HB) h4.out (cC h5 HB) h6.out A3.out) ?_; rintro e n0 ⟨rfl, hb⟩; refine ⟨_, rfl, ?_⟩; replace a2 := kB_ a3 hb; replace a5 := kB_ a8 hb; replace HB := hB hb; (try clear hb); have m1 := cg11 a2; have m2 := cg11 a5) | ((with_reducible refine gC 46 ?_); refine cM (some 15) Tryz.func46 (laws_eqGraphicsS.calls k _ _ a9 _ _ b0 _ _ (cC h7 HB) h8.out (cC h9 HB) i1.out A5.out) ?_; rintro e n1 ⟨rfl, hb⟩; refine ⟨_, rfl, ?_⟩; replace a2 := kB_ a3 hb; replace a5 := kB_ a8 hb; replace HB := hB hb; (try clear hb)))
   go_ret
   exact ⟨eS, bS⟩
 ·obtain rfl := Bool.eq_false_iff.mpr c4
  rw [if_neg nF] at H
  obtain rfl := Option.some.inj H
  go_enter Tryz.func11, Tryz.ntmps11
  go_wp2_with (first | ((with_reducible refine gD 2 ?_); refine bxE #[.slice g1 b8.length g2, .int .i64 d2, .int .i64 d3, .int .i64 d4, .int .i64 d5, .slice g3 b9.length g4, .int .i64 d6, .int .i64 e0, .int .i64 e1, .int .i64 e2, .int .i64 b6, .slice e3 a9.length e4, .slice e5 b1.length e6] 46 ?_; intro a3 hg n2 a2 hb; have GE1110 := gE hg; replace HB := hB hb; clear hb hg) | ((with_reducible refine gD 3 ?_); refine bxE #[.slice g5 d0.length g6, .int .i64 e7, .int .i64 e8, .int .i64 e9, .int .i64 f0, .slice g7 d1.length g8, .int .i64 f3, .int .i64 f4, .int .i64 f5, .int .i64 f6, .int .i64 b7, .slice f7 b0.length f8, .slice f9 b2.length g0] 46 ?_; intro a8 hg n5 a5 hb; have GE1111 := gE hg; have a6 := nL_ a3 hg; have a7 := nG_ a3 hg; replace a2 := kB_ a3 hb; replace HB := hB hb; clear hb hg; have hnb44 := nP a6 a7; have hz45 := cz13 a2; have hz46 := cz13 a5) | ((with_reducible refine gC 45 ?_); refine cM (some 9) Tryz.func45 (laws_eqGraphics.calls k _ _ b8 d2 d3 d4 d5 _ _ b9 d6 e0 e1 e2 b6 _ _ d0 e7 e8 e9 f0 _ _ d1 f3 f4 f5 f6 b7 _ _ (cC g9 HB) h0.out (cC h1 HB) h2.out (cC h3 HB) h4.out (cC h5 HB) h6.out A3.out) ?_; rintro e n6 ⟨rfl, hb⟩; refine ⟨_, rfl, ?_⟩; replace a2 := kB_ a3 hb; replace a5 := kB_ a8 hb; replace HB := hB hb; (try clear hb)))
  go_ret
  exact ⟨eS, bS⟩
def laws_markIntS.l0 : Nat → List Int → Int → Int → Option (Int × List Int)
 | 0, _, _, _ => none
 | k + 1, x0, x1, x5 => if x5 < (x0.length : Int) then (if 0 ≤ x5 then (laws_markIntS.l0 k (x0.set (x5 : Int).toNat x1) (wrap64 (x1 + 1)) (wrap64 (x5 + 1))) else (none)) else (some (x1, x0))
def laws_markIntS.f (k : Nat) (l0 : List Int) (a1 : Int) : Option (Int × List Int) := laws_markIntS.l0 k l0 a1 0
theorem laws_markIntS.calls (k : Nat) (P0_ : Nat → Prop) (u9000_ : Value) (l0 : List Int) (a1 : Int) (r1 : Int) (r2 : List Int) (w0 w : World) (hB : Below w0.heap.size w0 w) (b6 : Kd.R (Kd.int .i64) 3 w w0.heap.size P0_ u9000_ l0) (h : laws_markIntS.f k l0 a1 = some (r1, r2)) :
  Calls Tryz.prog 100 #[u9000_, .int .i64 a1] w fun e w' => e = .returned (.int .i64 r1) ∧ Kd.R (Kd.int .i64) 3 w' w0.heap.size (fun k_ => (P0_ k_ ∨ w.heap.size ≤ k_)) u9000_ r2 ∧ Below w0.heap.size w0 w' ∧ Kept w w' (fun k_ => P0_ k_) := by
 have b7 := aM (show Kd.R (Kd.int .i64) 3 w w0.heap.size (fun k_ => (P0_ k_ ∨ w.heap.size ≤ k_)) u9000_ l0 from Kd.R_mono b6 (fun k_ hk => (.inl hk)))
 have HK := aM (Kept.refl w (fun k_ => P0_ k_))
 have HW0 := aM hB.size
 have HB := aM hB
 clear hB
 have H := h
 clear h
 unfold laws_markIntS.f at H
 have H' := aM H
 clear H
 go_enter Tryz.func100, Tryz.ntmps100
 go_wp2
 go_loopg [1, 5] k (fun kq v1 v5 w' => ∃ (a6 : List Int) (a5 : Int) (a2 : Int), v1 = .int .i64 a5 ∧ v5 = .int .i64 a2 ∧ Aside0 (laws_markIntS.l0 kq a6 a5 a2 = some (r1, r2)) ∧ Aside0 (kq ≤ k) ∧ Aside0 (Kd.R (Kd.int .i64) 3 w' w0.heap.size (fun k_ => (P0_ k_ ∨ w.heap.size ≤ k_)) u9000_ a6) ∧ Aside0 (Kept w w' (fun k_ => P0_ k_)) ∧ Aside0 (Below w0.heap.size w0 w'))
 case atStart => exact ⟨(l0), (a1), (0), fS, fS, H', ⟨Nat.le_refl _⟩, ⟨rS b7⟩, ⟨by repeat (first | (with_reducible first | exact HK.out | apply Kept.alloc | apply Kept.drewN | apply Kept.drew) | exact HK.out)⟩, ⟨bS⟩⟩
 case round =>
  clear H'
  try clear c1
  try clear p2
  obtain ⟨a6, a5, a2, rfl, rfl, HA, a9, a3, HK, HB⟩ := hrel
  cases gk with
  | zero => exact absurd HA.out (by simp [laws_markIntS.l0])
  | succ k1 =>
   have H := HA.out
   clear HA
   simp only [laws_markIntS.l0] at H
   rcases iD H with ⟨a8, H⟩ | ⟨a8, H⟩
   ·obtain ⟨b8, H⟩ := iT H
    obtain ⟨a7, hy_⟩ : ∃ y_ : List Int, y_ = (a6.set (a2 : Int).toNat a5) := ⟨_, rfl⟩
    replace H : (laws_markIntS.l0 k1 a7 (wrap64 (a5 + 1)) (wrap64 (a2 + 1))) = some (r1, r2) := yS
    have Ny1115 := aM hy_
    clear hy_
    have H' := aM H
    clear H
    obtain ⟨d2, b9, d0⟩ := Kd.R_slice a3.out
    subst d0
    have p5 : 0 ≤ (a2 : Int) := dA
    have q5 : (a2 : Int) < ((a6.length : Int) : Int) := dA
    obtain ⟨go5, d3, b0, b1, gl5, cl5, HG5⟩ := Kd.R_form a3.out (by omega)
    (first | cases b0 | (injection b0 with ea_ en_ ec_; (first | subst ea_ | (injection ea_ with ea_; subst ea_)); subst ec_; clear en_))
    have GB5 := aM b1
    have GG5 := aM HG5
    clear b1 gl5 HG5
    have HMgo5 := aM (show (P0_ go5 ∨ w.heap.size ≤ go5) from (a3.out.1 _ rfl))
    obtain ⟨b2, hf5_0⟩ := Kd.R_celln 0 a3.out (a2 : Int) p5 q5
    replace p5 := eq_true p5
    replace q5 := eq_true q5
    have HP7 := Kd.R_putg a3.out (a2 : Int) a5
    go_wp2_with (first | ((with_reducible refine gate_store (t := 3) (p := 15) rfl ?_); refine store_event (t := 3) (p := 15) (v := ?vo_w8) (w1 := (wr.setCell ⟨go5, (a2 : Int).toNat, none⟩ (.int .i64 a5))) ?hg ?ho ?hn ?hr ?_; (case ho => rfl); (case hg => rfl); (case hn => rfl); (case hr => first | (go_simp; done) | (go_simp; rfl)); intro w8 hw; have hg : wr.grownBy w8 (some go5) := (by rw [hw]; exact HP7.2); have hp_ : Kd.R (Kd.int .i64) 3 w8 w0.heap.size (fun k_ => (P0_ k_ ∨ w.heap.size ≤ k_)) (.slice (some ⟨go5, 0, none⟩) a6.length b9) a7 := (by rw [hw, Ny1115.out]; exact HP7.1); clear HP7; replace HB := aM ((by rw [hw]; exact below_set (HB.out) GB5.out : Below w0.heap.size w0 w8)); replace HK := aM (Kept.of_grown (S := (fun k_ => P0_ k_)) hg (by repeat (first | (with_reducible first | exact HK.out | apply Kept.alloc | apply Kept.drewN | apply Kept.drew) | exact HK.out)) (fun k_ e_ => (a3.out.1 k_ e_))); replace a3 := aM (hp_); clear hg hw hp_))
    go_roundg k1
    case measure => have := a9.out; omega
    case rel => exact ⟨(a7), (wrap64 (a5 + 1)), (wrap64 (a2 + 1)), fS, fS, H', ⟨by have := a9.out; omega⟩, ⟨rS a3⟩, ⟨by repeat (first | (with_reducible first | exact HK.out | apply Kept.alloc | apply Kept.drewN | apply Kept.drew) | exact HK.out)⟩, ⟨bS⟩⟩
   ·obtain ⟨rfl, rfl⟩ := sI2 H
    obtain ⟨d4, d5, d1⟩ := Kd.R_slice a3.out
    subst d1
    go_wp2
    go_ret
    exact ⟨eS, rS a3, bS, by repeat (first | (with_reducible first | exact HK.out | apply Kept.alloc | apply Kept.drewN | apply Kept.drew) | exact HK.out)⟩
def laws_markPointS.l0 : Nat → List (S111) → Int → Int → Option (Int × (List (S111)))
 | 0, _, _, _ => none
 | k + 1, x0, x1, x5 => if x5 < (x0.length : Int) then (if 0 ≤ x5 then ((some (x0.set (x5 : Int).toNat (⟨x1, (rd_T111 x0 x5).f1⟩ : S111) : List (S111))).bind fun a2 => (laws_markPointS.l0 k (a2.set (x5 : Int).toNat (⟨(rd_T111 a2 x5).f0, wrap64 (x1 + 1)⟩ : S111)) (wrap64 ((wrap64 (x1 + 1)) + 1)) (wrap64 (x5 + 1)))) else (none)) else (some (x1, x0))
def laws_markPointS.f (k : Nat) (l0 : List (S111)) (a1 : Int) : Option (Int × (List (S111))) := laws_markPointS.l0 k l0 a1 0
theorem laws_markPointS.calls (k : Nat) (P0_ : Nat → Prop) (u9000_ : Value) (l0 : List (S111)) (a1 : Int) (r1 : Int) (r2 : List (S111)) (w0 w : World) (hB : Below w0.heap.size w0 w) (d5 : Kd.R k111 111 w w0.heap.size P0_ u9000_ l0) (h : laws_markPointS.f k l0 a1 = some (r1, r2)) :
  Calls Tryz.prog 101 #[u9000_, .int .i64 a1] w fun e w' => e = .returned (.int .i64 r1) ∧ Kd.R k111 111 w' w0.heap.size (fun k_ => (P0_ k_ ∨ w.heap.size ≤ k_)) u9000_ r2 ∧ Below w0.heap.size w0 w' ∧ Kept w w' (fun k_ => P0_ k_) := by
 have d6 := aM (show Kd.R k111 111 w w0.heap.size (fun k_ => (P0_ k_ ∨ w.heap.size ≤ k_)) u9000_ l0 from Kd.R_mono d5 (fun k_ hk => (.inl hk)))
 have HK := aM (Kept.refl w (fun k_ => P0_ k_))
 have HW0 := aM hB.size
 have HB := aM hB
 clear hB
 have H := h
 clear h
 unfold laws_markPointS.f at H
 have H' := aM H
 clear H
 go_enter Tryz.func101, Tryz.ntmps101
 go_wp2
 go_loopg [1, 5] k (fun kq v1 v5 w' => ∃ (a3 : List (S111)) (a6 : Int) (a2 : Int), v1 = .int .i64 a6 ∧ v5 = .int .i64 a2 ∧ Aside0 (laws_markPointS.l0 kq a3 a6 a2 = some (r1, r2)) ∧ Aside0 (kq ≤ k) ∧ Aside0 (Kd.R k111 111 w' w0.heap.size (fun k_ => (P0_ k_ ∨ w.heap.size ≤ k_)) u9000_ a3) ∧ Aside0 (Kept w w' (fun k_ => P0_ k_)) ∧ Aside0 (Below w0.heap.size w0 w'))
 case atStart => exact ⟨(l0), (a1), (0), fS, fS, H', ⟨Nat.le_refl _⟩, ⟨rS d6⟩, ⟨by repeat (first | (with_reducible first | exact HK.out | apply Kept.alloc | apply Kept.drewN | apply Kept.drew) | exact HK.out)⟩, ⟨bS⟩⟩
 case round =>
  clear H'
  try clear c1
  try clear p2
  obtain ⟨a3, a6, a2, rfl, rfl, HA, b8, a5, HK, HB⟩ := hrel
  cases gk with
  | zero => exact absurd HA.out (by simp [laws_markPointS.l0])
  | succ k1 =>
   have H := HA.out
   clear HA
   simp only [laws_markPointS.l0] at H
   rcases iD H with ⟨b2, H⟩ | ⟨b2, H⟩
   ·obtain ⟨e0, H⟩ := iT H
    obtain ⟨a7, hy_⟩ : ∃ y_ : List (S111), y_ = (a3.set (a2 : Int).toNat (⟨a6, (rd_T111 a3 a2).f1⟩ : S111)) := ⟨_, rfl⟩
    replace H : (laws_markPointS.l0 k1 (a7.set (a2 : Int).toNat (⟨(rd_T111 a7 a2).f0, wrap64 (a6 + 1)⟩ : S111)) (wrap64 ((wrap64 (a6 + 1)) + 1)) (wrap64 (a2 + 1))) = some (r1, r2) := yS
    have Ny1116 := aM hy_
    clear hy_
    obtain ⟨a8, hy_⟩ : ∃ y_ : List (S111), y_ = (a7.set (a2 : Int).toNat (⟨(rd_T111 a7 a2).f0, wrap64 (a6 + 1)⟩ : S111)) := ⟨_, rfl⟩
    replace H : (laws_markPointS.l0 k1 a8 (wrap64 ((wrap64 (a6 + 1)) + 1)) (wrap64 (a2 + 1))) = some (r1, r2) := yS
    have Ny1117 := aM hy_
    clear hy_
    have H' := aM H
    clear H
    obtain ⟨e4, b1, e1⟩ := Kd.R_slice a5.out
    subst e1
    have p5 : 0 ≤ (a2 : Int) := dA
    have q5 : (a2 : Int) < ((a3.length : Int) : Int) := dA
    obtain ⟨go5, e5, b9, d0, gl5, cl5, HG5⟩ := Kd.R_form a5.out (by omega)
    (first | cases b9 | (injection b9 with ea_ en_ ec_; (first | subst ea_ | (injection ea_ with ea_; subst ea_)); subst ec_; clear en_))
    have GB5 := aM d0
    have GG5 := aM HG5
    clear d0 gl5 HG5
    have HMgo5 := aM (show (P0_ go5 ∨ w.heap.size ≤ go5) from (a5.out.1 _ rfl))
    obtain ⟨ce5, hcl5, hM5, hcc5, hfr5⟩ := Kd.R_elem a5.out z111 (a2 : Int) p5 q5
    obtain rfl := k111_openM hM5
    have d1 : wr.cell? ⟨go5, (a2 : Int).toNat * 2, none⟩ = some (.int .i64 ((rd_T111 a3 a2).f0)) := hcc5 0 _ rfl
    have d2 : wr.cell? ⟨go5, (a2 : Int).toNat * 2 + 1, none⟩ = some (.int .i64 ((rd_T111 a3 a2).f1)) := hcc5 1 _ rfl
    have hf5_0 : wr.frozen? ⟨go5, (a2 : Int).toNat * 2, none⟩ = false := hfr5 0
    have hf5_1 : wr.frozen? ⟨go5, (a2 : Int).toNat * 2 + 1, none⟩ = false := hfr5 1
    (try clear hM5); clear hcl5 hcc5 hfr5
    replace p5 := eq_true p5
    replace q5 := eq_true q5
    have HX8 := aM (show Kd.R k111 111 wr w0.heap.size (fun k_ => (P0_ k_ ∨ w.heap.size ≤ k_)) (.slice (some ⟨go5, 0, none⟩) a3.length b1) a3 from (rS a5))
    obtain ⟨ce8, hcl8, hM8, hcc8, hfr8⟩ := Kd.R_elem HX8.out z111 (a2 : Int) (dA) (by have h_ : (a2 : Int) < ((a3.length : Int) : Int) := dA; first | exact h_ | (have e_ := (Kd.R_reads' a5.out).1; omega) | simpa using h_)
    obtain rfl := k111_openM hM8
    have HP8 := Kd.R_seg HX8.out (a2 : Int) (dA) (by have h_ : (a2 : Int) < ((a3.length : Int) : Int) := dA; first | exact h_ | (have e_ := (Kd.R_reads' a5.out).1; omega) | simpa using h_) (seg := [.int .i64 a6]) (j := 0) hcl8 hcc8 (show 1 ≤ 2 from by decide) (x' := (⟨a6, (rd_T111 a3 a2).f1⟩ : S111)) (k111_mkM _ _ _ (⟨a6, (rd_T111 a3 a2).f1⟩ : S111) ) (fun _ hk => hk)
    have b0 := hcc8 0 _ rfl
    (try simp only [show (k111).sz = 2 from rfl, Nat.mul_one, Nat.add_zero] at b0)
    have hf8_0 := hfr8 0
    (try simp only [show (k111).sz = 2 from rfl, Nat.mul_one, Nat.add_zero] at hf8_0)
    (try clear hM8); clear hcl8 hcc8 hfr8
    go_wp2_with (first | ((with_reducible refine gate_store (t := 3) (p := 16) rfl ?_); refine store_event (t := 3) (p := 16) (v := ?vo_w9) (w1 := (wr.setCell ⟨go5, (a2 : Int).toNat * 2, none⟩ (.int .i64 a6))) ?hg ?ho ?hn ?hr ?_; (case ho => rfl); (case hg => rfl); (case hn => rfl); (case hr => first | (go_simp; done) | (go_simp; rfl)); intro w9 hw; have hg : wr.grownBy w9 (some go5) := (by rw [hw]; exact HP8.2); have hp_ : Kd.R k111 111 w9 w0.heap.size (fun k_ => (P0_ k_ ∨ w.heap.size ≤ k_)) (.slice (some ⟨go5, 0, none⟩) a3.length b1) a7 := (by rw [hw, Ny1116.out]; exact HP8.1); clear HP8; replace HB := aM ((by rw [hw]; exact below_set (HB.out) GB5.out : Below w0.heap.size w0 w9)); replace HK := aM (Kept.of_grown (S := (fun k_ => P0_ k_)) hg (by repeat (first | (with_reducible first | exact HK.out | apply Kept.alloc | apply Kept.drewN | apply Kept.drew) | exact HK.out)) (fun k_ e_ => (a5.out.1 k_ e_))); replace a5 := aM (hp_); clear hg hw hp_; have p6 : 0 ≤ (a2 : Int) := dA; have q6 : (a2 : Int) < ((a3.length : Int) : Int) := dA; obtain ⟨ce6, hcl6, hM6, hcc6, hfr6⟩ := Kd.R_elem a5.out z111 (a2 : Int) p6 q6; obtain rfl := k111_openM hM6; have d3 : w9.cell? ⟨go5, (a2 : Int).toNat * 2, none⟩ = some (.int .i64 ((rd_T111 a7 a2).f0)) := hcc6 0 _ rfl; have d4 : w9.cell? ⟨go5, (a2 : Int).toNat * 2 + 1, none⟩ = some (.int .i64 ((rd_T111 a7 a2).f1)) := hcc6 1 _ rfl; have hf6_0 : w9.frozen? ⟨go5, (a2 : Int).toNat * 2, none⟩ = false := hfr6 0; have hf6_1 : w9.frozen? ⟨go5, (a2 : Int).toNat * 2 + 1, none⟩ = false := hfr6 1; (try clear hM6); clear hcl6 hcc6 hfr6; replace p6 := eq_true p6; replace q6 := eq_true q6; have HX10 := aM (show Kd.R k111 111 w9 w0.heap.size (fun k_ => (P0_ k_ ∨ w.heap.size ≤ k_)) (.slice (some ⟨go5, 0, none⟩) a3.length b1) a7 from (rS a5)); obtain ⟨ce10, hcl10, hM10, hcc10, hfr10⟩ := Kd.R_elem HX10.out z111 (a2 : Int) (dA) (by have h_ : (a2 : Int) < ((a3.length : Int) : Int) := dA; first | exact h_ | (have e_ := (Kd.R_reads' a5.out).1; omega) | simpa using h_); obtain rfl := k111_openM hM10; have HP10 := Kd.R_seg HX10.out (a2 : Int) (dA) (by have h_ : (a2 : Int) < ((a3.length : Int) : Int) := dA; first | exact h_ | (have e_ := (Kd.R_reads' a5.out).1; omega) | simpa using h_) (seg := [.int .i64 (wrap64 (a6 + 1))]) (j := 1) hcl10 hcc10 (show 2 ≤ 2 from by decide) (x' := (⟨(rd_T111 a7 a2).f0, wrap64 (a6 + 1)⟩ : S111)) (k111_mkM _ _ _ (⟨(rd_T111 a7 a2).f0, wrap64 (a6 + 1)⟩ : S111) ) (fun _ hk => hk); have a9 := hcc10 1 _ rfl; (try simp only [show (k111).sz = 2 from rfl, Nat.mul_one, Nat.add_zero] at a9); have hf10_1 := hfr10 1; (try simp only [show (k111).sz = 2 from rfl, Nat.mul_one, Nat.add_zero] at hf10_1); (try clear hM10); clear hcl10 hcc10 hfr10) | ((with_reducible refine gate_store (t := 3) (p := 23) rfl ?_); refine store_event (t := 3) (p := 23) (v := ?vo_w11) (w1 := (w9.setCell ⟨go5, (a2 : Int).toNat * 2 + 1, none⟩ (.int .i64 (wrap64 (a6 + 1))))) ?hg ?ho ?hn ?hr ?_; (case ho => rfl); (case hg => rfl); (case hn => rfl); (case hr => first | (go_simp; done) | (go_simp; rfl)); intro b6 hw; have hg : w9.grownBy b6 (some go5) := (by rw [hw]; exact HP10.2); have hp_ : Kd.R k111 111 b6 w0.heap.size (fun k_ => (P0_ k_ ∨ w.heap.size ≤ k_)) (.slice (some ⟨go5, 0, none⟩) a3.length b1) a8 := (by rw [hw, Ny1117.out]; exact HP10.1); clear HP10; replace HB := aM ((by rw [hw]; exact below_set (HB.out) GB5.out : Below w0.heap.size w0 b6)); replace HK := aM (Kept.of_grown (S := (fun k_ => P0_ k_)) hg (by repeat (first | (with_reducible first | exact HK.out | apply Kept.alloc | apply Kept.drewN | apply Kept.drew) | exact HK.out)) (fun k_ e_ => (a5.out.1 k_ e_))); replace a5 := aM (hp_); clear hg hw hp_))
    go_roundg k1
    case measure => have := b8.out; omega
    case rel => exact ⟨(a8), (wrap64 ((wrap64 (a6 + 1)) + 1)), (wrap64 (a2 + 1)), fS, fS, H', ⟨by have := b8.out; omega⟩, ⟨rS a5⟩, ⟨by repeat (first | (with_reducible first | exact HK.out | apply Kept.alloc | apply Kept.drewN | apply Kept.drew) | exact HK.out)⟩, ⟨bS⟩⟩
   ·obtain ⟨rfl, rfl⟩ := sI2 H
    obtain ⟨e2, e3, b7⟩ := Kd.R_slice a5.out
    subst b7
    go_wp2
    go_ret
    exact ⟨eS, rS a5, bS, by repeat (first | (with_reducible first | exact HK.out | apply Kept.alloc | apply Kept.drewN | apply Kept.drew) | exact HK.out)⟩
def laws_markGraphics.f (k : Nat) (a5 : List Int) (a8 : Int) (a9 : Int) (b0 : Int) (b1 : Int) (a6 : List (S111)) (b2 : Int) (b6 : Int) (b7 : Int) (b8 : Int) (a7 : Int) (a1 : Int) : Option (Int × List Int × (List (S111))) := (laws_markIntS.f k a5 a1).bind fun a2 => ((laws_markPointS.f k a6 a2.1).bind fun a3 => (some (a3.1, a2.2, a3.2)))
theorem laws_markGraphics.calls (k : Nat) (P0_0_ : Nat → Prop) (u9000_ : Value) (a7 : List Int) (b1 : Int) (b2 : Int) (b6 : Int) (b7 : Int) (P0_5_ : Nat → Prop) (u9001_ : Value) (a8 : List (S111)) (b8 : Int) (b9 : Int) (d0 : Int) (d1 : Int) (a9 : Int) (a1 : Int) (r1 : Int) (r2 : List Int) (r3 : List (S111)) (w0 w : World) (hB : Below w0.heap.size w0 w) (d2 : Kd.R (Kd.int .i64) 3 w w0.heap.size P0_0_ u9000_ a7) (d3 : Kd.R k111 111 w w0.heap.size P0_5_ u9001_ a8) (h : laws_markGraphics.f k a7 b1 b2 b6 b7 a8 b8 b9 d0 d1 a9 a1 = some (r1, r2, r3)) :
  Calls Tryz.prog 48 #[.agg #[u9000_, .int .i64 b1, .int .i64 b2, .int .i64 b6, .int .i64 b7, u9001_, .int .i64 b8, .int .i64 b9, .int .i64 d0, .int .i64 d1, .int .i64 a9], .int .i64 a1] w fun e w' => e = .returned (.int .i64 r1) ∧ Kd.R (Kd.int .i64) 3 w' w0.heap.size (fun k_ => ((P0_0_ k_ ∨ P0_5_ k_) ∨ w.heap.size ≤ k_)) u9000_ r2 ∧ Kd.R k111 111 w' w0.heap.size (fun k_ => ((P0_0_ k_ ∨ P0_5_ k_) ∨ w.heap.size ≤ k_)) u9001_ r3 ∧ Below w0.heap.size w0 w' ∧ Kept w w' (fun k_ => P0_0_ k_ ∨ P0_5_ k_) := by
 have hu42 := Tryz.underlying42
 have a2 := aM (show Kd.R (Kd.int .i64) 3 w w0.heap.size (fun k_ => ((P0_0_ k_ ∨ P0_5_ k_) ∨ w.heap.size ≤ k_)) u9000_ a7 from Kd.R_mono d2 (fun k_ hk => (.inl (.inl hk))))
 have a3 := aM (show Kd.R k111 111 w w0.heap.size (fun k_ => ((P0_0_ k_ ∨ P0_5_ k_) ∨ w.heap.size ≤ k_)) u9001_ a8 from Kd.R_mono d3 (fun k_ hk => (.inl (.inr hk))))
 have HK := aM (Kept.refl w (fun k_ => P0_0_ k_ ∨ P0_5_ k_))
 have HW0 := aM hB.size
 have HB := aM hB
 clear hB
 have H := h
 clear h
 unfold laws_markGraphics.f at H
 replace H := bN H
 obtain ⟨⟨b0, d4⟩, A3, H⟩ := H
 replace H := bN H
 obtain ⟨⟨d5, d6⟩, A4, H⟩ := H
 obtain ⟨rfl, rfl, rfl⟩ := sI3 H
 obtain ⟨e0, e1, e7⟩ := Kd.R_slice a2.out
 subst e7
 obtain ⟨e2, e3, e8⟩ := Kd.R_slice a3.out
 subst e8
 go_enter Tryz.func48, Tryz.ntmps48
 go_wp2_with (first | ((with_reducible refine gD 2 ?_); refine bxE #[.slice e0 a7.length e1, .int .i64 b1, .int .i64 b2, .int .i64 b6, .int .i64 b7, .slice e2 a8.length e3, .int .i64 b8, .int .i64 b9, .int .i64 d0, .int .i64 d1, .int .i64 a9] 42 ?_; intro a6 hg w7 a5 hb; have GW1118 := aM ((by rw [hg]; exact (by first | exact HK.out.1 | exact (show Kept w _ (fun k_ => P0_0_ k_ ∨ P0_5_ k_) from by repeat (first | (with_reducible first | exact HK.out | apply Kept.alloc | apply Kept.drewN | apply Kept.drew) | exact HK.out)).1) : w.heap.size ≤ a6)); have GE1118 := aM ((by rw [hg]; exact (below_size bS) : w0.heap.size ≤ a6)); replace a2 := rB a2 hb; replace a3 := rB a3 hb; replace HK := aM (Kept.below (S := (fun k_ => P0_0_ k_ ∨ P0_5_ k_)) (by repeat (first | (with_reducible first | exact HK.out | apply Kept.alloc | apply Kept.drewN | apply Kept.drew) | exact HK.out)) hb); replace HB := hB hb; clear hb hg; have e5 := cg0 a5; have e6 := cg5 a5) | ((with_reducible refine gC 100 ?_); refine cL (some 8) Tryz.func100 #[.slice e0 a7.length e1, .int .i64 a1] ?_; (with_reducible refine (laws_markIntS.calls k (fun k_ => some k_ = (.slice e0 a7.length e1 : Value).ownBlock) (.slice e0 a7.length e1) a7 a1 b0 d4 w0 _ ?side1 ?side2 A3.out).mono ?_); (case side1 => repeat (first | (with_reducible first | exact HB.out | apply below_alloc | apply pw_below_drewN | apply below_drew1 | refine below_set ?_ GE1118.out) | exact HB.out)); (case side2 => exact Kd.R_tight rfl a2.out); rintro e w9 ⟨rfl, hy0, hb, hkp⟩; refine ⟨_, rfl, ?_⟩; replace a3 := aM (Kd.R_mono (ok' := fun k_ => ((P0_0_ k_ ∨ P0_5_ k_) ∨ w.heap.size ≤ k_)) (Kd.R_keptB ((Kd.R_apart' a3.out (Kd.R_typed a2.out) (by decide))) hkp (fun k_ hk_ hs_ => (hk_.2) hs_)) (fun k_ hk_ => hk_.1.1)); replace a5 := aM (blk_kept (g := a6) kS hkp (fun hs_ => (fun e_ => (Kd.R_ne a2.out a5.out (by decide)) e_) hs_)); replace HK := aM (Kept.then_ (S := (fun k_ => P0_0_ k_ ∨ P0_5_ k_)) (by repeat (first | (with_reducible first | exact HK.out | apply Kept.alloc | apply Kept.drewN | apply Kept.drew | refine Kept.setCell ?_ (.inr GW1118.out) _) | exact HK.out)) hkp (fun k_ hs_ => (fun e_ => (a2.out.1 k_ e_.symm)) hs_)); replace a2 := aM (Kd.R_reok rfl hy0 (fun k_ e_ => a2.out.1 k_ e_)); replace HB := aM (hb); (try clear hb hkp hy0); have e4 := cg5 a5) | ((with_reducible refine gC 101 ?_); refine cL (some 12) Tryz.func101 #[.slice e2 a8.length e3, .int .i64 b0] ?_; (with_reducible refine (laws_markPointS.calls k (fun k_ => some k_ = (.slice e2 a8.length e3 : Value).ownBlock) (.slice e2 a8.length e3) a8 b0 d5 d6 w0 _ ?side1 ?side2 A4.out).mono ?_); (case side1 => repeat (first | (with_reducible first | exact HB.out | apply below_alloc | apply pw_below_drewN | apply below_drew1 | refine below_set ?_ GE1118.out) | exact HB.out)); (case side2 => exact Kd.R_tight rfl a3.out); rintro e e9 ⟨rfl, hy0, hb, hkp⟩; refine ⟨_, rfl, ?_⟩; replace a2 := aM (Kd.R_mono (ok' := fun k_ => ((P0_0_ k_ ∨ P0_5_ k_) ∨ w.heap.size ≤ k_)) (Kd.R_keptB ((Kd.R_apart' a2.out (Kd.R_typed a3.out) (by decide))) hkp (fun k_ hk_ hs_ => (hk_.2) hs_)) (fun k_ hk_ => hk_.1.1)); replace a5 := aM (blk_kept (g := a6) kS hkp (fun hs_ => (fun e_ => (Kd.R_ne a3.out a5.out (by decide)) e_) hs_)); replace HK := aM (Kept.then_ (S := (fun k_ => P0_0_ k_ ∨ P0_5_ k_)) (by repeat (first | (with_reducible first | exact HK.out | apply Kept.alloc | apply Kept.drewN | apply Kept.drew | refine Kept.setCell ?_ (.inr GW1118.out) _) | exact HK.out)) hkp (fun k_ hs_ => (fun e_ => (a3.out.1 k_ e_.symm)) hs_)); replace a3 := aM (Kd.R_reok rfl hy0 (fun k_ e_ => a3.out.1 k_ e_)); replace HB := aM (hb); (try clear hb hkp hy0)))
 go_ret
 exact ⟨eS, rS a2, rS a3, bS, by repeat (first | (with_reducible first | exact HK.out | apply Kept.alloc | apply Kept.drewN | apply Kept.drew | refine Kept.setCell ?_ (.inr GW1118.out) _) | exact HK.out)⟩
def laws_markObjectS.l0 : Nat → List S103 → Int → Int → Option (Int × (List S103))
 | 0, _, _, _ => none
 | k + 1, x0, x1, x5 => if x5 < (x0.length : Int) then (if 0 ≤ x5 then ((laws_markPointS.f k (x0.getD x5.toNat z103).f0 (x1)).bind fun bt => (laws_markObjectS.l0 k (x0.set (x5 : Int).toNat (⟨bt.2, bt.1, (⟨wrap64 (bt.1 + 1), wrap64 ((wrap64 (bt.1 + 1)) + 1), wrap64 ((wrap64 ((wrap64 (bt.1 + 1)) + 1)) + 1), wrap64 ((wrap64 ((wrap64 ((wrap64 (bt.1 + 1)) + 1)) + 1)) + 1)⟩ : S40)⟩ : S103)) (wrap64 ((wrap64 ((wrap64 ((wrap64 ((wrap64 (bt.1 + 1)) + 1)) + 1)) + 1)) + 1)) (wrap64 (x5 + 1)))) else (none)) else (some (x1, x0))
def laws_markObjectS.f (k : Nat) (l0 : List S103) (a1 : Int) : Option (Int × (List S103)) := laws_markObjectS.l0 k l0 a1 0
theorem laws_markObjectS.calls (k : Nat) (P0_ : Nat → Prop) (u9000_ : Value) (l0 : List S103) (a1 : Int) (r1 : Int) (r2 : List S103) (w0 w : World) (hB : Below w0.heap.size w0 w) (a9 : Kd.S k103 103 w w0.heap.size P0_ u9000_ l0) (h : laws_markObjectS.f k l0 a1 = some (r1, r2)) :
  Calls Tryz.prog 50 #[u9000_, .int .i64 a1] w fun e w' => e = .returned (.int .i64 r1) ∧ Kd.S k103 103 w' w0.heap.size (fun k_ => (P0_ k_ ∨ w.heap.size ≤ k_)) u9000_ r2 ∧ Below w0.heap.size w0 w' ∧ Kept w w' (fun k_ => P0_ k_) := by
 have b0 := aM (show Kd.S k103 103 w w0.heap.size (fun k_ => (P0_ k_ ∨ w.heap.size ≤ k_)) u9000_ l0 from Kd.S_mono a9 (fun k_ hk => (.inl hk)))
 have HK := aM (Kept.refl w (fun k_ => P0_ k_))
 have HB := aM hB
 clear hB a9
 have H' := aM (show laws_markObjectS.l0 k l0 a1 0 = some (r1, r2) from h)
 clear h
 have hu103 := Tryz.underlying103
 have hu40 := Tryz.underlying40
 go_enter Tryz.func50, Tryz.ntmps50
 go_wp2
 go_loopg [1, 5] k (fun kq v1 v5 w' => ∃ (a3 : List S103) (a6 : Int) (a2 : Int), v1 = .int .i64 a6 ∧ v5 = .int .i64 a2 ∧ Aside0 (laws_markObjectS.l0 kq a3 a6 a2 = some (r1, r2)) ∧ Aside0 (kq ≤ k) ∧ Aside0 (Kd.S k103 103 w' w0.heap.size (fun k_ => (P0_ k_ ∨ w.heap.size ≤ k_)) u9000_ a3) ∧ Aside0 (Kept w w' (fun k_ => P0_ k_)) ∧ Aside0 (Below w0.heap.size w0 w'))
 case atStart => exact ⟨(l0), (a1), (0), rfl, rfl, H', ⟨Nat.le_refl _⟩, b0, HK, HB⟩
 case round =>
  clear H' b0
  obtain ⟨a3, a6, a2, rfl, rfl, HA, b1, a5, HK, HB⟩ := hrel
  cases gk with
  | zero => exact absurd HA.out (by simp [laws_markObjectS.l0])
  | succ k1 =>
   have H := HA.out
   clear HA
   simp only [laws_markObjectS.l0] at H
   by_cases c3 : a2 < (a3.length : Int)
   ·rw [if_pos c3] at H
    have a8 : decide (a2 < (a3.length : Int)) = true := decide_eq_true c3
    by_cases c4 : 0 ≤ a2
    ·rw [if_pos c4] at H
     replace H := bN H
     obtain ⟨⟨t1, t2⟩, A5, H⟩ := H
     have H' := aM H
     clear H
     have HG := aM (show ∀ k_, u9000_.ownBlock = some k_ → (P0_ k_ ∨ w.heap.size ≤ k_) from (Kd.S_R a5.out).1)
     obtain ⟨go5, a7, rfl, b2, gl5, _⟩ := Kd.S_form a5.out (by omega)
     replace HG := aM (HG.out go5 rfl)
     obtain ⟨oki, c, _, hM, _, _, hoki, hH⟩ := Kd.S_elem a5.out z103 a2 c4 c3
     obtain ⟨v0, rfl, hR⟩ := k103_openM hM
     obtain ⟨Ai, ci, rfl⟩ := Kd.R_slice hR
     clear hM
     generalize hxi : (a3.getD a2.toNat z103).f0 = xi at A5 hR hH
     clear hxi
     generalize (a3.getD a2.toNat z103).f1 = y1 at hH
     generalize (a3.getD a2.toNat z103).f2.f0 = y2 at hH
     generalize (a3.getD a2.toNat z103).f2.f1 = y3 at hH
     generalize (a3.getD a2.toNat z103).f2.f2 = y4 at hH
     generalize (a3.getD a2.toNat z103).f2.f3 = y5 at hH
     have HH : Aside0 (Kd.H k103 103 wr w0.heap.size (fun k_ => (P0_ k_ ∨ w.heap.size ≤ k_)) (.slice (some ⟨go5, 0, none⟩) a3.length a7) a3 a2 oki [.slice Ai xi.length ci, .int .i64 y1, .int .i64 y2, .int .i64 y3, .int .i64 y4, .int .i64 y5]) := ⟨hH⟩
     have HR := aM hR
     have HI := aM hoki
     have HF := aM (fun k_ (h_ : oki k_) => (hoki k_ h_).2)
     have GB := aM b2
     have P5 := aM c4
     have Q5 := aM c3
     clear hoki hH hR a5 b2 gl5
     have p5 := eq_true c4
     have q5 := eq_true c3
     clear c3 c4
     have hs : wr.cell? ⟨go5, (a2 : Int).toNat * 6, none⟩ = some (.slice Ai xi.length ci) := (H_cells HH.out P5.out Q5.out).1 0 _ rfl; have hf : wr.frozen? ⟨go5, (a2 : Int).toNat * 6, none⟩ = false := (H_cells HH.out P5.out Q5.out).2 0
     go_wp2_with (first | ((with_reducible refine gC 101 ?_); refine cM (some 18) Tryz.func101 (laws_markPointS.calls k1 oki _ xi (a6) t1 t2 w0 _ HB.out HR.out A5.out) ?_; rintro e wz0 ⟨rfl, hi, hb, hkp⟩; refine ⟨_, rfl, ?_⟩; (try clear hs hf); have HN := fun k_ (h_ : wr.heap.size ≤ k_) => (Or.inr (Nat.le_trans HK.out.1 h_) : P0_ k_ ∨ w.heap.size ≤ k_); have GL := H_lt HH.out P5.out Q5.out; replace HF : Aside0 (∀ k_, (oki k_ ∨ wr.heap.size ≤ k_) → k_ ≠ go5) := ⟨fun k_ h_ => h_.elim (HF.out k_) (fun h2 e_ => by omega)⟩; replace HH : Aside0 (Kd.H k103 103 wz0 w0.heap.size (fun k_ => (P0_ k_ ∨ w.heap.size ≤ k_)) (.slice (some ⟨go5, 0, none⟩) a3.length a7) a3 a2 (fun k_ => oki k_ ∨ wr.heap.size ≤ k_) [.slice Ai xi.length ci, .int .i64 y1, .int .i64 y2, .int .i64 y3, .int .i64 y4, .int .i64 y5]) := ⟨H_lent HH.out hkp HN⟩; replace HR := aM hi; replace HK := aM (Kept.then_ HK.out hkp (fun k_ hk => (HI.out k_ hk).1)); replace HB := aM hb; clear hi hb hkp HN GL; have hs : wz0.cell? ⟨go5, (a2 : Int).toNat * 6 + 1, none⟩ = some (.int .i64 y1) := (H_cells HH.out P5.out Q5.out).1 1 _ rfl; have hf : wz0.frozen? ⟨go5, (a2 : Int).toNat * 6 + 1, none⟩ = false := (H_cells HH.out P5.out Q5.out).2 1) | ((with_reducible refine gate_store (t := 3) (p := 23) rfl ?_); refine store_event (t := 3) (p := 23) (v := ?vo_wz1) (w1 := (wz0.setCell ⟨go5, (a2 : Int).toNat * 6 + 1, none⟩ (.int .i64 (t1)))) ?hg ?ho ?hn ?hr ?_; (case ho => rfl); (case hg => rfl); (case hn => rfl); (case hr => first | (go_simp; done) | (go_simp; rfl)); intro wz1 hw; have h_ := H_put HH.out P5.out Q5.out 1 (by decide) rfl (.int .i64 (t1)) rfl; replace HH : Aside0 (Kd.H k103 103 wz1 w0.heap.size (fun k_ => (P0_ k_ ∨ w.heap.size ≤ k_)) (.slice (some ⟨go5, 0, none⟩) a3.length a7) a3 a2 (fun k_ => oki k_ ∨ wr.heap.size ≤ k_) [.slice Ai xi.length ci, .int .i64 (t1), .int .i64 y2, .int .i64 y3, .int .i64 y4, .int .i64 y5]) := ⟨by rw [hw]; exact h_.1⟩; replace HR : Aside0 (Kd.R k111 111 wz1 w0.heap.size (fun k_ => oki k_ ∨ wr.heap.size ≤ k_) (.slice Ai xi.length ci) t2) := ⟨by rw [hw]; exact Kd.R_far HR.out HF.out _⟩; replace HK : Aside0 (Kept w wz1 (fun k_ => P0_ k_)) := ⟨by rw [hw]; exact Kept.setCell HK.out HG.out _⟩; replace HB : Aside0 (Below w0.heap.size w0 wz1) := ⟨by rw [hw]; exact below_set HB.out GB.out⟩; clear h_ hw hs hf; have hs : wz1.cell? ⟨go5, (a2 : Int).toNat * 6 + 2, none⟩ = some (.int .i64 y2) := (H_cells HH.out P5.out Q5.out).1 2 _ rfl; have hf : wz1.frozen? ⟨go5, (a2 : Int).toNat * 6 + 2, none⟩ = false := (H_cells HH.out P5.out Q5.out).2 2) | ((with_reducible refine gate_store (t := 3) (p := 31) rfl ?_); refine store_event (t := 3) (p := 31) (v := ?vo_wz2) (w1 := (wz1.setCell ⟨go5, (a2 : Int).toNat * 6 + 2, none⟩ (.int .i64 (wrap64 (t1 + 1))))) ?hg ?ho ?hn ?hr ?_; (case ho => rfl); (case hg => rfl); (case hn => rfl); (case hr => first | (go_simp; done) | (go_simp; rfl)); intro wz2 hw; have h_ := H_put HH.out P5.out Q5.out 2 (by decide) rfl (.int .i64 (wrap64 (t1 + 1))) rfl; replace HH : Aside0 (Kd.H k103 103 wz2 w0.heap.size (fun k_ => (P0_ k_ ∨ w.heap.size ≤ k_)) (.slice (some ⟨go5, 0, none⟩) a3.length a7) a3 a2 (fun k_ => oki k_ ∨ wr.heap.size ≤ k_) [.slice Ai xi.length ci, .int .i64 (t1), .int .i64 (wrap64 (t1 + 1)), .int .i64 y3, .int .i64 y4, .int .i64 y5]) := ⟨by rw [hw]; exact h_.1⟩; replace HR : Aside0 (Kd.R k111 111 wz2 w0.heap.size (fun k_ => oki k_ ∨ wr.heap.size ≤ k_) (.slice Ai xi.length ci) t2) := ⟨by rw [hw]; exact Kd.R_far HR.out HF.out _⟩; replace HK : Aside0 (Kept w wz2 (fun k_ => P0_ k_)) := ⟨by rw [hw]; exact Kept.setCell HK.out HG.out _⟩; replace HB : Aside0 (Below w0.heap.size w0 wz2) := ⟨by rw [hw]; exact below_set HB.out GB.out⟩; clear h_ hw hs hf; have hs : wz2.cell? ⟨go5, (a2 : Int).toNat * 6 + 3, none⟩ = some (.int .i64 y3) := (H_cells HH.out P5.out Q5.out).1 3 _ rfl; have hf : wz2.frozen? ⟨go5, (a2 : Int).toNat * 6 + 3, none⟩ = false := (H_cells HH.out P5.out Q5.out).2 3) | ((with_reducible refine gate_store (t := 3) (p := 39) rfl ?_); refine store_event (t := 3) (p := 39) (v := ?vo_wz3) (w1 := (wz2.setCell ⟨go5, (a2 : Int).toNat * 6 + 3, none⟩ (.int .i64 (wrap64 ((wrap64 (t1 + 1)) + 1))))) ?hg ?ho ?hn ?hr ?_; (case ho => rfl); (case hg => rfl); (case hn => rfl); (case hr => first | (go_simp; done) | (go_simp; rfl)); intro wz3 hw; have h_ := H_put HH.out P5.out Q5.out 3 (by decide) rfl (.int .i64 (wrap64 ((wrap64 (t1 + 1)) + 1))) rfl; replace HH : Aside0 (Kd.H k103 103 wz3 w0.heap.size (fun k_ => (P0_ k_ ∨ w.heap.size ≤ k_)) (.slice (some ⟨go5, 0, none⟩) a3.length a7) a3 a2 (fun k_ => oki k_ ∨ wr.heap.size ≤ k_) [.slice Ai xi.length ci, .int .i64 (t1), .int .i64 (wrap64 (t1 + 1)), .int .i64 (wrap64 ((wrap64 (t1 + 1)) + 1)), .int .i64 y4, .int .i64 y5]) := ⟨by rw [hw]; exact h_.1⟩; replace HR : Aside0 (Kd.R k111 111 wz3 w0.heap.size (fun k_ => oki k_ ∨ wr.heap.size ≤ k_) (.slice Ai xi.length ci) t2) := ⟨by rw [hw]; exact Kd.R_far HR.out HF.out _⟩; replace HK : Aside0 (Kept w wz3 (fun k_ => P0_ k_)) := ⟨by rw [hw]; exact Kept.setCell HK.out HG.out _⟩; replace HB : Aside0 (Below w0.heap.size w0 wz3) := ⟨by rw [hw]; exact below_set HB.out GB.out⟩; clear h_ hw hs hf; have hs : wz3.cell? ⟨go5, (a2 : Int).toNat * 6 + 4, none⟩ = some (.int .i64 y4) := (H_cells HH.out P5.out Q5.out).1 4 _ rfl; have hf : wz3.frozen? ⟨go5, (a2 : Int).toNat * 6 + 4, none⟩ = false := (H_cells HH.out P5.out Q5.out).2 4) | ((with_reducible refine gate_store (t := 3) (p := 47) rfl ?_); refine store_event (t := 3) (p := 47) (v := ?vo_wz4) (w1 := (wz3.setCell ⟨go5, (a2 : Int).toNat * 6 + 4, none⟩ (.int .i64 (wrap64 ((wrap64 ((wrap64 (t1 + 1)) + 1)) + 1))))) ?hg ?ho ?hn ?hr ?_; (case ho => rfl); (case hg => rfl); (case hn => rfl); (case hr => first | (go_simp; done) | (go_simp; rfl)); intro wz4 hw; have h_ := H_put HH.out P5.out Q5.out 4 (by decide) rfl (.int .i64 (wrap64 ((wrap64 ((wrap64 (t1 + 1)) + 1)) + 1))) rfl; replace HH : Aside0 (Kd.H k103 103 wz4 w0.heap.size (fun k_ => (P0_ k_ ∨ w.heap.size ≤ k_)) (.slice (some ⟨go5, 0, none⟩) a3.length a7) a3 a2 (fun k_ => oki k_ ∨ wr.heap.size ≤ k_) [.slice Ai xi.length ci, .int .i64 (t1), .int .i64 (wrap64 (t1 + 1)), .int .i64 (wrap64 ((wrap64 (t1 + 1)) + 1)), .int .i64 (wrap64 ((wrap64 ((wrap64 (t1 + 1)) + 1)) + 1)), .int .i64 y5]) := ⟨by rw [hw]; exact h_.1⟩; replace HR : Aside0 (Kd.R k111 111 wz4 w0.heap.size (fun k_ => oki k_ ∨ wr.heap.size ≤ k_) (.slice Ai xi.length ci) t2) := ⟨by rw [hw]; exact Kd.R_far HR.out HF.out _⟩; replace HK : Aside0 (Kept w wz4 (fun k_ => P0_ k_)) := ⟨by rw [hw]; exact Kept.setCell HK.out HG.out _⟩; replace HB : Aside0 (Below w0.heap.size w0 wz4) := ⟨by rw [hw]; exact below_set HB.out GB.out⟩; clear h_ hw hs hf; have hs : wz4.cell? ⟨go5, (a2 : Int).toNat * 6 + 5, none⟩ = some (.int .i64 y5) := (H_cells HH.out P5.out Q5.out).1 5 _ rfl; have hf : wz4.frozen? ⟨go5, (a2 : Int).toNat * 6 + 5, none⟩ = false := (H_cells HH.out P5.out Q5.out).2 5) | ((with_reducible refine gate_store (t := 3) (p := 55) rfl ?_); refine store_event (t := 3) (p := 55) (v := ?vo_wz5) (w1 := (wz4.setCell ⟨go5, (a2 : Int).toNat * 6 + 5, none⟩ (.int .i64 (wrap64 ((wrap64 ((wrap64 ((wrap64 (t1 + 1)) + 1)) + 1)) + 1))))) ?hg ?ho ?hn ?hr ?_; (case ho => rfl); (case hg => rfl); (case hn => rfl); (case hr => first | (go_simp; done) | (go_simp; rfl)); intro wz5 hw; have h_ := H_put HH.out P5.out Q5.out 5 (by decide) rfl (.int .i64 (wrap64 ((wrap64 ((wrap64 ((wrap64 (t1 + 1)) + 1)) + 1)) + 1))) rfl; replace HH : Aside0 (Kd.H k103 103 wz5 w0.heap.size (fun k_ => (P0_ k_ ∨ w.heap.size ≤ k_)) (.slice (some ⟨go5, 0, none⟩) a3.length a7) a3 a2 (fun k_ => oki k_ ∨ wr.heap.size ≤ k_) [.slice Ai xi.length ci, .int .i64 (t1), .int .i64 (wrap64 (t1 + 1)), .int .i64 (wrap64 ((wrap64 (t1 + 1)) + 1)), .int .i64 (wrap64 ((wrap64 ((wrap64 (t1 + 1)) + 1)) + 1)), .int .i64 (wrap64 ((wrap64 ((wrap64 ((wrap64 (t1 + 1)) + 1)) + 1)) + 1))]) := ⟨by rw [hw]; exact h_.1⟩; replace HR : Aside0 (Kd.R k111 111 wz5 w0.heap.size (fun k_ => oki k_ ∨ wr.heap.size ≤ k_) (.slice Ai xi.length ci) t2) := ⟨by rw [hw]; exact Kd.R_far HR.out HF.out _⟩; replace HK : Aside0 (Kept w wz5 (fun k_ => P0_ k_)) := ⟨by rw [hw]; exact Kept.setCell HK.out HG.out _⟩; replace HB : Aside0 (Below w0.heap.size w0 wz5) := ⟨by rw [hw]; exact below_set HB.out GB.out⟩; clear h_ hw hs hf))
     go_roundg k1
     case measure => have := b1.out; omega
     case rel => exact ⟨a3.set (a2 : Int).toNat (⟨t2, t1, (⟨wrap64 (t1 + 1), wrap64 ((wrap64 (t1 + 1)) + 1), wrap64 ((wrap64 ((wrap64 (t1 + 1)) + 1)) + 1), wrap64 ((wrap64 ((wrap64 ((wrap64 (t1 + 1)) + 1)) + 1)) + 1)⟩ : S40)⟩ : S103), (wrap64 ((wrap64 ((wrap64 ((wrap64 ((wrap64 (t1 + 1)) + 1)) + 1)) + 1)) + 1)), wrap64 (a2 + 1), fS, fS, H', ⟨by have := b1.out; omega⟩, ⟨Kd.H_back HH.out (k103_mkM _ _ _ ((⟨t2, t1, (⟨wrap64 (t1 + 1), wrap64 ((wrap64 (t1 + 1)) + 1), wrap64 ((wrap64 ((wrap64 (t1 + 1)) + 1)) + 1), wrap64 ((wrap64 ((wrap64 ((wrap64 (t1 + 1)) + 1)) + 1)) + 1)⟩ : S40)⟩ : S103) : S103) HR.out) (fun _ hk => hk)⟩, HK, HB⟩
    ·rw [if_neg c4] at H
     exact absurd H (by simp)
   ·rw [if_neg c3] at H
    have a8 : decide (a2 < (a3.length : Int)) = false := decide_eq_false c3
    clear c3
    obtain ⟨rfl, rfl⟩ := sI2 H
    obtain ⟨b7, b8, b6⟩ := Kd.S_slice a5.out
    subst b6
    go_wp2
    go_ret
    exact ⟨eS, a5.out, HB.out, HK.out⟩
def laws_heldIntS.l0 : Nat → List Int → Int → Int → Option (Int)
 | 0, _, _, _ => none
 | k + 1, x0, x1, x5 => if x5 < (x0.length : Int) then (if 0 ≤ x5 then (if (rd x0 x5) = x1 then (laws_heldIntS.l0 k x0 (wrap64 (x1 + 1)) (wrap64 (x5 + 1))) else (some (-1))) else (none)) else (some x1)
def laws_heldIntS.f (k : Nat) (l0 : List Int) (a1 : Int) : Option (Int) := laws_heldIntS.l0 k l0 a1 0
theorem laws_heldIntS.calls (k : Nat) (A0 : Option Addr) (c0 : Nat) (l0 : List Int) (a1 : Int) (r : Int) (w : World) (hr0 : Kd.C (Kd.int .i64) w A0 l0.length l0) (b6 : l0.length ≤ c0) (h : laws_heldIntS.f k l0 a1 = some r) :
  Calls Tryz.prog 102 #[.slice A0 l0.length c0, .int .i64 a1] w fun e w' => e = .returned (.int .i64 r) ∧ Drawn0 w w' := by
 have b7 := aM hr0
 have d0 := aM b6
 clear hr0 b6
 have H := h
 clear h
 unfold laws_heldIntS.f at H
 have H' := aM H
 clear H
 go_enter Tryz.func102, Tryz.ntmps102
 go_wp2
 go_loopg [1, 5] k (fun kq v1 v5 w' => ∃ (a6 : Int) (a2 : Int), v1 = .int .i64 a6 ∧ v5 = .int .i64 a2 ∧ Aside0 (laws_heldIntS.l0 kq l0 a6 a2 = some r) ∧ Aside0 (kq ≤ k) ∧ Drawn0 w w')
 case atStart => exact ⟨(a1), (0), fS, fS, H', ⟨Nat.le_refl _⟩, dS⟩
 case round =>
  clear H'
  try clear c1
  try clear p2
  obtain ⟨a6, a2, rfl, rfl, HA, b8, ⟨m1, rfl⟩⟩ := hrel
  cases gk with
  | zero => exact absurd HA.out (by simp [laws_heldIntS.l0])
  | succ k1 =>
   have H := HA.out
   clear HA
   simp only [laws_heldIntS.l0] at H
   rcases iD H with ⟨b0, H⟩ | ⟨b0, H⟩
   ·obtain ⟨b9, H⟩ := iT H
    by_cases c5 : (rd l0 a2) = a6
    ·rw [if_pos c5] at H
     have b1 : ((rd l0 a2) == a6) = true := beq_iff_eq.mpr c5
     have b2 : ((rd l0 a2) != a6) = false := bne_eq_false_iff_eq.mpr c5
     clear c5
     have H' := aM H
     clear H
     have a3 : 0 ≤ (a2 : Int) := dA
     have a5 : a2 < (l0.length : Int) := dA
     obtain ⟨a9, a7, a8⟩ := Kd.at_int b7.out a2 a3 a5
     cases a7
     replace a3 := eq_true a3
     replace a5 := eq_true a5
     go_wp2
     go_roundg k1
     case measure => have := b8.out; omega
     case rel => exact ⟨(wrap64 (a6 + 1)), (wrap64 (a2 + 1)), fS, fS, H', ⟨by have := b8.out; omega⟩, dS⟩
    ·rw [if_neg c5] at H
     have b1 : ((rd l0 a2) == a6) = false := beq_eq_false_iff_ne.mpr c5
     have b2 : ((rd l0 a2) != a6) = true := bne_iff_ne.mpr c5
     obtain rfl := Option.some.inj H
     have a3 : 0 ≤ (a2 : Int) := dA
     have a5 : a2 < (l0.length : Int) := dA
     obtain ⟨a9, a7, a8⟩ := Kd.at_int b7.out a2 a3 a5
     cases a7
     replace a3 := eq_true a3
     replace a5 := eq_true a5
     go_wp2
     go_ret
     exact ⟨fS, dS⟩
   ·obtain rfl := Option.some.inj H
    go_wp2
    go_ret
    exact ⟨fS, dS⟩
end Go.Proofs.YtjkgponlahfnjaaGreat.QFnExactExecToken
