/- Walks of functions of the program, made out of the translation by a program of this session: each answers what its plain function tells, for every input at which that is told. -/
import Derived.Test.YtjkgponlahfnjaaGreatQFnExactExecTokenx0
import Derived.Test.YtjkgponlahfnjaaGreatQFnExactExecTokenx21
namespace Go.Proofs.YtjkgponlahfnjaaGreat.QFnExactExecToken
open Go.RowKit Go.Proofs.YtjkgponlahfnjaaGreatW.PrintWords Go.Proofs.YtjkgponlahfnjaaGreatW.PrintLast Go.Proofs.YtjkgponlahfnjaaGreatW.PrintMore
attribute [local go_sem] max2_int min2_int max_two min_two max_three min_three max_four min_four   -- for this text's walks alone
set_option linter.unusedVariables false
set_option linter.unusedSimpArgs false
set_option maxHeartbeats 8000000
set_option maxRecDepth 100000
/-! ### laws_eqGraphicsS: function 46 -/
def laws_eqGraphicsS.l0 : Nat → List (S42) → List (S42) → Int → Option (Bool)
 | 0, _, _, _ => none
 | k + 1, x0, x1, x5 => if x5 < (x0.length : Int) then (if 0 ≤ x5 then (if x5 < (x1.length : Int) then ((laws_eqGraphics.f k ((rd_T42 x0 x5).f0) ((rd_T42 x0 x5).f1.f0) ((rd_T42 x0 x5).f1.f1) ((rd_T42 x0 x5).f1.f2) ((rd_T42 x0 x5).f1.f3) ((rd_T42 x0 x5).f2) ((rd_T42 x0 x5).f3) ((rd_T42 x0 x5).f4.f0) ((rd_T42 x0 x5).f4.f1) ((rd_T42 x0 x5).f4.f2) ((rd_T42 x0 x5).f4.f3) ((rd_T42 x1 x5).f0) ((rd_T42 x1 x5).f1.f0) ((rd_T42 x1 x5).f1.f1) ((rd_T42 x1 x5).f1.f2) ((rd_T42 x1 x5).f1.f3) ((rd_T42 x1 x5).f2) ((rd_T42 x1 x5).f3) ((rd_T42 x1 x5).f4.f0) ((rd_T42 x1 x5).f4.f1) ((rd_T42 x1 x5).f4.f2) ((rd_T42 x1 x5).f4.f3)).bind fun a2 => (if a2 = true then (laws_eqGraphicsS.l0 k x0 x1 (wrap64 (x5 + 1))) else (some false))) else (none)) else (none)) else (some true)
def laws_eqGraphicsS.f (k : Nat) (l0 : List (S42)) (l1 : List (S42)) : Option (Bool) := if (l0.length : Int) = (l1.length : Int) then (laws_eqGraphicsS.l0 k l0 l1 0) else (some false)
theorem laws_eqGraphicsS.calls (k : Nat) (A0 : Option Addr) (c0 : Nat) (l0 : List (S42)) (A1 : Option Addr) (c1 : Nat) (l1 : List (S42)) (r : Bool) (w : World) (hr0 : Kd.C k42 w A0 l0.length l0) (h6 : l0.length ≤ c0) (h7 : Kd.C k42 w A1 l1.length l1) (h8 : l1.length ≤ c1) (h : laws_eqGraphicsS.f k l0 l1 = some r) :
  Calls Tryz.prog 46 #[.slice A0 l0.length c0, .slice A1 l1.length c1] w fun e w' => e = .returned (.bool r) ∧ Below w.heap.size w w' := by
 have hu42 := Tryz.underlying42
 have h9 := aM hr0
 have i7 := aM h6
 clear hr0 h6
 have i1 := aM h7
 have i8 := aM h8
 clear h7 h8
 have HB := aM (Below.refl w.heap.size w)
 have H := h
 clear h
 unfold laws_eqGraphicsS.f at H
 by_cases c3 : (l0.length : Int) = (l1.length : Int)
 ·rw [if_pos c3] at H
  have h1 : ((l0.length : Int) == (l1.length : Int)) = true := beq_iff_eq.mpr c3
  have h2 : ((l0.length : Int) != (l1.length : Int)) = false := bne_eq_false_iff_eq.mpr c3
  have h3 : (l0.length == l1.length) = true := by first | simpa using c3 | (simp at c3 ⊢; omega)
  clear c3
  have H' := aM H
  clear H
  go_enter Tryz.func46, Tryz.ntmps46
  go_wp2
  go_loopg [5] k (fun kq v5 w' => ∃ (a2 : Int), v5 = .int .i64 a2 ∧ Aside0 (laws_eqGraphicsS.l0 kq l0 l1 a2 = some r) ∧ Aside0 (kq ≤ k) ∧ Aside0 (Below w.heap.size w w'))
  case atStart => exact ⟨(0), fS, H', ⟨Nat.le_refl _⟩, ⟨bS⟩⟩
  case round =>
   clear H'
   try clear c1
   try clear p2
   try clear c3
   try clear h1
   try clear h2
   try clear h3
   obtain ⟨a2, rfl, HA, i3, HB⟩ := hrel
   cases gk with
   | zero => exact absurd HA.out (by simp [laws_eqGraphicsS.l0])
   | succ k1 =>
    have H := HA.out
    clear HA
    simp only [laws_eqGraphicsS.l0] at H
    rcases iD H with ⟨h5, H⟩ | ⟨h5, H⟩
    ·obtain ⟨i4, H⟩ := iT H
     obtain ⟨i5, H⟩ := iT H
     replace H := bN H
     obtain ⟨h4, A7, H⟩ := H
     by_cases c8 : h4 = true
     ·subst c8
      rw [if_pos rfl] at H
      have H' := aM H
      clear H
      try go_wp2
      replace HB := hD HB
      have g1 : 0 ≤ (a2 : Int) := dA
      have g2 : a2 < (l0.length : Int) := dA
      obtain ⟨a3, e8, e9, f5, f6, g9, a8, a9, b0, b1, b2, b6, b7, b8, b9, d0, a6, hl1100_0, hi1100_0, hl1100_5, hi1100_5⟩ := at_T42 h9.out a2 g1 g2
      have hw1100_10 := a6
      have hw1100_9 := d0
      have hw1100_8 := b9
      have hw1100_7 := b8
      have hw1100_6 := b7
      have hw1100_5 := b6
      have hw1100_4 := b2
      have hw1100_3 := b1
      have hw1100_2 := b0
      have hw1100_1 := a9
      have hw1100_0 := a8
      cases g9
      replace a8 := cB HB a8
      replace a9 := cB HB a9
      replace b0 := cB HB b0
      replace b1 := cB HB b1
      replace b2 := cB HB b2
      replace b6 := cB HB b6
      replace b7 := cB HB b7
      replace b8 := cB HB b8
      replace b9 := cB HB b9
      replace d0 := cB HB d0
      replace a6 := cB HB a6
      have e4 := aM hi1100_0
      have g3 := aM hl1100_0
      clear hi1100_0 hl1100_0
      have e5 := aM hi1100_5
      have g4 := aM hl1100_5
      clear hi1100_5 hl1100_5
      replace g1 := eq_true g1
      replace g2 := eq_true g2
      have g5 : 0 ≤ (a2 : Int) := dA
      have g6 : a2 < (l1.length : Int) := dA
      obtain ⟨a5, f7, f8, f9, g0, h0, d1, d2, d3, d4, d5, d6, e0, e1, e2, e3, a7, hl1101_0, hi1101_0, hl1101_5, hi1101_5⟩ := at_T42 i1.out a2 g5 g6
      have hw1101_10 := a7
      have hw1101_9 := e3
      have hw1101_8 := e2
      have hw1101_7 := e1
      have hw1101_6 := e0
      have hw1101_5 := d6
      have hw1101_4 := d5
      have hw1101_3 := d4
      have hw1101_2 := d3
      have hw1101_1 := d2
      have hw1101_0 := d1
      cases h0
      replace d1 := cB HB d1
      replace d2 := cB HB d2
      replace d3 := cB HB d3
      replace d4 := cB HB d4
      replace d5 := cB HB d5
      replace d6 := cB HB d6
      replace e0 := cB HB e0
      replace e1 := cB HB e1
      replace e2 := cB HB e2
      replace e3 := cB HB e3
      replace a7 := cB HB a7
      have e6 := aM hi1101_0
      have g7 := aM hl1101_0
      clear hi1101_0 hl1101_0
      have e7 := aM hi1101_5
      have g8 := aM hl1101_5
      clear hi1101_5 hl1101_5
      replace g5 := eq_true g5
      replace g6 := eq_true g6
      refine start_ (n := 10) (S := fun w' => w'.cell? (a3.add ((a2).toNat * 11)) = some (.slice e8 ((rd_T42 l0 a2).f0).length e9) ∧ w'.cell? ⟨(a3.add ((a2).toNat * 11)).block, (a3.add ((a2).toNat * 11)).off + 1, none⟩ = some (.int .i64 ((rd_T42 l0 a2).f1.f0)) ∧ w'.cell? ⟨(a3.add ((a2).toNat * 11)).block, (a3.add ((a2).toNat * 11)).off + 2, none⟩ = some (.int .i64 ((rd_T42 l0 a2).f1.f1)) ∧ w'.cell? ⟨(a3.add ((a2).toNat * 11)).block, (a3.add ((a2).toNat * 11)).off + 3, none⟩ = some (.int .i64 ((rd_T42 l0 a2).f1.f2)) ∧ w'.cell? ⟨(a3.add ((a2).toNat * 11)).block, (a3.add ((a2).toNat * 11)).off + 4, none⟩ = some (.int .i64 ((rd_T42 l0 a2).f1.f3)) ∧ w'.cell? ⟨(a3.add ((a2).toNat * 11)).block, (a3.add ((a2).toNat * 11)).off + 5, none⟩ = some (.slice f5 ((rd_T42 l0 a2).f2).length f6) ∧ w'.cell? ⟨(a3.add ((a2).toNat * 11)).block, (a3.add ((a2).toNat * 11)).off + 6, none⟩ = some (.int .i64 ((rd_T42 l0 a2).f3)) ∧ w'.cell? ⟨(a3.add ((a2).toNat * 11)).block, (a3.add ((a2).toNat * 11)).off + 7, none⟩ = some (.int .i64 ((rd_T42 l0 a2).f4.f0)) ∧ w'.cell? ⟨(a3.add ((a2).toNat * 11)).block, (a3.add ((a2).toNat * 11)).off + 8, none⟩ = some (.int .i64 ((rd_T42 l0 a2).f4.f1)) ∧ w'.cell? ⟨(a3.add ((a2).toNat * 11)).block, (a3.add ((a2).toNat * 11)).off + 9, none⟩ = some (.int .i64 ((rd_T42 l0 a2).f4.f2)) ∧ w'.cell? ⟨(a3.add ((a2).toNat * 11)).block, (a3.add ((a2).toNat * 11)).off + 10, none⟩ = some (.int .i64 ((rd_T42 l0 a2).f4.f3)) ∧ w'.cell? (a5.add ((a2).toNat * 11)) = some (.slice f7 ((rd_T42 l1 a2).f0).length f8) ∧ w'.cell? ⟨(a5.add ((a2).toNat * 11)).block, (a5.add ((a2).toNat * 11)).off + 1, none⟩ = some (.int .i64 ((rd_T42 l1 a2).f1.f0)) ∧ w'.cell? ⟨(a5.add ((a2).toNat * 11)).block, (a5.add ((a2).toNat * 11)).off + 2, none⟩ = some (.int .i64 ((rd_T42 l1 a2).f1.f1)) ∧ w'.cell? ⟨(a5.add ((a2).toNat * 11)).block, (a5.add ((a2).toNat * 11)).off + 3, none⟩ = some (.int .i64 ((rd_T42 l1 a2).f1.f2)) ∧ w'.cell? ⟨(a5.add ((a2).toNat * 11)).block, (a5.add ((a2).toNat * 11)).off + 4, none⟩ = some (.int .i64 ((rd_T42 l1 a2).f1.f3)) ∧ w'.cell? ⟨(a5.add ((a2).toNat * 11)).block, (a5.add ((a2).toNat * 11)).off + 5, none⟩ = some (.slice f9 ((rd_T42 l1 a2).f2).length g0) ∧ w'.cell? ⟨(a5.add ((a2).toNat * 11)).block, (a5.add ((a2).toNat * 11)).off + 6, none⟩ = some (.int .i64 ((rd_T42 l1 a2).f3)) ∧ w'.cell? ⟨(a5.add ((a2).toNat * 11)).block, (a5.add ((a2).toNat * 11)).off + 7, none⟩ = some (.int .i64 ((rd_T42 l1 a2).f4.f0)) ∧ w'.cell? ⟨(a5.add ((a2).toNat * 11)).block, (a5.add ((a2).toNat * 11)).off + 8, none⟩ = some (.int .i64 ((rd_T42 l1 a2).f4.f1)) ∧ w'.cell? ⟨(a5.add ((a2).toNat * 11)).block, (a5.add ((a2).toNat * 11)).off + 9, none⟩ = some (.int .i64 ((rd_T42 l1 a2).f4.f2)) ∧ w'.cell? ⟨(a5.add ((a2).toNat * 11)).block, (a5.add ((a2).toNat * 11)).off + 10, none⟩ = some (.int .i64 ((rd_T42 l1 a2).f4.f3))) (ds := []) (mB 10 0) (by kernel_rfl) rfl rfl ⟨(cB HB hw1100_0), (cB HB hw1100_1), (cB HB hw1100_2), (cB HB hw1100_3), (cB HB hw1100_4), (cB HB hw1100_5), (cB HB hw1100_6), (cB HB hw1100_7), (cB HB hw1100_8), (cB HB hw1100_9), (cB HB hw1100_10), (cB HB hw1101_0), (cB HB hw1101_1), (cB HB hw1101_2), (cB HB hw1101_3), (cB HB hw1101_4), (cB HB hw1101_5), (cB HB hw1101_6), (cB HB hw1101_7), (cB HB hw1101_8), (cB HB hw1101_9), (cB HB hw1101_10)⟩ (fun hHeld => ?_)
      generalize wr.drew = w9 at HB e4 e5 e6 e7 a8 a9 a6 b0 b1 b2 b6 b7 b8 b9 d0 d1 d2 a7 d3 d4 d5 d6 e0 e1 e2 e3 hHeld ⊢
      refine pU 0 (some 17) (mB 10 1) ?_
      refine pU 1 (some 18) (mB 10 3) ?_
      refine pU 2 (some 19) (mB 10 7) ?_
      refine pU 4 (some 21) (mB 10 23) ?_
      refine pU 5 (some 22) (mB 10 55) ?_
      refine pU 6 (some 23) (mB 10 119) ?_
      refine tK 3 (some 20) (mB 10 127) ?_
      refine tK 7 (some 24) (mB 10 255) ?_
      refine one_ (i := 8) (N := some 25) (mB 10 511) rfl rfl (by kernel_rfl) (by decide) (fun K hK => ?_)
      refine goes_ Tryz.func45 (by kernel_rfl) rfl #[.agg #[.slice e8 ((rd_T42 l0 a2).f0).length e9, .int .i64 ((rd_T42 l0 a2).f1.f0), .int .i64 ((rd_T42 l0 a2).f1.f1), .int .i64 ((rd_T42 l0 a2).f1.f2), .int .i64 ((rd_T42 l0 a2).f1.f3), .slice f5 ((rd_T42 l0 a2).f2).length f6, .int .i64 ((rd_T42 l0 a2).f3), .int .i64 ((rd_T42 l0 a2).f4.f0), .int .i64 ((rd_T42 l0 a2).f4.f1), .int .i64 ((rd_T42 l0 a2).f4.f2), .int .i64 ((rd_T42 l0 a2).f4.f3)], .agg #[.slice f7 ((rd_T42 l1 a2).f0).length f8, .int .i64 ((rd_T42 l1 a2).f1.f0), .int .i64 ((rd_T42 l1 a2).f1.f1), .int .i64 ((rd_T42 l1 a2).f1.f2), .int .i64 ((rd_T42 l1 a2).f1.f3), .slice f9 ((rd_T42 l1 a2).f2).length g0, .int .i64 ((rd_T42 l1 a2).f3), .int .i64 ((rd_T42 l1 a2).f4.f0), .int .i64 ((rd_T42 l1 a2).f4.f1), .int .i64 ((rd_T42 l1 a2).f4.f2), .int .i64 ((rd_T42 l1 a2).f4.f3)]] (by rfl) rfl rfl mA ?_
      with_reducible refine (laws_eqGraphics.calls k1 _ _ ((rd_T42 l0 a2).f0) ((rd_T42 l0 a2).f1.f0) ((rd_T42 l0 a2).f1.f1) ((rd_T42 l0 a2).f1.f2) ((rd_T42 l0 a2).f1.f3) _ _ ((rd_T42 l0 a2).f2) ((rd_T42 l0 a2).f3) ((rd_T42 l0 a2).f4.f0) ((rd_T42 l0 a2).f4.f1) ((rd_T42 l0 a2).f4.f2) ((rd_T42 l0 a2).f4.f3) _ _ ((rd_T42 l1 a2).f0) ((rd_T42 l1 a2).f1.f0) ((rd_T42 l1 a2).f1.f1) ((rd_T42 l1 a2).f1.f2) ((rd_T42 l1 a2).f1.f3) _ _ ((rd_T42 l1 a2).f2) ((rd_T42 l1 a2).f3) ((rd_T42 l1 a2).f4.f0) ((rd_T42 l1 a2).f4.f1) ((rd_T42 l1 a2).f4.f2) ((rd_T42 l1 a2).f4.f3) _ _ ?side1 ?side2 ?side3 ?side4 ?side5 ?side6 ?side7 ?side8 A7.out).mono ?_
      (case side1 => exact cS (Kd.C_below e4.out HB.out))
      (case side2 => exact g3.out)
      (case side3 => exact cS (Kd.C_below e5.out HB.out))
      (case side4 => exact g4.out)
      (case side5 => exact cS (Kd.C_below e6.out HB.out))
      (case side6 => exact g7.out)
      (case side7 => exact cS (Kd.C_below e7.out HB.out))
      (case side8 => exact g8.out)
      rintro e i9 ⟨rfl, hb⟩
      refine ⟨_, rfl, ?_⟩
      replace HB := hB hb
      (try clear hb)
      (try clear i6)
      (try clear hk)
      (try clear hi)
      refine hK.out _ _ ⟨(cB HB hw1100_0), (cB HB hw1100_1), (cB HB hw1100_2), (cB HB hw1100_3), (cB HB hw1100_4), (cB HB hw1100_5), (cB HB hw1100_6), (cB HB hw1100_7), (cB HB hw1100_8), (cB HB hw1100_9), (cB HB hw1100_10), (cB HB hw1101_0), (cB HB hw1101_1), (cB HB hw1101_2), (cB HB hw1101_3), (cB HB hw1101_4), (cB HB hw1101_5), (cB HB hw1101_6), (cB HB hw1101_7), (cB HB hw1101_8), (cB HB hw1101_9), (cB HB hw1101_10)⟩ (fun hHeld => ?_)
      clear hK K
      refine norm_ (a' := ?_) ?_ ?_
      rotate_left
      ·show Act.put _ (some 25) _ = _
       simp only [Act.put, List.setIfInBounds_toArray, List.set_cons_zero, List.set_cons_succ, i64_w, i32_w]
       rfl
      refine pU 9 (some 26) (mB 10 1023) ?_
      refine done_ (by kernel_rfl) ?_
      try go_wp2
      go_roundg k1
      case measure => have := i3.out; omega
      case rel => exact ⟨(wrap64 (a2 + 1)), fS, H', ⟨by have := i3.out; omega⟩, ⟨bS⟩⟩
     ·obtain rfl := Bool.eq_false_iff.mpr c8
      rw [if_neg nF] at H
      obtain rfl := Option.some.inj H
      try go_wp2
      replace HB := hD HB
      have g1 : 0 ≤ (a2 : Int) := dA
      have g2 : a2 < (l0.length : Int) := dA
      obtain ⟨a3, e8, e9, f5, f6, g9, a8, a9, b0, b1, b2, b6, b7, b8, b9, d0, a6, hl1100_0, hi1100_0, hl1100_5, hi1100_5⟩ := at_T42 h9.out a2 g1 g2
      have hw1100_10 := a6
      have hw1100_9 := d0
      have hw1100_8 := b9
      have hw1100_7 := b8
      have hw1100_6 := b7
      have hw1100_5 := b6
      have hw1100_4 := b2
      have hw1100_3 := b1
      have hw1100_2 := b0
      have hw1100_1 := a9
      have hw1100_0 := a8
      cases g9
      replace a8 := cB HB a8
      replace a9 := cB HB a9
      replace b0 := cB HB b0
      replace b1 := cB HB b1
      replace b2 := cB HB b2
      replace b6 := cB HB b6
      replace b7 := cB HB b7
      replace b8 := cB HB b8
      replace b9 := cB HB b9
      replace d0 := cB HB d0
      replace a6 := cB HB a6
      have e4 := aM hi1100_0
      have g3 := aM hl1100_0
      clear hi1100_0 hl1100_0
      have e5 := aM hi1100_5
      have g4 := aM hl1100_5
      clear hi1100_5 hl1100_5
      replace g1 := eq_true g1
      replace g2 := eq_true g2
      have g5 : 0 ≤ (a2 : Int) := dA
      have g6 : a2 < (l1.length : Int) := dA
      obtain ⟨a5, f7, f8, f9, g0, h0, d1, d2, d3, d4, d5, d6, e0, e1, e2, e3, a7, hl1101_0, hi1101_0, hl1101_5, hi1101_5⟩ := at_T42 i1.out a2 g5 g6
      have hw1101_10 := a7
      have hw1101_9 := e3
      have hw1101_8 := e2
      have hw1101_7 := e1
      have hw1101_6 := e0
      have hw1101_5 := d6
      have hw1101_4 := d5
      have hw1101_3 := d4
      have hw1101_2 := d3
      have hw1101_1 := d2
      have hw1101_0 := d1
      cases h0
      replace d1 := cB HB d1
      replace d2 := cB HB d2
      replace d3 := cB HB d3
      replace d4 := cB HB d4
      replace d5 := cB HB d5
      replace d6 := cB HB d6
      replace e0 := cB HB e0
      replace e1 := cB HB e1
      replace e2 := cB HB e2
      replace e3 := cB HB e3
      replace a7 := cB HB a7
      have e6 := aM hi1101_0
      have g7 := aM hl1101_0
      clear hi1101_0 hl1101_0
      have e7 := aM hi1101_5
      have g8 := aM hl1101_5
      clear hi1101_5 hl1101_5
      replace g5 := eq_true g5
      replace g6 := eq_true g6
      refine start_ (n := 10) (S := fun w' => w'.cell? (a3.add ((a2).toNat * 11)) = some (.slice e8 ((rd_T42 l0 a2).f0).length e9) ∧ w'.cell? ⟨(a3.add ((a2).toNat * 11)).block, (a3.add ((a2).toNat * 11)).off + 1, none⟩ = some (.int .i64 ((rd_T42 l0 a2).f1.f0)) ∧ w'.cell? ⟨(a3.add ((a2).toNat * 11)).block, (a3.add ((a2).toNat * 11)).off + 2, none⟩ = some (.int .i64 ((rd_T42 l0 a2).f1.f1)) ∧ w'.cell? ⟨(a3.add ((a2).toNat * 11)).block, (a3.add ((a2).toNat * 11)).off + 3, none⟩ = some (.int .i64 ((rd_T42 l0 a2).f1.f2)) ∧ w'.cell? ⟨(a3.add ((a2).toNat * 11)).block, (a3.add ((a2).toNat * 11)).off + 4, none⟩ = some (.int .i64 ((rd_T42 l0 a2).f1.f3)) ∧ w'.cell? ⟨(a3.add ((a2).toNat * 11)).block, (a3.add ((a2).toNat * 11)).off + 5, none⟩ = some (.slice f5 ((rd_T42 l0 a2).f2).length f6) ∧ w'.cell? ⟨(a3.add ((a2).toNat * 11)).block, (a3.add ((a2).toNat * 11)).off + 6, none⟩ = some (.int .i64 ((rd_T42 l0 a2).f3)) ∧ w'.cell? ⟨(a3.add ((a2).toNat * 11)).block, (a3.add ((a2).toNat * 11)).off + 7, none⟩ = some (.int .i64 ((rd_T42 l0 a2).f4.f0)) ∧ w'.cell? ⟨(a3.add ((a2).toNat * 11)).block, (a3.add ((a2).toNat * 11)).off + 8, none⟩ = some (.int .i64 ((rd_T42 l0 a2).f4.f1)) ∧ w'.cell? ⟨(a3.add ((a2).toNat * 11)).block, (a3.add ((a2).toNat * 11)).off + 9, none⟩ = some (.int .i64 ((rd_T42 l0 a2).f4.f2)) ∧ w'.cell? ⟨(a3.add ((a2).toNat * 11)).block, (a3.add ((a2).toNat * 11)).off + 10, none⟩ = some (.int .i64 ((rd_T42 l0 a2).f4.f3)) ∧ w'.cell? (a5.add ((a2).toNat * 11)) = some (.slice f7 ((rd_T42 l1 a2).f0).length f8) ∧ w'.cell? ⟨(a5.add ((a2).toNat * 11)).block, (a5.add ((a2).toNat * 11)).off + 1, none⟩ = some (.int .i64 ((rd_T42 l1 a2).f1.f0)) ∧ w'.cell? ⟨(a5.add ((a2).toNat * 11)).block, (a5.add ((a2).toNat * 11)).off + 2, none⟩ = some (.int .i64 ((rd_T42 l1 a2).f1.f1)) ∧ w'.cell? ⟨(a5.add ((a2).toNat * 11)).block, (a5.add ((a2).toNat * 11)).off + 3, none⟩ = some (.int .i64 ((rd_T42 l1 a2).f1.f2)) ∧ w'.cell? ⟨(a5.add ((a2).toNat * 11)).block, (a5.add ((a2).toNat * 11)).off + 4, none⟩ = some (.int .i64 ((rd_T42 l1 a2).f1.f3)) ∧ w'.cell? ⟨(a5.add ((a2).toNat * 11)).block, (a5.add ((a2).toNat * 11)).off + 5, none⟩ = some (.slice f9 ((rd_T42 l1 a2).f2).length g0) ∧ w'.cell? ⟨(a5.add ((a2).toNat * 11)).block, (a5.add ((a2).toNat * 11)).off + 6, none⟩ = some (.int .i64 ((rd_T42 l1 a2).f3)) ∧ w'.cell? ⟨(a5.add ((a2).toNat * 11)).block, (a5.add ((a2).toNat * 11)).off + 7, none⟩ = some (.int .i64 ((rd_T42 l1 a2).f4.f0)) ∧ w'.cell? ⟨(a5.add ((a2).toNat * 11)).block, (a5.add ((a2).toNat * 11)).off + 8, none⟩ = some (.int .i64 ((rd_T42 l1 a2).f4.f1)) ∧ w'.cell? ⟨(a5.add ((a2).toNat * 11)).block, (a5.add ((a2).toNat * 11)).off + 9, none⟩ = some (.int .i64 ((rd_T42 l1 a2).f4.f2)) ∧ w'.cell? ⟨(a5.add ((a2).toNat * 11)).block, (a5.add ((a2).toNat * 11)).off + 10, none⟩ = some (.int .i64 ((rd_T42 l1 a2).f4.f3))) (ds := []) (mB 10 0) (by kernel_rfl) rfl rfl ⟨(cB HB hw1100_0), (cB HB hw1100_1), (cB HB hw1100_2), (cB HB hw1100_3), (cB HB hw1100_4), (cB HB hw1100_5), (cB HB hw1100_6), (cB HB hw1100_7), (cB HB hw1100_8), (cB HB hw1100_9), (cB HB hw1100_10), (cB HB hw1101_0), (cB HB hw1101_1), (cB HB hw1101_2), (cB HB hw1101_3), (cB HB hw1101_4), (cB HB hw1101_5), (cB HB hw1101_6), (cB HB hw1101_7), (cB HB hw1101_8), (cB HB hw1101_9), (cB HB hw1101_10)⟩ (fun hHeld => ?_)
      generalize wr.drew = j5 at HB e4 e5 e6 e7 a8 a9 a6 b0 b1 b2 b6 b7 b8 b9 d0 d1 d2 a7 d3 d4 d5 d6 e0 e1 e2 e3 hHeld ⊢
      refine pU 0 (some 17) (mB 10 1) ?_
      refine pU 1 (some 18) (mB 10 3) ?_
      refine pU 2 (some 19) (mB 10 7) ?_
      refine pU 4 (some 21) (mB 10 23) ?_
      refine pU 5 (some 22) (mB 10 55) ?_
      refine pU 6 (some 23) (mB 10 119) ?_
      refine tK 3 (some 20) (mB 10 127) ?_
      refine tK 7 (some 24) (mB 10 255) ?_
      refine one_ (i := 8) (N := some 25) (mB 10 511) rfl rfl (by kernel_rfl) (by decide) (fun K hK => ?_)
      refine goes_ Tryz.func45 (by kernel_rfl) rfl #[.agg #[.slice e8 ((rd_T42 l0 a2).f0).length e9, .int .i64 ((rd_T42 l0 a2).f1.f0), .int .i64 ((rd_T42 l0 a2).f1.f1), .int .i64 ((rd_T42 l0 a2).f1.f2), .int .i64 ((rd_T42 l0 a2).f1.f3), .slice f5 ((rd_T42 l0 a2).f2).length f6, .int .i64 ((rd_T42 l0 a2).f3), .int .i64 ((rd_T42 l0 a2).f4.f0), .int .i64 ((rd_T42 l0 a2).f4.f1), .int .i64 ((rd_T42 l0 a2).f4.f2), .int .i64 ((rd_T42 l0 a2).f4.f3)], .agg #[.slice f7 ((rd_T42 l1 a2).f0).length f8, .int .i64 ((rd_T42 l1 a2).f1.f0), .int .i64 ((rd_T42 l1 a2).f1.f1), .int .i64 ((rd_T42 l1 a2).f1.f2), .int .i64 ((rd_T42 l1 a2).f1.f3), .slice f9 ((rd_T42 l1 a2).f2).length g0, .int .i64 ((rd_T42 l1 a2).f3), .int .i64 ((rd_T42 l1 a2).f4.f0), .int .i64 ((rd_T42 l1 a2).f4.f1), .int .i64 ((rd_T42 l1 a2).f4.f2), .int .i64 ((rd_T42 l1 a2).f4.f3)]] (by rfl) rfl rfl mA ?_
      with_reducible refine (laws_eqGraphics.calls k1 _ _ ((rd_T42 l0 a2).f0) ((rd_T42 l0 a2).f1.f0) ((rd_T42 l0 a2).f1.f1) ((rd_T42 l0 a2).f1.f2) ((rd_T42 l0 a2).f1.f3) _ _ ((rd_T42 l0 a2).f2) ((rd_T42 l0 a2).f3) ((rd_T42 l0 a2).f4.f0) ((rd_T42 l0 a2).f4.f1) ((rd_T42 l0 a2).f4.f2) ((rd_T42 l0 a2).f4.f3) _ _ ((rd_T42 l1 a2).f0) ((rd_T42 l1 a2).f1.f0) ((rd_T42 l1 a2).f1.f1) ((rd_T42 l1 a2).f1.f2) ((rd_T42 l1 a2).f1.f3) _ _ ((rd_T42 l1 a2).f2) ((rd_T42 l1 a2).f3) ((rd_T42 l1 a2).f4.f0) ((rd_T42 l1 a2).f4.f1) ((rd_T42 l1 a2).f4.f2) ((rd_T42 l1 a2).f4.f3) _ _ ?side1 ?side2 ?side3 ?side4 ?side5 ?side6 ?side7 ?side8 A7.out).mono ?_
      (case side1 => exact cS (Kd.C_below e4.out HB.out))
      (case side2 => exact g3.out)
      (case side3 => exact cS (Kd.C_below e5.out HB.out))
      (case side4 => exact g4.out)
      (case side5 => exact cS (Kd.C_below e6.out HB.out))
      (case side6 => exact g7.out)
      (case side7 => exact cS (Kd.C_below e7.out HB.out))
      (case side8 => exact g8.out)
      rintro e j6 ⟨rfl, hb⟩
      refine ⟨_, rfl, ?_⟩
      replace HB := hB hb
      (try clear hb)
      (try clear i6)
      (try clear hk)
      (try clear hi)
      refine hK.out _ _ ⟨(cB HB hw1100_0), (cB HB hw1100_1), (cB HB hw1100_2), (cB HB hw1100_3), (cB HB hw1100_4), (cB HB hw1100_5), (cB HB hw1100_6), (cB HB hw1100_7), (cB HB hw1100_8), (cB HB hw1100_9), (cB HB hw1100_10), (cB HB hw1101_0), (cB HB hw1101_1), (cB HB hw1101_2), (cB HB hw1101_3), (cB HB hw1101_4), (cB HB hw1101_5), (cB HB hw1101_6), (cB HB hw1101_7), (cB HB hw1101_8), (cB HB hw1101_9), (cB HB hw1101_10)⟩ (fun hHeld => ?_)
      clear hK K
      refine norm_ (a' := ?_) ?_ ?_
      rotate_left
      ·show Act.put _ (some 25) _ = _
       simp only [Act.put, List.setIfInBounds_toArray, List.set_cons_zero, List.set_cons_succ, i64_w, i32_w]
       rfl
      refine pU 9 (some 26) (mB 10 1023) ?_
      refine done_ (by kernel_rfl) ?_
      try go_wp2
      go_ret
      exact ⟨eS, bS⟩
    ·obtain rfl := Option.some.inj H
     go_wp2
     go_ret
     exact ⟨eS, bS⟩
 ·rw [if_neg c3] at H
  have h1 : ((l0.length : Int) == (l1.length : Int)) = false := beq_eq_false_iff_ne.mpr c3
  have h2 : ((l0.length : Int) != (l1.length : Int)) = true := bne_iff_ne.mpr c3
  have h3 : (l0.length == l1.length) = false := by first | simpa using c3 | (simp at c3 ⊢; omega)
  obtain rfl := Option.some.inj H
  go_enter Tryz.func46, Tryz.ntmps46
  go_wp2
  go_ret
  exact ⟨eS, bS⟩
def laws_eqObject.f (k : Nat) (a5 : List (S111)) (a6 : Int) (a7 : Int) (a8 : Int) (a9 : Int) (b0 : Int) (b1 : List (S111)) (b2 : Int) (b6 : Int) (b7 : Int) (b8 : Int) (b9 : Int) : Option (Bool) := (laws_eqPointS.f k a5 b1).bind fun a2 => (if a2 = true then (if a6 = b2 then ((laws_eqBox.f a7 a8 a9 b0 b6 b7 b8 b9).bind fun a3 => (if a3 = true then (some true) else (some false))) else (some false)) else (some false))
theorem laws_eqObject.lf0 {p : Prop} (h : p := by
 go_enter Tryz.func99, Tryz.ntmps99
 go_wp2_with (first | ((with_reducible refine gD 2 ?_); refine bxE #[.slice d4 a9.length d5, .int .i64 b1, .int .i64 b6, .int .i64 b7, .int .i64 b8, .int .i64 b9] 103 ?_; intro a5 hg i7 a2 hb; have GE1103 := gE hg; replace HB := hB hb; clear hb hg) | ((with_reducible refine gD 3 ?_); refine bxE #[.slice d6 b0.length e0, .int .i64 b2, .int .i64 d0, .int .i64 d1, .int .i64 d2, .int .i64 d3] 103 ?_; intro a8 hg i8 a3 hb; have GE1104 := gE hg; have a6 := nL_ a5 hg; have a7 := nG_ a5 hg; replace a2 := kB_ a5 hb; replace HB := hB hb; clear hb hg; have hnb19 := nP a6 a7; have f3 := cg0 a2; have f4 := cg1 a2; have f5 := cg2 a2; have f6 := cg3 a2; have f7 := cg4 a2; have f8 := cg5 a2; have f9 := cg0 a3; have g0 := cg1 a3; have g1 := cg2 a3; have g2 := cg3 a3; have g3 := cg4 a3; have g4 := cg5 a3) | ((with_reducible refine gC 97 ?_); refine cM (some 9) Tryz.func97 (laws_eqPointS.calls k _ _ a9 _ _ b0 _ _ (cC e1 HB) e2.out (cC e3 HB) e4.out A3.out) ?_; rintro e i9 ⟨rfl, hb⟩; refine ⟨_, rfl, ?_⟩; replace a2 := kB_ a5 hb; replace a3 := kB_ a8 hb; replace HB := hB hb; (try clear hb); have g5 := cg1 a2; have g6 := cg2 a2; have g7 := cg3 a2; have g8 := cg4 a2; have g9 := cg5 a2; have h0 := cg1 a3; have h1 := cg2 a3; have h2 := cg3 a3; have h3 := cg4 a3; have h4 := cg5 a3) | ((with_reducible refine gC 98 ?_); refine cM (some 20) Tryz.func98 (laws_eqBox.calls b6 b7 b8 b9 d0 d1 d2 d3 _ _ A6.out) ?_; rintro e j5 ⟨rfl, hb⟩; refine ⟨_, rfl, ?_⟩; replace a2 := kB_ a5 hb; replace a3 := kB_ a8 hb; replace HB := hB hb; (try clear hb)))
 go_ret
 exact ⟨eS, bS⟩) : p := h
theorem laws_eqObject.calls (k : Nat) (d4 : Option Addr) (d5 : Nat) (a9 : List (S111)) (b1 : Int) (b6 : Int) (b7 : Int) (b8 : Int) (b9 : Int) (d6 : Option Addr) (e0 : Nat) (b0 : List (S111)) (b2 : Int) (d0 : Int) (d1 : Int) (d2 : Int) (d3 : Int) (r : Bool) (w : World) (e5 : Kd.C k111 w d4 a9.length a9) (e6 : a9.length ≤ d5) (e7 : Kd.C k111 w d6 b0.length b0) (e8 : b0.length ≤ e0) (h : laws_eqObject.f k a9 b1 b6 b7 b8 b9 b0 b2 d0 d1 d2 d3 = some r) :
  Calls Tryz.prog 99 #[.agg #[.slice d4 a9.length d5, .int .i64 b1, .int .i64 b6, .int .i64 b7, .int .i64 b8, .int .i64 b9], .agg #[.slice d6 b0.length e0, .int .i64 b2, .int .i64 d0, .int .i64 d1, .int .i64 d2, .int .i64 d3]] w fun e w' => e = .returned (.bool r) ∧ Below w.heap.size w w' := by
 have hu103 := Tryz.underlying103
 have hu40 := Tryz.underlying40
 have e1 := aM e5
 have e2 := aM e6
 clear e5 e6
 have e3 := aM e7
 have e4 := aM e8
 clear e7 e8
 have HB := aM (Below.refl w.heap.size w)
 have H := h
 clear h
 unfold laws_eqObject.f at H
 replace H := bN H
 obtain ⟨e9, A3, H⟩ := H
 by_cases c4 : e9 = true
 ·subst c4
  rw [if_pos rfl] at H
  by_cases c5 : b1 = b2
  ·rw [if_pos c5] at H
   have i5 : (b1 == b2) = true := beq_iff_eq.mpr c5
   have i6 : (b1 != b2) = false := bne_eq_false_iff_eq.mpr c5
   clear c5
   replace H := bN H
   obtain ⟨f0, A6, H⟩ := H
   by_cases c7 : f0 = true
   ·subst c7
    rw [if_pos rfl] at H
    obtain rfl := Option.some.inj H
    exact laws_eqObject.lf0
   ·obtain rfl := Bool.eq_false_iff.mpr c7
    rw [if_neg nF] at H
    obtain rfl := Option.some.inj H
    exact laws_eqObject.lf0
  ·rw [if_neg c5] at H
   have i5 : (b1 == b2) = false := beq_eq_false_iff_ne.mpr c5
   have i6 : (b1 != b2) = true := bne_iff_ne.mpr c5
   obtain rfl := Option.some.inj H
   go_enter Tryz.func99, Tryz.ntmps99
   go_wp2_with (first | ((with_reducible refine gD 2 ?_); refine bxE #[.slice d4 a9.length d5, .int .i64 b1, .int .i64 b6, .int .i64 b7, .int .i64 b8, .int .i64 b9] 103 ?_; intro a5 hg j6 a2 hb; have GE1103 := gE hg; replace HB := hB hb; clear hb hg) | ((with_reducible refine gD 3 ?_); refine bxE #[.slice d6 b0.length e0, .int .i64 b2, .int .i64 d0, .int .i64 d1, .int .i64 d2, .int .i64 d3] 103 ?_; intro a8 hg j7 a3 hb; have GE1104 := gE hg; have a6 := nL_ a5 hg; have a7 := nG_ a5 hg; replace a2 := kB_ a5 hb; replace HB := hB hb; clear hb hg; have hnb28 := nP a6 a7; have h5 := cg0 a2; have h6 := cg1 a2; have h7 := cg0 a3; have h8 := cg1 a3) | ((with_reducible refine gC 97 ?_); refine cM (some 9) Tryz.func97 (laws_eqPointS.calls k _ _ a9 _ _ b0 _ _ (cC e1 HB) e2.out (cC e3 HB) e4.out A3.out) ?_; rintro e j8 ⟨rfl, hb⟩; refine ⟨_, rfl, ?_⟩; replace a2 := kB_ a5 hb; replace a3 := kB_ a8 hb; replace HB := hB hb; (try clear hb); have h9 := cg1 a2; have i1 := cg1 a3))
   go_ret
   exact ⟨eS, bS⟩
 ·obtain rfl := Bool.eq_false_iff.mpr c4
  rw [if_neg nF] at H
  obtain rfl := Option.some.inj H
  go_enter Tryz.func99, Tryz.ntmps99
  go_wp2_with (first | ((with_reducible refine gD 2 ?_); refine bxE #[.slice d4 a9.length d5, .int .i64 b1, .int .i64 b6, .int .i64 b7, .int .i64 b8, .int .i64 b9] 103 ?_; intro a5 hg j9 a2 hb; have GE1103 := gE hg; replace HB := hB hb; clear hb hg) | ((with_reducible refine gD 3 ?_); refine bxE #[.slice d6 b0.length e0, .int .i64 b2, .int .i64 d0, .int .i64 d1, .int .i64 d2, .int .i64 d3] 103 ?_; intro a8 hg k0 a3 hb; have GE1104 := gE hg; have a6 := nL_ a5 hg; have a7 := nG_ a5 hg; replace a2 := kB_ a5 hb; replace HB := hB hb; clear hb hg; have hnb36 := nP a6 a7; have i3 := cg0 a2; have i4 := cg0 a3) | ((with_reducible refine gC 97 ?_); refine cM (some 9) Tryz.func97 (laws_eqPointS.calls k _ _ a9 _ _ b0 _ _ (cC e1 HB) e2.out (cC e3 HB) e4.out A3.out) ?_; rintro e k1 ⟨rfl, hb⟩; refine ⟨_, rfl, ?_⟩; replace a2 := kB_ a5 hb; replace a3 := kB_ a8 hb; replace HB := hB hb; (try clear hb)))
  go_ret
  exact ⟨eS, bS⟩
end Go.Proofs.YtjkgponlahfnjaaGreat.QFnExactExecToken
