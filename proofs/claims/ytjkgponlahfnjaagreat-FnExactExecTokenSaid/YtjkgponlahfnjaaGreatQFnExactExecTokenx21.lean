/- Walks of functions of the program, made out of the translation by a program of this session: each answers what its plain function tells, for every input at which that is told. -/
import Derived.Test.YtjkgponlahfnjaaGreatQFnExactExecTokenx0
namespace Go.Proofs.YtjkgponlahfnjaaGreat.QFnExactExecToken
open Go.RowKit Go.Proofs.YtjkgponlahfnjaaGreatW.PrintWords Go.Proofs.YtjkgponlahfnjaaGreatW.PrintLast Go.Proofs.YtjkgponlahfnjaaGreatW.PrintMore
attribute [local go_sem] max2_int min2_int max_two min_two max_three min_three max_four min_four   -- for this text's walks alone
set_option linter.unusedVariables false
set_option linter.unusedSimpArgs false
set_option maxHeartbeats 8000000
set_option maxRecDepth 100000
/-! ### laws_eqIntS: function 95 -/
def laws_eqIntS.l0 : Nat → List Int → List Int → Int → Option (Bool)
 | 0, _, _, _ => none
 | k + 1, x0, x1, x5 => if x5 < (x0.length : Int) then (if 0 ≤ x5 then (if x5 < (x1.length : Int) then (if (rd x0 x5) = (rd x1 x5) then (laws_eqIntS.l0 k x0 x1 (wrap64 (x5 + 1))) else (some false)) else (none)) else (none)) else (some true)
def laws_eqIntS.f (k : Nat) (l0 : List Int) (l1 : List Int) : Option (Bool) := if (l0.length : Int) = (l1.length : Int) then (laws_eqIntS.l0 k l0 l1 0) else (some false)
theorem laws_eqIntS.calls (k : Nat) (A0 : Option Addr) (c0 : Nat) (l0 : List Int) (A1 : Option Addr) (c1 : Nat) (l1 : List Int) (r : Bool) (w : World) (hr0 : Kd.C (Kd.int .i64) w A0 l0.length l0) (d3 : l0.length ≤ c0) (d4 : Kd.C (Kd.int .i64) w A1 l1.length l1) (d5 : l1.length ≤ c1) (h : laws_eqIntS.f k l0 l1 = some r) :
  Calls Tryz.prog 95 #[.slice A0 l0.length c0, .slice A1 l1.length c1] w fun e w' => e = .returned (.bool r) ∧ Drawn0 w w' := by
 have d6 := aM hr0
 have e4 := aM d3
 clear hr0 d3
 have e0 := aM d4
 have e5 := aM d5
 clear d4 d5
 have H := h
 clear h
 unfold laws_eqIntS.f at H
 by_cases c3 : (l0.length : Int) = (l1.length : Int)
 ·rw [if_pos c3] at H
  have b7 : ((l0.length : Int) == (l1.length : Int)) = true := beq_iff_eq.mpr c3
  have b8 : ((l0.length : Int) != (l1.length : Int)) = false := bne_eq_false_iff_eq.mpr c3
  have b9 : (l0.length == l1.length) = true := by first | simpa using c3 | (simp at c3 ⊢; omega)
  clear c3
  have H' := aM H
  clear H
  go_enter Tryz.func95, Tryz.ntmps95
  go_wp2
  repeat (go_quiet (fail); try go_wp2)
  go_loopg [5] k (fun kq v5 w' => ∃ (a2 : Int), v5 = .int .i64 a2 ∧ Aside0 (laws_eqIntS.l0 kq l0 l1 a2 = some r) ∧ Aside0 (kq ≤ k) ∧ Drawn0 w w')
  case atStart => exact ⟨(0), fS, H', ⟨Nat.le_refl _⟩, dS⟩
  case round =>
   clear H'
   try clear c1
   try clear p2
   try clear c3
   try clear b7
   try clear b8
   try clear b9
   obtain ⟨a2, rfl, HA, e1, ⟨m1, rfl⟩⟩ := hrel
   cases gk with
   | zero => exact absurd HA.out (by simp [laws_eqIntS.l0])
   | succ k1 =>
    have H := HA.out
    clear HA
    simp only [laws_eqIntS.l0] at H
    rcases iD H with ⟨d0, H⟩ | ⟨d0, H⟩
    ·obtain ⟨e2, H⟩ := iT H
     obtain ⟨e3, H⟩ := iT H
     by_cases c7 : (rd l0 a2) = (rd l1 a2)
     ·rw [if_pos c7] at H
      have d1 : ((rd l0 a2) == (rd l1 a2)) = true := beq_iff_eq.mpr c7
      have d2 : ((rd l0 a2) != (rd l1 a2)) = false := bne_eq_false_iff_eq.mpr c7
      clear c7
      have H' := aM H
      clear H
      have a3 : 0 ≤ (a2 : Int) := dA
      have a5 : a2 < (l0.length : Int) := dA
      obtain ⟨b2, a8, a9⟩ := Kd.at_int d6.out a2 a3 a5
      cases a8
      replace a3 := eq_true a3
      replace a5 := eq_true a5
      have a6 : 0 ≤ (a2 : Int) := dA
      have a7 : a2 < (l1.length : Int) := dA
      obtain ⟨b6, b0, b1⟩ := Kd.at_int e0.out a2 a6 a7
      cases b0
      replace a6 := eq_true a6
      replace a7 := eq_true a7
      go_wp2
      repeat (go_quiet (fail); try go_wp2)
      go_roundg k1
      case measure => have := e1.out; omega
      case rel => exact ⟨(wrap64 (a2 + 1)), fS, H', ⟨by have := e1.out; omega⟩, dS⟩
     ·rw [if_neg c7] at H
      have d1 : ((rd l0 a2) == (rd l1 a2)) = false := beq_eq_false_iff_ne.mpr c7
      have d2 : ((rd l0 a2) != (rd l1 a2)) = true := bne_iff_ne.mpr c7
      obtain rfl := Option.some.inj H
      have a3 : 0 ≤ (a2 : Int) := dA
      have a5 : a2 < (l0.length : Int) := dA
      obtain ⟨b2, a8, a9⟩ := Kd.at_int d6.out a2 a3 a5
      cases a8
      replace a3 := eq_true a3
      replace a5 := eq_true a5
      have a6 : 0 ≤ (a2 : Int) := dA
      have a7 : a2 < (l1.length : Int) := dA
      obtain ⟨b6, b0, b1⟩ := Kd.at_int e0.out a2 a6 a7
      cases b0
      replace a6 := eq_true a6
      replace a7 := eq_true a7
      go_wp2
      repeat (go_quiet (fail); try go_wp2)
      go_ret
      exact ⟨fS, dS⟩
    ·obtain rfl := Option.some.inj H
     go_wp2
     repeat (go_quiet (fail); try go_wp2)
     go_ret
     exact ⟨fS, dS⟩
 ·rw [if_neg c3] at H
  have b7 : ((l0.length : Int) == (l1.length : Int)) = false := beq_eq_false_iff_ne.mpr c3
  have b8 : ((l0.length : Int) != (l1.length : Int)) = true := bne_iff_ne.mpr c3
  have b9 : (l0.length == l1.length) = false := by first | simpa using c3 | (simp at c3 ⊢; omega)
  obtain rfl := Option.some.inj H
  go_enter Tryz.func95, Tryz.ntmps95
  go_wp2
  repeat (go_quiet (fail); try go_wp2)
  go_ret
  exact ⟨fS, dS⟩
def laws_eqTurn.f (a2 : Int) (a3 : Int) (a5 : Int) (a6 : Int) (a7 : Int) (a8 : Int) (a9 : Int) (b0 : Int) : Option (Bool) := if a2 = a7 then (if a3 = a8 then (if a5 = a9 then (if a6 = b0 then (some true) else (some false)) else (some false)) else (some false)) else (some false)
theorem laws_eqTurn.lf0 {p : Prop} (h : p := by
 go_enter Tryz.func96, Tryz.ntmps96
 go_wp2_with (first | ((with_reducible refine gD 2 ?_); refine bxE #[.int .i64 a2, .int .i64 a3, .int .i64 a5, .int .i64 a6] 38 ?_; intro b6 hg e1 b7 hb; have GE1085 := gE hg; replace HB := hB hb; clear hb hg) | ((with_reducible refine gD 3 ?_); refine bxE #[.int .i64 a7, .int .i64 a8, .int .i64 a9, .int .i64 b0] 38 ?_; intro b9 hg e2 b8 hb; have GE1086 := gE hg; have b1 := nL_ b6 hg; have b2 := nG_ b6 hg; replace b7 := kB_ b6 hb; replace HB := hB hb; clear hb hg; have hnb14 := nP b1 b2; have hz15 := cz4 b7; have hz16 := cz4 b8))
 go_ret
 exact ⟨eS, bS⟩) : p := h
theorem laws_eqTurn.calls (a2 : Int) (a3 : Int) (a5 : Int) (a6 : Int) (a7 : Int) (a8 : Int) (a9 : Int) (b0 : Int) (r : Bool) (w : World) (h : laws_eqTurn.f a2 a3 a5 a6 a7 a8 a9 b0 = some r) :
  Calls Tryz.prog 96 #[.agg #[.int .i64 a2, .int .i64 a3, .int .i64 a5, .int .i64 a6], .agg #[.int .i64 a7, .int .i64 a8, .int .i64 a9, .int .i64 b0]] w fun e w' => e = .returned (.bool r) ∧ Below w.heap.size w w' := by
 have hu38 := Tryz.underlying38
 have HB := aM (Below.refl w.heap.size w)
 have H := h
 clear h
 unfold laws_eqTurn.f at H
 by_cases c3 : a2 = a7
 ·rw [if_pos c3] at H
  have d0 : (a2 == a7) = true := beq_iff_eq.mpr c3
  have d1 : (a2 != a7) = false := bne_eq_false_iff_eq.mpr c3
  clear c3
  by_cases c4 : a3 = a8
  ·rw [if_pos c4] at H
   have d2 : (a3 == a8) = true := beq_iff_eq.mpr c4
   have d3 : (a3 != a8) = false := bne_eq_false_iff_eq.mpr c4
   clear c4
   by_cases c5 : a5 = a9
   ·rw [if_pos c5] at H
    have d4 : (a5 == a9) = true := beq_iff_eq.mpr c5
    have d5 : (a5 != a9) = false := bne_eq_false_iff_eq.mpr c5
    clear c5
    by_cases c6 : a6 = b0
    ·rw [if_pos c6] at H
     have d6 : (a6 == b0) = true := beq_iff_eq.mpr c6
     have e0 : (a6 != b0) = false := bne_eq_false_iff_eq.mpr c6
     clear c6
     obtain rfl := Option.some.inj H
     exact laws_eqTurn.lf0
    ·rw [if_neg c6] at H
     have d6 : (a6 == b0) = false := beq_eq_false_iff_ne.mpr c6
     have e0 : (a6 != b0) = true := bne_iff_ne.mpr c6
     obtain rfl := Option.some.inj H
     exact laws_eqTurn.lf0
   ·rw [if_neg c5] at H
    have d4 : (a5 == a9) = false := beq_eq_false_iff_ne.mpr c5
    have d5 : (a5 != a9) = true := bne_iff_ne.mpr c5
    obtain rfl := Option.some.inj H
    exact laws_eqTurn.lf0
  ·rw [if_neg c4] at H
   have d2 : (a3 == a8) = false := beq_eq_false_iff_ne.mpr c4
   have d3 : (a3 != a8) = true := bne_iff_ne.mpr c4
   obtain rfl := Option.some.inj H
   exact laws_eqTurn.lf0
 ·rw [if_neg c3] at H
  have d0 : (a2 == a7) = false := beq_eq_false_iff_ne.mpr c3
  have d1 : (a2 != a7) = true := bne_iff_ne.mpr c3
  obtain rfl := Option.some.inj H
  exact laws_eqTurn.lf0
def laws_eqPoint.f (a2 : Int) (a3 : Int) (a5 : Int) (a6 : Int) : Option (Bool) := if a2 = a5 then (if a3 = a6 then (some true) else (some false)) else (some false)
theorem laws_eqPoint.lf0 {p : Prop} (h : p := by
 go_enter Tryz.func120, Tryz.ntmps120
 go_wp2_with (first | ((with_reducible refine gD 2 ?_); refine bxE #[.int .i64 a2, .int .i64 a3] 111 ?_; intro a9 hg d0 b0 hb; have GE1087 := gE hg; replace HB := hB hb; clear hb hg) | ((with_reducible refine gD 3 ?_); refine bxE #[.int .i64 a5, .int .i64 a6] 111 ?_; intro b2 hg d1 b1 hb; have GE1088 := gE hg; have a7 := nL_ a9 hg; have a8 := nG_ a9 hg; replace b0 := kB_ a9 hb; replace HB := hB hb; clear hb hg; have hnb12 := nP a7 a8; have hz13 := cz2 b0; have hz14 := cz2 b1))
 go_ret
 exact ⟨eS, bS⟩) : p := h
theorem laws_eqPoint.calls (a2 : Int) (a3 : Int) (a5 : Int) (a6 : Int) (r : Bool) (w : World) (h : laws_eqPoint.f a2 a3 a5 a6 = some r) :
  Calls Tryz.prog 120 #[.agg #[.int .i64 a2, .int .i64 a3], .agg #[.int .i64 a5, .int .i64 a6]] w fun e w' => e = .returned (.bool r) ∧ Below w.heap.size w w' := by
 have hu111 := Tryz.underlying111
 have HB := aM (Below.refl w.heap.size w)
 have H := h
 clear h
 unfold laws_eqPoint.f at H
 by_cases c3 : a2 = a5
 ·rw [if_pos c3] at H
  have b6 : (a2 == a5) = true := beq_iff_eq.mpr c3
  have b7 : (a2 != a5) = false := bne_eq_false_iff_eq.mpr c3
  clear c3
  by_cases c4 : a3 = a6
  ·rw [if_pos c4] at H
   have b8 : (a3 == a6) = true := beq_iff_eq.mpr c4
   have b9 : (a3 != a6) = false := bne_eq_false_iff_eq.mpr c4
   clear c4
   obtain rfl := Option.some.inj H
   exact laws_eqPoint.lf0
  ·rw [if_neg c4] at H
   have b8 : (a3 == a6) = false := beq_eq_false_iff_ne.mpr c4
   have b9 : (a3 != a6) = true := bne_iff_ne.mpr c4
   obtain rfl := Option.some.inj H
   exact laws_eqPoint.lf0
 ·rw [if_neg c3] at H
  have b6 : (a2 == a5) = false := beq_eq_false_iff_ne.mpr c3
  have b7 : (a2 != a5) = true := bne_iff_ne.mpr c3
  obtain rfl := Option.some.inj H
  exact laws_eqPoint.lf0
def laws_eqPointS.l0 : Nat → List (S111) → List (S111) → Int → Option (Bool)
 | 0, _, _, _ => none
 | k + 1, x0, x1, x5 => if x5 < (x0.length : Int) then (if 0 ≤ x5 then (if x5 < (x1.length : Int) then ((laws_eqPoint.f ((rd_T111 x0 x5).f0) ((rd_T111 x0 x5).f1) ((rd_T111 x1 x5).f0) ((rd_T111 x1 x5).f1)).bind fun a2 => (if a2 = true then (laws_eqPointS.l0 k x0 x1 (wrap64 (x5 + 1))) else (some false))) else (none)) else (none)) else (some true)
def laws_eqPointS.f (k : Nat) (l0 : List (S111)) (l1 : List (S111)) : Option (Bool) := if (l0.length : Int) = (l1.length : Int) then (laws_eqPointS.l0 k l0 l1 0) else (some false)
theorem laws_eqPointS.calls (k : Nat) (A0 : Option Addr) (c0 : Nat) (l0 : List (S111)) (A1 : Option Addr) (c1 : Nat) (l1 : List (S111)) (r : Bool) (w : World) (hr0 : Kd.C k111 w A0 l0.length l0) (d4 : l0.length ≤ c0) (d5 : Kd.C k111 w A1 l1.length l1) (d6 : l1.length ≤ c1) (h : laws_eqPointS.f k l0 l1 = some r) :
  Calls Tryz.prog 97 #[.slice A0 l0.length c0, .slice A1 l1.length c1] w fun e w' => e = .returned (.bool r) ∧ Below w.heap.size w w' := by
 have hu111 := Tryz.underlying111
 have e0 := aM hr0
 have e6 := aM d4
 clear hr0 d4
 have e1 := aM d5
 have e7 := aM d6
 clear d5 d6
 have HB := aM (Below.refl w.heap.size w)
 have H := h
 clear h
 unfold laws_eqPointS.f at H
 by_cases c3 : (l0.length : Int) = (l1.length : Int)
 ·rw [if_pos c3] at H
  have b9 : ((l0.length : Int) == (l1.length : Int)) = true := beq_iff_eq.mpr c3
  have d0 : ((l0.length : Int) != (l1.length : Int)) = false := bne_eq_false_iff_eq.mpr c3
  have d1 : (l0.length == l1.length) = true := by first | simpa using c3 | (simp at c3 ⊢; omega)
  clear c3
  have H' := aM H
  clear H
  go_enter Tryz.func97, Tryz.ntmps97
  go_wp2
  go_loopg [5] k (fun kq v5 w' => ∃ (a2 : Int), v5 = .int .i64 a2 ∧ Aside0 (laws_eqPointS.l0 kq l0 l1 a2 = some r) ∧ Aside0 (kq ≤ k) ∧ Aside0 (Below w.heap.size w w'))
  case atStart => exact ⟨(0), fS, H', ⟨Nat.le_refl _⟩, ⟨bS⟩⟩
  case round =>
   clear H'
   try clear c1
   try clear p2
   try clear c3
   try clear b9
   try clear d0
   try clear d1
   obtain ⟨a2, rfl, HA, e2, HB⟩ := hrel
   cases gk with
   | zero => exact absurd HA.out (by simp [laws_eqPointS.l0])
   | succ k1 =>
    have H := HA.out
    clear HA
    simp only [laws_eqPointS.l0] at H
    rcases iD H with ⟨d3, H⟩ | ⟨d3, H⟩
    ·obtain ⟨e3, H⟩ := iT H
     obtain ⟨e4, H⟩ := iT H
     replace H := bN H
     obtain ⟨d2, A7, H⟩ := H
     by_cases c8 : d2 = true
     ·subst c8
      rw [if_pos rfl] at H
      have H' := aM H
      clear H
      try go_wp2
      replace HB := hD HB
      have b0 : 0 ≤ (a2 : Int) := dA
      have b1 : a2 < (l0.length : Int) := dA
      obtain ⟨a8, b7, a3, a5⟩ := at_T111 e0.out a2 b0 b1
      have hw1089_1 := a5
      have hw1089_0 := a3
      cases b7
      replace a3 := cB HB a3
      replace a5 := cB HB a5
      replace b0 := eq_true b0
      replace b1 := eq_true b1
      have b2 : 0 ≤ (a2 : Int) := dA
      have b6 : a2 < (l1.length : Int) := dA
      obtain ⟨a9, b8, a6, a7⟩ := at_T111 e1.out a2 b2 b6
      have hw1090_1 := a7
      have hw1090_0 := a6
      cases b8
      replace a6 := cB HB a6
      replace a7 := cB HB a7
      replace b2 := eq_true b2
      replace b6 := eq_true b6
      refine start_ (n := 10) (S := fun w' => w'.cell? (a8.add ((a2).toNat * 2)) = some (.int .i64 ((rd_T111 l0 a2).f0)) ∧ w'.cell? ⟨(a8.add ((a2).toNat * 2)).block, (a8.add ((a2).toNat * 2)).off + 1, none⟩ = some (.int .i64 ((rd_T111 l0 a2).f1)) ∧ w'.cell? (a9.add ((a2).toNat * 2)) = some (.int .i64 ((rd_T111 l1 a2).f0)) ∧ w'.cell? ⟨(a9.add ((a2).toNat * 2)).block, (a9.add ((a2).toNat * 2)).off + 1, none⟩ = some (.int .i64 ((rd_T111 l1 a2).f1))) (ds := []) (mB 10 0) (by kernel_rfl) rfl rfl ⟨(cB HB hw1089_0), (cB HB hw1089_1), (cB HB hw1090_0), (cB HB hw1090_1)⟩ (fun hHeld => ?_)
      generalize wr.drew = w9 at HB a3 a5 a6 a7 hHeld ⊢
      refine pU 0 (some 17) (mB 10 1) ?_
      refine pU 1 (some 18) (mB 10 3) ?_
      refine pU 2 (some 19) (mB 10 7) ?_
      refine pU 4 (some 21) (mB 10 23) ?_
      refine pU 5 (some 22) (mB 10 55) ?_
      refine pU 6 (some 23) (mB 10 119) ?_
      refine tK 3 (some 20) (mB 10 127) ?_
      refine tK 7 (some 24) (mB 10 255) ?_
      refine one_ (i := 8) (N := some 25) (mB 10 511) rfl rfl (by kernel_rfl) (by decide) (fun K hK => ?_)
      refine goes_ Tryz.func120 (by kernel_rfl) rfl #[.agg #[.int .i64 ((rd_T111 l0 a2).f0), .int .i64 ((rd_T111 l0 a2).f1)], .agg #[.int .i64 ((rd_T111 l1 a2).f0), .int .i64 ((rd_T111 l1 a2).f1)]] (by rfl) rfl rfl mA ?_
      with_reducible refine (laws_eqPoint.calls ((rd_T111 l0 a2).f0) ((rd_T111 l0 a2).f1) ((rd_T111 l1 a2).f0) ((rd_T111 l1 a2).f1) _ _ A7.out).mono ?_
      rintro e e8 ⟨rfl, hb⟩
      refine ⟨_, rfl, ?_⟩
      replace HB := hB hb
      (try clear hb)
      (try clear e5)
      (try clear hk)
      (try clear hi)
      refine hK.out _ _ ⟨(cB HB hw1089_0), (cB HB hw1089_1), (cB HB hw1090_0), (cB HB hw1090_1)⟩ (fun hHeld => ?_)
      clear hK K
      refine norm_ (a' := ?_) ?_ ?_
      rotate_left
      ·show Act.put _ (some 25) _ = _
       simp only [Act.put, List.setIfInBounds_toArray, List.set_cons_zero, List.set_cons_succ, i64_w, i32_w]
       rfl
      refine pU 9 (some 26) (mB 10 1023) ?_
      refine done_ (by kernel_rfl) ?_
      try go_wp2
      go_roundg k1
      case measure => have := e2.out; omega
      case rel => exact ⟨(wrap64 (a2 + 1)), fS, H', ⟨by have := e2.out; omega⟩, ⟨bS⟩⟩
     ·obtain rfl := Bool.eq_false_iff.mpr c8
      rw [if_neg nF] at H
      obtain rfl := Option.some.inj H
      try go_wp2
      replace HB := hD HB
      have b0 : 0 ≤ (a2 : Int) := dA
      have b1 : a2 < (l0.length : Int) := dA
      obtain ⟨a8, b7, a3, a5⟩ := at_T111 e0.out a2 b0 b1
      have hw1089_1 := a5
      have hw1089_0 := a3
      cases b7
      replace a3 := cB HB a3
      replace a5 := cB HB a5
      replace b0 := eq_true b0
      replace b1 := eq_true b1
      have b2 : 0 ≤ (a2 : Int) := dA
      have b6 : a2 < (l1.length : Int) := dA
      obtain ⟨a9, b8, a6, a7⟩ := at_T111 e1.out a2 b2 b6
      have hw1090_1 := a7
      have hw1090_0 := a6
      cases b8
      replace a6 := cB HB a6
      replace a7 := cB HB a7
      replace b2 := eq_true b2
      replace b6 := eq_true b6
      refine start_ (n := 10) (S := fun w' => w'.cell? (a8.add ((a2).toNat * 2)) = some (.int .i64 ((rd_T111 l0 a2).f0)) ∧ w'.cell? ⟨(a8.add ((a2).toNat * 2)).block, (a8.add ((a2).toNat * 2)).off + 1, none⟩ = some (.int .i64 ((rd_T111 l0 a2).f1)) ∧ w'.cell? (a9.add ((a2).toNat * 2)) = some (.int .i64 ((rd_T111 l1 a2).f0)) ∧ w'.cell? ⟨(a9.add ((a2).toNat * 2)).block, (a9.add ((a2).toNat * 2)).off + 1, none⟩ = some (.int .i64 ((rd_T111 l1 a2).f1))) (ds := []) (mB 10 0) (by kernel_rfl) rfl rfl ⟨(cB HB hw1089_0), (cB HB hw1089_1), (cB HB hw1090_0), (cB HB hw1090_1)⟩ (fun hHeld => ?_)
      generalize wr.drew = e9 at HB a3 a5 a6 a7 hHeld ⊢
      refine pU 0 (some 17) (mB 10 1) ?_
      refine pU 1 (some 18) (mB 10 3) ?_
      refine pU 2 (some 19) (mB 10 7) ?_
      refine pU 4 (some 21) (mB 10 23) ?_
      refine pU 5 (some 22) (mB 10 55) ?_
      refine pU 6 (some 23) (mB 10 119) ?_
      refine tK 3 (some 20) (mB 10 127) ?_
      refine tK 7 (some 24) (mB 10 255) ?_
      refine one_ (i := 8) (N := some 25) (mB 10 511) rfl rfl (by kernel_rfl) (by decide) (fun K hK => ?_)
      refine goes_ Tryz.func120 (by kernel_rfl) rfl #[.agg #[.int .i64 ((rd_T111 l0 a2).f0), .int .i64 ((rd_T111 l0 a2).f1)], .agg #[.int .i64 ((rd_T111 l1 a2).f0), .int .i64 ((rd_T111 l1 a2).f1)]] (by rfl) rfl rfl mA ?_
      with_reducible refine (laws_eqPoint.calls ((rd_T111 l0 a2).f0) ((rd_T111 l0 a2).f1) ((rd_T111 l1 a2).f0) ((rd_T111 l1 a2).f1) _ _ A7.out).mono ?_
      rintro e f3 ⟨rfl, hb⟩
      refine ⟨_, rfl, ?_⟩
      replace HB := hB hb
      (try clear hb)
      (try clear e5)
      (try clear hk)
      (try clear hi)
      refine hK.out _ _ ⟨(cB HB hw1089_0), (cB HB hw1089_1), (cB HB hw1090_0), (cB HB hw1090_1)⟩ (fun hHeld => ?_)
      clear hK K
      refine norm_ (a' := ?_) ?_ ?_
      rotate_left
      ·show Act.put _ (some 25) _ = _
       simp only [Act.put, List.setIfInBounds_toArray, List.set_cons_zero, List.set_cons_succ, i64_w, i32_w]
       rfl
      refine pU 9 (some 26) (mB 10 1023) ?_
      refine done_ (by kernel_rfl) ?_
      try go_wp2
      go_ret
      exact ⟨eS, bS⟩
    ·obtain rfl := Option.some.inj H
     go_wp2
     go_ret
     exact ⟨eS, bS⟩
 ·rw [if_neg c3] at H
  have b9 : ((l0.length : Int) == (l1.length : Int)) = false := beq_eq_false_iff_ne.mpr c3
  have d0 : ((l0.length : Int) != (l1.length : Int)) = true := bne_iff_ne.mpr c3
  have d1 : (l0.length == l1.length) = false := by first | simpa using c3 | (simp at c3 ⊢; omega)
  obtain rfl := Option.some.inj H
  go_enter Tryz.func97, Tryz.ntmps97
  go_wp2
  go_ret
  exact ⟨eS, bS⟩
def laws_eqBox.f (a2 : Int) (a3 : Int) (a5 : Int) (a6 : Int) (a7 : Int) (a8 : Int) (a9 : Int) (b0 : Int) : Option (Bool) := if a2 = a7 then (if a3 = a8 then (if a5 = a9 then (if a6 = b0 then (some true) else (some false)) else (some false)) else (some false)) else (some false)
theorem laws_eqBox.lf0 {p : Prop} (h : p := by
 go_enter Tryz.func98, Tryz.ntmps98
 go_wp2_with (first | ((with_reducible refine gD 2 ?_); refine bxE #[.int .i64 a2, .int .i64 a3, .int .i64 a5, .int .i64 a6] 40 ?_; intro b6 hg e1 b7 hb; have GE1092 := gE hg; replace HB := hB hb; clear hb hg) | ((with_reducible refine gD 3 ?_); refine bxE #[.int .i64 a7, .int .i64 a8, .int .i64 a9, .int .i64 b0] 40 ?_; intro b9 hg e2 b8 hb; have GE1093 := gE hg; have b1 := nL_ b6 hg; have b2 := nG_ b6 hg; replace b7 := kB_ b6 hb; replace HB := hB hb; clear hb hg; have hnb14 := nP b1 b2; have hz15 := cz4 b7; have hz16 := cz4 b8))
 go_ret
 exact ⟨eS, bS⟩) : p := h
theorem laws_eqBox.calls (a2 : Int) (a3 : Int) (a5 : Int) (a6 : Int) (a7 : Int) (a8 : Int) (a9 : Int) (b0 : Int) (r : Bool) (w : World) (h : laws_eqBox.f a2 a3 a5 a6 a7 a8 a9 b0 = some r) :
  Calls Tryz.prog 98 #[.agg #[.int .i64 a2, .int .i64 a3, .int .i64 a5, .int .i64 a6], .agg #[.int .i64 a7, .int .i64 a8, .int .i64 a9, .int .i64 b0]] w fun e w' => e = .returned (.bool r) ∧ Below w.heap.size w w' := by
 have hu40 := Tryz.underlying40
 have HB := aM (Below.refl w.heap.size w)
 have H := h
 clear h
 unfold laws_eqBox.f at H
 by_cases c3 : a2 = a7
 ·rw [if_pos c3] at H
  have d0 : (a2 == a7) = true := beq_iff_eq.mpr c3
  have d1 : (a2 != a7) = false := bne_eq_false_iff_eq.mpr c3
  clear c3
  by_cases c4 : a3 = a8
  ·rw [if_pos c4] at H
   have d2 : (a3 == a8) = true := beq_iff_eq.mpr c4
   have d3 : (a3 != a8) = false := bne_eq_false_iff_eq.mpr c4
   clear c4
   by_cases c5 : a5 = a9
   ·rw [if_pos c5] at H
    have d4 : (a5 == a9) = true := beq_iff_eq.mpr c5
    have d5 : (a5 != a9) = false := bne_eq_false_iff_eq.mpr c5
    clear c5
    by_cases c6 : a6 = b0
    ·rw [if_pos c6] at H
     have d6 : (a6 == b0) = true := beq_iff_eq.mpr c6
     have e0 : (a6 != b0) = false := bne_eq_false_iff_eq.mpr c6
     clear c6
     obtain rfl := Option.some.inj H
     exact laws_eqBox.lf0
    ·rw [if_neg c6] at H
     have d6 : (a6 == b0) = false := beq_eq_false_iff_ne.mpr c6
     have e0 : (a6 != b0) = true := bne_iff_ne.mpr c6
     obtain rfl := Option.some.inj H
     exact laws_eqBox.lf0
   ·rw [if_neg c5] at H
    have d4 : (a5 == a9) = false := beq_eq_false_iff_ne.mpr c5
    have d5 : (a5 != a9) = true := bne_iff_ne.mpr c5
    obtain rfl := Option.some.inj H
    exact laws_eqBox.lf0
  ·rw [if_neg c4] at H
   have d2 : (a3 == a8) = false := beq_eq_false_iff_ne.mpr c4
   have d3 : (a3 != a8) = true := bne_iff_ne.mpr c4
   obtain rfl := Option.some.inj H
   exact laws_eqBox.lf0
 ·rw [if_neg c3] at H
  have d0 : (a2 == a7) = false := beq_eq_false_iff_ne.mpr c3
  have d1 : (a2 != a7) = true := bne_iff_ne.mpr c3
  obtain rfl := Option.some.inj H
  exact laws_eqBox.lf0
def laws_eqGraphics.f (k : Nat) (a9 : List Int) (b0 : Int) (b1 : Int) (b2 : Int) (b6 : Int) (b7 : List (S111)) (b8 : Int) (b9 : Int) (d0 : Int) (d1 : Int) (a2 : Int) (d2 : List Int) (d3 : Int) (d4 : Int) (d5 : Int) (d6 : Int) (e0 : List (S111)) (e1 : Int) (e2 : Int) (e3 : Int) (e4 : Int) (a3 : Int) : Option (Bool) := (laws_eqIntS.f k a9 d2).bind fun a5 => (if a5 = true then ((laws_eqTurn.f b0 b1 b2 b6 d3 d4 d5 d6).bind fun a6 => (if a6 = true then ((laws_eqPointS.f k b7 e0).bind fun a7 => (if a7 = true then (if b8 = e1 then ((laws_eqBox.f b9 d0 d1 a2 e2 e3 e4 a3).bind fun a8 => (if a8 = true then (some true) else (some false))) else (some false)) else (some false))) else (some false))) else (some false))
theorem laws_eqGraphics.lf0 {p : Prop} (h : p := by
 go_enter Tryz.func45, Tryz.ntmps45
 go_wp2_with (first | ((with_reducible refine gD 2 ?_); refine bxE #[.slice f3 a9.length f4, .int .i64 d0, .int .i64 d1, .int .i64 d2, .int .i64 d3, .slice f5 b1.length f6, .int .i64 b8, .int .i64 e1, .int .i64 e2, .int .i64 e3, .int .i64 b6] 42 ?_; intro a5 hg r6 a2 hb; have GE1094 := gE hg; replace HB := hB hb; clear hb hg) | ((with_reducible refine gD 3 ?_); refine bxE #[.slice f7 b0.length f8, .int .i64 d4, .int .i64 d5, .int .i64 d6, .int .i64 e0, .slice f9 b2.length g0, .int .i64 b9, .int .i64 e4, .int .i64 e5, .int .i64 e6, .int .i64 b7] 42 ?_; intro a8 hg r7 a3 hb; have GE1095 := gE hg; have a6 := nL_ a5 hg; have a7 := nG_ a5 hg; replace a2 := kB_ a5 hb; replace HB := hB hb; clear hb hg; have hnb14 := nP a6 a7; have hz15 := cz11 a2; have hz16 := cz11 a3) | ((with_reducible refine gC 95 ?_); refine cM (some 9) Tryz.func95 (laws_eqIntS.calls k _ _ a9 _ _ b0 _ _ (cC e7 HB) e8.out (cC e9 HB) f0.out A3.out) ?_; rintro e w' ⟨rfl, ⟨nd, rfl⟩⟩; refine ⟨_, rfl, ?_⟩) | ((with_reducible refine gC 96 ?_); refine cM (some 15) Tryz.func96 (laws_eqTurn.calls d0 d1 d2 d3 d4 d5 d6 e0 _ _ A5.out) ?_; rintro e s0 ⟨rfl, hb⟩; refine ⟨_, rfl, ?_⟩; replace a2 := kB_ a5 hb; replace a3 := kB_ a8 hb; replace HB := hB hb; (try clear hb); have i3 := cg5 a2; have i4 := cg6 a2; have i5 := cg7 a2; have i6 := cg8 a2; have i7 := cg9 a2; have h3 := cg10 a2; have i8 := cg5 a3; have i9 := cg6 a3; have j5 := cg7 a3; have j6 := cg8 a3; have j7 := cg9 a3; have h4 := cg10 a3) | ((with_reducible refine gC 97 ?_); refine cM (some 21) Tryz.func97 (laws_eqPointS.calls k _ _ b1 _ _ b2 _ _ (cC g1 HB) g2.out (cC g3 HB) g4.out A7.out) ?_; rintro e s1 ⟨rfl, hb⟩; refine ⟨_, rfl, ?_⟩; replace a2 := kB_ a5 hb; replace a3 := kB_ a8 hb; replace HB := hB hb; (try clear hb); have j8 := cg6 a2; have j9 := cg7 a2; have k0 := cg8 a2; have k1 := cg9 a2; have h5 := cg10 a2; have k2 := cg6 a3; have k3 := cg7 a3; have k4 := cg8 a3; have k5 := cg9 a3; have h6 := cg10 a3) | ((with_reducible refine gC 98 ?_); refine cM (some 32) Tryz.func98 (laws_eqBox.calls e1 e2 e3 b6 e4 e5 e6 b7 _ _ r5.out) ?_; rintro e s2 ⟨rfl, hb⟩; refine ⟨_, rfl, ?_⟩; replace a2 := kB_ a5 hb; replace a3 := kB_ a8 hb; replace HB := hB hb; (try clear hb)))
 go_ret
 exact ⟨eS, bS⟩) : p := h
theorem laws_eqGraphics.calls (k : Nat) (f3 : Option Addr) (f4 : Nat) (a9 : List Int) (d0 : Int) (d1 : Int) (d2 : Int) (d3 : Int) (f5 : Option Addr) (f6 : Nat) (b1 : List (S111)) (b8 : Int) (e1 : Int) (e2 : Int) (e3 : Int) (b6 : Int) (f7 : Option Addr) (f8 : Nat) (b0 : List Int) (d4 : Int) (d5 : Int) (d6 : Int) (e0 : Int) (f9 : Option Addr) (g0 : Nat) (b2 : List (S111)) (b9 : Int) (e4 : Int) (e5 : Int) (e6 : Int) (b7 : Int) (r : Bool) (w : World) (g5 : Kd.C (Kd.int .i64) w f3 a9.length a9) (g6 : a9.length ≤ f4) (g7 : Kd.C k111 w f5 b1.length b1) (g8 : b1.length ≤ f6) (g9 : Kd.C (Kd.int .i64) w f7 b0.length b0) (h0 : b0.length ≤ f8) (h1 : Kd.C k111 w f9 b2.length b2) (h2 : b2.length ≤ g0) (h : laws_eqGraphics.f k a9 d0 d1 d2 d3 b1 b8 e1 e2 e3 b6 b0 d4 d5 d6 e0 b2 b9 e4 e5 e6 b7 = some r) :
  Calls Tryz.prog 45 #[.agg #[.slice f3 a9.length f4, .int .i64 d0, .int .i64 d1, .int .i64 d2, .int .i64 d3, .slice f5 b1.length f6, .int .i64 b8, .int .i64 e1, .int .i64 e2, .int .i64 e3, .int .i64 b6], .agg #[.slice f7 b0.length f8, .int .i64 d4, .int .i64 d5, .int .i64 d6, .int .i64 e0, .slice f9 b2.length g0, .int .i64 b9, .int .i64 e4, .int .i64 e5, .int .i64 e6, .int .i64 b7]] w fun e w' => e = .returned (.bool r) ∧ Below w.heap.size w w' := by
 have hu42 := Tryz.underlying42
 have hu38 := Tryz.underlying38
 have hu40 := Tryz.underlying40
 have e7 := aM g5
 have e8 := aM g6
 clear g5 g6
 have g1 := aM g7
 have g2 := aM g8
 clear g7 g8
 have e9 := aM g9
 have f0 := aM h0
 clear g9 h0
 have g3 := aM h1
 have g4 := aM h2
 clear h1 h2
 have HB := aM (Below.refl w.heap.size w)
 have H := h
 clear h
 unfold laws_eqGraphics.f at H
 replace H := bN H
 obtain ⟨h7, A3, H⟩ := H
 by_cases c4 : h7 = true
 ·subst c4
  rw [if_pos rfl] at H
  replace H := bN H
  obtain ⟨h8, A5, H⟩ := H
  by_cases c6 : h8 = true
  ·subst c6
   rw [if_pos rfl] at H
   replace H := bN H
   obtain ⟨h9, A7, H⟩ := H
   by_cases c8 : h9 = true
   ·subst c8
    rw [if_pos rfl] at H
    by_cases c9 : b8 = b9
    ·rw [if_pos c9] at H
     have r2 : (b8 == b9) = true := beq_iff_eq.mpr c9
     have r3 : (b8 != b9) = false := bne_eq_false_iff_eq.mpr c9
     clear c9
     replace H := bN H
     obtain ⟨i1, r5, H⟩ := H
     by_cases r4 : i1 = true
     ·subst r4
      rw [if_pos rfl] at H
      obtain rfl := Option.some.inj H
      exact laws_eqGraphics.lf0
     ·obtain rfl := Bool.eq_false_iff.mpr r4
      rw [if_neg nF] at H
      obtain rfl := Option.some.inj H
      exact laws_eqGraphics.lf0
    ·rw [if_neg c9] at H
     have r2 : (b8 == b9) = false := beq_eq_false_iff_ne.mpr c9
     have r3 : (b8 != b9) = true := bne_iff_ne.mpr c9
     obtain rfl := Option.some.inj H
     go_enter Tryz.func45, Tryz.ntmps45
     go_wp2_with (first | ((with_reducible refine gD 2 ?_); refine bxE #[.slice f3 a9.length f4, .int .i64 d0, .int .i64 d1, .int .i64 d2, .int .i64 d3, .slice f5 b1.length f6, .int .i64 b8, .int .i64 e1, .int .i64 e2, .int .i64 e3, .int .i64 b6] 42 ?_; intro a5 hg s3 a2 hb; have GE1094 := gE hg; replace HB := hB hb; clear hb hg) | ((with_reducible refine gD 3 ?_); refine bxE #[.slice f7 b0.length f8, .int .i64 d4, .int .i64 d5, .int .i64 d6, .int .i64 e0, .slice f9 b2.length g0, .int .i64 b9, .int .i64 e4, .int .i64 e5, .int .i64 e6, .int .i64 b7] 42 ?_; intro a8 hg s4 a3 hb; have GE1095 := gE hg; have a6 := nL_ a5 hg; have a7 := nG_ a5 hg; replace a2 := kB_ a5 hb; replace HB := hB hb; clear hb hg; have hnb38 := nP a6 a7; have k6 := cg0 a2; have k7 := cg1 a2; have k9 := cg2 a2; have l3 := cg3 a2; have l4 := cg4 a2; have l5 := cg5 a2; have l6 := cg6 a2; have l7 := cg0 a3; have l8 := cg1 a3; have l9 := cg2 a3; have m0 := cg3 a3; have m1 := cg4 a3; have m2 := cg5 a3; have m3 := cg6 a3) | ((with_reducible refine gC 95 ?_); refine cM (some 9) Tryz.func95 (laws_eqIntS.calls k _ _ a9 _ _ b0 _ _ (cC e7 HB) e8.out (cC e9 HB) f0.out A3.out) ?_; rintro e w' ⟨rfl, ⟨nd, rfl⟩⟩; refine ⟨_, rfl, ?_⟩) | ((with_reducible refine gC 96 ?_); refine cM (some 15) Tryz.func96 (laws_eqTurn.calls d0 d1 d2 d3 d4 d5 d6 e0 _ _ A5.out) ?_; rintro e s5 ⟨rfl, hb⟩; refine ⟨_, rfl, ?_⟩; replace a2 := kB_ a5 hb; replace a3 := kB_ a8 hb; replace HB := hB hb; (try clear hb); have m4 := cg5 a2; have m5 := cg6 a2; have m6 := cg5 a3; have m7 := cg6 a3) | ((with_reducible refine gC 97 ?_); refine cM (some 21) Tryz.func97 (laws_eqPointS.calls k _ _ b1 _ _ b2 _ _ (cC g1 HB) g2.out (cC g3 HB) g4.out A7.out) ?_; rintro e s6 ⟨rfl, hb⟩; refine ⟨_, rfl, ?_⟩; replace a2 := kB_ a5 hb; replace a3 := kB_ a8 hb; replace HB := hB hb; (try clear hb); have m8 := cg6 a2; have m9 := cg6 a3))
     go_ret
     exact ⟨eS, bS⟩
   ·obtain rfl := Bool.eq_false_iff.mpr c8
    rw [if_neg nF] at H
    obtain rfl := Option.some.inj H
    go_enter Tryz.func45, Tryz.ntmps45
    go_wp2_with (first | ((with_reducible refine gD 2 ?_); refine bxE #[.slice f3 a9.length f4, .int .i64 d0, .int .i64 d1, .int .i64 d2, .int .i64 d3, .slice f5 b1.length f6, .int .i64 b8, .int .i64 e1, .int .i64 e2, .int .i64 e3, .int .i64 b6] 42 ?_; intro a5 hg s7 a2 hb; have GE1094 := gE hg; replace HB := hB hb; clear hb hg) | ((with_reducible refine gD 3 ?_); refine bxE #[.slice f7 b0.length f8, .int .i64 d4, .int .i64 d5, .int .i64 d6, .int .i64 e0, .slice f9 b2.length g0, .int .i64 b9, .int .i64 e4, .int .i64 e5, .int .i64 e6, .int .i64 b7] 42 ?_; intro a8 hg s8 a3 hb; have GE1095 := gE hg; have a6 := nL_ a5 hg; have a7 := nG_ a5 hg; replace a2 := kB_ a5 hb; replace HB := hB hb; clear hb hg; have hnb49 := nP a6 a7; have n0 := cg0 a2; have n1 := cg1 a2; have n2 := cg2 a2; have n5 := cg3 a2; have n6 := cg4 a2; have n7 := cg5 a2; have n8 := cg0 a3; have o0 := cg1 a3; have o1 := cg2 a3; have o4 := cg3 a3; have o5 := cg4 a3; have o6 := cg5 a3) | ((with_reducible refine gC 95 ?_); refine cM (some 9) Tryz.func95 (laws_eqIntS.calls k _ _ a9 _ _ b0 _ _ (cC e7 HB) e8.out (cC e9 HB) f0.out A3.out) ?_; rintro e w' ⟨rfl, ⟨nd, rfl⟩⟩; refine ⟨_, rfl, ?_⟩) | ((with_reducible refine gC 96 ?_); refine cM (some 15) Tryz.func96 (laws_eqTurn.calls d0 d1 d2 d3 d4 d5 d6 e0 _ _ A5.out) ?_; rintro e s9 ⟨rfl, hb⟩; refine ⟨_, rfl, ?_⟩; replace a2 := kB_ a5 hb; replace a3 := kB_ a8 hb; replace HB := hB hb; (try clear hb); have o7 := cg5 a2; have o8 := cg5 a3) | ((with_reducible refine gC 97 ?_); refine cM (some 21) Tryz.func97 (laws_eqPointS.calls k _ _ b1 _ _ b2 _ _ (cC g1 HB) g2.out (cC g3 HB) g4.out A7.out) ?_; rintro e t0 ⟨rfl, hb⟩; refine ⟨_, rfl, ?_⟩; replace a2 := kB_ a5 hb; replace a3 := kB_ a8 hb; replace HB := hB hb; (try clear hb)))
    go_ret
    exact ⟨eS, bS⟩
  ·obtain rfl := Bool.eq_false_iff.mpr c6
   rw [if_neg nF] at H
   obtain rfl := Option.some.inj H
   go_enter Tryz.func45, Tryz.ntmps45
   go_wp2_with (first | ((with_reducible refine gD 2 ?_); refine bxE #[.slice f3 a9.length f4, .int .i64 d0, .int .i64 d1, .int .i64 d2, .int .i64 d3, .slice f5 b1.length f6, .int .i64 b8, .int .i64 e1, .int .i64 e2, .int .i64 e3, .int .i64 b6] 42 ?_; intro a5 hg t1 a2 hb; have GE1094 := gE hg; replace HB := hB hb; clear hb hg) | ((with_reducible refine gD 3 ?_); refine bxE #[.slice f7 b0.length f8, .int .i64 d4, .int .i64 d5, .int .i64 d6, .int .i64 e0, .slice f9 b2.length g0, .int .i64 b9, .int .i64 e4, .int .i64 e5, .int .i64 e6, .int .i64 b7] 42 ?_; intro a8 hg t2 a3 hb; have GE1095 := gE hg; have a6 := nL_ a5 hg; have a7 := nG_ a5 hg; replace a2 := kB_ a5 hb; replace HB := hB hb; clear hb hg; have hnb58 := nP a6 a7; have o9 := cg0 a2; have q0 := cg1 a2; have q2 := cg2 a2; have q3 := cg3 a2; have q4 := cg4 a2; have q5 := cg0 a3; have q6 := cg1 a3; have q7 := cg2 a3; have q8 := cg3 a3; have q9 := cg4 a3) | ((with_reducible refine gC 95 ?_); refine cM (some 9) Tryz.func95 (laws_eqIntS.calls k _ _ a9 _ _ b0 _ _ (cC e7 HB) e8.out (cC e9 HB) f0.out A3.out) ?_; rintro e w' ⟨rfl, ⟨nd, rfl⟩⟩; refine ⟨_, rfl, ?_⟩) | ((with_reducible refine gC 96 ?_); refine cM (some 15) Tryz.func96 (laws_eqTurn.calls d0 d1 d2 d3 d4 d5 d6 e0 _ _ A5.out) ?_; rintro e t3 ⟨rfl, hb⟩; refine ⟨_, rfl, ?_⟩; replace a2 := kB_ a5 hb; replace a3 := kB_ a8 hb; replace HB := hB hb; (try clear hb)))
   go_ret
   exact ⟨eS, bS⟩
 ·obtain rfl := Bool.eq_false_iff.mpr c4
  rw [if_neg nF] at H
  obtain rfl := Option.some.inj H
  go_enter Tryz.func45, Tryz.ntmps45
  go_wp2_with (first | ((with_reducible refine gD 2 ?_); refine bxE #[.slice f3 a9.length f4, .int .i64 d0, .int .i64 d1, .int .i64 d2, .int .i64 d3, .slice f5 b1.length f6, .int .i64 b8, .int .i64 e1, .int .i64 e2, .int .i64 e3, .int .i64 b6] 42 ?_; intro a5 hg t4 a2 hb; have GE1094 := gE hg; replace HB := hB hb; clear hb hg) | ((with_reducible refine gD 3 ?_); refine bxE #[.slice f7 b0.length f8, .int .i64 d4, .int .i64 d5, .int .i64 d6, .int .i64 e0, .slice f9 b2.length g0, .int .i64 b9, .int .i64 e4, .int .i64 e5, .int .i64 e6, .int .i64 b7] 42 ?_; intro a8 hg t5 a3 hb; have GE1095 := gE hg; have a6 := nL_ a5 hg; have a7 := nG_ a5 hg; replace a2 := kB_ a5 hb; replace HB := hB hb; clear hb hg; have hnb64 := nP a6 a7; have r0 := cg0 a2; have r1 := cg0 a3) | ((with_reducible refine gC 95 ?_); refine cM (some 9) Tryz.func95 (laws_eqIntS.calls k _ _ a9 _ _ b0 _ _ (cC e7 HB) e8.out (cC e9 HB) f0.out A3.out) ?_; rintro e w' ⟨rfl, ⟨nd, rfl⟩⟩; refine ⟨_, rfl, ?_⟩))
  go_ret
  exact ⟨eS, bS⟩
end Go.Proofs.YtjkgponlahfnjaaGreat.QFnExactExecToken
