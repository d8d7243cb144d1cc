/- Walks of functions of the program, made out of the translation by a program of this session: each answers what its plain function tells, for every input at which that is told. -/
import Derived.Test.YtjkgponlahfnjaaGreatQFnExactExecTokenx0
import Derived.Test.YtjkgponlahfnjaaGreatQFnExactExecTokenx23
namespace Go.Proofs.YtjkgponlahfnjaaGreat.QFnExactExecToken
open Go.RowKit Go.Proofs.YtjkgponlahfnjaaGreatW.PrintWords Go.Proofs.YtjkgponlahfnjaaGreatW.PrintLast Go.Proofs.YtjkgponlahfnjaaGreatW.PrintMore
attribute [local go_sem] max2_int min2_int max_two min_two max_three min_three max_four min_four   -- for this text's walks alone
set_option linter.unusedVariables false
set_option linter.unusedSimpArgs false
set_option maxHeartbeats 8000000
set_option maxRecDepth 100000
/-! ### laws_heldPointS: function 103 -/
def laws_heldPointS.l0 : Nat → List (S111) → Int → Int → Option (Int)
 | 0, _, _, _ => none
 | k + 1, x0, x1, x5 => if x5 < (x0.length : Int) then (if 0 ≤ x5 then (if ((rd_T111 x0 x5).f0) = x1 then (if ((rd_T111 x0 x5).f1) = (wrap64 (x1 + 1)) then (laws_heldPointS.l0 k x0 (wrap64 ((wrap64 (x1 + 1)) + 1)) (wrap64 (x5 + 1))) else (some (-1))) else (some (-1))) else (none)) else (some x1)
def laws_heldPointS.f (k : Nat) (l0 : List (S111)) (a1 : Int) : Option (Int) := laws_heldPointS.l0 k l0 a1 0
theorem laws_heldPointS.calls (k : Nat) (A0 : Option Addr) (c0 : Nat) (l0 : List (S111)) (a1 : Int) (r : Int) (w : World) (hr0 : Kd.C k111 w A0 l0.length l0) (d6 : l0.length ≤ c0) (h : laws_heldPointS.f k l0 a1 = some r) :
  Calls Tryz.prog 103 #[.slice A0 l0.length c0, .int .i64 a1] w fun e w' => e = .returned (.int .i64 r) ∧ Drawn0 w w' := by
 have d0 := aM hr0
 have e2 := aM d6
 clear hr0 d6
 have H := h
 clear h
 unfold laws_heldPointS.f at H
 have H' := aM H
 clear H
 go_enter Tryz.func103, Tryz.ntmps103
 go_wp2
 go_loopg [1, 5] k (fun kq v1 v5 w' => ∃ (a6 : Int) (a2 : Int), v1 = .int .i64 a6 ∧ v5 = .int .i64 a2 ∧ Aside0 (laws_heldPointS.l0 kq l0 a6 a2 = some r) ∧ Aside0 (kq ≤ k) ∧ Drawn0 w w')
 case atStart => exact ⟨(a1), (0), fS, fS, H', ⟨Nat.le_refl _⟩, dS⟩
 case round =>
  clear H'
  try clear c1
  try clear p2
  obtain ⟨a6, a2, rfl, rfl, HA, e0, ⟨m1, rfl⟩⟩ := hrel
  cases gk with
  | zero => exact absurd HA.out (by simp [laws_heldPointS.l0])
  | succ k1 =>
   have H := HA.out
   clear HA
   simp only [laws_heldPointS.l0] at H
   rcases iD H with ⟨d1, H⟩ | ⟨d1, H⟩
   ·obtain ⟨e1, H⟩ := iT H
    by_cases c5 : ((rd_T111 l0 a2).f0) = a6
    ·rw [if_pos c5] at H
     have d2 : (((rd_T111 l0 a2).f0) == a6) = true := beq_iff_eq.mpr c5
     have d3 : (((rd_T111 l0 a2).f0) != a6) = false := bne_eq_false_iff_eq.mpr c5
     clear c5
     by_cases c6 : ((rd_T111 l0 a2).f1) = (wrap64 (a6 + 1))
     ·rw [if_pos c6] at H
      have d4 : (((rd_T111 l0 a2).f1) == (wrap64 (a6 + 1))) = true := beq_iff_eq.mpr c6
      have d5 : (((rd_T111 l0 a2).f1) != (wrap64 (a6 + 1))) = false := bne_eq_false_iff_eq.mpr c6
      clear c6
      have H' := aM H
      clear H
      have a3 : 0 ≤ (a2 : Int) := dA
      have a5 : a2 < (l0.length : Int) := dA
      obtain ⟨a9, b0, b1, b2⟩ := at_T111 d0.out a2 a3 a5
      cases b0
      replace a3 := eq_true a3
      replace a5 := eq_true a5
      have a7 : 0 ≤ (a2 : Int) := dA
      have a8 : a2 < (l0.length : Int) := dA
      obtain ⟨b6, b7, b8, b9⟩ := at_T111 d0.out a2 a7 a8
      obtain rfl : a9 = b6 := (by injection b7)
      replace a7 := eq_true a7
      replace a8 := eq_true a8
      go_wp2
      go_roundg k1
      case measure => have := e0.out; omega
      case rel => exact ⟨(wrap64 ((wrap64 (a6 + 1)) + 1)), (wrap64 (a2 + 1)), fS, fS, H', ⟨by have := e0.out; omega⟩, dS⟩
     ·rw [if_neg c6] at H
      have d4 : (((rd_T111 l0 a2).f1) == (wrap64 (a6 + 1))) = false := beq_eq_false_iff_ne.mpr c6
      have d5 : (((rd_T111 l0 a2).f1) != (wrap64 (a6 + 1))) = true := bne_iff_ne.mpr c6
      obtain rfl := Option.some.inj H
      have a3 : 0 ≤ (a2 : Int) := dA
      have a5 : a2 < (l0.length : Int) := dA
      obtain ⟨a9, b0, b1, b2⟩ := at_T111 d0.out a2 a3 a5
      cases b0
      replace a3 := eq_true a3
      replace a5 := eq_true a5
      have a7 : 0 ≤ (a2 : Int) := dA
      have a8 : a2 < (l0.length : Int) := dA
      obtain ⟨b6, b7, b8, b9⟩ := at_T111 d0.out a2 a7 a8
      obtain rfl : a9 = b6 := (by injection b7)
      replace a7 := eq_true a7
      replace a8 := eq_true a8
      go_wp2
      go_ret
      exact ⟨fS, dS⟩
    ·rw [if_neg c5] at H
     have d2 : (((rd_T111 l0 a2).f0) == a6) = false := beq_eq_false_iff_ne.mpr c5
     have d3 : (((rd_T111 l0 a2).f0) != a6) = true := bne_iff_ne.mpr c5
     obtain rfl := Option.some.inj H
     have a3 : 0 ≤ (a2 : Int) := dA
     have a5 : a2 < (l0.length : Int) := dA
     obtain ⟨a9, b0, b1, b2⟩ := at_T111 d0.out a2 a3 a5
     cases b0
     replace a3 := eq_true a3
     replace a5 := eq_true a5
     go_wp2
     go_ret
     exact ⟨fS, dS⟩
   ·obtain rfl := Option.some.inj H
    go_wp2
    go_ret
    exact ⟨fS, dS⟩
def laws_heldGraphics.f (k : Nat) (a5 : List Int) (a8 : Int) (a9 : Int) (b0 : Int) (b1 : Int) (a6 : List (S111)) (b2 : Int) (b6 : Int) (b7 : Int) (b8 : Int) (a7 : Int) (a1 : Int) : Option (Int) := (laws_heldIntS.f k a5 a1).bind fun a2 => (if a2 < 0 then (some (-1)) else ((laws_heldPointS.f k a6 a2).bind fun a3 => (if a3 < 0 then (some (-1)) else (some a3))))
theorem laws_heldGraphics.lf0 {p : Prop} (h : p := by
 go_enter Tryz.func51, Tryz.ntmps51
 go_wp2_with (first | ((with_reducible refine gD 2 ?_); refine bxE #[.slice a8 a2.length a9, .int .i64 b0, .int .i64 b1, .int .i64 b2, .int .i64 b6, .slice b7 a5.length b8, .int .i64 b9, .int .i64 d0, .int .i64 d1, .int .i64 d2, .int .i64 a6] 42 ?_; intro e2 hg f3 a3 hb; have GE1130 := gE hg; replace HB := hB hb; clear hb hg; have e6 := cg0 a3; have e7 := cg5 a3) | ((with_reducible refine gC 102 ?_); refine cM (some 8) Tryz.func102 (laws_heldIntS.calls k _ _ a2 a1 a7 _ (cC d3 HB) d4.out A3.out) ?_; rintro e w' ⟨rfl, ⟨nd, rfl⟩⟩; refine ⟨_, rfl, ?_⟩) | ((with_reducible refine gC 103 ?_); refine cM (some 14) Tryz.func103 (laws_heldPointS.calls k _ _ a5 a7 e3 _ (cS (Kd.C_below e4.out bS)) e5.out A7.out) ?_; rintro e w' ⟨rfl, ⟨nd, rfl⟩⟩; refine ⟨_, rfl, ?_⟩))
 go_ret
 exact ⟨eS, bS⟩) : p := h
theorem laws_heldGraphics.calls (k : Nat) (a8 : Option Addr) (a9 : Nat) (a2 : List Int) (b0 : Int) (b1 : Int) (b2 : Int) (b6 : Int) (b7 : Option Addr) (b8 : Nat) (a5 : List (S111)) (b9 : Int) (d0 : Int) (d1 : Int) (d2 : Int) (a6 : Int) (a1 : Int) (r : Int) (w : World) (d5 : Kd.C (Kd.int .i64) w a8 a2.length a2) (d6 : a2.length ≤ a9) (e0 : Kd.C k111 w b7 a5.length a5) (e1 : a5.length ≤ b8) (h : laws_heldGraphics.f k a2 b0 b1 b2 b6 a5 b9 d0 d1 d2 a6 a1 = some r) :
  Calls Tryz.prog 51 #[.agg #[.slice a8 a2.length a9, .int .i64 b0, .int .i64 b1, .int .i64 b2, .int .i64 b6, .slice b7 a5.length b8, .int .i64 b9, .int .i64 d0, .int .i64 d1, .int .i64 d2, .int .i64 a6], .int .i64 a1] w fun e w' => e = .returned (.int .i64 r) ∧ Below w.heap.size w w' := by
 have hu42 := Tryz.underlying42
 have d3 := aM d5
 have d4 := aM d6
 clear d5 d6
 have e4 := aM e0
 have e5 := aM e1
 clear e0 e1
 have HB := aM (Below.refl w.heap.size w)
 have H := h
 clear h
 unfold laws_heldGraphics.f at H
 replace H := bN H
 obtain ⟨a7, A3, H⟩ := H
 rcases iD H with ⟨e8, H⟩ | ⟨e8, H⟩
 ·obtain rfl := Option.some.inj H
  go_enter Tryz.func51, Tryz.ntmps51
  go_wp2_with (first | ((with_reducible refine gD 2 ?_); refine bxE #[.slice a8 a2.length a9, .int .i64 b0, .int .i64 b1, .int .i64 b2, .int .i64 b6, .slice b7 a5.length b8, .int .i64 b9, .int .i64 d0, .int .i64 d1, .int .i64 d2, .int .i64 a6] 42 ?_; intro e2 hg w5 a3 hb; have GE1130 := gE hg; replace HB := hB hb; clear hb hg; have e9 := cg0 a3) | ((with_reducible refine gC 102 ?_); refine cM (some 8) Tryz.func102 (laws_heldIntS.calls k _ _ a2 a1 a7 _ (cC d3 HB) d4.out A3.out) ?_; rintro e w' ⟨rfl, ⟨nd, rfl⟩⟩; refine ⟨_, rfl, ?_⟩))
  go_ret
  exact ⟨eS, bS⟩
 ·replace H := bN H
  obtain ⟨e3, A7, H⟩ := H
  rcases iD H with ⟨f0, H⟩ | ⟨f0, H⟩
  ·obtain rfl := Option.some.inj H
   exact laws_heldGraphics.lf0
  ·obtain rfl := Option.some.inj H
   exact laws_heldGraphics.lf0
def laws_heldGraphicsS.l0 : Nat → List (S42) → Int → Int → Option (Int)
 | 0, _, _, _ => none
 | k + 1, x0, x1, x5 => if x5 < (x0.length : Int) then (if 0 ≤ x5 then ((laws_heldIntS.f k ((rd_T42 x0 x5).f0) x1).bind fun a3 => (if a3 < 0 then (some (-1)) else (if ((rd_T42 x0 x5).f1.f0) = a3 then (if ((rd_T42 x0 x5).f1.f1) = (wrap64 (a3 + 1)) then (if ((rd_T42 x0 x5).f1.f2) = (wrap64 ((wrap64 (a3 + 1)) + 1)) then (if ((rd_T42 x0 x5).f1.f3) = (wrap64 ((wrap64 ((wrap64 (a3 + 1)) + 1)) + 1)) then ((laws_heldPointS.f k ((rd_T42 x0 x5).f2) (wrap64 ((wrap64 ((wrap64 ((wrap64 (a3 + 1)) + 1)) + 1)) + 1))).bind fun a2 => (if a2 < 0 then (some (-1)) else (if ((rd_T42 x0 x5).f3) = a2 then (if ((rd_T42 x0 x5).f4.f0) = (wrap64 (a2 + 1)) then (if ((rd_T42 x0 x5).f4.f1) = (wrap64 ((wrap64 (a2 + 1)) + 1)) then (if ((rd_T42 x0 x5).f4.f2) = (wrap64 ((wrap64 ((wrap64 (a2 + 1)) + 1)) + 1)) then (if ((rd_T42 x0 x5).f4.f3) = (wrap64 ((wrap64 ((wrap64 ((wrap64 (a2 + 1)) + 1)) + 1)) + 1)) then (laws_heldGraphicsS.l0 k x0 (wrap64 ((wrap64 ((wrap64 ((wrap64 ((wrap64 (a2 + 1)) + 1)) + 1)) + 1)) + 1)) (wrap64 (x5 + 1))) else (some (-1))) else (some (-1))) else (some (-1))) else (some (-1))) else (some (-1))))) else (some (-1))) else (some (-1))) else (some (-1))) else (some (-1))))) else (none)) else (some x1)
def laws_heldGraphicsS.f (k : Nat) (l0 : List (S42)) (a1 : Int) : Option (Int) := laws_heldGraphicsS.l0 k l0 a1 0
theorem laws_heldGraphicsS.calls (k : Nat) (A0 : Option Addr) (c0 : Nat) (l0 : List (S42)) (a1 : Int) (r : Int) (w : World) (hr0 : Kd.C k42 w A0 l0.length l0) (M1 : l0.length ≤ c0) (h : laws_heldGraphicsS.f k l0 a1 = some r) :
  Calls Tryz.prog 52 #[.slice A0 l0.length c0, .int .i64 a1] w fun e w' => e = .returned (.int .i64 r) ∧ Drawn0 w w' := by
 have g3 := aM hr0
 have M5 := aM M1
 clear hr0 M1
 have H := h
 clear h
 unfold laws_heldGraphicsS.f at H
 have H' := aM H
 clear H
 go_enter Tryz.func52, Tryz.ntmps52
 go_wp2
 go_loopg [1, 5] k (fun kq v1 v5 w' => ∃ (m7 : Int) (a2 : Int), v1 = .int .i64 m7 ∧ v5 = .int .i64 a2 ∧ Aside0 (laws_heldGraphicsS.l0 kq l0 m7 a2 = some r) ∧ Aside0 (kq ≤ k) ∧ Drawn0 w w')
 case atStart => exact ⟨(a1), (0), fS, fS, H', ⟨Nat.le_refl _⟩, dS⟩
 case round =>
  clear H'
  try clear p2
  obtain ⟨m7, a2, rfl, rfl, HA, M3, ⟨m1, rfl⟩⟩ := hrel
  cases gk with
  | zero => exact absurd HA.out (by simp [laws_heldGraphicsS.l0])
  | succ k1 =>
   have H := HA.out
   clear HA
   simp only [laws_heldGraphicsS.l0] at H
   rcases iD H with ⟨K8, H⟩ | ⟨K8, H⟩
   ·obtain ⟨M4, H⟩ := iT H
    replace H := bN H
    obtain ⟨b1, A5, H⟩ := H
    rcases iD H with ⟨K9, H⟩ | ⟨K9, H⟩
    ·obtain rfl := Option.some.inj H
     have a7 : 0 ≤ (a2 : Int) := dA
     have a8 : a2 < (l0.length : Int) := dA
     obtain ⟨a6, b9, d0, e7, e8, g5, a3, g6, g7, g8, g9, a5, h0, h1, h2, h3, f5, hl1133_0, hi1133_0, hl1133_5, hi1133_5⟩ := at_T42 g3.out a2 a7 a8
     cases g5
     have a9 := aM hi1133_0
     have b0 := aM hl1133_0
     clear hi1133_0 hl1133_0
     have h4 := aM hi1133_5
     have h5 := aM hl1133_5
     clear hi1133_5 hl1133_5
     replace a7 := eq_true a7
     replace a8 := eq_true a8
     go_wp2_with (first | ((with_reducible refine gC 102 ?_); refine cL (some 18) Tryz.func102 #[.slice b9 ((rd_T42 l0 a2).f0).length d0, .int .i64 m7] ?_; (with_reducible refine (laws_heldIntS.calls k1 _ _ ((rd_T42 l0 a2).f0) m7 b1 _ ?side1 ?side2 A5.out).mono ?_); (case side1 => exact cS a9.out); (case side2 => exact b0.out); rintro e w' ⟨rfl, ⟨nd, rfl⟩⟩; refine ⟨_, rfl, ?_⟩))
     go_ret
     exact ⟨fS, dS⟩
    ·by_cases c7 : ((rd_T42 l0 a2).f1.f0) = b1
     ·rw [if_pos c7] at H
      have L0 : (((rd_T42 l0 a2).f1.f0) == b1) = true := beq_iff_eq.mpr c7
      have L1 : (((rd_T42 l0 a2).f1.f0) != b1) = false := bne_eq_false_iff_eq.mpr c7
      clear c7
      by_cases c8 : ((rd_T42 l0 a2).f1.f1) = (wrap64 (b1 + 1))
      ·rw [if_pos c8] at H
       have L2 : (((rd_T42 l0 a2).f1.f1) == (wrap64 (b1 + 1))) = true := beq_iff_eq.mpr c8
       have L6 : (((rd_T42 l0 a2).f1.f1) != (wrap64 (b1 + 1))) = false := bne_eq_false_iff_eq.mpr c8
       clear c8
       by_cases c9 : ((rd_T42 l0 a2).f1.f2) = (wrap64 ((wrap64 (b1 + 1)) + 1))
       ·rw [if_pos c9] at H
        have L8 : (((rd_T42 l0 a2).f1.f2) == (wrap64 ((wrap64 (b1 + 1)) + 1))) = true := beq_iff_eq.mpr c9
        have L9 : (((rd_T42 l0 a2).f1.f2) != (wrap64 ((wrap64 (b1 + 1)) + 1))) = false := bne_eq_false_iff_eq.mpr c9
        clear c9
        by_cases c10 : ((rd_T42 l0 a2).f1.f3) = (wrap64 ((wrap64 ((wrap64 (b1 + 1)) + 1)) + 1))
        ·rw [if_pos c10] at H
         have J5 : (((rd_T42 l0 a2).f1.f3) == (wrap64 ((wrap64 ((wrap64 (b1 + 1)) + 1)) + 1))) = true := beq_iff_eq.mpr c10
         have J6 : (((rd_T42 l0 a2).f1.f3) != (wrap64 ((wrap64 ((wrap64 (b1 + 1)) + 1)) + 1))) = false := bne_eq_false_iff_eq.mpr c10
         clear c10
         replace H := bN H
         obtain ⟨e2, I9, H⟩ := H
         rcases iD H with ⟨J7, H⟩ | ⟨J7, H⟩
         ·obtain rfl := Option.some.inj H
          have a7 : 0 ≤ (a2 : Int) := dA
          have a8 : a2 < (l0.length : Int) := dA
          obtain ⟨a6, b9, d0, e7, e8, g5, a3, g6, g7, g8, g9, a5, h0, h1, h2, h3, f5, hl1133_0, hi1133_0, hl1133_5, hi1133_5⟩ := at_T42 g3.out a2 a7 a8
          cases g5
          have a9 := aM hi1133_0
          have b0 := aM hl1133_0
          clear hi1133_0 hl1133_0
          have h4 := aM hi1133_5
          have h5 := aM hl1133_5
          clear hi1133_5 hl1133_5
          replace a7 := eq_true a7
          replace a8 := eq_true a8
          go_wp2_with (first | ((with_reducible refine gC 102 ?_); refine cL (some 18) Tryz.func102 #[.slice b9 ((rd_T42 l0 a2).f0).length d0, .int .i64 m7] ?_; (with_reducible refine (laws_heldIntS.calls k1 _ _ ((rd_T42 l0 a2).f0) m7 b1 _ ?side1 ?side2 A5.out).mono ?_); (case side1 => exact cS a9.out); (case side2 => exact b0.out); rintro e w' ⟨rfl, ⟨nd, rfl⟩⟩; refine ⟨_, rfl, ?_⟩; have b2 : 0 ≤ (a2 : Int) := dA; have b6 : a2 < (l0.length : Int) := dA; obtain ⟨e9, n0, n1, n2, n5, i4, b7, i5, i6, i7, i8, b8, i9, j5, j6, j7, g4, hl1135_0, hi1135_0, hl1135_5, hi1135_5⟩ := at_T42 g3.out a2 b2 b6; obtain rfl : a6 = e9 := (by injection i4); have j8 := aM hi1135_0; have j9 := aM hl1135_0; clear hi1135_0 hl1135_0; have k0 := aM hi1135_5; have k2 := aM hl1135_5; clear hi1135_5 hl1135_5; replace b2 := eq_true b2; replace b6 := eq_true b6; have ea_ := Option.some.inj (a3.symm.trans b7); injection ea_ with ea_ en_ ec_; subst ea_; subst ec_; clear en_; have ea_ := Option.some.inj (a5.symm.trans b8); injection ea_ with ea_ en_ ec_; subst ea_; subst ec_; clear en_; have d1 : 0 ≤ (a2 : Int) := dA; have d2 : a2 < (l0.length : Int) := dA; obtain ⟨g2, q3, q4, q5, q6, k5, d3, k6, k7, k9, l3, d4, l4, l5, l6, l7, i3, hl1136_0, hi1136_0, hl1136_5, hi1136_5⟩ := at_T42 g3.out a2 d1 d2; obtain rfl : a6 = g2 := (by injection k5); have l8 := aM hi1136_0; have l9 := aM hl1136_0; clear hi1136_0 hl1136_0; have m0 := aM hi1136_5; have m2 := aM hl1136_5; clear hi1136_5 hl1136_5; replace d1 := eq_true d1; replace d2 := eq_true d2; have ea_ := Option.some.inj (a3.symm.trans d3); injection ea_ with ea_ en_ ec_; subst ea_; subst ec_; clear en_; have ea_ := Option.some.inj (a5.symm.trans d4); injection ea_ with ea_ en_ ec_; subst ea_; subst ec_; clear en_; have d5 : 0 ≤ (a2 : Int) := dA; have d6 : a2 < (l0.length : Int) := dA; obtain ⟨h6, s8, s9, t0, t1, n6, e0, n7, n8, o0, o1, e1, o4, o5, o6, o7, k4, hl1137_0, hi1137_0, hl1137_5, hi1137_5⟩ := at_T42 g3.out a2 d5 d6; obtain rfl : a6 = h6 := (by injection n6); have o8 := aM hi1137_0; have o9 := aM hl1137_0; clear hi1137_0 hl1137_0; have q0 := aM hi1137_5; have q2 := aM hl1137_5; clear hi1137_5 hl1137_5; replace d5 := eq_true d5; replace d6 := eq_true d6; have ea_ := Option.some.inj (a3.symm.trans e0); injection ea_ with ea_ en_ ec_; subst ea_; subst ec_; clear en_; have ea_ := Option.some.inj (a5.symm.trans e1); injection ea_ with ea_ en_ ec_; subst ea_; subst ec_; clear en_; have e3 : 0 ≤ (a2 : Int) := dA; have e4 : a2 < (l0.length : Int) := dA; obtain ⟨k3, u4, u5, u6, u7, q8, e5, q9, r0, r1, r2, e6, r3, r4, r5, r6, m8, hl1138_0, hi1138_0, hl1138_5, hi1138_5⟩ := at_T42 g3.out a2 e3 e4; obtain rfl : a6 = k3 := (by injection q8); have r7 := aM hi1138_0; have s0 := aM hl1138_0; clear hi1138_0 hl1138_0; have s1 := aM hi1138_5; have s2 := aM hl1138_5; clear hi1138_5 hl1138_5; replace e3 := eq_true e3; replace e4 := eq_true e4; have ea_ := Option.some.inj (a3.symm.trans e5); injection ea_ with ea_ en_ ec_; subst ea_; subst ec_; clear en_; have ea_ := Option.some.inj (a5.symm.trans e6); injection ea_ with ea_ en_ ec_; subst ea_; subst ec_; clear en_; have f6 : 0 ≤ (a2 : Int) := dA; have f7 : a2 < (l0.length : Int) := dA; obtain ⟨m9, x7, x8, x9, y0, t2, f8, t3, t4, t5, t6, f9, t7, t8, t9, u0, q7, hl1139_0, hi1139_0, hl1139_5, hi1139_5⟩ := at_T42 g3.out a2 f6 f7; obtain rfl : a6 = m9 := (by injection t2); have u1 := aM hi1139_0; have u2 := aM hl1139_0; clear hi1139_0 hl1139_0; have g0 := aM hi1139_5; have g1 := aM hl1139_5; clear hi1139_5 hl1139_5; replace f6 := eq_true f6; replace f7 := eq_true f7; have ea_ := Option.some.inj (a3.symm.trans f8); injection ea_ with ea_ en_ ec_; subst ea_; subst ec_; clear en_; have ea_ := Option.some.inj (a5.symm.trans f9); injection ea_ with ea_ en_ ec_; subst ea_; subst ec_; clear en_) | ((with_reducible refine gC 103 ?_); refine cL (some 67) Tryz.func103 #[.slice e7 ((rd_T42 l0 a2).f2).length e8, .int .i64 (wrap64 ((wrap64 ((wrap64 ((wrap64 (b1 + 1)) + 1)) + 1)) + 1))] ?_; (with_reducible refine (laws_heldPointS.calls k1 _ _ ((rd_T42 l0 a2).f2) (wrap64 ((wrap64 ((wrap64 ((wrap64 (b1 + 1)) + 1)) + 1)) + 1)) e2 _ ?side1 ?side2 I9.out).mono ?_); (case side1 => exact cS g0.out); (case side2 => exact g1.out); rintro e w' ⟨rfl, ⟨nd, rfl⟩⟩; refine ⟨_, rfl, ?_⟩))
          go_ret
          exact ⟨fS, dS⟩
         ·by_cases J0 : ((rd_T42 l0 a2).f3) = e2
          ·rw [if_pos J0] at H
           have J8 : (((rd_T42 l0 a2).f3) == e2) = true := beq_iff_eq.mpr J0
           have J9 : (((rd_T42 l0 a2).f3) != e2) = false := bne_eq_false_iff_eq.mpr J0
           clear J0
           by_cases J1 : ((rd_T42 l0 a2).f4.f0) = (wrap64 (e2 + 1))
           ·rw [if_pos J1] at H
            have K0 : (((rd_T42 l0 a2).f4.f0) == (wrap64 (e2 + 1))) = true := beq_iff_eq.mpr J1
            have K1 : (((rd_T42 l0 a2).f4.f0) != (wrap64 (e2 + 1))) = false := bne_eq_false_iff_eq.mpr J1
            clear J1
            by_cases J2 : ((rd_T42 l0 a2).f4.f1) = (wrap64 ((wrap64 (e2 + 1)) + 1))
            ·rw [if_pos J2] at H
             have K2 : (((rd_T42 l0 a2).f4.f1) == (wrap64 ((wrap64 (e2 + 1)) + 1))) = true := beq_iff_eq.mpr J2
             have K3 : (((rd_T42 l0 a2).f4.f1) != (wrap64 ((wrap64 (e2 + 1)) + 1))) = false := bne_eq_false_iff_eq.mpr J2
             clear J2
             by_cases J3 : ((rd_T42 l0 a2).f4.f2) = (wrap64 ((wrap64 ((wrap64 (e2 + 1)) + 1)) + 1))
             ·rw [if_pos J3] at H
              have K4 : (((rd_T42 l0 a2).f4.f2) == (wrap64 ((wrap64 ((wrap64 (e2 + 1)) + 1)) + 1))) = true := beq_iff_eq.mpr J3
              have K5 : (((rd_T42 l0 a2).f4.f2) != (wrap64 ((wrap64 ((wrap64 (e2 + 1)) + 1)) + 1))) = false := bne_eq_false_iff_eq.mpr J3
              clear J3
              by_cases J4 : ((rd_T42 l0 a2).f4.f3) = (wrap64 ((wrap64 ((wrap64 ((wrap64 (e2 + 1)) + 1)) + 1)) + 1))
              ·rw [if_pos J4] at H
               have K6 : (((rd_T42 l0 a2).f4.f3) == (wrap64 ((wrap64 ((wrap64 ((wrap64 (e2 + 1)) + 1)) + 1)) + 1))) = true := beq_iff_eq.mpr J4
               have K7 : (((rd_T42 l0 a2).f4.f3) != (wrap64 ((wrap64 ((wrap64 ((wrap64 (e2 + 1)) + 1)) + 1)) + 1))) = false := bne_eq_false_iff_eq.mpr J4
               clear J4
               have H' := aM H
               clear H
               have a7 : 0 ≤ (a2 : Int) := dA
               have a8 : a2 < (l0.length : Int) := dA
               obtain ⟨a6, b9, d0, e7, e8, g5, a3, g6, g7, g8, g9, a5, h0, h1, h2, h3, f5, hl1133_0, hi1133_0, hl1133_5, hi1133_5⟩ := at_T42 g3.out a2 a7 a8
               cases g5
               have a9 := aM hi1133_0
               have b0 := aM hl1133_0
               clear hi1133_0 hl1133_0
               have h4 := aM hi1133_5
               have h5 := aM hl1133_5
               clear hi1133_5 hl1133_5
               replace a7 := eq_true a7
               replace a8 := eq_true a8
               go_wp2_with (first | ((with_reducible refine gC 102 ?_); refine cL (some 18) Tryz.func102 #[.slice b9 ((rd_T42 l0 a2).f0).length d0, .int .i64 m7] ?_; (with_reducible refine (laws_heldIntS.calls k1 _ _ ((rd_T42 l0 a2).f0) m7 b1 _ ?side1 ?side2 A5.out).mono ?_); (case side1 => exact cS a9.out); (case side2 => exact b0.out); rintro e w' ⟨rfl, ⟨nd, rfl⟩⟩; refine ⟨_, rfl, ?_⟩; have b2 : 0 ≤ (a2 : Int) := dA; have b6 : a2 < (l0.length : Int) := dA; obtain ⟨e9, n0, n1, n2, n5, i4, b7, i5, i6, i7, i8, b8, i9, j5, j6, j7, g4, hl1135_0, hi1135_0, hl1135_5, hi1135_5⟩ := at_T42 g3.out a2 b2 b6; obtain rfl : a6 = e9 := (by injection i4); have j8 := aM hi1135_0; have j9 := aM hl1135_0; clear hi1135_0 hl1135_0; have k0 := aM hi1135_5; have k2 := aM hl1135_5; clear hi1135_5 hl1135_5; replace b2 := eq_true b2; replace b6 := eq_true b6; have ea_ := Option.some.inj (a3.symm.trans b7); injection ea_ with ea_ en_ ec_; subst ea_; subst ec_; clear en_; have ea_ := Option.some.inj (a5.symm.trans b8); injection ea_ with ea_ en_ ec_; subst ea_; subst ec_; clear en_; have d1 : 0 ≤ (a2 : Int) := dA; have d2 : a2 < (l0.length : Int) := dA; obtain ⟨g2, q3, q4, q5, q6, k5, d3, k6, k7, k9, l3, d4, l4, l5, l6, l7, i3, hl1136_0, hi1136_0, hl1136_5, hi1136_5⟩ := at_T42 g3.out a2 d1 d2; obtain rfl : a6 = g2 := (by injection k5); have l8 := aM hi1136_0; have l9 := aM hl1136_0; clear hi1136_0 hl1136_0; have m0 := aM hi1136_5; have m2 := aM hl1136_5; clear hi1136_5 hl1136_5; replace d1 := eq_true d1; replace d2 := eq_true d2; have ea_ := Option.some.inj (a3.symm.trans d3); injection ea_ with ea_ en_ ec_; subst ea_; subst ec_; clear en_; have ea_ := Option.some.inj (a5.symm.trans d4); injection ea_ with ea_ en_ ec_; subst ea_; subst ec_; clear en_; have d5 : 0 ≤ (a2 : Int) := dA; have d6 : a2 < (l0.length : Int) := dA; obtain ⟨h6, s8, s9, t0, t1, n6, e0, n7, n8, o0, o1, e1, o4, o5, o6, o7, k4, hl1137_0, hi1137_0, hl1137_5, hi1137_5⟩ := at_T42 g3.out a2 d5 d6; obtain rfl : a6 = h6 := (by injection n6); have o8 := aM hi1137_0; have o9 := aM hl1137_0; clear hi1137_0 hl1137_0; have q0 := aM hi1137_5; have q2 := aM hl1137_5; clear hi1137_5 hl1137_5; replace d5 := eq_true d5; replace d6 := eq_true d6; have ea_ := Option.some.inj (a3.symm.trans e0); injection ea_ with ea_ en_ ec_; subst ea_; subst ec_; clear en_; have ea_ := Option.some.inj (a5.symm.trans e1); injection ea_ with ea_ en_ ec_; subst ea_; subst ec_; clear en_; have e3 : 0 ≤ (a2 : Int) := dA; have e4 : a2 < (l0.length : Int) := dA; obtain ⟨k3, u4, u5, u6, u7, q8, e5, q9, r0, r1, r2, e6, r3, r4, r5, r6, m8, hl1138_0, hi1138_0, hl1138_5, hi1138_5⟩ := at_T42 g3.out a2 e3 e4; obtain rfl : a6 = k3 := (by injection q8); have r7 := aM hi1138_0; have s0 := aM hl1138_0; clear hi1138_0 hl1138_0; have s1 := aM hi1138_5; have s2 := aM hl1138_5; clear hi1138_5 hl1138_5; replace e3 := eq_true e3; replace e4 := eq_true e4; have ea_ := Option.some.inj (a3.symm.trans e5); injection ea_ with ea_ en_ ec_; subst ea_; subst ec_; clear en_; have ea_ := Option.some.inj (a5.symm.trans e6); injection ea_ with ea_ en_ ec_; subst ea_; subst ec_; clear en_; have f6 : 0 ≤ (a2 : Int) := dA; have f7 : a2 < (l0.length : Int) := dA; obtain ⟨m9, x7, x8, x9, y0, t2, f8, t3, t4, t5, t6, f9, t7, t8, t9, u0, q7, hl1139_0, hi1139_0, hl1139_5, hi1139_5⟩ := at_T42 g3.out a2 f6 f7; obtain rfl : a6 = m9 := (by injection t2); have u1 := aM hi1139_0; have u2 := aM hl1139_0; clear hi1139_0 hl1139_0; have g0 := aM hi1139_5; have g1 := aM hl1139_5; clear hi1139_5 hl1139_5; replace f6 := eq_true f6; replace f7 := eq_true f7; have ea_ := Option.some.inj (a3.symm.trans f8); injection ea_ with ea_ en_ ec_; subst ea_; subst ec_; clear en_; have ea_ := Option.some.inj (a5.symm.trans f9); injection ea_ with ea_ en_ ec_; subst ea_; subst ec_; clear en_) | ((with_reducible refine gC 103 ?_); refine cL (some 67) Tryz.func103 #[.slice e7 ((rd_T42 l0 a2).f2).length e8, .int .i64 (wrap64 ((wrap64 ((wrap64 ((wrap64 (b1 + 1)) + 1)) + 1)) + 1))] ?_; (with_reducible refine (laws_heldPointS.calls k1 _ _ ((rd_T42 l0 a2).f2) (wrap64 ((wrap64 ((wrap64 ((wrap64 (b1 + 1)) + 1)) + 1)) + 1)) e2 _ ?side1 ?side2 I9.out).mono ?_); (case side1 => exact cS g0.out); (case side2 => exact g1.out); rintro e w' ⟨rfl, ⟨nd, rfl⟩⟩; refine ⟨_, rfl, ?_⟩; have h7 : 0 ≤ (a2 : Int) := dA; have h8 : a2 < (l0.length : Int) := dA; obtain ⟨s3, y3, y4, y5, y6, v0, h9, v2, v3, v4, v6, i1, v7, v8, v9, w8, u3, hl1141_0, hi1141_0, hl1141_5, hi1141_5⟩ := at_T42 g3.out a2 h7 h8; obtain rfl : a6 = s3 := (by injection v0); have w9 := aM hi1141_0; have x0 := aM hl1141_0; clear hi1141_0 hl1141_0; have x1 := aM hi1141_5; have x2 := aM hl1141_5; clear hi1141_5 hl1141_5; replace h7 := eq_true h7; replace h8 := eq_true h8; have ea_ := Option.some.inj (a3.symm.trans h9); injection ea_ with ea_ en_ ec_; subst ea_; subst ec_; clear en_; have ea_ := Option.some.inj (a5.symm.trans i1); injection ea_ with ea_ en_ ec_; subst ea_; subst ec_; clear en_; have m3 : 0 ≤ (a2 : Int) := dA; have m4 : a2 < (l0.length : Int) := dA; obtain ⟨u9, C0, C2, C3, C4, y7, m5, y8, y9, A1, A2, m6, A3, A4, A6, A7, y1, hl1142_0, hi1142_0, hl1142_5, hi1142_5⟩ := at_T42 g3.out a2 m3 m4; obtain rfl : a6 = u9 := (by injection y7); have A8 := aM hi1142_0; have A9 := aM hl1142_0; clear hi1142_0 hl1142_0; have B0 := aM hi1142_5; have B2 := aM hl1142_5; clear hi1142_5 hl1142_5; replace m3 := eq_true m3; replace m4 := eq_true m4; have ea_ := Option.some.inj (a3.symm.trans m5); injection ea_ with ea_ en_ ec_; subst ea_; subst ec_; clear en_; have ea_ := Option.some.inj (a5.symm.trans m6); injection ea_ with ea_ en_ ec_; subst ea_; subst ec_; clear en_; have s4 : 0 ≤ (a2 : Int) := dA; have s5 : a2 < (l0.length : Int) := dA; obtain ⟨y2, E5, E6, E7, E8, C5, s6, C6, C7, C9, D0, s7, D1, D2, D3, D4, B8, hl1143_0, hi1143_0, hl1143_5, hi1143_5⟩ := at_T42 g3.out a2 s4 s5; obtain rfl : a6 = y2 := (by injection C5); have D5 := aM hi1143_0; have D6 := aM hl1143_0; clear hi1143_0 hl1143_0; have D7 := aM hi1143_5; have D8 := aM hl1143_5; clear hi1143_5 hl1143_5; replace s4 := eq_true s4; replace s5 := eq_true s5; have ea_ := Option.some.inj (a3.symm.trans s6); injection ea_ with ea_ en_ ec_; subst ea_; subst ec_; clear en_; have ea_ := Option.some.inj (a5.symm.trans s7); injection ea_ with ea_ en_ ec_; subst ea_; subst ec_; clear en_; have x3 : 0 ≤ (a2 : Int) := dA; have x4 : a2 < (l0.length : Int) := dA; obtain ⟨D9, G5, G6, G7, G8, E9, x5, F2, F3, F4, F5, x6, F6, F7, F8, F9, E4, hl1144_0, hi1144_0, hl1144_5, hi1144_5⟩ := at_T42 g3.out a2 x3 x4; obtain rfl : a6 = D9 := (by injection E9); have G0 := aM hi1144_0; have G1 := aM hl1144_0; clear hi1144_0 hl1144_0; have G2 := aM hi1144_5; have G3 := aM hl1144_5; clear hi1144_5 hl1144_5; replace x3 := eq_true x3; replace x4 := eq_true x4; have ea_ := Option.some.inj (a3.symm.trans x5); injection ea_ with ea_ en_ ec_; subst ea_; subst ec_; clear en_; have ea_ := Option.some.inj (a5.symm.trans x6); injection ea_ with ea_ en_ ec_; subst ea_; subst ec_; clear en_; have E0 : 0 ≤ (a2 : Int) := dA; have E1 : a2 < (l0.length : Int) := dA; obtain ⟨G4, I5, I6, I7, I8, H2, E2, H3, H4, H5, H6, E3, H7, H8, H9, I0, G9, hl1145_0, hi1145_0, hl1145_5, hi1145_5⟩ := at_T42 g3.out a2 E0 E1; obtain rfl : a6 = G4 := (by injection H2); have I1 := aM hi1145_0; have I2 := aM hl1145_0; clear hi1145_0 hl1145_0; have I3 := aM hi1145_5; have I4 := aM hl1145_5; clear hi1145_5 hl1145_5; replace E0 := eq_true E0; replace E1 := eq_true E1; have ea_ := Option.some.inj (a3.symm.trans E2); injection ea_ with ea_ en_ ec_; subst ea_; subst ec_; clear en_; have ea_ := Option.some.inj (a5.symm.trans E3); injection ea_ with ea_ en_ ec_; subst ea_; subst ec_; clear en_))
               go_roundg k1
               case measure => have := M3.out; omega
               case rel => exact ⟨(wrap64 ((wrap64 ((wrap64 ((wrap64 ((wrap64 (e2 + 1)) + 1)) + 1)) + 1)) + 1)), (wrap64 (a2 + 1)), fS, fS, H', ⟨by have := M3.out; omega⟩, dS⟩
              ·rw [if_neg J4] at H
               have K6 : (((rd_T42 l0 a2).f4.f3) == (wrap64 ((wrap64 ((wrap64 ((wrap64 (e2 + 1)) + 1)) + 1)) + 1))) = false := beq_eq_false_iff_ne.mpr J4
               have K7 : (((rd_T42 l0 a2).f4.f3) != (wrap64 ((wrap64 ((wrap64 ((wrap64 (e2 + 1)) + 1)) + 1)) + 1))) = true := bne_iff_ne.mpr J4
               obtain rfl := Option.some.inj H
               have a7 : 0 ≤ (a2 : Int) := dA
               have a8 : a2 < (l0.length : Int) := dA
               obtain ⟨a6, b9, d0, e7, e8, g5, a3, g6, g7, g8, g9, a5, h0, h1, h2, h3, f5, hl1133_0, hi1133_0, hl1133_5, hi1133_5⟩ := at_T42 g3.out a2 a7 a8
               cases g5
               have a9 := aM hi1133_0
               have b0 := aM hl1133_0
               clear hi1133_0 hl1133_0
               have h4 := aM hi1133_5
               have h5 := aM hl1133_5
               clear hi1133_5 hl1133_5
               replace a7 := eq_true a7
               replace a8 := eq_true a8
               go_wp2_with (first | ((with_reducible refine gC 102 ?_); refine cL (some 18) Tryz.func102 #[.slice b9 ((rd_T42 l0 a2).f0).length d0, .int .i64 m7] ?_; (with_reducible refine (laws_heldIntS.calls k1 _ _ ((rd_T42 l0 a2).f0) m7 b1 _ ?side1 ?side2 A5.out).mono ?_); (case side1 => exact cS a9.out); (case side2 => exact b0.out); rintro e w' ⟨rfl, ⟨nd, rfl⟩⟩; refine ⟨_, rfl, ?_⟩; have b2 : 0 ≤ (a2 : Int) := dA; have b6 : a2 < (l0.length : Int) := dA; obtain ⟨e9, n0, n1, n2, n5, i4, b7, i5, i6, i7, i8, b8, i9, j5, j6, j7, g4, hl1135_0, hi1135_0, hl1135_5, hi1135_5⟩ := at_T42 g3.out a2 b2 b6; obtain rfl : a6 = e9 := (by injection i4); have j8 := aM hi1135_0; have j9 := aM hl1135_0; clear hi1135_0 hl1135_0; have k0 := aM hi1135_5; have k2 := aM hl1135_5; clear hi1135_5 hl1135_5; replace b2 := eq_true b2; replace b6 := eq_true b6; have ea_ := Option.some.inj (a3.symm.trans b7); injection ea_ with ea_ en_ ec_; subst ea_; subst ec_; clear en_; have ea_ := Option.some.inj (a5.symm.trans b8); injection ea_ with ea_ en_ ec_; subst ea_; subst ec_; clear en_; have d1 : 0 ≤ (a2 : Int) := dA; have d2 : a2 < (l0.length : Int) := dA; obtain ⟨g2, q3, q4, q5, q6, k5, d3, k6, k7, k9, l3, d4, l4, l5, l6, l7, i3, hl1136_0, hi1136_0, hl1136_5, hi1136_5⟩ := at_T42 g3.out a2 d1 d2; obtain rfl : a6 = g2 := (by injection k5); have l8 := aM hi1136_0; have l9 := aM hl1136_0; clear hi1136_0 hl1136_0; have m0 := aM hi1136_5; have m2 := aM hl1136_5; clear hi1136_5 hl1136_5; replace d1 := eq_true d1; replace d2 := eq_true d2; have ea_ := Option.some.inj (a3.symm.trans d3); injection ea_ with ea_ en_ ec_; subst ea_; subst ec_; clear en_; have ea_ := Option.some.inj (a5.symm.trans d4); injection ea_ with ea_ en_ ec_; subst ea_; subst ec_; clear en_; have d5 : 0 ≤ (a2 : Int) := dA; have d6 : a2 < (l0.length : Int) := dA; obtain ⟨h6, s8, s9, t0, t1, n6, e0, n7, n8, o0, o1, e1, o4, o5, o6, o7, k4, hl1137_0, hi1137_0, hl1137_5, hi1137_5⟩ := at_T42 g3.out a2 d5 d6; obtain rfl : a6 = h6 := (by injection n6); have o8 := aM hi1137_0; have o9 := aM hl1137_0; clear hi1137_0 hl1137_0; have q0 := aM hi1137_5; have q2 := aM hl1137_5; clear hi1137_5 hl1137_5; replace d5 := eq_true d5; replace d6 := eq_true d6; have ea_ := Option.some.inj (a3.symm.trans e0); injection ea_ with ea_ en_ ec_; subst ea_; subst ec_; clear en_; have ea_ := Option.some.inj (a5.symm.trans e1); injection ea_ with ea_ en_ ec_; subst ea_; subst ec_; clear en_; have e3 : 0 ≤ (a2 : Int) := dA; have e4 : a2 < (l0.length : Int) := dA; obtain ⟨k3, u4, u5, u6, u7, q8, e5, q9, r0, r1, r2, e6, r3, r4, r5, r6, m8, hl1138_0, hi1138_0, hl1138_5, hi1138_5⟩ := at_T42 g3.out a2 e3 e4; obtain rfl : a6 = k3 := (by injection q8); have r7 := aM hi1138_0; have s0 := aM hl1138_0; clear hi1138_0 hl1138_0; have s1 := aM hi1138_5; have s2 := aM hl1138_5; clear hi1138_5 hl1138_5; replace e3 := eq_true e3; replace e4 := eq_true e4; have ea_ := Option.some.inj (a3.symm.trans e5); injection ea_ with ea_ en_ ec_; subst ea_; subst ec_; clear en_; have ea_ := Option.some.inj (a5.symm.trans e6); injection ea_ with ea_ en_ ec_; subst ea_; subst ec_; clear en_; have f6 : 0 ≤ (a2 : Int) := dA; have f7 : a2 < (l0.length : Int) := dA; obtain ⟨m9, x7, x8, x9, y0, t2, f8, t3, t4, t5, t6, f9, t7, t8, t9, u0, q7, hl1139_0, hi1139_0, hl1139_5, hi1139_5⟩ := at_T42 g3.out a2 f6 f7; obtain rfl : a6 = m9 := (by injection t2); have u1 := aM hi1139_0; have u2 := aM hl1139_0; clear hi1139_0 hl1139_0; have g0 := aM hi1139_5; have g1 := aM hl1139_5; clear hi1139_5 hl1139_5; replace f6 := eq_true f6; replace f7 := eq_true f7; have ea_ := Option.some.inj (a3.symm.trans f8); injection ea_ with ea_ en_ ec_; subst ea_; subst ec_; clear en_; have ea_ := Option.some.inj (a5.symm.trans f9); injection ea_ with ea_ en_ ec_; subst ea_; subst ec_; clear en_) | ((with_reducible refine gC 103 ?_); refine cL (some 67) Tryz.func103 #[.slice e7 ((rd_T42 l0 a2).f2).length e8, .int .i64 (wrap64 ((wrap64 ((wrap64 ((wrap64 (b1 + 1)) + 1)) + 1)) + 1))] ?_; (with_reducible refine (laws_heldPointS.calls k1 _ _ ((rd_T42 l0 a2).f2) (wrap64 ((wrap64 ((wrap64 ((wrap64 (b1 + 1)) + 1)) + 1)) + 1)) e2 _ ?side1 ?side2 I9.out).mono ?_); (case side1 => exact cS g0.out); (case side2 => exact g1.out); rintro e w' ⟨rfl, ⟨nd, rfl⟩⟩; refine ⟨_, rfl, ?_⟩; have h7 : 0 ≤ (a2 : Int) := dA; have h8 : a2 < (l0.length : Int) := dA; obtain ⟨s3, y3, y4, y5, y6, v0, h9, v2, v3, v4, v6, i1, v7, v8, v9, w8, u3, hl1141_0, hi1141_0, hl1141_5, hi1141_5⟩ := at_T42 g3.out a2 h7 h8; obtain rfl : a6 = s3 := (by injection v0); have w9 := aM hi1141_0; have x0 := aM hl1141_0; clear hi1141_0 hl1141_0; have x1 := aM hi1141_5; have x2 := aM hl1141_5; clear hi1141_5 hl1141_5; replace h7 := eq_true h7; replace h8 := eq_true h8; have ea_ := Option.some.inj (a3.symm.trans h9); injection ea_ with ea_ en_ ec_; subst ea_; subst ec_; clear en_; have ea_ := Option.some.inj (a5.symm.trans i1); injection ea_ with ea_ en_ ec_; subst ea_; subst ec_; clear en_; have m3 : 0 ≤ (a2 : Int) := dA; have m4 : a2 < (l0.length : Int) := dA; obtain ⟨u9, C0, C2, C3, C4, y7, m5, y8, y9, A1, A2, m6, A3, A4, A6, A7, y1, hl1142_0, hi1142_0, hl1142_5, hi1142_5⟩ := at_T42 g3.out a2 m3 m4; obtain rfl : a6 = u9 := (by injection y7); have A8 := aM hi1142_0; have A9 := aM hl1142_0; clear hi1142_0 hl1142_0; have B0 := aM hi1142_5; have B2 := aM hl1142_5; clear hi1142_5 hl1142_5; replace m3 := eq_true m3; replace m4 := eq_true m4; have ea_ := Option.some.inj (a3.symm.trans m5); injection ea_ with ea_ en_ ec_; subst ea_; subst ec_; clear en_; have ea_ := Option.some.inj (a5.symm.trans m6); injection ea_ with ea_ en_ ec_; subst ea_; subst ec_; clear en_; have s4 : 0 ≤ (a2 : Int) := dA; have s5 : a2 < (l0.length : Int) := dA; obtain ⟨y2, E5, E6, E7, E8, C5, s6, C6, C7, C9, D0, s7, D1, D2, D3, D4, B8, hl1143_0, hi1143_0, hl1143_5, hi1143_5⟩ := at_T42 g3.out a2 s4 s5; obtain rfl : a6 = y2 := (by injection C5); have D5 := aM hi1143_0; have D6 := aM hl1143_0; clear hi1143_0 hl1143_0; have D7 := aM hi1143_5; have D8 := aM hl1143_5; clear hi1143_5 hl1143_5; replace s4 := eq_true s4; replace s5 := eq_true s5; have ea_ := Option.some.inj (a3.symm.trans s6); injection ea_ with ea_ en_ ec_; subst ea_; subst ec_; clear en_; have ea_ := Option.some.inj (a5.symm.trans s7); injection ea_ with ea_ en_ ec_; subst ea_; subst ec_; clear en_; have x3 : 0 ≤ (a2 : Int) := dA; have x4 : a2 < (l0.length : Int) := dA; obtain ⟨D9, G5, G6, G7, G8, E9, x5, F2, F3, F4, F5, x6, F6, F7, F8, F9, E4, hl1144_0, hi1144_0, hl1144_5, hi1144_5⟩ := at_T42 g3.out a2 x3 x4; obtain rfl : a6 = D9 := (by injection E9); have G0 := aM hi1144_0; have G1 := aM hl1144_0; clear hi1144_0 hl1144_0; have G2 := aM hi1144_5; have G3 := aM hl1144_5; clear hi1144_5 hl1144_5; replace x3 := eq_true x3; replace x4 := eq_true x4; have ea_ := Option.some.inj (a3.symm.trans x5); injection ea_ with ea_ en_ ec_; subst ea_; subst ec_; clear en_; have ea_ := Option.some.inj (a5.symm.trans x6); injection ea_ with ea_ en_ ec_; subst ea_; subst ec_; clear en_; have E0 : 0 ≤ (a2 : Int) := dA; have E1 : a2 < (l0.length : Int) := dA; obtain ⟨G4, I5, I6, I7, I8, H2, E2, H3, H4, H5, H6, E3, H7, H8, H9, I0, G9, hl1145_0, hi1145_0, hl1145_5, hi1145_5⟩ := at_T42 g3.out a2 E0 E1; obtain rfl : a6 = G4 := (by injection H2); have I1 := aM hi1145_0; have I2 := aM hl1145_0; clear hi1145_0 hl1145_0; have I3 := aM hi1145_5; have I4 := aM hl1145_5; clear hi1145_5 hl1145_5; replace E0 := eq_true E0; replace E1 := eq_true E1; have ea_ := Option.some.inj (a3.symm.trans E2); injection ea_ with ea_ en_ ec_; subst ea_; subst ec_; clear en_; have ea_ := Option.some.inj (a5.symm.trans E3); injection ea_ with ea_ en_ ec_; subst ea_; subst ec_; clear en_))
               go_ret
               exact ⟨fS, dS⟩
             ·rw [if_neg J3] at H
              have K4 : (((rd_T42 l0 a2).f4.f2) == (wrap64 ((wrap64 ((wrap64 (e2 + 1)) + 1)) + 1))) = false := beq_eq_false_iff_ne.mpr J3
              have K5 : (((rd_T42 l0 a2).f4.f2) != (wrap64 ((wrap64 ((wrap64 (e2 + 1)) + 1)) + 1))) = true := bne_iff_ne.mpr J3
              obtain rfl := Option.some.inj H
              have a7 : 0 ≤ (a2 : Int) := dA
              have a8 : a2 < (l0.length : Int) := dA
              obtain ⟨a6, b9, d0, e7, e8, g5, a3, g6, g7, g8, g9, a5, h0, h1, h2, h3, f5, hl1133_0, hi1133_0, hl1133_5, hi1133_5⟩ := at_T42 g3.out a2 a7 a8
              cases g5
              have a9 := aM hi1133_0
              have b0 := aM hl1133_0
              clear hi1133_0 hl1133_0
              have h4 := aM hi1133_5
              have h5 := aM hl1133_5
              clear hi1133_5 hl1133_5
              replace a7 := eq_true a7
              replace a8 := eq_true a8
              go_wp2_with (first | ((with_reducible refine gC 102 ?_); refine cL (some 18) Tryz.func102 #[.slice b9 ((rd_T42 l0 a2).f0).length d0, .int .i64 m7] ?_; (with_reducible refine (laws_heldIntS.calls k1 _ _ ((rd_T42 l0 a2).f0) m7 b1 _ ?side1 ?side2 A5.out).mono ?_); (case side1 => exact cS a9.out); (case side2 => exact b0.out); rintro e w' ⟨rfl, ⟨nd, rfl⟩⟩; refine ⟨_, rfl, ?_⟩; have b2 : 0 ≤ (a2 : Int) := dA; have b6 : a2 < (l0.length : Int) := dA; obtain ⟨e9, n0, n1, n2, n5, i4, b7, i5, i6, i7, i8, b8, i9, j5, j6, j7, g4, hl1135_0, hi1135_0, hl1135_5, hi1135_5⟩ := at_T42 g3.out a2 b2 b6; obtain rfl : a6 = e9 := (by injection i4); have j8 := aM hi1135_0; have j9 := aM hl1135_0; clear hi1135_0 hl1135_0; have k0 := aM hi1135_5; have k2 := aM hl1135_5; clear hi1135_5 hl1135_5; replace b2 := eq_true b2; replace b6 := eq_true b6; have ea_ := Option.some.inj (a3.symm.trans b7); injection ea_ with ea_ en_ ec_; subst ea_; subst ec_; clear en_; have ea_ := Option.some.inj (a5.symm.trans b8); injection ea_ with ea_ en_ ec_; subst ea_; subst ec_; clear en_; have d1 : 0 ≤ (a2 : Int) := dA; have d2 : a2 < (l0.length : Int) := dA; obtain ⟨g2, q3, q4, q5, q6, k5, d3, k6, k7, k9, l3, d4, l4, l5, l6, l7, i3, hl1136_0, hi1136_0, hl1136_5, hi1136_5⟩ := at_T42 g3.out a2 d1 d2; obtain rfl : a6 = g2 := (by injection k5); have l8 := aM hi1136_0; have l9 := aM hl1136_0; clear hi1136_0 hl1136_0; have m0 := aM hi1136_5; have m2 := aM hl1136_5; clear hi1136_5 hl1136_5; replace d1 := eq_true d1; replace d2 := eq_true d2; have ea_ := Option.some.inj (a3.symm.trans d3); injection ea_ with ea_ en_ ec_; subst ea_; subst ec_; clear en_; have ea_ := Option.some.inj (a5.symm.trans d4); injection ea_ with ea_ en_ ec_; subst ea_; subst ec_; clear en_; have d5 : 0 ≤ (a2 : Int) := dA; have d6 : a2 < (l0.length : Int) := dA; obtain ⟨h6, s8, s9, t0, t1, n6, e0, n7, n8, o0, o1, e1, o4, o5, o6, o7, k4, hl1137_0, hi1137_0, hl1137_5, hi1137_5⟩ := at_T42 g3.out a2 d5 d6; obtain rfl : a6 = h6 := (by injection n6); have o8 := aM hi1137_0; have o9 := aM hl1137_0; clear hi1137_0 hl1137_0; have q0 := aM hi1137_5; have q2 := aM hl1137_5; clear hi1137_5 hl1137_5; replace d5 := eq_true d5; replace d6 := eq_true d6; have ea_ := Option.some.inj (a3.symm.trans e0); injection ea_ with ea_ en_ ec_; subst ea_; subst ec_; clear en_; have ea_ := Option.some.inj (a5.symm.trans e1); injection ea_ with ea_ en_ ec_; subst ea_; subst ec_; clear en_; have e3 : 0 ≤ (a2 : Int) := dA; have e4 : a2 < (l0.length : Int) := dA; obtain ⟨k3, u4, u5, u6, u7, q8, e5, q9, r0, r1, r2, e6, r3, r4, r5, r6, m8, hl1138_0, hi1138_0, hl1138_5, hi1138_5⟩ := at_T42 g3.out a2 e3 e4; obtain rfl : a6 = k3 := (by injection q8); have r7 := aM hi1138_0; have s0 := aM hl1138_0; clear hi1138_0 hl1138_0; have s1 := aM hi1138_5; have s2 := aM hl1138_5; clear hi1138_5 hl1138_5; replace e3 := eq_true e3; replace e4 := eq_true e4; have ea_ := Option.some.inj (a3.symm.trans e5); injection ea_ with ea_ en_ ec_; subst ea_; subst ec_; clear en_; have ea_ := Option.some.inj (a5.symm.trans e6); injection ea_ with ea_ en_ ec_; subst ea_; subst ec_; clear en_; have f6 : 0 ≤ (a2 : Int) := dA; have f7 : a2 < (l0.length : Int) := dA; obtain ⟨m9, x7, x8, x9, y0, t2, f8, t3, t4, t5, t6, f9, t7, t8, t9, u0, q7, hl1139_0, hi1139_0, hl1139_5, hi1139_5⟩ := at_T42 g3.out a2 f6 f7; obtain rfl : a6 = m9 := (by injection t2); have u1 := aM hi1139_0; have u2 := aM hl1139_0; clear hi1139_0 hl1139_0; have g0 := aM hi1139_5; have g1 := aM hl1139_5; clear hi1139_5 hl1139_5; replace f6 := eq_true f6; replace f7 := eq_true f7; have ea_ := Option.some.inj (a3.symm.trans f8); injection ea_ with ea_ en_ ec_; subst ea_; subst ec_; clear en_; have ea_ := Option.some.inj (a5.symm.trans f9); injection ea_ with ea_ en_ ec_; subst ea_; subst ec_; clear en_) | ((with_reducible refine gC 103 ?_); refine cL (some 67) Tryz.func103 #[.slice e7 ((rd_T42 l0 a2).f2).length e8, .int .i64 (wrap64 ((wrap64 ((wrap64 ((wrap64 (b1 + 1)) + 1)) + 1)) + 1))] ?_; (with_reducible refine (laws_heldPointS.calls k1 _ _ ((rd_T42 l0 a2).f2) (wrap64 ((wrap64 ((wrap64 ((wrap64 (b1 + 1)) + 1)) + 1)) + 1)) e2 _ ?side1 ?side2 I9.out).mono ?_); (case side1 => exact cS g0.out); (case side2 => exact g1.out); rintro e w' ⟨rfl, ⟨nd, rfl⟩⟩; refine ⟨_, rfl, ?_⟩; have h7 : 0 ≤ (a2 : Int) := dA; have h8 : a2 < (l0.length : Int) := dA; obtain ⟨s3, y3, y4, y5, y6, v0, h9, v2, v3, v4, v6, i1, v7, v8, v9, w8, u3, hl1141_0, hi1141_0, hl1141_5, hi1141_5⟩ := at_T42 g3.out a2 h7 h8; obtain rfl : a6 = s3 := (by injection v0); have w9 := aM hi1141_0; have x0 := aM hl1141_0; clear hi1141_0 hl1141_0; have x1 := aM hi1141_5; have x2 := aM hl1141_5; clear hi1141_5 hl1141_5; replace h7 := eq_true h7; replace h8 := eq_true h8; have ea_ := Option.some.inj (a3.symm.trans h9); injection ea_ with ea_ en_ ec_; subst ea_; subst ec_; clear en_; have ea_ := Option.some.inj (a5.symm.trans i1); injection ea_ with ea_ en_ ec_; subst ea_; subst ec_; clear en_; have m3 : 0 ≤ (a2 : Int) := dA; have m4 : a2 < (l0.length : Int) := dA; obtain ⟨u9, C0, C2, C3, C4, y7, m5, y8, y9, A1, A2, m6, A3, A4, A6, A7, y1, hl1142_0, hi1142_0, hl1142_5, hi1142_5⟩ := at_T42 g3.out a2 m3 m4; obtain rfl : a6 = u9 := (by injection y7); have A8 := aM hi1142_0; have A9 := aM hl1142_0; clear hi1142_0 hl1142_0; have B0 := aM hi1142_5; have B2 := aM hl1142_5; clear hi1142_5 hl1142_5; replace m3 := eq_true m3; replace m4 := eq_true m4; have ea_ := Option.some.inj (a3.symm.trans m5); injection ea_ with ea_ en_ ec_; subst ea_; subst ec_; clear en_; have ea_ := Option.some.inj (a5.symm.trans m6); injection ea_ with ea_ en_ ec_; subst ea_; subst ec_; clear en_; have s4 : 0 ≤ (a2 : Int) := dA; have s5 : a2 < (l0.length : Int) := dA; obtain ⟨y2, E5, E6, E7, E8, C5, s6, C6, C7, C9, D0, s7, D1, D2, D3, D4, B8, hl1143_0, hi1143_0, hl1143_5, hi1143_5⟩ := at_T42 g3.out a2 s4 s5; obtain rfl : a6 = y2 := (by injection C5); have D5 := aM hi1143_0; have D6 := aM hl1143_0; clear hi1143_0 hl1143_0; have D7 := aM hi1143_5; have D8 := aM hl1143_5; clear hi1143_5 hl1143_5; replace s4 := eq_true s4; replace s5 := eq_true s5; have ea_ := Option.some.inj (a3.symm.trans s6); injection ea_ with ea_ en_ ec_; subst ea_; subst ec_; clear en_; have ea_ := Option.some.inj (a5.symm.trans s7); injection ea_ with ea_ en_ ec_; subst ea_; subst ec_; clear en_; have x3 : 0 ≤ (a2 : Int) := dA; have x4 : a2 < (l0.length : Int) := dA; obtain ⟨D9, G5, G6, G7, G8, E9, x5, F2, F3, F4, F5, x6, F6, F7, F8, F9, E4, hl1144_0, hi1144_0, hl1144_5, hi1144_5⟩ := at_T42 g3.out a2 x3 x4; obtain rfl : a6 = D9 := (by injection E9); have G0 := aM hi1144_0; have G1 := aM hl1144_0; clear hi1144_0 hl1144_0; have G2 := aM hi1144_5; have G3 := aM hl1144_5; clear hi1144_5 hl1144_5; replace x3 := eq_true x3; replace x4 := eq_true x4; have ea_ := Option.some.inj (a3.symm.trans x5); injection ea_ with ea_ en_ ec_; subst ea_; subst ec_; clear en_; have ea_ := Option.some.inj (a5.symm.trans x6); injection ea_ with ea_ en_ ec_; subst ea_; subst ec_; clear en_))
              go_ret
              exact ⟨fS, dS⟩
            ·rw [if_neg J2] at H
             have K2 : (((rd_T42 l0 a2).f4.f1) == (wrap64 ((wrap64 (e2 + 1)) + 1))) = false := beq_eq_false_iff_ne.mpr J2
             have K3 : (((rd_T42 l0 a2).f4.f1) != (wrap64 ((wrap64 (e2 + 1)) + 1))) = true := bne_iff_ne.mpr J2
             obtain rfl := Option.some.inj H
             have a7 : 0 ≤ (a2 : Int) := dA
             have a8 : a2 < (l0.length : Int) := dA
             obtain ⟨a6, b9, d0, e7, e8, g5, a3, g6, g7, g8, g9, a5, h0, h1, h2, h3, f5, hl1133_0, hi1133_0, hl1133_5, hi1133_5⟩ := at_T42 g3.out a2 a7 a8
             cases g5
             have a9 := aM hi1133_0
             have b0 := aM hl1133_0
             clear hi1133_0 hl1133_0
             have h4 := aM hi1133_5
             have h5 := aM hl1133_5
             clear hi1133_5 hl1133_5
             replace a7 := eq_true a7
             replace a8 := eq_true a8
             go_wp2_with (first | ((with_reducible refine gC 102 ?_); refine cL (some 18) Tryz.func102 #[.slice b9 ((rd_T42 l0 a2).f0).length d0, .int .i64 m7] ?_; (with_reducible refine (laws_heldIntS.calls k1 _ _ ((rd_T42 l0 a2).f0) m7 b1 _ ?side1 ?side2 A5.out).mono ?_); (case side1 => exact cS a9.out); (case side2 => exact b0.out); rintro e w' ⟨rfl, ⟨nd, rfl⟩⟩; refine ⟨_, rfl, ?_⟩; have b2 : 0 ≤ (a2 : Int) := dA; have b6 : a2 < (l0.length : Int) := dA; obtain ⟨e9, n0, n1, n2, n5, i4, b7, i5, i6, i7, i8, b8, i9, j5, j6, j7, g4, hl1135_0, hi1135_0, hl1135_5, hi1135_5⟩ := at_T42 g3.out a2 b2 b6; obtain rfl : a6 = e9 := (by injection i4); have j8 := aM hi1135_0; have j9 := aM hl1135_0; clear hi1135_0 hl1135_0; have k0 := aM hi1135_5; have k2 := aM hl1135_5; clear hi1135_5 hl1135_5; replace b2 := eq_true b2; replace b6 := eq_true b6; have ea_ := Option.some.inj (a3.symm.trans b7); injection ea_ with ea_ en_ ec_; subst ea_; subst ec_; clear en_; have ea_ := Option.some.inj (a5.symm.trans b8); injection ea_ with ea_ en_ ec_; subst ea_; subst ec_; clear en_; have d1 : 0 ≤ (a2 : Int) := dA; have d2 : a2 < (l0.length : Int) := dA; obtain ⟨g2, q3, q4, q5, q6, k5, d3, k6, k7, k9, l3, d4, l4, l5, l6, l7, i3, hl1136_0, hi1136_0, hl1136_5, hi1136_5⟩ := at_T42 g3.out a2 d1 d2; obtain rfl : a6 = g2 := (by injection k5); have l8 := aM hi1136_0; have l9 := aM hl1136_0; clear hi1136_0 hl1136_0; have m0 := aM hi1136_5; have m2 := aM hl1136_5; clear hi1136_5 hl1136_5; replace d1 := eq_true d1; replace d2 := eq_true d2; have ea_ := Option.some.inj (a3.symm.trans d3); injection ea_ with ea_ en_ ec_; subst ea_; subst ec_; clear en_; have ea_ := Option.some.inj (a5.symm.trans d4); injection ea_ with ea_ en_ ec_; subst ea_; subst ec_; clear en_; have d5 : 0 ≤ (a2 : Int) := dA; have d6 : a2 < (l0.length : Int) := dA; obtain ⟨h6, s8, s9, t0, t1, n6, e0, n7, n8, o0, o1, e1, o4, o5, o6, o7, k4, hl1137_0, hi1137_0, hl1137_5, hi1137_5⟩ := at_T42 g3.out a2 d5 d6; obtain rfl : a6 = h6 := (by injection n6); have o8 := aM hi1137_0; have o9 := aM hl1137_0; clear hi1137_0 hl1137_0; have q0 := aM hi1137_5; have q2 := aM hl1137_5; clear hi1137_5 hl1137_5; replace d5 := eq_true d5; replace d6 := eq_true d6; have ea_ := Option.some.inj (a3.symm.trans e0); injection ea_ with ea_ en_ ec_; subst ea_; subst ec_; clear en_; have ea_ := Option.some.inj (a5.symm.trans e1); injection ea_ with ea_ en_ ec_; subst ea_; subst ec_; clear en_; have e3 : 0 ≤ (a2 : Int) := dA; have e4 : a2 < (l0.length : Int) := dA; obtain ⟨k3, u4, u5, u6, u7, q8, e5, q9, r0, r1, r2, e6, r3, r4, r5, r6, m8, hl1138_0, hi1138_0, hl1138_5, hi1138_5⟩ := at_T42 g3.out a2 e3 e4; obtain rfl : a6 = k3 := (by injection q8); have r7 := aM hi1138_0; have s0 := aM hl1138_0; clear hi1138_0 hl1138_0; have s1 := aM hi1138_5; have s2 := aM hl1138_5; clear hi1138_5 hl1138_5; replace e3 := eq_true e3; replace e4 := eq_true e4; have ea_ := Option.some.inj (a3.symm.trans e5); injection ea_ with ea_ en_ ec_; subst ea_; subst ec_; clear en_; have ea_ := Option.some.inj (a5.symm.trans e6); injection ea_ with ea_ en_ ec_; subst ea_; subst ec_; clear en_; have f6 : 0 ≤ (a2 : Int) := dA; have f7 : a2 < (l0.length : Int) := dA; obtain ⟨m9, x7, x8, x9, y0, t2, f8, t3, t4, t5, t6, f9, t7, t8, t9, u0, q7, hl1139_0, hi1139_0, hl1139_5, hi1139_5⟩ := at_T42 g3.out a2 f6 f7; obtain rfl : a6 = m9 := (by injection t2); have u1 := aM hi1139_0; have u2 := aM hl1139_0; clear hi1139_0 hl1139_0; have g0 := aM hi1139_5; have g1 := aM hl1139_5; clear hi1139_5 hl1139_5; replace f6 := eq_true f6; replace f7 := eq_true f7; have ea_ := Option.some.inj (a3.symm.trans f8); injection ea_ with ea_ en_ ec_; subst ea_; subst ec_; clear en_; have ea_ := Option.some.inj (a5.symm.trans f9); injection ea_ with ea_ en_ ec_; subst ea_; subst ec_; clear en_) | ((with_reducible refine gC 103 ?_); refine cL (some 67) Tryz.func103 #[.slice e7 ((rd_T42 l0 a2).f2).length e8, .int .i64 (wrap64 ((wrap64 ((wrap64 ((wrap64 (b1 + 1)) + 1)) + 1)) + 1))] ?_; (with_reducible refine (laws_heldPointS.calls k1 _ _ ((rd_T42 l0 a2).f2) (wrap64 ((wrap64 ((wrap64 ((wrap64 (b1 + 1)) + 1)) + 1)) + 1)) e2 _ ?side1 ?side2 I9.out).mono ?_); (case side1 => exact cS g0.out); (case side2 => exact g1.out); rintro e w' ⟨rfl, ⟨nd, rfl⟩⟩; refine ⟨_, rfl, ?_⟩; have h7 : 0 ≤ (a2 : Int) := dA; have h8 : a2 < (l0.length : Int) := dA; obtain ⟨s3, y3, y4, y5, y6, v0, h9, v2, v3, v4, v6, i1, v7, v8, v9, w8, u3, hl1141_0, hi1141_0, hl1141_5, hi1141_5⟩ := at_T42 g3.out a2 h7 h8; obtain rfl : a6 = s3 := (by injection v0); have w9 := aM hi1141_0; have x0 := aM hl1141_0; clear hi1141_0 hl1141_0; have x1 := aM hi1141_5; have x2 := aM hl1141_5; clear hi1141_5 hl1141_5; replace h7 := eq_true h7; replace h8 := eq_true h8; have ea_ := Option.some.inj (a3.symm.trans h9); injection ea_ with ea_ en_ ec_; subst ea_; subst ec_; clear en_; have ea_ := Option.some.inj (a5.symm.trans i1); injection ea_ with ea_ en_ ec_; subst ea_; subst ec_; clear en_; have m3 : 0 ≤ (a2 : Int) := dA; have m4 : a2 < (l0.length : Int) := dA; obtain ⟨u9, C0, C2, C3, C4, y7, m5, y8, y9, A1, A2, m6, A3, A4, A6, A7, y1, hl1142_0, hi1142_0, hl1142_5, hi1142_5⟩ := at_T42 g3.out a2 m3 m4; obtain rfl : a6 = u9 := (by injection y7); have A8 := aM hi1142_0; have A9 := aM hl1142_0; clear hi1142_0 hl1142_0; have B0 := aM hi1142_5; have B2 := aM hl1142_5; clear hi1142_5 hl1142_5; replace m3 := eq_true m3; replace m4 := eq_true m4; have ea_ := Option.some.inj (a3.symm.trans m5); injection ea_ with ea_ en_ ec_; subst ea_; subst ec_; clear en_; have ea_ := Option.some.inj (a5.symm.trans m6); injection ea_ with ea_ en_ ec_; subst ea_; subst ec_; clear en_; have s4 : 0 ≤ (a2 : Int) := dA; have s5 : a2 < (l0.length : Int) := dA; obtain ⟨y2, E5, E6, E7, E8, C5, s6, C6, C7, C9, D0, s7, D1, D2, D3, D4, B8, hl1143_0, hi1143_0, hl1143_5, hi1143_5⟩ := at_T42 g3.out a2 s4 s5; obtain rfl : a6 = y2 := (by injection C5); have D5 := aM hi1143_0; have D6 := aM hl1143_0; clear hi1143_0 hl1143_0; have D7 := aM hi1143_5; have D8 := aM hl1143_5; clear hi1143_5 hl1143_5; replace s4 := eq_true s4; replace s5 := eq_true s5; have ea_ := Option.some.inj (a3.symm.trans s6); injection ea_ with ea_ en_ ec_; subst ea_; subst ec_; clear en_; have ea_ := Option.some.inj (a5.symm.trans s7); injection ea_ with ea_ en_ ec_; subst ea_; subst ec_; clear en_))
             go_ret
             exact ⟨fS, dS⟩
           ·rw [if_neg J1] at H
            have K0 : (((rd_T42 l0 a2).f4.f0) == (wrap64 (e2 + 1))) = false := beq_eq_false_iff_ne.mpr J1
            have K1 : (((rd_T42 l0 a2).f4.f0) != (wrap64 (e2 + 1))) = true := bne_iff_ne.mpr J1
            obtain rfl := Option.some.inj H
            have a7 : 0 ≤ (a2 : Int) := dA
            have a8 : a2 < (l0.length : Int) := dA
            obtain ⟨a6, b9, d0, e7, e8, g5, a3, g6, g7, g8, g9, a5, h0, h1, h2, h3, f5, hl1133_0, hi1133_0, hl1133_5, hi1133_5⟩ := at_T42 g3.out a2 a7 a8
            cases g5
            have a9 := aM hi1133_0
            have b0 := aM hl1133_0
            clear hi1133_0 hl1133_0
            have h4 := aM hi1133_5
            have h5 := aM hl1133_5
            clear hi1133_5 hl1133_5
            replace a7 := eq_true a7
            replace a8 := eq_true a8
            go_wp2_with (first | ((with_reducible refine gC 102 ?_); refine cL (some 18) Tryz.func102 #[.slice b9 ((rd_T42 l0 a2).f0).length d0, .int .i64 m7] ?_; (with_reducible refine (laws_heldIntS.calls k1 _ _ ((rd_T42 l0 a2).f0) m7 b1 _ ?side1 ?side2 A5.out).mono ?_); (case side1 => exact cS a9.out); (case side2 => exact b0.out); rintro e w' ⟨rfl, ⟨nd, rfl⟩⟩; refine ⟨_, rfl, ?_⟩; have b2 : 0 ≤ (a2 : Int) := dA; have b6 : a2 < (l0.length : Int) := dA; obtain ⟨e9, n0, n1, n2, n5, i4, b7, i5, i6, i7, i8, b8, i9, j5, j6, j7, g4, hl1135_0, hi1135_0, hl1135_5, hi1135_5⟩ := at_T42 g3.out a2 b2 b6; obtain rfl : a6 = e9 := (by injection i4); have j8 := aM hi1135_0; have j9 := aM hl1135_0; clear hi1135_0 hl1135_0; have k0 := aM hi1135_5; have k2 := aM hl1135_5; clear hi1135_5 hl1135_5; replace b2 := eq_true b2; replace b6 := eq_true b6; have ea_ := Option.some.inj (a3.symm.trans b7); injection ea_ with ea_ en_ ec_; subst ea_; subst ec_; clear en_; have ea_ := Option.some.inj (a5.symm.trans b8); injection ea_ with ea_ en_ ec_; subst ea_; subst ec_; clear en_; have d1 : 0 ≤ (a2 : Int) := dA; have d2 : a2 < (l0.length : Int) := dA; obtain ⟨g2, q3, q4, q5, q6, k5, d3, k6, k7, k9, l3, d4, l4, l5, l6, l7, i3, hl1136_0, hi1136_0, hl1136_5, hi1136_5⟩ := at_T42 g3.out a2 d1 d2; obtain rfl : a6 = g2 := (by injection k5); have l8 := aM hi1136_0; have l9 := aM hl1136_0; clear hi1136_0 hl1136_0; have m0 := aM hi1136_5; have m2 := aM hl1136_5; clear hi1136_5 hl1136_5; replace d1 := eq_true d1; replace d2 := eq_true d2; have ea_ := Option.some.inj (a3.symm.trans d3); injection ea_ with ea_ en_ ec_; subst ea_; subst ec_; clear en_; have ea_ := Option.some.inj (a5.symm.trans d4); injection ea_ with ea_ en_ ec_; subst ea_; subst ec_; clear en_; have d5 : 0 ≤ (a2 : Int) := dA; have d6 : a2 < (l0.length : Int) := dA; obtain ⟨h6, s8, s9, t0, t1, n6, e0, n7, n8, o0, o1, e1, o4, o5, o6, o7, k4, hl1137_0, hi1137_0, hl1137_5, hi1137_5⟩ := at_T42 g3.out a2 d5 d6; obtain rfl : a6 = h6 := (by injection n6); have o8 := aM hi1137_0; have o9 := aM hl1137_0; clear hi1137_0 hl1137_0; have q0 := aM hi1137_5; have q2 := aM hl1137_5; clear hi1137_5 hl1137_5; replace d5 := eq_true d5; replace d6 := eq_true d6; have ea_ := Option.some.inj (a3.symm.trans e0); injection ea_ with ea_ en_ ec_; subst ea_; subst ec_; clear en_; have ea_ := Option.some.inj (a5.symm.trans e1); injection ea_ with ea_ en_ ec_; subst ea_; subst ec_; clear en_; have e3 : 0 ≤ (a2 : Int) := dA; have e4 : a2 < (l0.length : Int) := dA; obtain ⟨k3, u4, u5, u6, u7, q8, e5, q9, r0, r1, r2, e6, r3, r4, r5, r6, m8, hl1138_0, hi1138_0, hl1138_5, hi1138_5⟩ := at_T42 g3.out a2 e3 e4; obtain rfl : a6 = k3 := (by injection q8); have r7 := aM hi1138_0; have s0 := aM hl1138_0; clear hi1138_0 hl1138_0; have s1 := aM hi1138_5; have s2 := aM hl1138_5; clear hi1138_5 hl1138_5; replace e3 := eq_true e3; replace e4 := eq_true e4; have ea_ := Option.some.inj (a3.symm.trans e5); injection ea_ with ea_ en_ ec_; subst ea_; subst ec_; clear en_; have ea_ := Option.some.inj (a5.symm.trans e6); injection ea_ with ea_ en_ ec_; subst ea_; subst ec_; clear en_; have f6 : 0 ≤ (a2 : Int) := dA; have f7 : a2 < (l0.length : Int) := dA; obtain ⟨m9, x7, x8, x9, y0, t2, f8, t3, t4, t5, t6, f9, t7, t8, t9, u0, q7, hl1139_0, hi1139_0, hl1139_5, hi1139_5⟩ := at_T42 g3.out a2 f6 f7; obtain rfl : a6 = m9 := (by injection t2); have u1 := aM hi1139_0; have u2 := aM hl1139_0; clear hi1139_0 hl1139_0; have g0 := aM hi1139_5; have g1 := aM hl1139_5; clear hi1139_5 hl1139_5; replace f6 := eq_true f6; replace f7 := eq_true f7; have ea_ := Option.some.inj (a3.symm.trans f8); injection ea_ with ea_ en_ ec_; subst ea_; subst ec_; clear en_; have ea_ := Option.some.inj (a5.symm.trans f9); injection ea_ with ea_ en_ ec_; subst ea_; subst ec_; clear en_) | ((with_reducible refine gC 103 ?_); refine cL (some 67) Tryz.func103 #[.slice e7 ((rd_T42 l0 a2).f2).length e8, .int .i64 (wrap64 ((wrap64 ((wrap64 ((wrap64 (b1 + 1)) + 1)) + 1)) + 1))] ?_; (with_reducible refine (laws_heldPointS.calls k1 _ _ ((rd_T42 l0 a2).f2) (wrap64 ((wrap64 ((wrap64 ((wrap64 (b1 + 1)) + 1)) + 1)) + 1)) e2 _ ?side1 ?side2 I9.out).mono ?_); (case side1 => exact cS g0.out); (case side2 => exact g1.out); rintro e w' ⟨rfl, ⟨nd, rfl⟩⟩; refine ⟨_, rfl, ?_⟩; have h7 : 0 ≤ (a2 : Int) := dA; have h8 : a2 < (l0.length : Int) := dA; obtain ⟨s3, y3, y4, y5, y6, v0, h9, v2, v3, v4, v6, i1, v7, v8, v9, w8, u3, hl1141_0, hi1141_0, hl1141_5, hi1141_5⟩ := at_T42 g3.out a2 h7 h8; obtain rfl : a6 = s3 := (by injection v0); have w9 := aM hi1141_0; have x0 := aM hl1141_0; clear hi1141_0 hl1141_0; have x1 := aM hi1141_5; have x2 := aM hl1141_5; clear hi1141_5 hl1141_5; replace h7 := eq_true h7; replace h8 := eq_true h8; have ea_ := Option.some.inj (a3.symm.trans h9); injection ea_ with ea_ en_ ec_; subst ea_; subst ec_; clear en_; have ea_ := Option.some.inj (a5.symm.trans i1); injection ea_ with ea_ en_ ec_; subst ea_; subst ec_; clear en_; have m3 : 0 ≤ (a2 : Int) := dA; have m4 : a2 < (l0.length : Int) := dA; obtain ⟨u9, C0, C2, C3, C4, y7, m5, y8, y9, A1, A2, m6, A3, A4, A6, A7, y1, hl1142_0, hi1142_0, hl1142_5, hi1142_5⟩ := at_T42 g3.out a2 m3 m4; obtain rfl : a6 = u9 := (by injection y7); have A8 := aM hi1142_0; have A9 := aM hl1142_0; clear hi1142_0 hl1142_0; have B0 := aM hi1142_5; have B2 := aM hl1142_5; clear hi1142_5 hl1142_5; replace m3 := eq_true m3; replace m4 := eq_true m4; have ea_ := Option.some.inj (a3.symm.trans m5); injection ea_ with ea_ en_ ec_; subst ea_; subst ec_; clear en_; have ea_ := Option.some.inj (a5.symm.trans m6); injection ea_ with ea_ en_ ec_; subst ea_; subst ec_; clear en_))
            go_ret
            exact ⟨fS, dS⟩
          ·rw [if_neg J0] at H
           have J8 : (((rd_T42 l0 a2).f3) == e2) = false := beq_eq_false_iff_ne.mpr J0
           have J9 : (((rd_T42 l0 a2).f3) != e2) = true := bne_iff_ne.mpr J0
           obtain rfl := Option.some.inj H
           have a7 : 0 ≤ (a2 : Int) := dA
           have a8 : a2 < (l0.length : Int) := dA
           obtain ⟨a6, b9, d0, e7, e8, g5, a3, g6, g7, g8, g9, a5, h0, h1, h2, h3, f5, hl1133_0, hi1133_0, hl1133_5, hi1133_5⟩ := at_T42 g3.out a2 a7 a8
           cases g5
           have a9 := aM hi1133_0
           have b0 := aM hl1133_0
           clear hi1133_0 hl1133_0
           have h4 := aM hi1133_5
           have h5 := aM hl1133_5
           clear hi1133_5 hl1133_5
           replace a7 := eq_true a7
           replace a8 := eq_true a8
           go_wp2_with (first | ((with_reducible refine gC 102 ?_); refine cL (some 18) Tryz.func102 #[.slice b9 ((rd_T42 l0 a2).f0).length d0, .int .i64 m7] ?_; (with_reducible refine (laws_heldIntS.calls k1 _ _ ((rd_T42 l0 a2).f0) m7 b1 _ ?side1 ?side2 A5.out).mono ?_); (case side1 => exact cS a9.out); (case side2 => exact b0.out); rintro e w' ⟨rfl, ⟨nd, rfl⟩⟩; refine ⟨_, rfl, ?_⟩; have b2 : 0 ≤ (a2 : Int) := dA; have b6 : a2 < (l0.length : Int) := dA; obtain ⟨e9, n0, n1, n2, n5, i4, b7, i5, i6, i7, i8, b8, i9, j5, j6, j7, g4, hl1135_0, hi1135_0, hl1135_5, hi1135_5⟩ := at_T42 g3.out a2 b2 b6; obtain rfl : a6 = e9 := (by injection i4); have j8 := aM hi1135_0; have j9 := aM hl1135_0; clear hi1135_0 hl1135_0; have k0 := aM hi1135_5; have k2 := aM hl1135_5; clear hi1135_5 hl1135_5; replace b2 := eq_true b2; replace b6 := eq_true b6; have ea_ := Option.some.inj (a3.symm.trans b7); injection ea_ with ea_ en_ ec_; subst ea_; subst ec_; clear en_; have ea_ := Option.some.inj (a5.symm.trans b8); injection ea_ with ea_ en_ ec_; subst ea_; subst ec_; clear en_; have d1 : 0 ≤ (a2 : Int) := dA; have d2 : a2 < (l0.length : Int) := dA; obtain ⟨g2, q3, q4, q5, q6, k5, d3, k6, k7, k9, l3, d4, l4, l5, l6, l7, i3, hl1136_0, hi1136_0, hl1136_5, hi1136_5⟩ := at_T42 g3.out a2 d1 d2; obtain rfl : a6 = g2 := (by injection k5); have l8 := aM hi1136_0; have l9 := aM hl1136_0; clear hi1136_0 hl1136_0; have m0 := aM hi1136_5; have m2 := aM hl1136_5; clear hi1136_5 hl1136_5; replace d1 := eq_true d1; replace d2 := eq_true d2; have ea_ := Option.some.inj (a3.symm.trans d3); injection ea_ with ea_ en_ ec_; subst ea_; subst ec_; clear en_; have ea_ := Option.some.inj (a5.symm.trans d4); injection ea_ with ea_ en_ ec_; subst ea_; subst ec_; clear en_; have d5 : 0 ≤ (a2 : Int) := dA; have d6 : a2 < (l0.length : Int) := dA; obtain ⟨h6, s8, s9, t0, t1, n6, e0, n7, n8, o0, o1, e1, o4, o5, o6, o7, k4, hl1137_0, hi1137_0, hl1137_5, hi1137_5⟩ := at_T42 g3.out a2 d5 d6; obtain rfl : a6 = h6 := (by injection n6); have o8 := aM hi1137_0; have o9 := aM hl1137_0; clear hi1137_0 hl1137_0; have q0 := aM hi1137_5; have q2 := aM hl1137_5; clear hi1137_5 hl1137_5; replace d5 := eq_true d5; replace d6 := eq_true d6; have ea_ := Option.some.inj (a3.symm.trans e0); injection ea_ with ea_ en_ ec_; subst ea_; subst ec_; clear en_; have ea_ := Option.some.inj (a5.symm.trans e1); injection ea_ with ea_ en_ ec_; subst ea_; subst ec_; clear en_; have e3 : 0 ≤ (a2 : Int) := dA; have e4 : a2 < (l0.length : Int) := dA; obtain ⟨k3, u4, u5, u6, u7, q8, e5, q9, r0, r1, r2, e6, r3, r4, r5, r6, m8, hl1138_0, hi1138_0, hl1138_5, hi1138_5⟩ := at_T42 g3.out a2 e3 e4; obtain rfl : a6 = k3 := (by injection q8); have r7 := aM hi1138_0; have s0 := aM hl1138_0; clear hi1138_0 hl1138_0; have s1 := aM hi1138_5; have s2 := aM hl1138_5; clear hi1138_5 hl1138_5; replace e3 := eq_true e3; replace e4 := eq_true e4; have ea_ := Option.some.inj (a3.symm.trans e5); injection ea_ with ea_ en_ ec_; subst ea_; subst ec_; clear en_; have ea_ := Option.some.inj (a5.symm.trans e6); injection ea_ with ea_ en_ ec_; subst ea_; subst ec_; clear en_; have f6 : 0 ≤ (a2 : Int) := dA; have f7 : a2 < (l0.length : Int) := dA; obtain ⟨m9, x7, x8, x9, y0, t2, f8, t3, t4, t5, t6, f9, t7, t8, t9, u0, q7, hl1139_0, hi1139_0, hl1139_5, hi1139_5⟩ := at_T42 g3.out a2 f6 f7; obtain rfl : a6 = m9 := (by injection t2); have u1 := aM hi1139_0; have u2 := aM hl1139_0; clear hi1139_0 hl1139_0; have g0 := aM hi1139_5; have g1 := aM hl1139_5; clear hi1139_5 hl1139_5; replace f6 := eq_true f6; replace f7 := eq_true f7; have ea_ := Option.some.inj (a3.symm.trans f8); injection ea_ with ea_ en_ ec_; subst ea_; subst ec_; clear en_; have ea_ := Option.some.inj (a5.symm.trans f9); injection ea_ with ea_ en_ ec_; subst ea_; subst ec_; clear en_) | ((with_reducible refine gC 103 ?_); refine cL (some 67) Tryz.func103 #[.slice e7 ((rd_T42 l0 a2).f2).length e8, .int .i64 (wrap64 ((wrap64 ((wrap64 ((wrap64 (b1 + 1)) + 1)) + 1)) + 1))] ?_; (with_reducible refine (laws_heldPointS.calls k1 _ _ ((rd_T42 l0 a2).f2) (wrap64 ((wrap64 ((wrap64 ((wrap64 (b1 + 1)) + 1)) + 1)) + 1)) e2 _ ?side1 ?side2 I9.out).mono ?_); (case side1 => exact cS g0.out); (case side2 => exact g1.out); rintro e w' ⟨rfl, ⟨nd, rfl⟩⟩; refine ⟨_, rfl, ?_⟩; have h7 : 0 ≤ (a2 : Int) := dA; have h8 : a2 < (l0.length : Int) := dA; obtain ⟨s3, y3, y4, y5, y6, v0, h9, v2, v3, v4, v6, i1, v7, v8, v9, w8, u3, hl1141_0, hi1141_0, hl1141_5, hi1141_5⟩ := at_T42 g3.out a2 h7 h8; obtain rfl : a6 = s3 := (by injection v0); have w9 := aM hi1141_0; have x0 := aM hl1141_0; clear hi1141_0 hl1141_0; have x1 := aM hi1141_5; have x2 := aM hl1141_5; clear hi1141_5 hl1141_5; replace h7 := eq_true h7; replace h8 := eq_true h8; have ea_ := Option.some.inj (a3.symm.trans h9); injection ea_ with ea_ en_ ec_; subst ea_; subst ec_; clear en_; have ea_ := Option.some.inj (a5.symm.trans i1); injection ea_ with ea_ en_ ec_; subst ea_; subst ec_; clear en_))
           go_ret
           exact ⟨fS, dS⟩
        ·rw [if_neg c10] at H
         have J5 : (((rd_T42 l0 a2).f1.f3) == (wrap64 ((wrap64 ((wrap64 (b1 + 1)) + 1)) + 1))) = false := beq_eq_false_iff_ne.mpr c10
         have J6 : (((rd_T42 l0 a2).f1.f3) != (wrap64 ((wrap64 ((wrap64 (b1 + 1)) + 1)) + 1))) = true := bne_iff_ne.mpr c10
         obtain rfl := Option.some.inj H
         have a7 : 0 ≤ (a2 : Int) := dA
         have a8 : a2 < (l0.length : Int) := dA
         obtain ⟨a6, b9, d0, e7, e8, g5, a3, g6, g7, g8, g9, a5, h0, h1, h2, h3, f5, hl1133_0, hi1133_0, hl1133_5, hi1133_5⟩ := at_T42 g3.out a2 a7 a8
         cases g5
         have a9 := aM hi1133_0
         have b0 := aM hl1133_0
         clear hi1133_0 hl1133_0
         have h4 := aM hi1133_5
         have h5 := aM hl1133_5
         clear hi1133_5 hl1133_5
         replace a7 := eq_true a7
         replace a8 := eq_true a8
         go_wp2_with (first | ((with_reducible refine gC 102 ?_); refine cL (some 18) Tryz.func102 #[.slice b9 ((rd_T42 l0 a2).f0).length d0, .int .i64 m7] ?_; (with_reducible refine (laws_heldIntS.calls k1 _ _ ((rd_T42 l0 a2).f0) m7 b1 _ ?side1 ?side2 A5.out).mono ?_); (case side1 => exact cS a9.out); (case side2 => exact b0.out); rintro e w' ⟨rfl, ⟨nd, rfl⟩⟩; refine ⟨_, rfl, ?_⟩; have b2 : 0 ≤ (a2 : Int) := dA; have b6 : a2 < (l0.length : Int) := dA; obtain ⟨e9, n0, n1, n2, n5, i4, b7, i5, i6, i7, i8, b8, i9, j5, j6, j7, g4, hl1135_0, hi1135_0, hl1135_5, hi1135_5⟩ := at_T42 g3.out a2 b2 b6; obtain rfl : a6 = e9 := (by injection i4); have j8 := aM hi1135_0; have j9 := aM hl1135_0; clear hi1135_0 hl1135_0; have k0 := aM hi1135_5; have k2 := aM hl1135_5; clear hi1135_5 hl1135_5; replace b2 := eq_true b2; replace b6 := eq_true b6; have ea_ := Option.some.inj (a3.symm.trans b7); injection ea_ with ea_ en_ ec_; subst ea_; subst ec_; clear en_; have ea_ := Option.some.inj (a5.symm.trans b8); injection ea_ with ea_ en_ ec_; subst ea_; subst ec_; clear en_; have d1 : 0 ≤ (a2 : Int) := dA; have d2 : a2 < (l0.length : Int) := dA; obtain ⟨g2, q3, q4, q5, q6, k5, d3, k6, k7, k9, l3, d4, l4, l5, l6, l7, i3, hl1136_0, hi1136_0, hl1136_5, hi1136_5⟩ := at_T42 g3.out a2 d1 d2; obtain rfl : a6 = g2 := (by injection k5); have l8 := aM hi1136_0; have l9 := aM hl1136_0; clear hi1136_0 hl1136_0; have m0 := aM hi1136_5; have m2 := aM hl1136_5; clear hi1136_5 hl1136_5; replace d1 := eq_true d1; replace d2 := eq_true d2; have ea_ := Option.some.inj (a3.symm.trans d3); injection ea_ with ea_ en_ ec_; subst ea_; subst ec_; clear en_; have ea_ := Option.some.inj (a5.symm.trans d4); injection ea_ with ea_ en_ ec_; subst ea_; subst ec_; clear en_; have d5 : 0 ≤ (a2 : Int) := dA; have d6 : a2 < (l0.length : Int) := dA; obtain ⟨h6, s8, s9, t0, t1, n6, e0, n7, n8, o0, o1, e1, o4, o5, o6, o7, k4, hl1137_0, hi1137_0, hl1137_5, hi1137_5⟩ := at_T42 g3.out a2 d5 d6; obtain rfl : a6 = h6 := (by injection n6); have o8 := aM hi1137_0; have o9 := aM hl1137_0; clear hi1137_0 hl1137_0; have q0 := aM hi1137_5; have q2 := aM hl1137_5; clear hi1137_5 hl1137_5; replace d5 := eq_true d5; replace d6 := eq_true d6; have ea_ := Option.some.inj (a3.symm.trans e0); injection ea_ with ea_ en_ ec_; subst ea_; subst ec_; clear en_; have ea_ := Option.some.inj (a5.symm.trans e1); injection ea_ with ea_ en_ ec_; subst ea_; subst ec_; clear en_; have e3 : 0 ≤ (a2 : Int) := dA; have e4 : a2 < (l0.length : Int) := dA; obtain ⟨k3, u4, u5, u6, u7, q8, e5, q9, r0, r1, r2, e6, r3, r4, r5, r6, m8, hl1138_0, hi1138_0, hl1138_5, hi1138_5⟩ := at_T42 g3.out a2 e3 e4; obtain rfl : a6 = k3 := (by injection q8); have r7 := aM hi1138_0; have s0 := aM hl1138_0; clear hi1138_0 hl1138_0; have s1 := aM hi1138_5; have s2 := aM hl1138_5; clear hi1138_5 hl1138_5; replace e3 := eq_true e3; replace e4 := eq_true e4; have ea_ := Option.some.inj (a3.symm.trans e5); injection ea_ with ea_ en_ ec_; subst ea_; subst ec_; clear en_; have ea_ := Option.some.inj (a5.symm.trans e6); injection ea_ with ea_ en_ ec_; subst ea_; subst ec_; clear en_))
         go_ret
         exact ⟨fS, dS⟩
       ·rw [if_neg c9] at H
        have L8 : (((rd_T42 l0 a2).f1.f2) == (wrap64 ((wrap64 (b1 + 1)) + 1))) = false := beq_eq_false_iff_ne.mpr c9
        have L9 : (((rd_T42 l0 a2).f1.f2) != (wrap64 ((wrap64 (b1 + 1)) + 1))) = true := bne_iff_ne.mpr c9
        obtain rfl := Option.some.inj H
        have a7 : 0 ≤ (a2 : Int) := dA
        have a8 : a2 < (l0.length : Int) := dA
        obtain ⟨a6, b9, d0, e7, e8, g5, a3, g6, g7, g8, g9, a5, h0, h1, h2, h3, f5, hl1133_0, hi1133_0, hl1133_5, hi1133_5⟩ := at_T42 g3.out a2 a7 a8
        cases g5
        have a9 := aM hi1133_0
        have b0 := aM hl1133_0
        clear hi1133_0 hl1133_0
        have h4 := aM hi1133_5
        have h5 := aM hl1133_5
        clear hi1133_5 hl1133_5
        replace a7 := eq_true a7
        replace a8 := eq_true a8
        go_wp2_with (first | ((with_reducible refine gC 102 ?_); refine cL (some 18) Tryz.func102 #[.slice b9 ((rd_T42 l0 a2).f0).length d0, .int .i64 m7] ?_; (with_reducible refine (laws_heldIntS.calls k1 _ _ ((rd_T42 l0 a2).f0) m7 b1 _ ?side1 ?side2 A5.out).mono ?_); (case side1 => exact cS a9.out); (case side2 => exact b0.out); rintro e w' ⟨rfl, ⟨nd, rfl⟩⟩; refine ⟨_, rfl, ?_⟩; have b2 : 0 ≤ (a2 : Int) := dA; have b6 : a2 < (l0.length : Int) := dA; obtain ⟨e9, n0, n1, n2, n5, i4, b7, i5, i6, i7, i8, b8, i9, j5, j6, j7, g4, hl1135_0, hi1135_0, hl1135_5, hi1135_5⟩ := at_T42 g3.out a2 b2 b6; obtain rfl : a6 = e9 := (by injection i4); have j8 := aM hi1135_0; have j9 := aM hl1135_0; clear hi1135_0 hl1135_0; have k0 := aM hi1135_5; have k2 := aM hl1135_5; clear hi1135_5 hl1135_5; replace b2 := eq_true b2; replace b6 := eq_true b6; have ea_ := Option.some.inj (a3.symm.trans b7); injection ea_ with ea_ en_ ec_; subst ea_; subst ec_; clear en_; have ea_ := Option.some.inj (a5.symm.trans b8); injection ea_ with ea_ en_ ec_; subst ea_; subst ec_; clear en_; have d1 : 0 ≤ (a2 : Int) := dA; have d2 : a2 < (l0.length : Int) := dA; obtain ⟨g2, q3, q4, q5, q6, k5, d3, k6, k7, k9, l3, d4, l4, l5, l6, l7, i3, hl1136_0, hi1136_0, hl1136_5, hi1136_5⟩ := at_T42 g3.out a2 d1 d2; obtain rfl : a6 = g2 := (by injection k5); have l8 := aM hi1136_0; have l9 := aM hl1136_0; clear hi1136_0 hl1136_0; have m0 := aM hi1136_5; have m2 := aM hl1136_5; clear hi1136_5 hl1136_5; replace d1 := eq_true d1; replace d2 := eq_true d2; have ea_ := Option.some.inj (a3.symm.trans d3); injection ea_ with ea_ en_ ec_; subst ea_; subst ec_; clear en_; have ea_ := Option.some.inj (a5.symm.trans d4); injection ea_ with ea_ en_ ec_; subst ea_; subst ec_; clear en_; have d5 : 0 ≤ (a2 : Int) := dA; have d6 : a2 < (l0.length : Int) := dA; obtain ⟨h6, s8, s9, t0, t1, n6, e0, n7, n8, o0, o1, e1, o4, o5, o6, o7, k4, hl1137_0, hi1137_0, hl1137_5, hi1137_5⟩ := at_T42 g3.out a2 d5 d6; obtain rfl : a6 = h6 := (by injection n6); have o8 := aM hi1137_0; have o9 := aM hl1137_0; clear hi1137_0 hl1137_0; have q0 := aM hi1137_5; have q2 := aM hl1137_5; clear hi1137_5 hl1137_5; replace d5 := eq_true d5; replace d6 := eq_true d6; have ea_ := Option.some.inj (a3.symm.trans e0); injection ea_ with ea_ en_ ec_; subst ea_; subst ec_; clear en_; have ea_ := Option.some.inj (a5.symm.trans e1); injection ea_ with ea_ en_ ec_; subst ea_; subst ec_; clear en_))
        go_ret
        exact ⟨fS, dS⟩
      ·rw [if_neg c8] at H
       have L2 : (((rd_T42 l0 a2).f1.f1) == (wrap64 (b1 + 1))) = false := beq_eq_false_iff_ne.mpr c8
       have L6 : (((rd_T42 l0 a2).f1.f1) != (wrap64 (b1 + 1))) = true := bne_iff_ne.mpr c8
       obtain rfl := Option.some.inj H
       have a7 : 0 ≤ (a2 : Int) := dA
       have a8 : a2 < (l0.length : Int) := dA
       obtain ⟨a6, b9, d0, e7, e8, g5, a3, g6, g7, g8, g9, a5, h0, h1, h2, h3, f5, hl1133_0, hi1133_0, hl1133_5, hi1133_5⟩ := at_T42 g3.out a2 a7 a8
       cases g5
       have a9 := aM hi1133_0
       have b0 := aM hl1133_0
       clear hi1133_0 hl1133_0
       have h4 := aM hi1133_5
       have h5 := aM hl1133_5
       clear hi1133_5 hl1133_5
       replace a7 := eq_true a7
       replace a8 := eq_true a8
       go_wp2_with (first | ((with_reducible refine gC 102 ?_); refine cL (some 18) Tryz.func102 #[.slice b9 ((rd_T42 l0 a2).f0).length d0, .int .i64 m7] ?_; (with_reducible refine (laws_heldIntS.calls k1 _ _ ((rd_T42 l0 a2).f0) m7 b1 _ ?side1 ?side2 A5.out).mono ?_); (case side1 => exact cS a9.out); (case side2 => exact b0.out); rintro e w' ⟨rfl, ⟨nd, rfl⟩⟩; refine ⟨_, rfl, ?_⟩; have b2 : 0 ≤ (a2 : Int) := dA; have b6 : a2 < (l0.length : Int) := dA; obtain ⟨e9, n0, n1, n2, n5, i4, b7, i5, i6, i7, i8, b8, i9, j5, j6, j7, g4, hl1135_0, hi1135_0, hl1135_5, hi1135_5⟩ := at_T42 g3.out a2 b2 b6; obtain rfl : a6 = e9 := (by injection i4); have j8 := aM hi1135_0; have j9 := aM hl1135_0; clear hi1135_0 hl1135_0; have k0 := aM hi1135_5; have k2 := aM hl1135_5; clear hi1135_5 hl1135_5; replace b2 := eq_true b2; replace b6 := eq_true b6; have ea_ := Option.some.inj (a3.symm.trans b7); injection ea_ with ea_ en_ ec_; subst ea_; subst ec_; clear en_; have ea_ := Option.some.inj (a5.symm.trans b8); injection ea_ with ea_ en_ ec_; subst ea_; subst ec_; clear en_; have d1 : 0 ≤ (a2 : Int) := dA; have d2 : a2 < (l0.length : Int) := dA; obtain ⟨g2, q3, q4, q5, q6, k5, d3, k6, k7, k9, l3, d4, l4, l5, l6, l7, i3, hl1136_0, hi1136_0, hl1136_5, hi1136_5⟩ := at_T42 g3.out a2 d1 d2; obtain rfl : a6 = g2 := (by injection k5); have l8 := aM hi1136_0; have l9 := aM hl1136_0; clear hi1136_0 hl1136_0; have m0 := aM hi1136_5; have m2 := aM hl1136_5; clear hi1136_5 hl1136_5; replace d1 := eq_true d1; replace d2 := eq_true d2; have ea_ := Option.some.inj (a3.symm.trans d3); injection ea_ with ea_ en_ ec_; subst ea_; subst ec_; clear en_; have ea_ := Option.some.inj (a5.symm.trans d4); injection ea_ with ea_ en_ ec_; subst ea_; subst ec_; clear en_))
       go_ret
       exact ⟨fS, dS⟩
     ·rw [if_neg c7] at H
      have L0 : (((rd_T42 l0 a2).f1.f0) == b1) = false := beq_eq_false_iff_ne.mpr c7
      have L1 : (((rd_T42 l0 a2).f1.f0) != b1) = true := bne_iff_ne.mpr c7
      obtain rfl := Option.some.inj H
      have a7 : 0 ≤ (a2 : Int) := dA
      have a8 : a2 < (l0.length : Int) := dA
      obtain ⟨a6, b9, d0, e7, e8, g5, a3, g6, g7, g8, g9, a5, h0, h1, h2, h3, f5, hl1133_0, hi1133_0, hl1133_5, hi1133_5⟩ := at_T42 g3.out a2 a7 a8
      cases g5
      have a9 := aM hi1133_0
      have b0 := aM hl1133_0
      clear hi1133_0 hl1133_0
      have h4 := aM hi1133_5
      have h5 := aM hl1133_5
      clear hi1133_5 hl1133_5
      replace a7 := eq_true a7
      replace a8 := eq_true a8
      go_wp2_with (first | ((with_reducible refine gC 102 ?_); refine cL (some 18) Tryz.func102 #[.slice b9 ((rd_T42 l0 a2).f0).length d0, .int .i64 m7] ?_; (with_reducible refine (laws_heldIntS.calls k1 _ _ ((rd_T42 l0 a2).f0) m7 b1 _ ?side1 ?side2 A5.out).mono ?_); (case side1 => exact cS a9.out); (case side2 => exact b0.out); rintro e w' ⟨rfl, ⟨nd, rfl⟩⟩; refine ⟨_, rfl, ?_⟩; have b2 : 0 ≤ (a2 : Int) := dA; have b6 : a2 < (l0.length : Int) := dA; obtain ⟨e9, n0, n1, n2, n5, i4, b7, i5, i6, i7, i8, b8, i9, j5, j6, j7, g4, hl1135_0, hi1135_0, hl1135_5, hi1135_5⟩ := at_T42 g3.out a2 b2 b6; obtain rfl : a6 = e9 := (by injection i4); have j8 := aM hi1135_0; have j9 := aM hl1135_0; clear hi1135_0 hl1135_0; have k0 := aM hi1135_5; have k2 := aM hl1135_5; clear hi1135_5 hl1135_5; replace b2 := eq_true b2; replace b6 := eq_true b6; have ea_ := Option.some.inj (a3.symm.trans b7); injection ea_ with ea_ en_ ec_; subst ea_; subst ec_; clear en_; have ea_ := Option.some.inj (a5.symm.trans b8); injection ea_ with ea_ en_ ec_; subst ea_; subst ec_; clear en_))
      go_ret
      exact ⟨fS, dS⟩
   ·obtain rfl := Option.some.inj H
    go_wp2
    go_ret
    exact ⟨fS, dS⟩
def laws_heldObjectS.l0 : Nat → List (S103) → Int → Int → Option (Int)
 | 0, _, _, _ => none
 | k + 1, x0, x1, x5 => if x5 < (x0.length : Int) then (if 0 ≤ x5 then ((laws_heldPointS.f k ((rd_T103 x0 x5).f0) x1).bind fun a2 => (if a2 < 0 then (some (-1)) else (if ((rd_T103 x0 x5).f1) = a2 then (if ((rd_T103 x0 x5).f2.f0) = (wrap64 (a2 + 1)) then (if ((rd_T103 x0 x5).f2.f1) = (wrap64 ((wrap64 (a2 + 1)) + 1)) then (if ((rd_T103 x0 x5).f2.f2) = (wrap64 ((wrap64 ((wrap64 (a2 + 1)) + 1)) + 1)) then (if ((rd_T103 x0 x5).f2.f3) = (wrap64 ((wrap64 ((wrap64 ((wrap64 (a2 + 1)) + 1)) + 1)) + 1)) then (laws_heldObjectS.l0 k x0 (wrap64 ((wrap64 ((wrap64 ((wrap64 ((wrap64 (a2 + 1)) + 1)) + 1)) + 1)) + 1)) (wrap64 (x5 + 1))) else (some (-1))) else (some (-1))) else (some (-1))) else (some (-1))) else (some (-1))))) else (none)) else (some x1)
def laws_heldObjectS.f (k : Nat) (l0 : List (S103)) (a1 : Int) : Option (Int) := laws_heldObjectS.l0 k l0 a1 0
theorem laws_heldObjectS.calls (k : Nat) (A0 : Option Addr) (c0 : Nat) (l0 : List (S103)) (a1 : Int) (r : Int) (w : World) (hr0 : Kd.C k103 w A0 l0.length l0) (o0 : l0.length ≤ c0) (h : laws_heldObjectS.f k l0 a1 = some r) :
  Calls Tryz.prog 53 #[.slice A0 l0.length c0, .int .i64 a1] w fun e w' => e = .returned (.int .i64 r) ∧ Drawn0 w w' := by
 have h3 := aM hr0
 have o5 := aM o0
 clear hr0 o0
 have H := h
 clear h
 unfold laws_heldObjectS.f at H
 have H' := aM H
 clear H
 go_enter Tryz.func53, Tryz.ntmps53
 go_wp2
 go_loopg [1, 5] k (fun kq v1 v5 w' => ∃ (e6 : Int) (a2 : Int), v1 = .int .i64 e6 ∧ v5 = .int .i64 a2 ∧ Aside0 (laws_heldObjectS.l0 kq l0 e6 a2 = some r) ∧ Aside0 (kq ≤ k) ∧ Drawn0 w w')
 case atStart => exact ⟨(a1), (0), fS, fS, H', ⟨Nat.le_refl _⟩, dS⟩
 case round =>
  clear H'
  try clear p2
  obtain ⟨e6, a2, rfl, rfl, HA, o1, ⟨m1, rfl⟩⟩ := hrel
  cases gk with
  | zero => exact absurd HA.out (by simp [laws_heldObjectS.l0])
  | succ k1 =>
   have H := HA.out
   clear HA
   simp only [laws_heldObjectS.l0] at H
   rcases iD H with ⟨m9, H⟩ | ⟨m9, H⟩
   ·obtain ⟨o4, H⟩ := iT H
    replace H := bN H
    obtain ⟨a6, A5, H⟩ := H
    rcases iD H with ⟨n0, H⟩ | ⟨n0, H⟩
    ·obtain rfl := Option.some.inj H
     have a7 : 0 ≤ (a2 : Int) := dA
     have a8 : a2 < (l0.length : Int) := dA
     obtain ⟨a5, b7, b8, d6, a3, e0, e1, e2, e3, e4, hl1146_0, hi1146_0⟩ := at_T103 h3.out a2 a7 a8
     cases d6
     have a9 := aM hi1146_0
     have b0 := aM hl1146_0
     clear hi1146_0 hl1146_0
     replace a7 := eq_true a7
     replace a8 := eq_true a8
     go_wp2_with (first | ((with_reducible refine gC 103 ?_); refine cL (some 18) Tryz.func103 #[.slice b7 ((rd_T103 l0 a2).f0).length b8, .int .i64 e6] ?_; (with_reducible refine (laws_heldPointS.calls k1 _ _ ((rd_T103 l0 a2).f0) e6 a6 _ ?side1 ?side2 A5.out).mono ?_); (case side1 => exact cS a9.out); (case side2 => exact b0.out); rintro e w' ⟨rfl, ⟨nd, rfl⟩⟩; refine ⟨_, rfl, ?_⟩))
     go_ret
     exact ⟨fS, dS⟩
    ·by_cases c7 : ((rd_T103 l0 a2).f1) = a6
     ·rw [if_pos c7] at H
      have n1 : (((rd_T103 l0 a2).f1) == a6) = true := beq_iff_eq.mpr c7
      have n2 : (((rd_T103 l0 a2).f1) != a6) = false := bne_eq_false_iff_eq.mpr c7
      clear c7
      by_cases c8 : ((rd_T103 l0 a2).f2.f0) = (wrap64 (a6 + 1))
      ·rw [if_pos c8] at H
       have n5 : (((rd_T103 l0 a2).f2.f0) == (wrap64 (a6 + 1))) = true := beq_iff_eq.mpr c8
       have n6 : (((rd_T103 l0 a2).f2.f0) != (wrap64 (a6 + 1))) = false := bne_eq_false_iff_eq.mpr c8
       clear c8
       by_cases c9 : ((rd_T103 l0 a2).f2.f1) = (wrap64 ((wrap64 (a6 + 1)) + 1))
       ·rw [if_pos c9] at H
        have n7 : (((rd_T103 l0 a2).f2.f1) == (wrap64 ((wrap64 (a6 + 1)) + 1))) = true := beq_iff_eq.mpr c9
        have n8 : (((rd_T103 l0 a2).f2.f1) != (wrap64 ((wrap64 (a6 + 1)) + 1))) = false := bne_eq_false_iff_eq.mpr c9
        clear c9
        by_cases c10 : ((rd_T103 l0 a2).f2.f2) = (wrap64 ((wrap64 ((wrap64 (a6 + 1)) + 1)) + 1))
        ·rw [if_pos c10] at H
         have m5 : (((rd_T103 l0 a2).f2.f2) == (wrap64 ((wrap64 ((wrap64 (a6 + 1)) + 1)) + 1))) = true := beq_iff_eq.mpr c10
         have m6 : (((rd_T103 l0 a2).f2.f2) != (wrap64 ((wrap64 ((wrap64 (a6 + 1)) + 1)) + 1))) = false := bne_eq_false_iff_eq.mpr c10
         clear c10
         by_cases m4 : ((rd_T103 l0 a2).f2.f3) = (wrap64 ((wrap64 ((wrap64 ((wrap64 (a6 + 1)) + 1)) + 1)) + 1))
         ·rw [if_pos m4] at H
          have m7 : (((rd_T103 l0 a2).f2.f3) == (wrap64 ((wrap64 ((wrap64 ((wrap64 (a6 + 1)) + 1)) + 1)) + 1))) = true := beq_iff_eq.mpr m4
          have m8 : (((rd_T103 l0 a2).f2.f3) != (wrap64 ((wrap64 ((wrap64 ((wrap64 (a6 + 1)) + 1)) + 1)) + 1))) = false := bne_eq_false_iff_eq.mpr m4
          clear m4
          have H' := aM H
          clear H
          have a7 : 0 ≤ (a2 : Int) := dA
          have a8 : a2 < (l0.length : Int) := dA
          obtain ⟨a5, b7, b8, d6, a3, e0, e1, e2, e3, e4, hl1146_0, hi1146_0⟩ := at_T103 h3.out a2 a7 a8
          cases d6
          have a9 := aM hi1146_0
          have b0 := aM hl1146_0
          clear hi1146_0 hl1146_0
          replace a7 := eq_true a7
          replace a8 := eq_true a8
          go_wp2_with (first | ((with_reducible refine gC 103 ?_); refine cL (some 18) Tryz.func103 #[.slice b7 ((rd_T103 l0 a2).f0).length b8, .int .i64 e6] ?_; (with_reducible refine (laws_heldPointS.calls k1 _ _ ((rd_T103 l0 a2).f0) e6 a6 _ ?side1 ?side2 A5.out).mono ?_); (case side1 => exact cS a9.out); (case side2 => exact b0.out); rintro e w' ⟨rfl, ⟨nd, rfl⟩⟩; refine ⟨_, rfl, ?_⟩; have b1 : 0 ≤ (a2 : Int) := dA; have b2 : a2 < (l0.length : Int) := dA; obtain ⟨d2, g3, g4, e7, b6, e8, e9, f4, f5, f6, hl1148_0, hi1148_0⟩ := at_T103 h3.out a2 b1 b2; obtain rfl : a5 = d2 := (by injection e7); have f7 := aM hi1148_0; have f8 := aM hl1148_0; clear hi1148_0 hl1148_0; replace b1 := eq_true b1; replace b2 := eq_true b2; have ea_ := Option.some.inj (a3.symm.trans b6); injection ea_ with ea_ en_ ec_; subst ea_; subst ec_; clear en_; have b9 : 0 ≤ (a2 : Int) := dA; have d0 : a2 < (l0.length : Int) := dA; obtain ⟨e5, h4, h5, g5, d1, g6, g7, g8, g9, h0, hl1149_0, hi1149_0⟩ := at_T103 h3.out a2 b9 d0; obtain rfl : a5 = e5 := (by injection g5); have h1 := aM hi1149_0; have h2 := aM hl1149_0; clear hi1149_0 hl1149_0; replace b9 := eq_true b9; replace d0 := eq_true d0; have ea_ := Option.some.inj (a3.symm.trans d1); injection ea_ with ea_ en_ ec_; subst ea_; subst ec_; clear en_; have d3 : 0 ≤ (a2 : Int) := dA; have d4 : a2 < (l0.length : Int) := dA; obtain ⟨g2, j5, j6, h6, d5, h7, h8, h9, i1, i3, hl1150_0, hi1150_0⟩ := at_T103 h3.out a2 d3 d4; obtain rfl : a5 = g2 := (by injection h6); have i4 := aM hi1150_0; have i5 := aM hl1150_0; clear hi1150_0 hl1150_0; replace d3 := eq_true d3; replace d4 := eq_true d4; have ea_ := Option.some.inj (a3.symm.trans d5); injection ea_ with ea_ en_ ec_; subst ea_; subst ec_; clear en_; have f9 : 0 ≤ (a2 : Int) := dA; have g0 : a2 < (l0.length : Int) := dA; obtain ⟨i6, k7, k9, j7, g1, j8, j9, k0, k2, k3, hl1151_0, hi1151_0⟩ := at_T103 h3.out a2 f9 g0; obtain rfl : a5 = i6 := (by injection j7); have k4 := aM hi1151_0; have k5 := aM hl1151_0; clear hi1151_0 hl1151_0; replace f9 := eq_true f9; replace g0 := eq_true g0; have ea_ := Option.some.inj (a3.symm.trans g1); injection ea_ with ea_ en_ ec_; subst ea_; subst ec_; clear en_; have i7 : 0 ≤ (a2 : Int) := dA; have i8 : a2 < (l0.length : Int) := dA; obtain ⟨k6, m2, m3, l3, i9, l4, l5, l6, l7, l8, hl1152_0, hi1152_0⟩ := at_T103 h3.out a2 i7 i8; obtain rfl : a5 = k6 := (by injection l3); have l9 := aM hi1152_0; have m0 := aM hl1152_0; clear hi1152_0 hl1152_0; replace i7 := eq_true i7; replace i8 := eq_true i8; have ea_ := Option.some.inj (a3.symm.trans i9); injection ea_ with ea_ en_ ec_; subst ea_; subst ec_; clear en_))
          go_roundg k1
          case measure => have := o1.out; omega
          case rel => exact ⟨(wrap64 ((wrap64 ((wrap64 ((wrap64 ((wrap64 (a6 + 1)) + 1)) + 1)) + 1)) + 1)), (wrap64 (a2 + 1)), fS, fS, H', ⟨by have := o1.out; omega⟩, dS⟩
         ·rw [if_neg m4] at H
          have m7 : (((rd_T103 l0 a2).f2.f3) == (wrap64 ((wrap64 ((wrap64 ((wrap64 (a6 + 1)) + 1)) + 1)) + 1))) = false := beq_eq_false_iff_ne.mpr m4
          have m8 : (((rd_T103 l0 a2).f2.f3) != (wrap64 ((wrap64 ((wrap64 ((wrap64 (a6 + 1)) + 1)) + 1)) + 1))) = true := bne_iff_ne.mpr m4
          obtain rfl := Option.some.inj H
          have a7 : 0 ≤ (a2 : Int) := dA
          have a8 : a2 < (l0.length : Int) := dA
          obtain ⟨a5, b7, b8, d6, a3, e0, e1, e2, e3, e4, hl1146_0, hi1146_0⟩ := at_T103 h3.out a2 a7 a8
          cases d6
          have a9 := aM hi1146_0
          have b0 := aM hl1146_0
          clear hi1146_0 hl1146_0
          replace a7 := eq_true a7
          replace a8 := eq_true a8
          go_wp2_with (first | ((with_reducible refine gC 103 ?_); refine cL (some 18) Tryz.func103 #[.slice b7 ((rd_T103 l0 a2).f0).length b8, .int .i64 e6] ?_; (with_reducible refine (laws_heldPointS.calls k1 _ _ ((rd_T103 l0 a2).f0) e6 a6 _ ?side1 ?side2 A5.out).mono ?_); (case side1 => exact cS a9.out); (case side2 => exact b0.out); rintro e w' ⟨rfl, ⟨nd, rfl⟩⟩; refine ⟨_, rfl, ?_⟩; have b1 : 0 ≤ (a2 : Int) := dA; have b2 : a2 < (l0.length : Int) := dA; obtain ⟨d2, g3, g4, e7, b6, e8, e9, f4, f5, f6, hl1148_0, hi1148_0⟩ := at_T103 h3.out a2 b1 b2; obtain rfl : a5 = d2 := (by injection e7); have f7 := aM hi1148_0; have f8 := aM hl1148_0; clear hi1148_0 hl1148_0; replace b1 := eq_true b1; replace b2 := eq_true b2; have ea_ := Option.some.inj (a3.symm.trans b6); injection ea_ with ea_ en_ ec_; subst ea_; subst ec_; clear en_; have b9 : 0 ≤ (a2 : Int) := dA; have d0 : a2 < (l0.length : Int) := dA; obtain ⟨e5, h4, h5, g5, d1, g6, g7, g8, g9, h0, hl1149_0, hi1149_0⟩ := at_T103 h3.out a2 b9 d0; obtain rfl : a5 = e5 := (by injection g5); have h1 := aM hi1149_0; have h2 := aM hl1149_0; clear hi1149_0 hl1149_0; replace b9 := eq_true b9; replace d0 := eq_true d0; have ea_ := Option.some.inj (a3.symm.trans d1); injection ea_ with ea_ en_ ec_; subst ea_; subst ec_; clear en_; have d3 : 0 ≤ (a2 : Int) := dA; have d4 : a2 < (l0.length : Int) := dA; obtain ⟨g2, j5, j6, h6, d5, h7, h8, h9, i1, i3, hl1150_0, hi1150_0⟩ := at_T103 h3.out a2 d3 d4; obtain rfl : a5 = g2 := (by injection h6); have i4 := aM hi1150_0; have i5 := aM hl1150_0; clear hi1150_0 hl1150_0; replace d3 := eq_true d3; replace d4 := eq_true d4; have ea_ := Option.some.inj (a3.symm.trans d5); injection ea_ with ea_ en_ ec_; subst ea_; subst ec_; clear en_; have f9 : 0 ≤ (a2 : Int) := dA; have g0 : a2 < (l0.length : Int) := dA; obtain ⟨i6, k7, k9, j7, g1, j8, j9, k0, k2, k3, hl1151_0, hi1151_0⟩ := at_T103 h3.out a2 f9 g0; obtain rfl : a5 = i6 := (by injection j7); have k4 := aM hi1151_0; have k5 := aM hl1151_0; clear hi1151_0 hl1151_0; replace f9 := eq_true f9; replace g0 := eq_true g0; have ea_ := Option.some.inj (a3.symm.trans g1); injection ea_ with ea_ en_ ec_; subst ea_; subst ec_; clear en_; have i7 : 0 ≤ (a2 : Int) := dA; have i8 : a2 < (l0.length : Int) := dA; obtain ⟨k6, m2, m3, l3, i9, l4, l5, l6, l7, l8, hl1152_0, hi1152_0⟩ := at_T103 h3.out a2 i7 i8; obtain rfl : a5 = k6 := (by injection l3); have l9 := aM hi1152_0; have m0 := aM hl1152_0; clear hi1152_0 hl1152_0; replace i7 := eq_true i7; replace i8 := eq_true i8; have ea_ := Option.some.inj (a3.symm.trans i9); injection ea_ with ea_ en_ ec_; subst ea_; subst ec_; clear en_))
          go_ret
          exact ⟨fS, dS⟩
        ·rw [if_neg c10] at H
         have m5 : (((rd_T103 l0 a2).f2.f2) == (wrap64 ((wrap64 ((wrap64 (a6 + 1)) + 1)) + 1))) = false := beq_eq_false_iff_ne.mpr c10
         have m6 : (((rd_T103 l0 a2).f2.f2) != (wrap64 ((wrap64 ((wrap64 (a6 + 1)) + 1)) + 1))) = true := bne_iff_ne.mpr c10
         obtain rfl := Option.some.inj H
         have a7 : 0 ≤ (a2 : Int) := dA
         have a8 : a2 < (l0.length : Int) := dA
         obtain ⟨a5, b7, b8, d6, a3, e0, e1, e2, e3, e4, hl1146_0, hi1146_0⟩ := at_T103 h3.out a2 a7 a8
         cases d6
         have a9 := aM hi1146_0
         have b0 := aM hl1146_0
         clear hi1146_0 hl1146_0
         replace a7 := eq_true a7
         replace a8 := eq_true a8
         go_wp2_with (first | ((with_reducible refine gC 103 ?_); refine cL (some 18) Tryz.func103 #[.slice b7 ((rd_T103 l0 a2).f0).length b8, .int .i64 e6] ?_; (with_reducible refine (laws_heldPointS.calls k1 _ _ ((rd_T103 l0 a2).f0) e6 a6 _ ?side1 ?side2 A5.out).mono ?_); (case side1 => exact cS a9.out); (case side2 => exact b0.out); rintro e w' ⟨rfl, ⟨nd, rfl⟩⟩; refine ⟨_, rfl, ?_⟩; have b1 : 0 ≤ (a2 : Int) := dA; have b2 : a2 < (l0.length : Int) := dA; obtain ⟨d2, g3, g4, e7, b6, e8, e9, f4, f5, f6, hl1148_0, hi1148_0⟩ := at_T103 h3.out a2 b1 b2; obtain rfl : a5 = d2 := (by injection e7); have f7 := aM hi1148_0; have f8 := aM hl1148_0; clear hi1148_0 hl1148_0; replace b1 := eq_true b1; replace b2 := eq_true b2; have ea_ := Option.some.inj (a3.symm.trans b6); injection ea_ with ea_ en_ ec_; subst ea_; subst ec_; clear en_; have b9 : 0 ≤ (a2 : Int) := dA; have d0 : a2 < (l0.length : Int) := dA; obtain ⟨e5, h4, h5, g5, d1, g6, g7, g8, g9, h0, hl1149_0, hi1149_0⟩ := at_T103 h3.out a2 b9 d0; obtain rfl : a5 = e5 := (by injection g5); have h1 := aM hi1149_0; have h2 := aM hl1149_0; clear hi1149_0 hl1149_0; replace b9 := eq_true b9; replace d0 := eq_true d0; have ea_ := Option.some.inj (a3.symm.trans d1); injection ea_ with ea_ en_ ec_; subst ea_; subst ec_; clear en_; have d3 : 0 ≤ (a2 : Int) := dA; have d4 : a2 < (l0.length : Int) := dA; obtain ⟨g2, j5, j6, h6, d5, h7, h8, h9, i1, i3, hl1150_0, hi1150_0⟩ := at_T103 h3.out a2 d3 d4; obtain rfl : a5 = g2 := (by injection h6); have i4 := aM hi1150_0; have i5 := aM hl1150_0; clear hi1150_0 hl1150_0; replace d3 := eq_true d3; replace d4 := eq_true d4; have ea_ := Option.some.inj (a3.symm.trans d5); injection ea_ with ea_ en_ ec_; subst ea_; subst ec_; clear en_; have f9 : 0 ≤ (a2 : Int) := dA; have g0 : a2 < (l0.length : Int) := dA; obtain ⟨i6, k7, k9, j7, g1, j8, j9, k0, k2, k3, hl1151_0, hi1151_0⟩ := at_T103 h3.out a2 f9 g0; obtain rfl : a5 = i6 := (by injection j7); have k4 := aM hi1151_0; have k5 := aM hl1151_0; clear hi1151_0 hl1151_0; replace f9 := eq_true f9; replace g0 := eq_true g0; have ea_ := Option.some.inj (a3.symm.trans g1); injection ea_ with ea_ en_ ec_; subst ea_; subst ec_; clear en_))
         go_ret
         exact ⟨fS, dS⟩
       ·rw [if_neg c9] at H
        have n7 : (((rd_T103 l0 a2).f2.f1) == (wrap64 ((wrap64 (a6 + 1)) + 1))) = false := beq_eq_false_iff_ne.mpr c9
        have n8 : (((rd_T103 l0 a2).f2.f1) != (wrap64 ((wrap64 (a6 + 1)) + 1))) = true := bne_iff_ne.mpr c9
        obtain rfl := Option.some.inj H
        have a7 : 0 ≤ (a2 : Int) := dA
        have a8 : a2 < (l0.length : Int) := dA
        obtain ⟨a5, b7, b8, d6, a3, e0, e1, e2, e3, e4, hl1146_0, hi1146_0⟩ := at_T103 h3.out a2 a7 a8
        cases d6
        have a9 := aM hi1146_0
        have b0 := aM hl1146_0
        clear hi1146_0 hl1146_0
        replace a7 := eq_true a7
        replace a8 := eq_true a8
        go_wp2_with (first | ((with_reducible refine gC 103 ?_); refine cL (some 18) Tryz.func103 #[.slice b7 ((rd_T103 l0 a2).f0).length b8, .int .i64 e6] ?_; (with_reducible refine (laws_heldPointS.calls k1 _ _ ((rd_T103 l0 a2).f0) e6 a6 _ ?side1 ?side2 A5.out).mono ?_); (case side1 => exact cS a9.out); (case side2 => exact b0.out); rintro e w' ⟨rfl, ⟨nd, rfl⟩⟩; refine ⟨_, rfl, ?_⟩; have b1 : 0 ≤ (a2 : Int) := dA; have b2 : a2 < (l0.length : Int) := dA; obtain ⟨d2, g3, g4, e7, b6, e8, e9, f4, f5, f6, hl1148_0, hi1148_0⟩ := at_T103 h3.out a2 b1 b2; obtain rfl : a5 = d2 := (by injection e7); have f7 := aM hi1148_0; have f8 := aM hl1148_0; clear hi1148_0 hl1148_0; replace b1 := eq_true b1; replace b2 := eq_true b2; have ea_ := Option.some.inj (a3.symm.trans b6); injection ea_ with ea_ en_ ec_; subst ea_; subst ec_; clear en_; have b9 : 0 ≤ (a2 : Int) := dA; have d0 : a2 < (l0.length : Int) := dA; obtain ⟨e5, h4, h5, g5, d1, g6, g7, g8, g9, h0, hl1149_0, hi1149_0⟩ := at_T103 h3.out a2 b9 d0; obtain rfl : a5 = e5 := (by injection g5); have h1 := aM hi1149_0; have h2 := aM hl1149_0; clear hi1149_0 hl1149_0; replace b9 := eq_true b9; replace d0 := eq_true d0; have ea_ := Option.some.inj (a3.symm.trans d1); injection ea_ with ea_ en_ ec_; subst ea_; subst ec_; clear en_; have d3 : 0 ≤ (a2 : Int) := dA; have d4 : a2 < (l0.length : Int) := dA; obtain ⟨g2, j5, j6, h6, d5, h7, h8, h9, i1, i3, hl1150_0, hi1150_0⟩ := at_T103 h3.out a2 d3 d4; obtain rfl : a5 = g2 := (by injection h6); have i4 := aM hi1150_0; have i5 := aM hl1150_0; clear hi1150_0 hl1150_0; replace d3 := eq_true d3; replace d4 := eq_true d4; have ea_ := Option.some.inj (a3.symm.trans d5); injection ea_ with ea_ en_ ec_; subst ea_; subst ec_; clear en_))
        go_ret
        exact ⟨fS, dS⟩
      ·rw [if_neg c8] at H
       have n5 : (((rd_T103 l0 a2).f2.f0) == (wrap64 (a6 + 1))) = false := beq_eq_false_iff_ne.mpr c8
       have n6 : (((rd_T103 l0 a2).f2.f0) != (wrap64 (a6 + 1))) = true := bne_iff_ne.mpr c8
       obtain rfl := Option.some.inj H
       have a7 : 0 ≤ (a2 : Int) := dA
       have a8 : a2 < (l0.length : Int) := dA
       obtain ⟨a5, b7, b8, d6, a3, e0, e1, e2, e3, e4, hl1146_0, hi1146_0⟩ := at_T103 h3.out a2 a7 a8
       cases d6
       have a9 := aM hi1146_0
       have b0 := aM hl1146_0
       clear hi1146_0 hl1146_0
       replace a7 := eq_true a7
       replace a8 := eq_true a8
       go_wp2_with (first | ((with_reducible refine gC 103 ?_); refine cL (some 18) Tryz.func103 #[.slice b7 ((rd_T103 l0 a2).f0).length b8, .int .i64 e6] ?_; (with_reducible refine (laws_heldPointS.calls k1 _ _ ((rd_T103 l0 a2).f0) e6 a6 _ ?side1 ?side2 A5.out).mono ?_); (case side1 => exact cS a9.out); (case side2 => exact b0.out); rintro e w' ⟨rfl, ⟨nd, rfl⟩⟩; refine ⟨_, rfl, ?_⟩; have b1 : 0 ≤ (a2 : Int) := dA; have b2 : a2 < (l0.length : Int) := dA; obtain ⟨d2, g3, g4, e7, b6, e8, e9, f4, f5, f6, hl1148_0, hi1148_0⟩ := at_T103 h3.out a2 b1 b2; obtain rfl : a5 = d2 := (by injection e7); have f7 := aM hi1148_0; have f8 := aM hl1148_0; clear hi1148_0 hl1148_0; replace b1 := eq_true b1; replace b2 := eq_true b2; have ea_ := Option.some.inj (a3.symm.trans b6); injection ea_ with ea_ en_ ec_; subst ea_; subst ec_; clear en_; have b9 : 0 ≤ (a2 : Int) := dA; have d0 : a2 < (l0.length : Int) := dA; obtain ⟨e5, h4, h5, g5, d1, g6, g7, g8, g9, h0, hl1149_0, hi1149_0⟩ := at_T103 h3.out a2 b9 d0; obtain rfl : a5 = e5 := (by injection g5); have h1 := aM hi1149_0; have h2 := aM hl1149_0; clear hi1149_0 hl1149_0; replace b9 := eq_true b9; replace d0 := eq_true d0; have ea_ := Option.some.inj (a3.symm.trans d1); injection ea_ with ea_ en_ ec_; subst ea_; subst ec_; clear en_))
       go_ret
       exact ⟨fS, dS⟩
     ·rw [if_neg c7] at H
      have n1 : (((rd_T103 l0 a2).f1) == a6) = false := beq_eq_false_iff_ne.mpr c7
      have n2 : (((rd_T103 l0 a2).f1) != a6) = true := bne_iff_ne.mpr c7
      obtain rfl := Option.some.inj H
      have a7 : 0 ≤ (a2 : Int) := dA
      have a8 : a2 < (l0.length : Int) := dA
      obtain ⟨a5, b7, b8, d6, a3, e0, e1, e2, e3, e4, hl1146_0, hi1146_0⟩ := at_T103 h3.out a2 a7 a8
      cases d6
      have a9 := aM hi1146_0
      have b0 := aM hl1146_0
      clear hi1146_0 hl1146_0
      replace a7 := eq_true a7
      replace a8 := eq_true a8
      go_wp2_with (first | ((with_reducible refine gC 103 ?_); refine cL (some 18) Tryz.func103 #[.slice b7 ((rd_T103 l0 a2).f0).length b8, .int .i64 e6] ?_; (with_reducible refine (laws_heldPointS.calls k1 _ _ ((rd_T103 l0 a2).f0) e6 a6 _ ?side1 ?side2 A5.out).mono ?_); (case side1 => exact cS a9.out); (case side2 => exact b0.out); rintro e w' ⟨rfl, ⟨nd, rfl⟩⟩; refine ⟨_, rfl, ?_⟩; have b1 : 0 ≤ (a2 : Int) := dA; have b2 : a2 < (l0.length : Int) := dA; obtain ⟨d2, g3, g4, e7, b6, e8, e9, f4, f5, f6, hl1148_0, hi1148_0⟩ := at_T103 h3.out a2 b1 b2; obtain rfl : a5 = d2 := (by injection e7); have f7 := aM hi1148_0; have f8 := aM hl1148_0; clear hi1148_0 hl1148_0; replace b1 := eq_true b1; replace b2 := eq_true b2; have ea_ := Option.some.inj (a3.symm.trans b6); injection ea_ with ea_ en_ ec_; subst ea_; subst ec_; clear en_))
      go_ret
      exact ⟨fS, dS⟩
   ·obtain rfl := Option.some.inj H
    go_wp2
    go_ret
    exact ⟨fS, dS⟩
def laws_heldPage.f (k : Nat) (a9 : List Int) (b0 : Int) (b1 : Int) (b2 : Int) (b6 : Int) (b7 : List (S111)) (b8 : Int) (b9 : Int) (d0 : Int) (d1 : Int) (a6 : Int) (a7 : List (S42)) (a8 : List (S103)) (a1 : Int) : Option (Int) := (laws_heldGraphics.f k a9 b0 b1 b2 b6 b7 b8 b9 d0 d1 a6 a1).bind fun a2 => (if a2 < 0 then (some (-1)) else ((laws_heldGraphicsS.f k a7 a2).bind fun a3 => (if a3 < 0 then (some (-1)) else ((laws_heldObjectS.f k a8 a3).bind fun a5 => (if a5 < 0 then (some (-1)) else (some a5))))))
theorem laws_heldPage.lf0 {p : Prop} (h : p := by
 go_enter Tryz.func13, Tryz.ntmps13
 go_wp2_with (first | ((with_reducible refine gD 2 ?_); refine bxE #[.slice d6 a7.length e0, .int .i64 b0, .int .i64 b1, .int .i64 b2, .int .i64 b6, .slice e1 a8.length e2, .int .i64 b7, .int .i64 b8, .int .i64 b9, .int .i64 d0, .int .i64 a6, .slice d1 a3.length d2, .slice d3 a5.length d4] 46 ?_; intro a9 hg h0 a2 hb; have GE1153 := gE hg; replace HB := hB hb; clear hb hg; have hz17 := cz13 a2) | ((with_reducible refine gC 51 ?_); refine cM (some 8) Tryz.func51 (laws_heldGraphics.calls k _ _ a7 b0 b1 b2 b6 _ _ a8 b7 b8 b9 d0 a6 a1 d5 _ (cC e3 HB) e4.out (cC e5 HB) e6.out A3.out) ?_; rintro e h1 ⟨rfl, hb⟩; refine ⟨_, rfl, ?_⟩; replace a2 := kB_ a9 hb; replace HB := hB hb; (try clear hb); have g2 := cg11 a2; have g3 := cg12 a2) | ((with_reducible refine gC 52 ?_); refine cM (some 14) Tryz.func52 (laws_heldGraphicsS.calls k _ _ a3 d5 e7 _ (cC e8 HB) e9.out A8.out) ?_; rintro e w' ⟨rfl, ⟨nd, rfl⟩⟩; refine ⟨_, rfl, ?_⟩) | ((with_reducible refine gC 53 ?_); refine cM (some 20) Tryz.func53 (laws_heldObjectS.calls k _ _ a5 e7 g4 _ (cS (Kd.C_below g0.out bS)) g1.out g9.out) ?_; rintro e w' ⟨rfl, ⟨nd, rfl⟩⟩; refine ⟨_, rfl, ?_⟩))
 go_ret
 exact ⟨eS, bS⟩) : p := h
theorem laws_heldPage.calls (k : Nat) (d6 : Option Addr) (e0 : Nat) (a7 : List Int) (b0 : Int) (b1 : Int) (b2 : Int) (b6 : Int) (e1 : Option Addr) (e2 : Nat) (a8 : List (S111)) (b7 : Int) (b8 : Int) (b9 : Int) (d0 : Int) (a6 : Int) (d1 : Option Addr) (d2 : Nat) (a3 : List (S42)) (d3 : Option Addr) (d4 : Nat) (a5 : List (S103)) (a1 : Int) (r : Int) (w : World) (f6 : Kd.C (Kd.int .i64) w d6 a7.length a7) (f7 : a7.length ≤ e0) (f8 : Kd.C k111 w e1 a8.length a8) (f9 : a8.length ≤ e2) (f0 : Kd.C k42 w d1 a3.length a3) (f3 : a3.length ≤ d2) (f4 : Kd.C k103 w d3 a5.length a5) (f5 : a5.length ≤ d4) (h : laws_heldPage.f k a7 b0 b1 b2 b6 a8 b7 b8 b9 d0 a6 a3 a5 a1 = some r) :
  Calls Tryz.prog 13 #[.agg #[.slice d6 a7.length e0, .int .i64 b0, .int .i64 b1, .int .i64 b2, .int .i64 b6, .slice e1 a8.length e2, .int .i64 b7, .int .i64 b8, .int .i64 b9, .int .i64 d0, .int .i64 a6, .slice d1 a3.length d2, .slice d3 a5.length d4], .int .i64 a1] w fun e w' => e = .returned (.int .i64 r) ∧ Below w.heap.size w w' := by
 have hu46 := Tryz.underlying46
 have hu42 := Tryz.underlying42
 have e3 := aM f6
 have e4 := aM f7
 clear f6 f7
 have e5 := aM f8
 have e6 := aM f9
 clear f8 f9
 have e8 := aM f0
 have e9 := aM f3
 clear f0 f3
 have g0 := aM f4
 have g1 := aM f5
 clear f4 f5
 have HB := aM (Below.refl w.heap.size w)
 have H := h
 clear h
 unfold laws_heldPage.f at H
 replace H := bN H
 obtain ⟨d5, A3, H⟩ := H
 rcases iD H with ⟨g7, H⟩ | ⟨g7, H⟩
 ·obtain rfl := Option.some.inj H
  go_enter Tryz.func13, Tryz.ntmps13
  go_wp2_with (first | ((with_reducible refine gD 2 ?_); refine bxE #[.slice d6 a7.length e0, .int .i64 b0, .int .i64 b1, .int .i64 b2, .int .i64 b6, .slice e1 a8.length e2, .int .i64 b7, .int .i64 b8, .int .i64 b9, .int .i64 d0, .int .i64 a6, .slice d1 a3.length d2, .slice d3 a5.length d4] 46 ?_; intro a9 hg w5 a2 hb; have GE1153 := gE hg; replace HB := hB hb; clear hb hg; have hz6 := cz13 a2) | ((with_reducible refine gC 51 ?_); refine cM (some 8) Tryz.func51 (laws_heldGraphics.calls k _ _ a7 b0 b1 b2 b6 _ _ a8 b7 b8 b9 d0 a6 a1 d5 _ (cC e3 HB) e4.out (cC e5 HB) e6.out A3.out) ?_; rintro e w7 ⟨rfl, hb⟩; refine ⟨_, rfl, ?_⟩; replace a2 := kB_ a9 hb; replace HB := hB hb; (try clear hb)))
  go_ret
  exact ⟨eS, bS⟩
 ·replace H := bN H
  obtain ⟨e7, A8, H⟩ := H
  rcases iD H with ⟨g8, H⟩ | ⟨g8, H⟩
  ·obtain rfl := Option.some.inj H
   go_enter Tryz.func13, Tryz.ntmps13
   go_wp2_with (first | ((with_reducible refine gD 2 ?_); refine bxE #[.slice d6 a7.length e0, .int .i64 b0, .int .i64 b1, .int .i64 b2, .int .i64 b6, .slice e1 a8.length e2, .int .i64 b7, .int .i64 b8, .int .i64 b9, .int .i64 d0, .int .i64 a6, .slice d1 a3.length d2, .slice d3 a5.length d4] 46 ?_; intro a9 hg h2 a2 hb; have GE1153 := gE hg; replace HB := hB hb; clear hb hg; have hz11 := cz13 a2) | ((with_reducible refine gC 51 ?_); refine cM (some 8) Tryz.func51 (laws_heldGraphics.calls k _ _ a7 b0 b1 b2 b6 _ _ a8 b7 b8 b9 d0 a6 a1 d5 _ (cC e3 HB) e4.out (cC e5 HB) e6.out A3.out) ?_; rintro e h3 ⟨rfl, hb⟩; refine ⟨_, rfl, ?_⟩; replace a2 := kB_ a9 hb; replace HB := hB hb; (try clear hb); have g5 := cg11 a2) | ((with_reducible refine gC 52 ?_); refine cM (some 14) Tryz.func52 (laws_heldGraphicsS.calls k _ _ a3 d5 e7 _ (cC e8 HB) e9.out A8.out) ?_; rintro e w' ⟨rfl, ⟨nd, rfl⟩⟩; refine ⟨_, rfl, ?_⟩))
   go_ret
   exact ⟨eS, bS⟩
  ·replace H := bN H
   obtain ⟨g4, g9, H⟩ := H
   rcases iD H with ⟨g6, H⟩ | ⟨g6, H⟩
   ·obtain rfl := Option.some.inj H
    exact laws_heldPage.lf0
   ·obtain rfl := Option.some.inj H
    exact laws_heldPage.lf0
end Go.Proofs.YtjkgponlahfnjaaGreat.QFnExactExecToken
