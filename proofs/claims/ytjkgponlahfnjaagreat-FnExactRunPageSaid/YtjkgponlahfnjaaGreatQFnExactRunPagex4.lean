/- Walks of functions of the program: each answers what its plain function tells, for every input at which that is told. -/
import Derived.Test.YtjkgponlahfnjaaGreatQFnExactRunPagex0
import Derived.Test.YtjkgponlahfnjaaGreatQFnExactRunPagex3
namespace Go.Proofs.YtjkgponlahfnjaaGreat.QFnExactRunPage
open Go.RowKit Go.Proofs.YtjkgponlahfnjaaGreatW.PrintWords Go.Proofs.YtjkgponlahfnjaaGreatW.PrintLast Go.Proofs.YtjkgponlahfnjaaGreatW.PrintMore
attribute [local go_sem] max2_int min2_int max_two min_two max_three min_three max_four min_four   -- for this text's walks alone
set_option linter.unusedVariables false
set_option linter.unusedSimpArgs false
set_option maxHeartbeats 8000000
set_option maxRecDepth 100000
/-! ### laws_heldPointS: function 103 -/
def laws_heldPointS.l0 : Nat → List (S111) → Int → Int → Option (Int)
 | 0, _, _, _ => none
 | k + 1, x0, x1, x5 => if x5 < (x0.length : Int) then (if 0 ≤ x5 then (if ((rd_T111 x0 x5).f0) = x1 then (if ((rd_T111 x0 x5).f1) = (wrap64 (x1 + 1)) then (laws_heldPointS.l0 k x0 (wrap64 ((wrap64 (x1 + 1)) + 1)) (wrap64 (x5 + 1))) else (some (-1))) else (some (-1))) else (none)) else (some x1)
def laws_heldPointS.f (k : Nat) (l0 : List (S111)) (a1 : Int) : Option (Int) := laws_heldPointS.l0 k l0 a1 0
theorem laws_heldPointS.calls (k : Nat) (A0 : Option Addr) (c0 : Nat) (l0 : List (S111)) (a1 : Int) (r : Int) (w : World) (hr0 : Kd.C k111 w A0 l0.length l0) (d6 : l0.length ≤ c0) (h : laws_heldPointS.f k l0 a1 = some r) :
  Calls Tryz.prog 103 #[.slice A0 l0.length c0, .int .i64 a1] w fun e w' => e = .returned (.int .i64 r) ∧ Drawn0 w w' := by
 have d0 := aM hr0
 have e2 := aM d6
 clear hr0 d6
 have H := h
 clear h
 unfold laws_heldPointS.f at H
 have H' := aM H
 clear H
 go_enter Tryz.func103, Tryz.ntmps103
 go_wp2
 go_loopg [1, 5] k (fun kq v1 v5 w' => ∃ (a3 : Int) (a2 : Int), v1 = .int .i64 a3 ∧ v5 = .int .i64 a2 ∧ Aside0 (laws_heldPointS.l0 kq l0 a3 a2 = some r) ∧ Aside0 (kq ≤ k) ∧ Drawn0 w w')
 case atStart => exact ⟨(a1), (0), fS, fS, H', ⟨Nat.le_refl _⟩, dS⟩
 case round =>
  clear H'
  try clear c1
  try clear p2
  obtain ⟨a3, a2, rfl, rfl, HA, e0, ⟨m1, rfl⟩⟩ := hrel
  cases gk with
  | zero => exact absurd HA.out (by simp [laws_heldPointS.l0])
  | succ k1 =>
   have H := HA.out
   clear HA
   simp only [laws_heldPointS.l0] at H
   rcases iD H with ⟨d1, H⟩ | ⟨d1, H⟩
   ·obtain ⟨e1, H⟩ := iT H
    by_cases c5 : ((rd_T111 l0 a2).f0) = a3
    ·rw [if_pos c5] at H
     have d2 : (((rd_T111 l0 a2).f0) == a3) = true := beq_iff_eq.mpr c5
     have d3 : (((rd_T111 l0 a2).f0) != a3) = false := bne_eq_false_iff_eq.mpr c5
     clear c5
     by_cases c6 : ((rd_T111 l0 a2).f1) = (wrap64 (a3 + 1))
     ·rw [if_pos c6] at H
      have d4 : (((rd_T111 l0 a2).f1) == (wrap64 (a3 + 1))) = true := beq_iff_eq.mpr c6
      have d5 : (((rd_T111 l0 a2).f1) != (wrap64 (a3 + 1))) = false := bne_eq_false_iff_eq.mpr c6
      clear c6
      have H' := aM H
      clear H
      have a5 : 0 ≤ (a2 : Int) := dA
      have a6 : a2 < (l0.length : Int) := dA
      obtain ⟨a9, b2, b0, b1⟩ := at_T111 d0.out a2 a5 a6
      cases b2
      replace a5 := eq_true a5
      replace a6 := eq_true a6
      have a7 : 0 ≤ (a2 : Int) := dA
      have a8 : a2 < (l0.length : Int) := dA
      obtain ⟨b6, b9, b7, b8⟩ := at_T111 d0.out a2 a7 a8
      obtain rfl : a9 = b6 := (by injection b9)
      replace a7 := eq_true a7
      replace a8 := eq_true a8
      go_wp2
      go_roundg k1
      case measure => have := e0.out; omega
      case rel => exact ⟨(wrap64 ((wrap64 (a3 + 1)) + 1)), (wrap64 (a2 + 1)), fS, fS, H', ⟨by have := e0.out; omega⟩, dS⟩
     ·rw [if_neg c6] at H
      have d4 : (((rd_T111 l0 a2).f1) == (wrap64 (a3 + 1))) = false := beq_eq_false_iff_ne.mpr c6
      have d5 : (((rd_T111 l0 a2).f1) != (wrap64 (a3 + 1))) = true := bne_iff_ne.mpr c6
      obtain rfl := Option.some.inj H
      have a5 : 0 ≤ (a2 : Int) := dA
      have a6 : a2 < (l0.length : Int) := dA
      obtain ⟨a9, b2, b0, b1⟩ := at_T111 d0.out a2 a5 a6
      cases b2
      replace a5 := eq_true a5
      replace a6 := eq_true a6
      have a7 : 0 ≤ (a2 : Int) := dA
      have a8 : a2 < (l0.length : Int) := dA
      obtain ⟨b6, b9, b7, b8⟩ := at_T111 d0.out a2 a7 a8
      obtain rfl : a9 = b6 := (by injection b9)
      replace a7 := eq_true a7
      replace a8 := eq_true a8
      go_wp2
      go_ret
      exact ⟨fS, dS⟩
    ·rw [if_neg c5] at H
     have d2 : (((rd_T111 l0 a2).f0) == a3) = false := beq_eq_false_iff_ne.mpr c5
     have d3 : (((rd_T111 l0 a2).f0) != a3) = true := bne_iff_ne.mpr c5
     obtain rfl := Option.some.inj H
     have a5 : 0 ≤ (a2 : Int) := dA
     have a6 : a2 < (l0.length : Int) := dA
     obtain ⟨a9, b2, b0, b1⟩ := at_T111 d0.out a2 a5 a6
     cases b2
     replace a5 := eq_true a5
     replace a6 := eq_true a6
     go_wp2
     go_ret
     exact ⟨fS, dS⟩
   ·obtain rfl := Option.some.inj H
    go_wp2
    go_ret
    exact ⟨fS, dS⟩
def laws_heldGraphics.f (k : Nat) (a5 : List Int) (a8 : Int) (a9 : Int) (b0 : Int) (b1 : Int) (a6 : List (S111)) (b2 : Int) (b6 : Int) (b7 : Int) (b8 : Int) (a7 : Int) (a1 : Int) : Option (Int) := (laws_heldIntS.f k a5 a1).bind fun a2 => (if a2 < 0 then (some (-1)) else ((laws_heldPointS.f k a6 a2).bind fun a3 => (if a3 < 0 then (some (-1)) else (some a3))))
theorem laws_heldGraphics.lf0 {p : Prop} (h : p := by
 go_enter Tryz.func51, Tryz.ntmps51
 go_wp2_with (first | ((with_reducible refine gD 2 ?_); refine bxE #[.slice a7 a2.length a8, .int .i64 a9, .int .i64 b0, .int .i64 b1, .int .i64 b2, .slice b6 a3.length b7, .int .i64 b8, .int .i64 b9, .int .i64 d0, .int .i64 d1, .int .i64 a5] 42 ?_; intro e2 hg f3 a6 hb; have GE148 := gE hg; replace HB := hB hb; clear hb hg; have e5 := cg0 a6; have e6 := cg5 a6) | ((with_reducible refine gC 102 ?_); refine cM (some 8) Tryz.func102 (laws_heldIntS.calls k _ _ a2 a1 e1 _ (cC d2 HB) d3.out A3.out) ?_; rintro e w' ⟨rfl, ⟨nd, rfl⟩⟩; refine ⟨_, rfl, ?_⟩) | ((with_reducible refine gC 103 ?_); refine cM (some 14) Tryz.func103 (laws_heldPointS.calls k _ _ a3 e1 e7 _ (cS (Kd.C_below e3.out bS)) e4.out A7.out) ?_; rintro e w' ⟨rfl, ⟨nd, rfl⟩⟩; refine ⟨_, rfl, ?_⟩))
 go_ret
 exact ⟨eS, bS⟩) : p := h
theorem laws_heldGraphics.calls (k : Nat) (a7 : Option Addr) (a8 : Nat) (a2 : List Int) (a9 : Int) (b0 : Int) (b1 : Int) (b2 : Int) (b6 : Option Addr) (b7 : Nat) (a3 : List (S111)) (b8 : Int) (b9 : Int) (d0 : Int) (d1 : Int) (a5 : Int) (a1 : Int) (r : Int) (w : World) (d4 : Kd.C (Kd.int .i64) w a7 a2.length a2) (d5 : a2.length ≤ a8) (d6 : Kd.C k111 w b6 a3.length a3) (e0 : a3.length ≤ b7) (h : laws_heldGraphics.f k a2 a9 b0 b1 b2 a3 b8 b9 d0 d1 a5 a1 = some r) :
  Calls Tryz.prog 51 #[.agg #[.slice a7 a2.length a8, .int .i64 a9, .int .i64 b0, .int .i64 b1, .int .i64 b2, .slice b6 a3.length b7, .int .i64 b8, .int .i64 b9, .int .i64 d0, .int .i64 d1, .int .i64 a5], .int .i64 a1] w fun e w' => e = .returned (.int .i64 r) ∧ Below w.heap.size w w' := by
 have hu42 := Tryz.underlying42
 have d2 := aM d4
 have d3 := aM d5
 clear d4 d5
 have e3 := aM d6
 have e4 := aM e0
 clear d6 e0
 have HB := aM (Below.refl w.heap.size w)
 have H := h
 clear h
 unfold laws_heldGraphics.f at H
 replace H := bN H
 obtain ⟨e1, A3, H⟩ := H
 rcases iD H with ⟨e8, H⟩ | ⟨e8, H⟩
 ·obtain rfl := Option.some.inj H
  go_enter Tryz.func51, Tryz.ntmps51
  go_wp2_with (first | ((with_reducible refine gD 2 ?_); refine bxE #[.slice a7 a2.length a8, .int .i64 a9, .int .i64 b0, .int .i64 b1, .int .i64 b2, .slice b6 a3.length b7, .int .i64 b8, .int .i64 b9, .int .i64 d0, .int .i64 d1, .int .i64 a5] 42 ?_; intro e2 hg w5 a6 hb; have GE148 := gE hg; replace HB := hB hb; clear hb hg; have e9 := cg0 a6) | ((with_reducible refine gC 102 ?_); refine cM (some 8) Tryz.func102 (laws_heldIntS.calls k _ _ a2 a1 e1 _ (cC d2 HB) d3.out A3.out) ?_; rintro e w' ⟨rfl, ⟨nd, rfl⟩⟩; refine ⟨_, rfl, ?_⟩))
  go_ret
  exact ⟨eS, bS⟩
 ·replace H := bN H
  obtain ⟨e7, A7, H⟩ := H
  rcases iD H with ⟨f0, H⟩ | ⟨f0, H⟩
  ·obtain rfl := Option.some.inj H
   exact laws_heldGraphics.lf0
  ·obtain rfl := Option.some.inj H
   exact laws_heldGraphics.lf0
def laws_heldGraphicsS.l0 : Nat → List (S42) → Int → Int → Option (Int)
 | 0, _, _, _ => none
 | k + 1, x0, x1, x5 => if x5 < (x0.length : Int) then (if 0 ≤ x5 then ((laws_heldIntS.f k ((rd_T42 x0 x5).f0) x1).bind fun a3 => (if a3 < 0 then (some (-1)) else (if ((rd_T42 x0 x5).f1.f0) = a3 then (if ((rd_T42 x0 x5).f1.f1) = (wrap64 (a3 + 1)) then (if ((rd_T42 x0 x5).f1.f2) = (wrap64 ((wrap64 (a3 + 1)) + 1)) then (if ((rd_T42 x0 x5).f1.f3) = (wrap64 ((wrap64 ((wrap64 (a3 + 1)) + 1)) + 1)) then ((laws_heldPointS.f k ((rd_T42 x0 x5).f2) (wrap64 ((wrap64 ((wrap64 ((wrap64 (a3 + 1)) + 1)) + 1)) + 1))).bind fun a2 => (if a2 < 0 then (some (-1)) else (if ((rd_T42 x0 x5).f3) = a2 then (if ((rd_T42 x0 x5).f4.f0) = (wrap64 (a2 + 1)) then (if ((rd_T42 x0 x5).f4.f1) = (wrap64 ((wrap64 (a2 + 1)) + 1)) then (if ((rd_T42 x0 x5).f4.f2) = (wrap64 ((wrap64 ((wrap64 (a2 + 1)) + 1)) + 1)) then (if ((rd_T42 x0 x5).f4.f3) = (wrap64 ((wrap64 ((wrap64 ((wrap64 (a2 + 1)) + 1)) + 1)) + 1)) then (laws_heldGraphicsS.l0 k x0 (wrap64 ((wrap64 ((wrap64 ((wrap64 ((wrap64 (a2 + 1)) + 1)) + 1)) + 1)) + 1)) (wrap64 (x5 + 1))) else (some (-1))) else (some (-1))) else (some (-1))) else (some (-1))) else (some (-1))))) else (some (-1))) else (some (-1))) else (some (-1))) else (some (-1))))) else (none)) else (some x1)
def laws_heldGraphicsS.f (k : Nat) (l0 : List (S42)) (a1 : Int) : Option (Int) := laws_heldGraphicsS.l0 k l0 a1 0
theorem laws_heldGraphicsS.calls (k : Nat) (A0 : Option Addr) (c0 : Nat) (l0 : List (S42)) (a1 : Int) (r : Int) (w : World) (hr0 : Kd.C k42 w A0 l0.length l0) (L9 : l0.length ≤ c0) (h : laws_heldGraphicsS.f k l0 a1 = some r) (hT : 0 ≤ r := by exact Int.not_lt.1 (of_decide_eq_false (by assumption))) :
  Calls Tryz.prog 52 #[.slice A0 l0.length c0, .int .i64 a1] w fun e w' => e = .returned (.int .i64 r) ∧ Drawn0 w w' := by
 have e2 := aM hr0
 have M4 := aM L9
 clear hr0 L9
 have H := h
 clear h
 unfold laws_heldGraphicsS.f at H
 have H' := aM H
 clear H
 go_enter Tryz.func52, Tryz.ntmps52
 go_wp2
 go_loopg [1, 5] k (fun kq v1 v5 w' => ∃ (h6 : Int) (a2 : Int), v1 = .int .i64 h6 ∧ v5 = .int .i64 a2 ∧ Aside0 (laws_heldGraphicsS.l0 kq l0 h6 a2 = some r) ∧ Aside0 (kq ≤ k) ∧ Drawn0 w w')
 case atStart => exact ⟨(a1), (0), fS, fS, H', ⟨Nat.le_refl _⟩, dS⟩
 case round =>
  clear H'
  try clear p2
  obtain ⟨h6, a2, rfl, rfl, HA, M1, ⟨m1, rfl⟩⟩ := hrel
  cases gk with
  | zero => exact absurd HA.out (by simp [laws_heldGraphicsS.l0])
  | succ k1 =>
   have H := HA.out
   clear HA
   simp only [laws_heldGraphicsS.l0] at H
   rcases iD H with ⟨K7, H⟩ | ⟨K7, H⟩
   ·obtain ⟨M3, H⟩ := iT H
    replace H := bN H
    obtain ⟨d0, A5, H⟩ := H
    rcases iD H with ⟨K8, H⟩ | ⟨K8, H⟩
    ·obtain rfl := Option.some.inj H
     exact absurd hT (by decide)
    ·by_cases c7 : ((rd_T42 l0 a2).f1.f0) = d0
     ·rw [if_pos c7] at H
      have K9 : (((rd_T42 l0 a2).f1.f0) == d0) = true := beq_iff_eq.mpr c7
      have L0 : (((rd_T42 l0 a2).f1.f0) != d0) = false := bne_eq_false_iff_eq.mpr c7
      clear c7
      by_cases c8 : ((rd_T42 l0 a2).f1.f1) = (wrap64 (d0 + 1))
      ·rw [if_pos c8] at H
       have L1 : (((rd_T42 l0 a2).f1.f1) == (wrap64 (d0 + 1))) = true := beq_iff_eq.mpr c8
       have L2 : (((rd_T42 l0 a2).f1.f1) != (wrap64 (d0 + 1))) = false := bne_eq_false_iff_eq.mpr c8
       clear c8
       by_cases c9 : ((rd_T42 l0 a2).f1.f2) = (wrap64 ((wrap64 (d0 + 1)) + 1))
       ·rw [if_pos c9] at H
        have L6 : (((rd_T42 l0 a2).f1.f2) == (wrap64 ((wrap64 (d0 + 1)) + 1))) = true := beq_iff_eq.mpr c9
        have L8 : (((rd_T42 l0 a2).f1.f2) != (wrap64 ((wrap64 (d0 + 1)) + 1))) = false := bne_eq_false_iff_eq.mpr c9
        clear c9
        by_cases c10 : ((rd_T42 l0 a2).f1.f3) = (wrap64 ((wrap64 ((wrap64 (d0 + 1)) + 1)) + 1))
        ·rw [if_pos c10] at H
         have J4 : (((rd_T42 l0 a2).f1.f3) == (wrap64 ((wrap64 ((wrap64 (d0 + 1)) + 1)) + 1))) = true := beq_iff_eq.mpr c10
         have J5 : (((rd_T42 l0 a2).f1.f3) != (wrap64 ((wrap64 ((wrap64 (d0 + 1)) + 1)) + 1))) = false := bne_eq_false_iff_eq.mpr c10
         clear c10
         replace H := bN H
         obtain ⟨f7, I3, H⟩ := H
         rcases iD H with ⟨J6, H⟩ | ⟨J6, H⟩
         ·obtain rfl := Option.some.inj H
          exact absurd hT (by decide)
         ·by_cases I4 : ((rd_T42 l0 a2).f3) = f7
          ·rw [if_pos I4] at H
           have J7 : (((rd_T42 l0 a2).f3) == f7) = true := beq_iff_eq.mpr I4
           have J8 : (((rd_T42 l0 a2).f3) != f7) = false := bne_eq_false_iff_eq.mpr I4
           clear I4
           by_cases I5 : ((rd_T42 l0 a2).f4.f0) = (wrap64 (f7 + 1))
           ·rw [if_pos I5] at H
            have J9 : (((rd_T42 l0 a2).f4.f0) == (wrap64 (f7 + 1))) = true := beq_iff_eq.mpr I5
            have K0 : (((rd_T42 l0 a2).f4.f0) != (wrap64 (f7 + 1))) = false := bne_eq_false_iff_eq.mpr I5
            clear I5
            by_cases I6 : ((rd_T42 l0 a2).f4.f1) = (wrap64 ((wrap64 (f7 + 1)) + 1))
            ·rw [if_pos I6] at H
             have K1 : (((rd_T42 l0 a2).f4.f1) == (wrap64 ((wrap64 (f7 + 1)) + 1))) = true := beq_iff_eq.mpr I6
             have K2 : (((rd_T42 l0 a2).f4.f1) != (wrap64 ((wrap64 (f7 + 1)) + 1))) = false := bne_eq_false_iff_eq.mpr I6
             clear I6
             by_cases I7 : ((rd_T42 l0 a2).f4.f2) = (wrap64 ((wrap64 ((wrap64 (f7 + 1)) + 1)) + 1))
             ·rw [if_pos I7] at H
              have K3 : (((rd_T42 l0 a2).f4.f2) == (wrap64 ((wrap64 ((wrap64 (f7 + 1)) + 1)) + 1))) = true := beq_iff_eq.mpr I7
              have K4 : (((rd_T42 l0 a2).f4.f2) != (wrap64 ((wrap64 ((wrap64 (f7 + 1)) + 1)) + 1))) = false := bne_eq_false_iff_eq.mpr I7
              clear I7
              by_cases I8 : ((rd_T42 l0 a2).f4.f3) = (wrap64 ((wrap64 ((wrap64 ((wrap64 (f7 + 1)) + 1)) + 1)) + 1))
              ·rw [if_pos I8] at H
               have K5 : (((rd_T42 l0 a2).f4.f3) == (wrap64 ((wrap64 ((wrap64 ((wrap64 (f7 + 1)) + 1)) + 1)) + 1))) = true := beq_iff_eq.mpr I8
               have K6 : (((rd_T42 l0 a2).f4.f3) != (wrap64 ((wrap64 ((wrap64 ((wrap64 (f7 + 1)) + 1)) + 1)) + 1))) = false := bne_eq_false_iff_eq.mpr I8
               clear I8
               have H' := aM H
               clear H
               have b6 : 0 ≤ (a2 : Int) := dA
               have b7 : a2 < (l0.length : Int) := dA
               obtain ⟨a6, b8, b9, e3, e4, l9, a3, g2, g3, g4, g5, a5, g6, g7, g8, g9, e5, hl151_0, hi151_0, hl151_5, hi151_5⟩ := at_T42 e2.out a2 b6 b7
               cases l9
               have a7 := aM hi151_0
               have a8 := aM hl151_0
               clear hi151_0 hl151_0
               have h0 := aM hi151_5
               have h1 := aM hl151_5
               clear hi151_5 hl151_5
               replace b6 := eq_true b6
               replace b7 := eq_true b7
               go_wp2_with (first | ((with_reducible refine gC 102 ?_); refine cL (some 18) Tryz.func102 #[.slice b8 ((rd_T42 l0 a2).f0).length b9, .int .i64 h6] ?_; (with_reducible refine (laws_heldIntS.calls k1 _ _ ((rd_T42 l0 a2).f0) h6 d0 _ ?side1 ?side2 A5.out).mono ?_); (case side1 => exact cS a7.out); (case side2 => exact a8.out); rintro e w' ⟨rfl, ⟨nd, rfl⟩⟩; refine ⟨_, rfl, ?_⟩; have d3 : 0 ≤ (a2 : Int) := dA; have d4 : a2 < (l0.length : Int) := dA; obtain ⟨f8, o4, o5, o6, o7, o8, a9, h9, i1, i3, i4, b0, i5, i6, i7, i8, f9, hl153_0, hi153_0, hl153_5, hi153_5⟩ := at_T42 e2.out a2 d3 d4; obtain rfl : a6 = f8 := (by injection o8); have i9 := aM hi153_0; have j4 := aM hl153_0; clear hi153_0 hl153_0; have j5 := aM hi153_5; have j6 := aM hl153_5; clear hi153_5 hl153_5; replace d3 := eq_true d3; replace d4 := eq_true d4; have ea_ := Option.some.inj (a3.symm.trans a9); injection ea_ with ea_ en_ ec_; subst ea_; subst ec_; clear en_; have ea_ := Option.some.inj (a5.symm.trans b0); injection ea_ with ea_ en_ ec_; subst ea_; subst ec_; clear en_; have d5 : 0 ≤ (a2 : Int) := dA; have d6 : a2 < (l0.length : Int) := dA; obtain ⟨h2, q2, q3, q4, q5, q6, b1, j9, k0, k2, k3, b2, k4, k5, k6, k7, h3, hl154_0, hi154_0, hl154_5, hi154_5⟩ := at_T42 e2.out a2 d5 d6; obtain rfl : a6 = h2 := (by injection q6); have k9 := aM hi154_0; have l3 := aM hl154_0; clear hi154_0 hl154_0; have l4 := aM hi154_5; have l5 := aM hl154_5; clear hi154_5 hl154_5; replace d5 := eq_true d5; replace d6 := eq_true d6; have ea_ := Option.some.inj (a3.symm.trans b1); injection ea_ with ea_ en_ ec_; subst ea_; subst ec_; clear en_; have ea_ := Option.some.inj (a5.symm.trans b2); injection ea_ with ea_ en_ ec_; subst ea_; subst ec_; clear en_; have e6 : 0 ≤ (a2 : Int) := dA; have e7 : a2 < (l0.length : Int) := dA; obtain ⟨j7, s5, s6, s7, s8, s9, d1, m7, m8, m9, n0, d2, n1, n2, n5, n6, j8, hl155_0, hi155_0, hl155_5, hi155_5⟩ := at_T42 e2.out a2 e6 e7; obtain rfl : a6 = j7 := (by injection s9); have n7 := aM hi155_0; have n8 := aM hl155_0; clear hi155_0 hl155_0; have o0 := aM hi155_5; have o1 := aM hl155_5; clear hi155_5 hl155_5; replace e6 := eq_true e6; replace e7 := eq_true e7; have ea_ := Option.some.inj (a3.symm.trans d1); injection ea_ with ea_ en_ ec_; subst ea_; subst ec_; clear en_; have ea_ := Option.some.inj (a5.symm.trans d2); injection ea_ with ea_ en_ ec_; subst ea_; subst ec_; clear en_; have g0 : 0 ≤ (a2 : Int) := dA; have g1 : a2 < (l0.length : Int) := dA; obtain ⟨m2, u2, u3, u4, u5, u6, e0, q7, q8, q9, r0, e1, r1, r2, r3, r4, m3, hl156_0, hi156_0, hl156_5, hi156_5⟩ := at_T42 e2.out a2 g0 g1; obtain rfl : a6 = m2 := (by injection u6); have r5 := aM hi156_0; have r6 := aM hl156_0; clear hi156_0 hl156_0; have r7 := aM hi156_5; have s0 := aM hl156_5; clear hi156_5 hl156_5; replace g0 := eq_true g0; replace g1 := eq_true g1; have ea_ := Option.some.inj (a3.symm.trans e0); injection ea_ with ea_ en_ ec_; subst ea_; subst ec_; clear en_; have ea_ := Option.some.inj (a5.symm.trans e1); injection ea_ with ea_ en_ ec_; subst ea_; subst ec_; clear en_; have h7 : 0 ≤ (a2 : Int) := dA; have h8 : a2 < (l0.length : Int) := dA; obtain ⟨o9, x6, x7, x8, x9, y0, e8, t2, t3, t4, t5, e9, t6, t7, t8, t9, q0, hl157_0, hi157_0, hl157_5, hi157_5⟩ := at_T42 e2.out a2 h7 h8; obtain rfl : a6 = o9 := (by injection y0); have u0 := aM hi157_0; have u1 := aM hl157_0; clear hi157_0 hl157_0; have f5 := aM hi157_5; have f6 := aM hl157_5; clear hi157_5 hl157_5; replace h7 := eq_true h7; replace h8 := eq_true h8; have ea_ := Option.some.inj (a3.symm.trans e8); injection ea_ with ea_ en_ ec_; subst ea_; subst ec_; clear en_; have ea_ := Option.some.inj (a5.symm.trans e9); injection ea_ with ea_ en_ ec_; subst ea_; subst ec_; clear en_) | ((with_reducible refine gC 103 ?_); refine cL (some 67) Tryz.func103 #[.slice e3 ((rd_T42 l0 a2).f2).length e4, .int .i64 (wrap64 ((wrap64 ((wrap64 ((wrap64 (d0 + 1)) + 1)) + 1)) + 1))] ?_; (with_reducible refine (laws_heldPointS.calls k1 _ _ ((rd_T42 l0 a2).f2) (wrap64 ((wrap64 ((wrap64 ((wrap64 (d0 + 1)) + 1)) + 1)) + 1)) f7 _ ?side1 ?side2 I3.out).mono ?_); (case side1 => exact cS f5.out); (case side2 => exact f6.out); rintro e w' ⟨rfl, ⟨nd, rfl⟩⟩; refine ⟨_, rfl, ?_⟩; have m4 : 0 ≤ (a2 : Int) := dA; have m6 : a2 < (l0.length : Int) := dA; obtain ⟨t0, A4, A6, A7, A8, A9, h4, v0, v2, v3, v4, h5, v6, v7, v8, v9, t1, hl159_0, hi159_0, hl159_5, hi159_5⟩ := at_T42 e2.out a2 m4 m6; obtain rfl : a6 = t0 := (by injection A9); have w8 := aM hi159_0; have w9 := aM hl159_0; clear hi159_0 hl159_0; have x0 := aM hi159_5; have x1 := aM hl159_5; clear hi159_5 hl159_5; replace m4 := eq_true m4; replace m6 := eq_true m6; have ea_ := Option.some.inj (a3.symm.trans h4); injection ea_ with ea_ en_ ec_; subst ea_; subst ec_; clear en_; have ea_ := Option.some.inj (a5.symm.trans h5); injection ea_ with ea_ en_ ec_; subst ea_; subst ec_; clear en_; have s1 : 0 ≤ (a2 : Int) := dA; have s2 : a2 < (l0.length : Int) := dA; obtain ⟨x2, B7, B8, C0, C2, C3, l7, y1, y2, y3, y4, l8, y5, y6, y7, y8, x3, hl160_0, hi160_0, hl160_5, hi160_5⟩ := at_T42 e2.out a2 s1 s2; obtain rfl : a6 = x2 := (by injection C3); have y9 := aM hi160_0; have A1 := aM hl160_0; clear hi160_0 hl160_0; have A2 := aM hi160_5; have A3 := aM hl160_5; clear hi160_5 hl160_5; replace s1 := eq_true s1; replace s2 := eq_true s2; have ea_ := Option.some.inj (a3.symm.trans l7); injection ea_ with ea_ en_ ec_; subst ea_; subst ec_; clear en_; have ea_ := Option.some.inj (a5.symm.trans l8); injection ea_ with ea_ en_ ec_; subst ea_; subst ec_; clear en_; have u7 : 0 ≤ (a2 : Int) := dA; have u9 : a2 < (l0.length : Int) := dA; obtain ⟨B0, E1, E2, E3, E4, E5, s3, C4, C5, C6, C7, s4, C9, D0, D1, D2, B2, hl161_0, hi161_0, hl161_5, hi161_5⟩ := at_T42 e2.out a2 u7 u9; obtain rfl : a6 = B0 := (by injection E5); have D3 := aM hi161_0; have D4 := aM hl161_0; clear hi161_0 hl161_0; have D5 := aM hi161_5; have D6 := aM hl161_5; clear hi161_5 hl161_5; replace u7 := eq_true u7; replace u9 := eq_true u9; have ea_ := Option.some.inj (a3.symm.trans s3); injection ea_ with ea_ en_ ec_; subst ea_; subst ec_; clear en_; have ea_ := Option.some.inj (a5.symm.trans s4); injection ea_ with ea_ en_ ec_; subst ea_; subst ec_; clear en_; have B5 : 0 ≤ (a2 : Int) := dA; have B6 : a2 < (l0.length : Int) := dA; obtain ⟨D9, G2, G3, G4, G5, G6, x4, E8, E9, F2, F3, x5, F4, F5, F6, F7, E0, hl162_0, hi162_0, hl162_5, hi162_5⟩ := at_T42 e2.out a2 B5 B6; obtain rfl : a6 = D9 := (by injection G6); have F8 := aM hi162_0; have F9 := aM hl162_0; clear hi162_0 hl162_0; have G0 := aM hi162_5; have G1 := aM hl162_5; clear hi162_5 hl162_5; replace B5 := eq_true B5; replace B6 := eq_true B6; have ea_ := Option.some.inj (a3.symm.trans x4); injection ea_ with ea_ en_ ec_; subst ea_; subst ec_; clear en_; have ea_ := Option.some.inj (a5.symm.trans x5); injection ea_ with ea_ en_ ec_; subst ea_; subst ec_; clear en_; have E6 : 0 ≤ (a2 : Int) := dA; have E7 : a2 < (l0.length : Int) := dA; obtain ⟨G7, I9, J0, J1, J2, J3, D7, G9, H2, H3, H4, D8, H5, H6, H7, H8, G8, hl163_0, hi163_0, hl163_5, hi163_5⟩ := at_T42 e2.out a2 E6 E7; obtain rfl : a6 = G7 := (by injection J3); have H9 := aM hi163_0; have I0 := aM hl163_0; clear hi163_0 hl163_0; have I1 := aM hi163_5; have I2 := aM hl163_5; clear hi163_5 hl163_5; replace E6 := eq_true E6; replace E7 := eq_true E7; have ea_ := Option.some.inj (a3.symm.trans D7); injection ea_ with ea_ en_ ec_; subst ea_; subst ec_; clear en_; have ea_ := Option.some.inj (a5.symm.trans D8); injection ea_ with ea_ en_ ec_; subst ea_; subst ec_; clear en_))
               go_roundg k1
               case measure => have := M1.out; omega
               case rel => exact ⟨(wrap64 ((wrap64 ((wrap64 ((wrap64 ((wrap64 (f7 + 1)) + 1)) + 1)) + 1)) + 1)), (wrap64 (a2 + 1)), fS, fS, H', ⟨by have := M1.out; omega⟩, dS⟩
              ·rw [if_neg I8] at H
               obtain rfl := Option.some.inj H
               exact absurd hT (by decide)
             ·rw [if_neg I7] at H
              obtain rfl := Option.some.inj H
              exact absurd hT (by decide)
            ·rw [if_neg I6] at H
             obtain rfl := Option.some.inj H
             exact absurd hT (by decide)
           ·rw [if_neg I5] at H
            obtain rfl := Option.some.inj H
            exact absurd hT (by decide)
          ·rw [if_neg I4] at H
           obtain rfl := Option.some.inj H
           exact absurd hT (by decide)
        ·rw [if_neg c10] at H
         obtain rfl := Option.some.inj H
         exact absurd hT (by decide)
       ·rw [if_neg c9] at H
        obtain rfl := Option.some.inj H
        exact absurd hT (by decide)
      ·rw [if_neg c8] at H
       obtain rfl := Option.some.inj H
       exact absurd hT (by decide)
     ·rw [if_neg c7] at H
      obtain rfl := Option.some.inj H
      exact absurd hT (by decide)
   ·obtain rfl := Option.some.inj H
    go_wp2
    go_ret
    exact ⟨fS, dS⟩
def laws_heldObjectS.l0 : Nat → List (S103) → Int → Int → Option (Int)
 | 0, _, _, _ => none
 | k + 1, x0, x1, x5 => if x5 < (x0.length : Int) then (if 0 ≤ x5 then ((laws_heldPointS.f k ((rd_T103 x0 x5).f0) x1).bind fun a2 => (if a2 < 0 then (some (-1)) else (if ((rd_T103 x0 x5).f1) = a2 then (if ((rd_T103 x0 x5).f2.f0) = (wrap64 (a2 + 1)) then (if ((rd_T103 x0 x5).f2.f1) = (wrap64 ((wrap64 (a2 + 1)) + 1)) then (if ((rd_T103 x0 x5).f2.f2) = (wrap64 ((wrap64 ((wrap64 (a2 + 1)) + 1)) + 1)) then (if ((rd_T103 x0 x5).f2.f3) = (wrap64 ((wrap64 ((wrap64 ((wrap64 (a2 + 1)) + 1)) + 1)) + 1)) then (laws_heldObjectS.l0 k x0 (wrap64 ((wrap64 ((wrap64 ((wrap64 ((wrap64 (a2 + 1)) + 1)) + 1)) + 1)) + 1)) (wrap64 (x5 + 1))) else (some (-1))) else (some (-1))) else (some (-1))) else (some (-1))) else (some (-1))))) else (none)) else (some x1)
def laws_heldObjectS.f (k : Nat) (l0 : List (S103)) (a1 : Int) : Option (Int) := laws_heldObjectS.l0 k l0 a1 0
theorem laws_heldObjectS.calls (k : Nat) (A0 : Option Addr) (c0 : Nat) (l0 : List (S103)) (a1 : Int) (r : Int) (w : World) (hr0 : Kd.C k103 w A0 l0.length l0) (o4 : l0.length ≤ c0) (h : laws_heldObjectS.f k l0 a1 = some r) (hT : 0 ≤ r := by exact Int.not_lt.1 (of_decide_eq_false (by assumption))) :
  Calls Tryz.prog 53 #[.slice A0 l0.length c0, .int .i64 a1] w fun e w' => e = .returned (.int .i64 r) ∧ Drawn0 w w' := by
 have f8 := aM hr0
 have o7 := aM o4
 clear hr0 o4
 have H := h
 clear h
 unfold laws_heldObjectS.f at H
 have H' := aM H
 clear H
 go_enter Tryz.func53, Tryz.ntmps53
 go_wp2
 go_loopg [1, 5] k (fun kq v1 v5 w' => ∃ (d3 : Int) (a2 : Int), v1 = .int .i64 d3 ∧ v5 = .int .i64 a2 ∧ Aside0 (laws_heldObjectS.l0 kq l0 d3 a2 = some r) ∧ Aside0 (kq ≤ k) ∧ Drawn0 w w')
 case atStart => exact ⟨(a1), (0), fS, fS, H', ⟨Nat.le_refl _⟩, dS⟩
 case round =>
  clear H'
  try clear p2
  obtain ⟨d3, a2, rfl, rfl, HA, o5, ⟨m1, rfl⟩⟩ := hrel
  cases gk with
  | zero => exact absurd HA.out (by simp [laws_heldObjectS.l0])
  | succ k1 =>
   have H := HA.out
   clear HA
   simp only [laws_heldObjectS.l0] at H
   rcases iD H with ⟨n1, H⟩ | ⟨n1, H⟩
   ·obtain ⟨o6, H⟩ := iT H
    replace H := bN H
    obtain ⟨a8, A5, H⟩ := H
    rcases iD H with ⟨n2, H⟩ | ⟨n2, H⟩
    ·obtain rfl := Option.some.inj H
     exact absurd hT (by decide)
    ·by_cases c7 : ((rd_T103 l0 a2).f1) = a8
     ·rw [if_pos c7] at H
      have n5 : (((rd_T103 l0 a2).f1) == a8) = true := beq_iff_eq.mpr c7
      have n6 : (((rd_T103 l0 a2).f1) != a8) = false := bne_eq_false_iff_eq.mpr c7
      clear c7
      by_cases c8 : ((rd_T103 l0 a2).f2.f0) = (wrap64 (a8 + 1))
      ·rw [if_pos c8] at H
       have n7 : (((rd_T103 l0 a2).f2.f0) == (wrap64 (a8 + 1))) = true := beq_iff_eq.mpr c8
       have n8 : (((rd_T103 l0 a2).f2.f0) != (wrap64 (a8 + 1))) = false := bne_eq_false_iff_eq.mpr c8
       clear c8
       by_cases c9 : ((rd_T103 l0 a2).f2.f1) = (wrap64 ((wrap64 (a8 + 1)) + 1))
       ·rw [if_pos c9] at H
        have o0 : (((rd_T103 l0 a2).f2.f1) == (wrap64 ((wrap64 (a8 + 1)) + 1))) = true := beq_iff_eq.mpr c9
        have o1 : (((rd_T103 l0 a2).f2.f1) != (wrap64 ((wrap64 (a8 + 1)) + 1))) = false := bne_eq_false_iff_eq.mpr c9
        clear c9
        by_cases c10 : ((rd_T103 l0 a2).f2.f2) = (wrap64 ((wrap64 ((wrap64 (a8 + 1)) + 1)) + 1))
        ·rw [if_pos c10] at H
         have m7 : (((rd_T103 l0 a2).f2.f2) == (wrap64 ((wrap64 ((wrap64 (a8 + 1)) + 1)) + 1))) = true := beq_iff_eq.mpr c10
         have m8 : (((rd_T103 l0 a2).f2.f2) != (wrap64 ((wrap64 ((wrap64 (a8 + 1)) + 1)) + 1))) = false := bne_eq_false_iff_eq.mpr c10
         clear c10
         by_cases m2 : ((rd_T103 l0 a2).f2.f3) = (wrap64 ((wrap64 ((wrap64 ((wrap64 (a8 + 1)) + 1)) + 1)) + 1))
         ·rw [if_pos m2] at H
          have m9 : (((rd_T103 l0 a2).f2.f3) == (wrap64 ((wrap64 ((wrap64 ((wrap64 (a8 + 1)) + 1)) + 1)) + 1))) = true := beq_iff_eq.mpr m2
          have n0 : (((rd_T103 l0 a2).f2.f3) != (wrap64 ((wrap64 ((wrap64 ((wrap64 (a8 + 1)) + 1)) + 1)) + 1))) = false := bne_eq_false_iff_eq.mpr m2
          clear m2
          have H' := aM H
          clear H
          have b0 : 0 ≤ (a2 : Int) := dA
          have b1 : a2 < (l0.length : Int) := dA
          obtain ⟨a5, b2, b6, f9, a3, d5, d6, e0, e1, e2, hl164_0, hi164_0⟩ := at_T103 f8.out a2 b0 b1
          cases f9
          have a6 := aM hi164_0
          have a7 := aM hl164_0
          clear hi164_0 hl164_0
          replace b0 := eq_true b0
          replace b1 := eq_true b1
          go_wp2_with (first | ((with_reducible refine gC 103 ?_); refine cL (some 18) Tryz.func103 #[.slice b2 ((rd_T103 l0 a2).f0).length b6, .int .i64 d3] ?_; (with_reducible refine (laws_heldPointS.calls k1 _ _ ((rd_T103 l0 a2).f0) d3 a8 _ ?side1 ?side2 A5.out).mono ?_); (case side1 => exact cS a6.out); (case side2 => exact a7.out); rintro e w' ⟨rfl, ⟨nd, rfl⟩⟩; refine ⟨_, rfl, ?_⟩; have b8 : 0 ≤ (a2 : Int) := dA; have b9 : a2 < (l0.length : Int) := dA; obtain ⟨d4, g7, g8, g9, a9, e5, e6, e7, e8, e9, hl166_0, hi166_0⟩ := at_T103 f8.out a2 b8 b9; obtain rfl : a5 = d4 := (by injection g9); have f4 := aM hi166_0; have f5 := aM hl166_0; clear hi166_0 hl166_0; replace b8 := eq_true b8; replace b9 := eq_true b9; have ea_ := Option.some.inj (a3.symm.trans a9); injection ea_ with ea_ en_ ec_; subst ea_; subst ec_; clear en_; have d0 : 0 ≤ (a2 : Int) := dA; have d1 : a2 < (l0.length : Int) := dA; obtain ⟨f6, h3, h4, h5, b7, g0, g1, g2, g3, g4, hl167_0, hi167_0⟩ := at_T103 f8.out a2 d0 d1; obtain rfl : a5 = f6 := (by injection h5); have g5 := aM hi167_0; have g6 := aM hl167_0; clear hi167_0 hl167_0; replace d0 := eq_true d0; replace d1 := eq_true d1; have ea_ := Option.some.inj (a3.symm.trans b7); injection ea_ with ea_ en_ ec_; subst ea_; subst ec_; clear en_; have e3 : 0 ≤ (a2 : Int) := dA; have e4 : a2 < (l0.length : Int) := dA; obtain ⟨h0, i7, i8, i9, d2, h6, h7, h8, h9, i1, hl168_0, hi168_0⟩ := at_T103 f8.out a2 e3 e4; obtain rfl : a5 = h0 := (by injection i9); have i3 := aM hi168_0; have i4 := aM hl168_0; clear hi168_0 hl168_0; replace e3 := eq_true e3; replace e4 := eq_true e4; have ea_ := Option.some.inj (a3.symm.trans d2); injection ea_ with ea_ en_ ec_; subst ea_; subst ec_; clear en_; have h1 : 0 ≤ (a2 : Int) := dA; have h2 : a2 < (l0.length : Int) := dA; obtain ⟨i6, k4, k5, k6, f7, j6, j7, j8, j9, k0, hl169_0, hi169_0⟩ := at_T103 f8.out a2 h1 h2; obtain rfl : a5 = i6 := (by injection k6); have k2 := aM hi169_0; have k3 := aM hl169_0; clear hi169_0 hl169_0; replace h1 := eq_true h1; replace h2 := eq_true h2; have ea_ := Option.some.inj (a3.symm.trans f7); injection ea_ with ea_ en_ ec_; subst ea_; subst ec_; clear en_; have j4 : 0 ≤ (a2 : Int) := dA; have j5 : a2 < (l0.length : Int) := dA; obtain ⟨k7, m3, m4, m6, i5, k9, l3, l4, l5, l7, hl170_0, hi170_0⟩ := at_T103 f8.out a2 j4 j5; obtain rfl : a5 = k7 := (by injection m6); have l8 := aM hi170_0; have l9 := aM hl170_0; clear hi170_0 hl170_0; replace j4 := eq_true j4; replace j5 := eq_true j5; have ea_ := Option.some.inj (a3.symm.trans i5); injection ea_ with ea_ en_ ec_; subst ea_; subst ec_; clear en_))
          go_roundg k1
          case measure => have := o5.out; omega
          case rel => exact ⟨(wrap64 ((wrap64 ((wrap64 ((wrap64 ((wrap64 (a8 + 1)) + 1)) + 1)) + 1)) + 1)), (wrap64 (a2 + 1)), fS, fS, H', ⟨by have := o5.out; omega⟩, dS⟩
         ·rw [if_neg m2] at H
          obtain rfl := Option.some.inj H
          exact absurd hT (by decide)
        ·rw [if_neg c10] at H
         obtain rfl := Option.some.inj H
         exact absurd hT (by decide)
       ·rw [if_neg c9] at H
        obtain rfl := Option.some.inj H
        exact absurd hT (by decide)
      ·rw [if_neg c8] at H
       obtain rfl := Option.some.inj H
       exact absurd hT (by decide)
     ·rw [if_neg c7] at H
      obtain rfl := Option.some.inj H
      exact absurd hT (by decide)
   ·obtain rfl := Option.some.inj H
    go_wp2
    go_ret
    exact ⟨fS, dS⟩
def laws_heldPage.f (k : Nat) (a9 : List Int) (b0 : Int) (b1 : Int) (b2 : Int) (b6 : Int) (b7 : List (S111)) (b8 : Int) (b9 : Int) (d0 : Int) (d1 : Int) (a2 : Int) (a3 : List (S42)) (a5 : List (S103)) (a1 : Int) : Option (Int) := (laws_heldGraphics.f k a9 b0 b1 b2 b6 b7 b8 b9 d0 d1 a2 a1).bind fun a6 => (if a6 < 0 then (some (-1)) else ((laws_heldGraphicsS.f k a3 a6).bind fun a7 => (if a7 < 0 then (some (-1)) else ((laws_heldObjectS.f k a5 a7).bind fun a8 => (if a8 < 0 then (some (-1)) else (some a8))))))
theorem laws_heldPage.lf0 {p : Prop} (h : p := by
 go_enter Tryz.func13, Tryz.ntmps13
 go_wp2_with (first | ((with_reducible refine gD 2 ?_); refine bxE #[.slice d5 a7.length d6, .int .i64 a9, .int .i64 b0, .int .i64 b1, .int .i64 b2, .slice e0 a8.length e1, .int .i64 b6, .int .i64 b7, .int .i64 b8, .int .i64 b9, .int .i64 a6, .slice d0 a3.length d1, .slice d2 a5.length d3] 46 ?_; intro d4 hg h0 a2 hb; have GE171 := gE hg; replace HB := hB hb; clear hb hg; have hz17 := cz13 a2) | ((with_reducible refine gC 51 ?_); refine cM (some 8) Tryz.func51 (laws_heldGraphics.calls k _ _ a7 a9 b0 b1 b2 _ _ a8 b6 b7 b8 b9 a6 a1 e2 _ (cC e3 HB) e4.out (cC e5 HB) e6.out A3.out) ?_; rintro e h1 ⟨rfl, hb⟩; refine ⟨_, rfl, ?_⟩; replace a2 := kB_ d4 hb; replace HB := hB hb; (try clear hb); have g2 := cg11 a2; have g3 := cg12 a2) | ((with_reducible refine gC 52 ?_); refine cM (some 14) Tryz.func52 (laws_heldGraphicsS.calls k _ _ a3 e2 f9 _ (cC e7 HB) e8.out A8.out) ?_; rintro e w' ⟨rfl, ⟨nd, rfl⟩⟩; refine ⟨_, rfl, ?_⟩) | ((with_reducible refine gC 53 ?_); refine cM (some 20) Tryz.func53 (laws_heldObjectS.calls k _ _ a5 f9 g6 _ (cS (Kd.C_below g0.out bS)) g1.out g9.out) ?_; rintro e w' ⟨rfl, ⟨nd, rfl⟩⟩; refine ⟨_, rfl, ?_⟩))
 go_ret
 exact ⟨eS, bS⟩) : p := h
theorem laws_heldPage.calls (k : Nat) (d5 : Option Addr) (d6 : Nat) (a7 : List Int) (a9 : Int) (b0 : Int) (b1 : Int) (b2 : Int) (e0 : Option Addr) (e1 : Nat) (a8 : List (S111)) (b6 : Int) (b7 : Int) (b8 : Int) (b9 : Int) (a6 : Int) (d0 : Option Addr) (d1 : Nat) (a3 : List (S42)) (d2 : Option Addr) (d3 : Nat) (a5 : List (S103)) (a1 : Int) (r : Int) (w : World) (f5 : Kd.C (Kd.int .i64) w d5 a7.length a7) (f6 : a7.length ≤ d6) (f7 : Kd.C k111 w e0 a8.length a8) (f8 : a8.length ≤ e1) (e9 : Kd.C k42 w d0 a3.length a3) (f0 : a3.length ≤ d1) (f3 : Kd.C k103 w d2 a5.length a5) (f4 : a5.length ≤ d3) (h : laws_heldPage.f k a7 a9 b0 b1 b2 a8 b6 b7 b8 b9 a6 a3 a5 a1 = some r) (hT : 0 ≤ r := by exact Int.not_lt.1 (of_decide_eq_false (by assumption))) :
  Calls Tryz.prog 13 #[.agg #[.slice d5 a7.length d6, .int .i64 a9, .int .i64 b0, .int .i64 b1, .int .i64 b2, .slice e0 a8.length e1, .int .i64 b6, .int .i64 b7, .int .i64 b8, .int .i64 b9, .int .i64 a6, .slice d0 a3.length d1, .slice d2 a5.length d3], .int .i64 a1] w fun e w' => e = .returned (.int .i64 r) ∧ Below w.heap.size w w' := by
 have hu46 := Tryz.underlying46
 have hu42 := Tryz.underlying42
 have e3 := aM f5
 have e4 := aM f6
 clear f5 f6
 have e5 := aM f7
 have e6 := aM f8
 clear f7 f8
 have e7 := aM e9
 have e8 := aM f0
 clear e9 f0
 have g0 := aM f3
 have g1 := aM f4
 clear f3 f4
 have HB := aM (Below.refl w.heap.size w)
 have H := h
 clear h
 unfold laws_heldPage.f at H
 replace H := bN H
 obtain ⟨e2, A3, H⟩ := H
 rcases iD H with ⟨g7, H⟩ | ⟨g7, H⟩
 ·obtain rfl := Option.some.inj H
  exact absurd hT (by decide)
 ·replace H := bN H
  obtain ⟨f9, A8, H⟩ := H
  rcases iD H with ⟨g8, H⟩ | ⟨g8, H⟩
  ·obtain rfl := Option.some.inj H
   exact absurd hT (by decide)
  ·replace H := bN H
   obtain ⟨g6, g9, H⟩ := H
   rcases iD H with ⟨g5, H⟩ | ⟨g5, H⟩
   ·obtain rfl := Option.some.inj H
    exact absurd hT (by decide)
   ·obtain rfl := Option.some.inj H
    exact laws_heldPage.lf0
def laws_szToken.f (a2 : ByteArray) (a3 : Int) (a1 : Int) : Option (Int) := if (wrap64 (a1 - (a2.size : Int))) < 0 then (some (-1)) else (some (wrap64 (a1 - (a2.size : Int))))
theorem laws_szToken.calls (a3 : ByteArray) (a5 : Int) (a1 : Int) (r : Int) (w : World) (h : laws_szToken.f a3 a5 a1 = some r) :
  Calls Tryz.prog 6 #[.agg #[.string a3, .int .i64 a5], .int .i64 a1] w fun e w' => e = .returned (.int .i64 r) ∧ Below w.heap.size w w' := by
 have hu35 := Tryz.underlying35
 have HB := aM (Below.refl w.heap.size w)
 have H := h
 clear h
 unfold laws_szToken.f at H
 rcases iD H with ⟨a7, H⟩ | ⟨a7, H⟩
 ·obtain rfl := Option.some.inj H
  go_enter Tryz.func6, Tryz.ntmps6
  go_wp2_with (first | ((with_reducible refine gD 2 ?_); refine bxE #[.string a3, .int .i64 a5] 35 ?_; intro a6 hg w4 a2 hb; have GE175 := gE hg; replace HB := hB hb; clear hb hg; have hz5 := cz2 a2))
  go_ret
  exact ⟨eS, bS⟩
 ·obtain rfl := Option.some.inj H
  go_enter Tryz.func6, Tryz.ntmps6
  go_wp2_with (first | ((with_reducible refine gD 2 ?_); refine bxE #[.string a3, .int .i64 a5] 35 ?_; intro a6 hg w6 a2 hb; have GE175 := gE hg; replace HB := hB hb; clear hb hg; have hz7 := cz2 a2))
  go_ret
  exact ⟨eS, bS⟩
def laws_szTokenS.l0 : Nat → List (S35) → Int → Int → Option (Int)
 | 0, _, _, _ => none
 | k + 1, x0, x1, x5 => if x5 < (x0.length : Int) then (if 0 ≤ x5 then ((laws_szToken.f ((rd_T35 x0 x5).f0) ((rd_T35 x0 x5).f1) x1).bind fun a2 => (if a2 < 0 then (some (-1)) else (laws_szTokenS.l0 k x0 a2 (wrap64 (x5 + 1))))) else (none)) else (some x1)
def laws_szTokenS.f (k : Nat) (l0 : List (S35)) (a1 : Int) : Option (Int) := if (wrap64 (a1 - (l0.length : Int))) < 0 then (some (-1)) else (laws_szTokenS.l0 k l0 (wrap64 (a1 - (l0.length : Int))) 0)
theorem laws_szTokenS.calls (k : Nat) (A0 : Option Addr) (c0 : Nat) (l0 : List (S35)) (a1 : Int) (r : Int) (w : World) (hr0 : Kd.C k35 w A0 l0.length l0) (b8 : l0.length ≤ c0) (h : laws_szTokenS.f k l0 a1 = some r) :
  Calls Tryz.prog 14 #[.slice A0 l0.length c0, .int .i64 a1] w fun e w' => e = .returned (.int .i64 r) ∧ Below w.heap.size w w' := by
 have hu35 := Tryz.underlying35
 have b9 := aM hr0
 have d2 := aM b8
 clear hr0 b8
 have HB := aM (Below.refl w.heap.size w)
 have H := h
 clear h
 unfold laws_szTokenS.f at H
 by_cases c3 : (wrap64 (a1 - (l0.length : Int))) < 0
 ·rw [if_pos c3] at H
  have b1 : decide ((wrap64 (a1 - (l0.length : Int))) < 0) = true := decide_eq_true c3
  clear c3
  obtain rfl := Option.some.inj H
  go_enter Tryz.func14, Tryz.ntmps14
  go_wp2
  go_ret
  exact ⟨eS, bS⟩
 ·rw [if_neg c3] at H
  have b1 : decide ((wrap64 (a1 - (l0.length : Int))) < 0) = false := decide_eq_false c3
  clear c3
  have H' := aM H
  clear H
  go_enter Tryz.func14, Tryz.ntmps14
  go_wp2
  go_loopg [1, 5] k (fun kq v1 v5 w' => ∃ (a8 : Int) (a2 : Int), v1 = .int .i64 a8 ∧ v5 = .int .i64 a2 ∧ Aside0 (laws_szTokenS.l0 kq l0 a8 a2 = some r) ∧ Aside0 (kq ≤ k) ∧ Aside0 (Below w.heap.size w w'))
  case atStart => exact ⟨(wrap64 (a1 - (l0.length : Int))), (0), fS, fS, H', ⟨Nat.le_refl _⟩, ⟨bS⟩⟩
  case round =>
   clear H'
   try clear c1
   try clear p2
   try clear c3
   try clear b1
   obtain ⟨a8, a2, rfl, rfl, HA, d0, HB⟩ := hrel
   cases gk with
   | zero => exact absurd HA.out (by simp [laws_szTokenS.l0])
   | succ k1 =>
    have H := HA.out
    clear HA
    simp only [laws_szTokenS.l0] at H
    rcases iD H with ⟨b6, H⟩ | ⟨b6, H⟩
    ·obtain ⟨d1, H⟩ := iT H
     replace H := bN H
     obtain ⟨a9, A6, H⟩ := H
     rcases iD H with ⟨b7, H⟩ | ⟨b7, H⟩
     ·obtain rfl := Option.some.inj H
      have a6 : 0 ≤ (a2 : Int) := dA
      have a7 : a2 < (l0.length : Int) := dA
      obtain ⟨b2, b0, a3, a5⟩ := at_T35 b9.out a2 a6 a7
      cases b0
      replace a3 := cB HB a3
      replace a5 := cB HB a5
      replace a6 := eq_true a6
      replace a7 := eq_true a7
      go_wp2_with (first | ((with_reducible refine gC 6 ?_); refine cM (some 23) Tryz.func6 (laws_szToken.calls ((rd_T35 l0 a2).f0) ((rd_T35 l0 a2).f1) a8 a9 _ A6.out) ?_; rintro e w8 ⟨rfl, hb⟩; refine ⟨_, rfl, ?_⟩; replace HB := hB hb; (try clear hb)))
      go_ret
      exact ⟨eS, bS⟩
     ·have H' := aM H
      clear H
      have a6 : 0 ≤ (a2 : Int) := dA
      have a7 : a2 < (l0.length : Int) := dA
      obtain ⟨b2, b0, a3, a5⟩ := at_T35 b9.out a2 a6 a7
      cases b0
      replace a3 := cB HB a3
      replace a5 := cB HB a5
      replace a6 := eq_true a6
      replace a7 := eq_true a7
      go_wp2_with (first | ((with_reducible refine gC 6 ?_); refine cM (some 23) Tryz.func6 (laws_szToken.calls ((rd_T35 l0 a2).f0) ((rd_T35 l0 a2).f1) a8 a9 _ A6.out) ?_; rintro e w9 ⟨rfl, hb⟩; refine ⟨_, rfl, ?_⟩; replace HB := hB hb; (try clear hb)))
      go_roundg k1
      case measure => have := d0.out; omega
      case rel => exact ⟨(a9), (wrap64 (a2 + 1)), fS, fS, H', ⟨by have := d0.out; omega⟩, ⟨bS⟩⟩
    ·obtain rfl := Option.some.inj H
     go_wp2
     go_ret
     exact ⟨eS, bS⟩
end Go.Proofs.YtjkgponlahfnjaaGreat.QFnExactRunPage
