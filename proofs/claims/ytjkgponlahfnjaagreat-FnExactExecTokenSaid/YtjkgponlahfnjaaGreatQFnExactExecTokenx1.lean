/- Walks of functions of the program, made out of the translation by a program of this session: each answers what its plain function tells, for every input at which that is told. -/
import Derived.Test.YtjkgponlahfnjaaGreatQFnExactExecTokenx0
namespace Go.Proofs.YtjkgponlahfnjaaGreat.QFnExactExecToken
open Go.RowKit Go.Proofs.YtjkgponlahfnjaaGreatW.PrintWords Go.Proofs.YtjkgponlahfnjaaGreatW.PrintLast Go.Proofs.YtjkgponlahfnjaaGreatW.PrintMore
attribute [local go_sem] max2_int min2_int max_two min_two max_three min_three max_four min_four   -- for this text's walks alone
set_option linter.unusedVariables false
set_option linter.unusedSimpArgs false
set_option maxHeartbeats 8000000
set_option maxRecDepth 100000
/-! ### laws_szIntS: function 60 -/
def laws_szIntS.f (l0 : List Int) (a1 : Int) : Option (Int) := if (wrap64 (a1 - (l0.length : Int))) < 0 then (some (-1)) else (some (wrap64 (a1 - (l0.length : Int))))
theorem laws_szIntS.calls (A0 : Option Addr) (c0 : Nat) (l0 : List Int) (a1 : Int) (r : Int) (w : World) (hr0 : Kd.C (Kd.int .i64) w A0 l0.length l0) (a3 : l0.length ≤ c0) (h : laws_szIntS.f l0 a1 = some r) :
  Calls Tryz.prog 60 #[.slice A0 l0.length c0, .int .i64 a1] w fun e w' => e = .returned (.int .i64 r) ∧ Drawn0 w w' := by
 have a5 := aM hr0
 have a6 := aM a3
 clear hr0 a3
 have H := h
 clear h
 unfold laws_szIntS.f at H
 rcases iD H with ⟨a2, H⟩ | ⟨a2, H⟩
 ·obtain rfl := Option.some.inj H
  go_enter Tryz.func60, Tryz.ntmps60
  go_wp2
  go_ret
  exact ⟨fS, dS⟩
 ·obtain rfl := Option.some.inj H
  go_enter Tryz.func60, Tryz.ntmps60
  go_wp2
  go_ret
  exact ⟨fS, dS⟩
def laws_szPointS.f (l0 : List (S142)) (a1 : Int) : Option (Int) := if (wrap64 (a1 - (l0.length : Int))) < 0 then (some (-1)) else (some (wrap64 (a1 - (l0.length : Int))))
theorem laws_szPointS.calls (A0 : Option Addr) (c0 : Nat) (l0 : List (S142)) (a1 : Int) (r : Int) (w : World) (hr0 : Kd.C k142 w A0 l0.length l0) (a3 : l0.length ≤ c0) (h : laws_szPointS.f l0 a1 = some r) :
  Calls Tryz.prog 61 #[.slice A0 l0.length c0, .int .i64 a1] w fun e w' => e = .returned (.int .i64 r) ∧ Drawn0 w w' := by
 have a5 := aM hr0
 have a6 := aM a3
 clear hr0 a3
 have H := h
 clear h
 unfold laws_szPointS.f at H
 rcases iD H with ⟨a2, H⟩ | ⟨a2, H⟩
 ·obtain rfl := Option.some.inj H
  go_enter Tryz.func61, Tryz.ntmps61
  go_wp2
  go_ret
  exact ⟨fS, dS⟩
 ·obtain rfl := Option.some.inj H
  go_enter Tryz.func61, Tryz.ntmps61
  go_wp2
  go_ret
  exact ⟨fS, dS⟩
def laws_szGraphics.f (a5 : List Int) (a8 : Int) (a9 : Int) (b0 : Int) (b1 : Int) (a6 : List (S142)) (b2 : Int) (b6 : Int) (b7 : Int) (b8 : Int) (a7 : Int) (a1 : Int) : Option (Int) := (laws_szIntS.f a5 a1).bind fun a2 => (if a2 < 0 then (some (-1)) else ((laws_szPointS.f a6 a2).bind fun a3 => (if a3 < 0 then (some (-1)) else (some a3))))
theorem laws_szGraphics.lf0 {p : Prop} (h : p := by
 go_enter Tryz.func20, Tryz.ntmps20
 go_wp2_with (first | ((with_reducible refine gD 2 ?_); refine bxE #[.slice a7 a2.length a8, .int .i64 a9, .int .i64 b0, .int .i64 b1, .int .i64 b2, .slice b6 a3.length b7, .int .i64 b8, .int .i64 b9, .int .i64 d0, .int .i64 d1, .int .i64 a5] 29 ?_; intro e2 hg f3 a6 hb; have GE101 := gE hg; replace HB := hB hb; clear hb hg; have e5 := cg0 a6; have e6 := cg5 a6) | ((with_reducible refine gC 60 ?_); refine cM (some 8) Tryz.func60 (laws_szIntS.calls _ _ a2 a1 e1 _ (cC d2 HB) d3.out A3.out) ?_; rintro e w' ⟨rfl, ⟨nd, rfl⟩⟩; refine ⟨_, rfl, ?_⟩) | ((with_reducible refine gC 61 ?_); refine cM (some 14) Tryz.func61 (laws_szPointS.calls _ _ a3 e1 e7 _ (cS (Kd.C_below e3.out bS)) e4.out A7.out) ?_; rintro e w' ⟨rfl, ⟨nd, rfl⟩⟩; refine ⟨_, rfl, ?_⟩))
 go_ret
 exact ⟨eS, bS⟩) : p := h
theorem laws_szGraphics.calls (a7 : Option Addr) (a8 : Nat) (a2 : List Int) (a9 : Int) (b0 : Int) (b1 : Int) (b2 : Int) (b6 : Option Addr) (b7 : Nat) (a3 : List (S142)) (b8 : Int) (b9 : Int) (d0 : Int) (d1 : Int) (a5 : Int) (a1 : Int) (r : Int) (w : World) (d4 : Kd.C (Kd.int .i64) w a7 a2.length a2) (d5 : a2.length ≤ a8) (d6 : Kd.C k142 w b6 a3.length a3) (e0 : a3.length ≤ b7) (h : laws_szGraphics.f a2 a9 b0 b1 b2 a3 b8 b9 d0 d1 a5 a1 = some r) :
  Calls Tryz.prog 20 #[.agg #[.slice a7 a2.length a8, .int .i64 a9, .int .i64 b0, .int .i64 b1, .int .i64 b2, .slice b6 a3.length b7, .int .i64 b8, .int .i64 b9, .int .i64 d0, .int .i64 d1, .int .i64 a5], .int .i64 a1] w fun e w' => e = .returned (.int .i64 r) ∧ Below w.heap.size w w' := by
 have hu29 := Tryz.underlying29
 have d2 := aM d4
 have d3 := aM d5
 clear d4 d5
 have e3 := aM d6
 have e4 := aM e0
 clear d6 e0
 have HB := aM (Below.refl w.heap.size w)
 have H := h
 clear h
 unfold laws_szGraphics.f at H
 replace H := bN H
 obtain ⟨e1, A3, H⟩ := H
 rcases iD H with ⟨e8, H⟩ | ⟨e8, H⟩
 ·obtain rfl := Option.some.inj H
  go_enter Tryz.func20, Tryz.ntmps20
  go_wp2_with (first | ((with_reducible refine gD 2 ?_); refine bxE #[.slice a7 a2.length a8, .int .i64 a9, .int .i64 b0, .int .i64 b1, .int .i64 b2, .slice b6 a3.length b7, .int .i64 b8, .int .i64 b9, .int .i64 d0, .int .i64 d1, .int .i64 a5] 29 ?_; intro e2 hg w5 a6 hb; have GE101 := gE hg; replace HB := hB hb; clear hb hg; have e9 := cg0 a6) | ((with_reducible refine gC 60 ?_); refine cM (some 8) Tryz.func60 (laws_szIntS.calls _ _ a2 a1 e1 _ (cC d2 HB) d3.out A3.out) ?_; rintro e w' ⟨rfl, ⟨nd, rfl⟩⟩; refine ⟨_, rfl, ?_⟩))
  go_ret
  exact ⟨eS, bS⟩
 ·replace H := bN H
  obtain ⟨e7, A7, H⟩ := H
  rcases iD H with ⟨f0, H⟩ | ⟨f0, H⟩
  ·obtain rfl := Option.some.inj H
   exact laws_szGraphics.lf0
  ·obtain rfl := Option.some.inj H
   exact laws_szGraphics.lf0
def laws_szGraphicsS.l0 : Nat → List (S29) → Int → Int → Option (Int)
 | 0, _, _, _ => none
 | k + 1, x0, x1, x5 => if x5 < (x0.length : Int) then (if 0 ≤ x5 then ((laws_szGraphics.f ((rd_T29 x0 x5).f0) ((rd_T29 x0 x5).f1.f0) ((rd_T29 x0 x5).f1.f1) ((rd_T29 x0 x5).f1.f2) ((rd_T29 x0 x5).f1.f3) ((rd_T29 x0 x5).f2) ((rd_T29 x0 x5).f3) ((rd_T29 x0 x5).f4.f0) ((rd_T29 x0 x5).f4.f1) ((rd_T29 x0 x5).f4.f2) ((rd_T29 x0 x5).f4.f3) x1).bind fun a2 => (if a2 < 0 then (some (-1)) else (laws_szGraphicsS.l0 k x0 a2 (wrap64 (x5 + 1))))) else (none)) else (some x1)
def laws_szGraphicsS.f (k : Nat) (l0 : List (S29)) (a1 : Int) : Option (Int) := if (wrap64 (a1 - (l0.length : Int))) < 0 then (some (-1)) else (laws_szGraphicsS.l0 k l0 (wrap64 (a1 - (l0.length : Int))) 0)
theorem laws_szGraphicsS.calls (k : Nat) (A0 : Option Addr) (c0 : Nat) (l0 : List (S29)) (a1 : Int) (r : Int) (w : World) (hr0 : Kd.C k29 w A0 l0.length l0) (e8 : l0.length ≤ c0) (h : laws_szGraphicsS.f k l0 a1 = some r) :
  Calls Tryz.prog 21 #[.slice A0 l0.length c0, .int .i64 a1] w fun e w' => e = .returned (.int .i64 r) ∧ Below w.heap.size w w' := by
 have hu29 := Tryz.underlying29
 have e9 := aM hr0
 have f7 := aM e8
 clear hr0 e8
 have HB := aM (Below.refl w.heap.size w)
 have H := h
 clear h
 unfold laws_szGraphicsS.f at H
 by_cases c3 : (wrap64 (a1 - (l0.length : Int))) < 0
 ·rw [if_pos c3] at H
  have e4 : decide ((wrap64 (a1 - (l0.length : Int))) < 0) = true := decide_eq_true c3
  clear c3
  obtain rfl := Option.some.inj H
  go_enter Tryz.func21, Tryz.ntmps21
  go_wp2
  go_ret
  exact ⟨eS, bS⟩
 ·rw [if_neg c3] at H
  have e4 : decide ((wrap64 (a1 - (l0.length : Int))) < 0) = false := decide_eq_false c3
  clear c3
  have H' := aM H
  clear H
  go_enter Tryz.func21, Tryz.ntmps21
  go_wp2
  go_loopg [1, 5] k (fun kq v1 v5 w' => ∃ (d4 : Int) (a2 : Int), v1 = .int .i64 d4 ∧ v5 = .int .i64 a2 ∧ Aside0 (laws_szGraphicsS.l0 kq l0 d4 a2 = some r) ∧ Aside0 (kq ≤ k) ∧ Aside0 (Below w.heap.size w w'))
  case atStart => exact ⟨(wrap64 (a1 - (l0.length : Int))), (0), fS, fS, H', ⟨Nat.le_refl _⟩, ⟨bS⟩⟩
  case round =>
   clear H'
   try clear c2
   try clear p2
   try clear c3
   try clear e4
   obtain ⟨d4, a2, rfl, rfl, HA, f5, HB⟩ := hrel
   cases gk with
   | zero => exact absurd HA.out (by simp [laws_szGraphicsS.l0])
   | succ k1 =>
    have H := HA.out
    clear HA
    simp only [laws_szGraphicsS.l0] at H
    rcases iD H with ⟨e6, H⟩ | ⟨e6, H⟩
    ·obtain ⟨f6, H⟩ := iT H
     replace H := bN H
     obtain ⟨d5, A6, H⟩ := H
     rcases iD H with ⟨e7, H⟩ | ⟨e7, H⟩
     ·obtain rfl := Option.some.inj H
      have d2 : 0 ≤ (a2 : Int) := dA
      have d3 : a2 < (l0.length : Int) := dA
      obtain ⟨e5, d6, e0, e1, e2, e3, a5, a6, a7, a8, a9, b0, b1, b2, b6, b7, a3, hl104_0, hi104_0, hl104_5, hi104_5⟩ := at_T29 e9.out a2 d2 d3
      cases e3
      replace a5 := cB HB a5
      replace a6 := cB HB a6
      replace a7 := cB HB a7
      replace a8 := cB HB a8
      replace a9 := cB HB a9
      replace b0 := cB HB b0
      replace b1 := cB HB b1
      replace b2 := cB HB b2
      replace b6 := cB HB b6
      replace b7 := cB HB b7
      replace a3 := cB HB a3
      have b8 := aM hi104_0
      have b9 := aM hl104_0
      clear hi104_0 hl104_0
      have d0 := aM hi104_5
      have d1 := aM hl104_5
      clear hi104_5 hl104_5
      replace d2 := eq_true d2
      replace d3 := eq_true d3
      go_wp2_with (first | ((with_reducible refine gC 20 ?_); refine cM (some 23) Tryz.func20 (laws_szGraphics.calls _ _ ((rd_T29 l0 a2).f0) ((rd_T29 l0 a2).f1.f0) ((rd_T29 l0 a2).f1.f1) ((rd_T29 l0 a2).f1.f2) ((rd_T29 l0 a2).f1.f3) _ _ ((rd_T29 l0 a2).f2) ((rd_T29 l0 a2).f3) ((rd_T29 l0 a2).f4.f0) ((rd_T29 l0 a2).f4.f1) ((rd_T29 l0 a2).f4.f2) ((rd_T29 l0 a2).f4.f3) d4 d5 _ (cC b8 HB) b9.out (cC d0 HB) d1.out A6.out) ?_; rintro e w8 ⟨rfl, hb⟩; refine ⟨_, rfl, ?_⟩; replace HB := hB hb; (try clear hb)))
      go_ret
      exact ⟨eS, bS⟩
     ·have H' := aM H
      clear H
      have d2 : 0 ≤ (a2 : Int) := dA
      have d3 : a2 < (l0.length : Int) := dA
      obtain ⟨e5, d6, e0, e1, e2, e3, a5, a6, a7, a8, a9, b0, b1, b2, b6, b7, a3, hl104_0, hi104_0, hl104_5, hi104_5⟩ := at_T29 e9.out a2 d2 d3
      cases e3
      replace a5 := cB HB a5
      replace a6 := cB HB a6
      replace a7 := cB HB a7
      replace a8 := cB HB a8
      replace a9 := cB HB a9
      replace b0 := cB HB b0
      replace b1 := cB HB b1
      replace b2 := cB HB b2
      replace b6 := cB HB b6
      replace b7 := cB HB b7
      replace a3 := cB HB a3
      have b8 := aM hi104_0
      have b9 := aM hl104_0
      clear hi104_0 hl104_0
      have d0 := aM hi104_5
      have d1 := aM hl104_5
      clear hi104_5 hl104_5
      replace d2 := eq_true d2
      replace d3 := eq_true d3
      go_wp2_with (first | ((with_reducible refine gC 20 ?_); refine cM (some 23) Tryz.func20 (laws_szGraphics.calls _ _ ((rd_T29 l0 a2).f0) ((rd_T29 l0 a2).f1.f0) ((rd_T29 l0 a2).f1.f1) ((rd_T29 l0 a2).f1.f2) ((rd_T29 l0 a2).f1.f3) _ _ ((rd_T29 l0 a2).f2) ((rd_T29 l0 a2).f3) ((rd_T29 l0 a2).f4.f0) ((rd_T29 l0 a2).f4.f1) ((rd_T29 l0 a2).f4.f2) ((rd_T29 l0 a2).f4.f3) d4 d5 _ (cC b8 HB) b9.out (cC d0 HB) d1.out A6.out) ?_; rintro e w9 ⟨rfl, hb⟩; refine ⟨_, rfl, ?_⟩; replace HB := hB hb; (try clear hb)))
      go_roundg k1
      case measure => have := f5.out; omega
      case rel => exact ⟨(d5), (wrap64 (a2 + 1)), fS, fS, H', ⟨by have := f5.out; omega⟩, ⟨bS⟩⟩
    ·obtain rfl := Option.some.inj H
     go_wp2
     go_ret
     exact ⟨eS, bS⟩
def laws_szObject.f (a3 : List (S142)) (a5 : Int) (a6 : Int) (a7 : Int) (a8 : Int) (a9 : Int) (a1 : Int) : Option (Int) := (laws_szPointS.f a3 a1).bind fun a2 => (if a2 < 0 then (some (-1)) else (some a2))
theorem laws_szObject.lf0 {p : Prop} (h : p := by
 go_enter Tryz.func62, Tryz.ntmps62
 go_wp2_with (first | ((with_reducible refine gD 2 ?_); refine bxE #[.slice a6 a2.length a7, .int .i64 a8, .int .i64 a9, .int .i64 b0, .int .i64 b1, .int .i64 b2] 99 ?_; intro d2 hg w5 b6 hb; have GE106 := gE hg; replace HB := hB hb; clear hb hg; have b9 := cg0 b6) | ((with_reducible refine gC 61 ?_); refine cM (some 8) Tryz.func61 (laws_szPointS.calls _ _ a2 a1 d0 _ (cC b7 HB) b8.out A3.out) ?_; rintro e w' ⟨rfl, ⟨nd, rfl⟩⟩; refine ⟨_, rfl, ?_⟩))
 go_ret
 exact ⟨eS, bS⟩) : p := h
theorem laws_szObject.calls (a6 : Option Addr) (a7 : Nat) (a2 : List (S142)) (a8 : Int) (a9 : Int) (b0 : Int) (b1 : Int) (b2 : Int) (a1 : Int) (r : Int) (w : World) (a3 : Kd.C k142 w a6 a2.length a2) (a5 : a2.length ≤ a7) (h : laws_szObject.f a2 a8 a9 b0 b1 b2 a1 = some r) :
  Calls Tryz.prog 62 #[.agg #[.slice a6 a2.length a7, .int .i64 a8, .int .i64 a9, .int .i64 b0, .int .i64 b1, .int .i64 b2], .int .i64 a1] w fun e w' => e = .returned (.int .i64 r) ∧ Below w.heap.size w w' := by
 have hu99 := Tryz.underlying99
 have b7 := aM a3
 have b8 := aM a5
 clear a3 a5
 have HB := aM (Below.refl w.heap.size w)
 have H := h
 clear h
 unfold laws_szObject.f at H
 replace H := bN H
 obtain ⟨d0, A3, H⟩ := H
 rcases iD H with ⟨d1, H⟩ | ⟨d1, H⟩
 ·obtain rfl := Option.some.inj H
  exact laws_szObject.lf0
 ·obtain rfl := Option.some.inj H
  exact laws_szObject.lf0
def laws_szObjectS.l0 : Nat → List (S99) → Int → Int → Option (Int)
 | 0, _, _, _ => none
 | k + 1, x0, x1, x5 => if x5 < (x0.length : Int) then (if 0 ≤ x5 then ((laws_szObject.f ((rd_T99 x0 x5).f0) ((rd_T99 x0 x5).f1) ((rd_T99 x0 x5).f2.f0) ((rd_T99 x0 x5).f2.f1) ((rd_T99 x0 x5).f2.f2) ((rd_T99 x0 x5).f2.f3) x1).bind fun a2 => (if a2 < 0 then (some (-1)) else (laws_szObjectS.l0 k x0 a2 (wrap64 (x5 + 1))))) else (none)) else (some x1)
def laws_szObjectS.f (k : Nat) (l0 : List (S99)) (a1 : Int) : Option (Int) := if (wrap64 (a1 - (l0.length : Int))) < 0 then (some (-1)) else (laws_szObjectS.l0 k l0 (wrap64 (a1 - (l0.length : Int))) 0)
theorem laws_szObjectS.calls (k : Nat) (A0 : Option Addr) (c0 : Nat) (l0 : List (S99)) (a1 : Int) (r : Int) (w : World) (hr0 : Kd.C k99 w A0 l0.length l0) (d6 : l0.length ≤ c0) (h : laws_szObjectS.f k l0 a1 = some r) :
  Calls Tryz.prog 22 #[.slice A0 l0.length c0, .int .i64 a1] w fun e w' => e = .returned (.int .i64 r) ∧ Below w.heap.size w w' := by
 have hu99 := Tryz.underlying99
 have e0 := aM hr0
 have e3 := aM d6
 clear hr0 d6
 have HB := aM (Below.refl w.heap.size w)
 have H := h
 clear h
 unfold laws_szObjectS.f at H
 by_cases c3 : (wrap64 (a1 - (l0.length : Int))) < 0
 ·rw [if_pos c3] at H
  have d2 : decide ((wrap64 (a1 - (l0.length : Int))) < 0) = true := decide_eq_true c3
  clear c3
  obtain rfl := Option.some.inj H
  go_enter Tryz.func22, Tryz.ntmps22
  go_wp2
  go_ret
  exact ⟨eS, bS⟩
 ·rw [if_neg c3] at H
  have d2 : decide ((wrap64 (a1 - (l0.length : Int))) < 0) = false := decide_eq_false c3
  clear c3
  have H' := aM H
  clear H
  go_enter Tryz.func22, Tryz.ntmps22
  go_wp2
  go_loopg [1, 5] k (fun kq v1 v5 w' => ∃ (b7 : Int) (a2 : Int), v1 = .int .i64 b7 ∧ v5 = .int .i64 a2 ∧ Aside0 (laws_szObjectS.l0 kq l0 b7 a2 = some r) ∧ Aside0 (kq ≤ k) ∧ Aside0 (Below w.heap.size w w'))
  case atStart => exact ⟨(wrap64 (a1 - (l0.length : Int))), (0), fS, fS, H', ⟨Nat.le_refl _⟩, ⟨bS⟩⟩
  case round =>
   clear H'
   try clear c2
   try clear p2
   try clear c3
   try clear d2
   obtain ⟨b7, a2, rfl, rfl, HA, e1, HB⟩ := hrel
   cases gk with
   | zero => exact absurd HA.out (by simp [laws_szObjectS.l0])
   | succ k1 =>
    have H := HA.out
    clear HA
    simp only [laws_szObjectS.l0] at H
    rcases iD H with ⟨d4, H⟩ | ⟨d4, H⟩
    ·obtain ⟨e2, H⟩ := iT H
     replace H := bN H
     obtain ⟨b8, A6, H⟩ := H
     rcases iD H with ⟨d5, H⟩ | ⟨d5, H⟩
     ·obtain rfl := Option.some.inj H
      have b2 : 0 ≤ (a2 : Int) := dA
      have b6 : a2 < (l0.length : Int) := dA
      obtain ⟨d3, b9, d0, d1, a3, a5, a6, a7, a8, a9, hl108_0, hi108_0⟩ := at_T99 e0.out a2 b2 b6
      cases d1
      replace a3 := cB HB a3
      replace a5 := cB HB a5
      replace a6 := cB HB a6
      replace a7 := cB HB a7
      replace a8 := cB HB a8
      replace a9 := cB HB a9
      have b0 := aM hi108_0
      have b1 := aM hl108_0
      clear hi108_0 hl108_0
      replace b2 := eq_true b2
      replace b6 := eq_true b6
      go_wp2_with (first | ((with_reducible refine gC 62 ?_); refine cM (some 23) Tryz.func62 (laws_szObject.calls _ _ ((rd_T99 l0 a2).f0) ((rd_T99 l0 a2).f1) ((rd_T99 l0 a2).f2.f0) ((rd_T99 l0 a2).f2.f1) ((rd_T99 l0 a2).f2.f2) ((rd_T99 l0 a2).f2.f3) b7 b8 _ (cC b0 HB) b1.out A6.out) ?_; rintro e w8 ⟨rfl, hb⟩; refine ⟨_, rfl, ?_⟩; replace HB := hB hb; (try clear hb)))
      go_ret
      exact ⟨eS, bS⟩
     ·have H' := aM H
      clear H
      have b2 : 0 ≤ (a2 : Int) := dA
      have b6 : a2 < (l0.length : Int) := dA
      obtain ⟨d3, b9, d0, d1, a3, a5, a6, a7, a8, a9, hl108_0, hi108_0⟩ := at_T99 e0.out a2 b2 b6
      cases d1
      replace a3 := cB HB a3
      replace a5 := cB HB a5
      replace a6 := cB HB a6
      replace a7 := cB HB a7
      replace a8 := cB HB a8
      replace a9 := cB HB a9
      have b0 := aM hi108_0
      have b1 := aM hl108_0
      clear hi108_0 hl108_0
      replace b2 := eq_true b2
      replace b6 := eq_true b6
      go_wp2_with (first | ((with_reducible refine gC 62 ?_); refine cM (some 23) Tryz.func62 (laws_szObject.calls _ _ ((rd_T99 l0 a2).f0) ((rd_T99 l0 a2).f1) ((rd_T99 l0 a2).f2.f0) ((rd_T99 l0 a2).f2.f1) ((rd_T99 l0 a2).f2.f2) ((rd_T99 l0 a2).f2.f3) b7 b8 _ (cC b0 HB) b1.out A6.out) ?_; rintro e w9 ⟨rfl, hb⟩; refine ⟨_, rfl, ?_⟩; replace HB := hB hb; (try clear hb)))
      go_roundg k1
      case measure => have := e1.out; omega
      case rel => exact ⟨(b8), (wrap64 (a2 + 1)), fS, fS, H', ⟨by have := e1.out; omega⟩, ⟨bS⟩⟩
    ·obtain rfl := Option.some.inj H
     go_wp2
     go_ret
     exact ⟨eS, bS⟩
def laws_szPage.f (k : Nat) (a9 : List Int) (b0 : Int) (b1 : Int) (b2 : Int) (b6 : Int) (b7 : List (S142)) (b8 : Int) (b9 : Int) (d0 : Int) (d1 : Int) (a2 : Int) (a3 : List (S29)) (a5 : List (S99)) (a1 : Int) : Option (Int) := (laws_szGraphics.f a9 b0 b1 b2 b6 b7 b8 b9 d0 d1 a2 a1).bind fun a6 => (if a6 < 0 then (some (-1)) else ((laws_szGraphicsS.f k a3 a6).bind fun a7 => (if a7 < 0 then (some (-1)) else ((laws_szObjectS.f k a5 a7).bind fun a8 => (if a8 < 0 then (some (-1)) else (some a8))))))
theorem laws_szPage.lf0 {p : Prop} (h : p := by
 go_enter Tryz.func5, Tryz.ntmps5
 go_wp2_with (first | ((with_reducible refine gD 2 ?_); refine bxE #[.slice d5 a8.length d6, .int .i64 b0, .int .i64 b1, .int .i64 b2, .int .i64 b6, .slice e0 a9.length e1, .int .i64 b7, .int .i64 b8, .int .i64 b9, .int .i64 d0, .int .i64 a6, .slice d1 a3.length d2, .slice d3 a5.length d4] 33 ?_; intro a7 hg h1 a2 hb; have GE110 := gE hg; replace HB := hB hb; clear hb hg; have hz18 := cz13 a2) | ((with_reducible refine gC 20 ?_); refine cM (some 8) Tryz.func20 (laws_szGraphics.calls _ _ a8 b0 b1 b2 b6 _ _ a9 b7 b8 b9 d0 a6 a1 e2 _ (cC e3 HB) e4.out (cC e5 HB) e6.out A3.out) ?_; rintro e h2 ⟨rfl, hb⟩; refine ⟨_, rfl, ?_⟩; replace a2 := kB_ a7 hb; replace HB := hB hb; (try clear hb); have g2 := cg11 a2; have g3 := cg12 a2) | ((with_reducible refine gC 21 ?_); refine cM (some 14) Tryz.func21 (laws_szGraphicsS.calls k _ _ a3 e2 f9 _ (cC e7 HB) e8.out A8.out) ?_; rintro e h3 ⟨rfl, hb⟩; refine ⟨_, rfl, ?_⟩; replace a2 := kB_ a7 hb; replace HB := hB hb; (try clear hb); have g4 := cg12 a2) | ((with_reducible refine gC 22 ?_); refine cM (some 20) Tryz.func22 (laws_szObjectS.calls k _ _ a5 f9 g7 _ (cC g0 HB) g1.out h0.out) ?_; rintro e h4 ⟨rfl, hb⟩; refine ⟨_, rfl, ?_⟩; replace a2 := kB_ a7 hb; replace HB := hB hb; (try clear hb)))
 go_ret
 exact ⟨eS, bS⟩) : p := h
theorem laws_szPage.calls (k : Nat) (d5 : Option Addr) (d6 : Nat) (a8 : List Int) (b0 : Int) (b1 : Int) (b2 : Int) (b6 : Int) (e0 : Option Addr) (e1 : Nat) (a9 : List (S142)) (b7 : Int) (b8 : Int) (b9 : Int) (d0 : Int) (a6 : Int) (d1 : Option Addr) (d2 : Nat) (a3 : List (S29)) (d3 : Option Addr) (d4 : Nat) (a5 : List (S99)) (a1 : Int) (r : Int) (w : World) (f5 : Kd.C (Kd.int .i64) w d5 a8.length a8) (f6 : a8.length ≤ d6) (f7 : Kd.C k142 w e0 a9.length a9) (f8 : a9.length ≤ e1) (e9 : Kd.C k29 w d1 a3.length a3) (f0 : a3.length ≤ d2) (f3 : Kd.C k99 w d3 a5.length a5) (f4 : a5.length ≤ d4) (h : laws_szPage.f k a8 b0 b1 b2 b6 a9 b7 b8 b9 d0 a6 a3 a5 a1 = some r) :
  Calls Tryz.prog 5 #[.agg #[.slice d5 a8.length d6, .int .i64 b0, .int .i64 b1, .int .i64 b2, .int .i64 b6, .slice e0 a9.length e1, .int .i64 b7, .int .i64 b8, .int .i64 b9, .int .i64 d0, .int .i64 a6, .slice d1 a3.length d2, .slice d3 a5.length d4], .int .i64 a1] w fun e w' => e = .returned (.int .i64 r) ∧ Below w.heap.size w w' := by
 have hu33 := Tryz.underlying33
 have hu29 := Tryz.underlying29
 have e3 := aM f5
 have e4 := aM f6
 clear f5 f6
 have e5 := aM f7
 have e6 := aM f8
 clear f7 f8
 have e7 := aM e9
 have e8 := aM f0
 clear e9 f0
 have g0 := aM f3
 have g1 := aM f4
 clear f3 f4
 have HB := aM (Below.refl w.heap.size w)
 have H := h
 clear h
 unfold laws_szPage.f at H
 replace H := bN H
 obtain ⟨e2, A3, H⟩ := H
 rcases iD H with ⟨g8, H⟩ | ⟨g8, H⟩
 ·obtain rfl := Option.some.inj H
  go_enter Tryz.func5, Tryz.ntmps5
  go_wp2_with (first | ((with_reducible refine gD 2 ?_); refine bxE #[.slice d5 a8.length d6, .int .i64 b0, .int .i64 b1, .int .i64 b2, .int .i64 b6, .slice e0 a9.length e1, .int .i64 b7, .int .i64 b8, .int .i64 b9, .int .i64 d0, .int .i64 a6, .slice d1 a3.length d2, .slice d3 a5.length d4] 33 ?_; intro a7 hg w5 a2 hb; have GE110 := gE hg; replace HB := hB hb; clear hb hg; have hz6 := cz13 a2) | ((with_reducible refine gC 20 ?_); refine cM (some 8) Tryz.func20 (laws_szGraphics.calls _ _ a8 b0 b1 b2 b6 _ _ a9 b7 b8 b9 d0 a6 a1 e2 _ (cC e3 HB) e4.out (cC e5 HB) e6.out A3.out) ?_; rintro e w7 ⟨rfl, hb⟩; refine ⟨_, rfl, ?_⟩; replace a2 := kB_ a7 hb; replace HB := hB hb; (try clear hb)))
  go_ret
  exact ⟨eS, bS⟩
 ·replace H := bN H
  obtain ⟨f9, A8, H⟩ := H
  rcases iD H with ⟨g9, H⟩ | ⟨g9, H⟩
  ·obtain rfl := Option.some.inj H
   go_enter Tryz.func5, Tryz.ntmps5
   go_wp2_with (first | ((with_reducible refine gD 2 ?_); refine bxE #[.slice d5 a8.length d6, .int .i64 b0, .int .i64 b1, .int .i64 b2, .int .i64 b6, .slice e0 a9.length e1, .int .i64 b7, .int .i64 b8, .int .i64 b9, .int .i64 d0, .int .i64 a6, .slice d1 a3.length d2, .slice d3 a5.length d4] 33 ?_; intro a7 hg h5 a2 hb; have GE110 := gE hg; replace HB := hB hb; clear hb hg; have hz11 := cz13 a2) | ((with_reducible refine gC 20 ?_); refine cM (some 8) Tryz.func20 (laws_szGraphics.calls _ _ a8 b0 b1 b2 b6 _ _ a9 b7 b8 b9 d0 a6 a1 e2 _ (cC e3 HB) e4.out (cC e5 HB) e6.out A3.out) ?_; rintro e h6 ⟨rfl, hb⟩; refine ⟨_, rfl, ?_⟩; replace a2 := kB_ a7 hb; replace HB := hB hb; (try clear hb); have g5 := cg11 a2) | ((with_reducible refine gC 21 ?_); refine cM (some 14) Tryz.func21 (laws_szGraphicsS.calls k _ _ a3 e2 f9 _ (cC e7 HB) e8.out A8.out) ?_; rintro e h7 ⟨rfl, hb⟩; refine ⟨_, rfl, ?_⟩; replace a2 := kB_ a7 hb; replace HB := hB hb; (try clear hb)))
   go_ret
   exact ⟨eS, bS⟩
  ·replace H := bN H
   obtain ⟨g7, h0, H⟩ := H
   rcases iD H with ⟨g6, H⟩ | ⟨g6, H⟩
   ·obtain rfl := Option.some.inj H
    exact laws_szPage.lf0
   ·obtain rfl := Option.some.inj H
    exact laws_szPage.lf0
def laws_szToken.f (a2 : ByteArray) (a3 : Int) (a1 : Int) : Option (Int) := if (wrap64 (a1 - (a2.size : Int))) < 0 then (some (-1)) else (some (wrap64 (a1 - (a2.size : Int))))
theorem laws_szToken.calls (a3 : ByteArray) (a5 : Int) (a1 : Int) (r : Int) (w : World) (h : laws_szToken.f a3 a5 a1 = some r) :
  Calls Tryz.prog 6 #[.agg #[.string a3, .int .i64 a5], .int .i64 a1] w fun e w' => e = .returned (.int .i64 r) ∧ Below w.heap.size w w' := by
 have hu35 := Tryz.underlying35
 have HB := aM (Below.refl w.heap.size w)
 have H := h
 clear h
 unfold laws_szToken.f at H
 rcases iD H with ⟨a7, H⟩ | ⟨a7, H⟩
 ·obtain rfl := Option.some.inj H
  go_enter Tryz.func6, Tryz.ntmps6
  go_wp2_with (first | ((with_reducible refine gD 2 ?_); refine bxE #[.string a3, .int .i64 a5] 35 ?_; intro a6 hg w4 a2 hb; have GE114 := gE hg; replace HB := hB hb; clear hb hg; have hz5 := cz2 a2))
  go_ret
  exact ⟨eS, bS⟩
 ·obtain rfl := Option.some.inj H
  go_enter Tryz.func6, Tryz.ntmps6
  go_wp2_with (first | ((with_reducible refine gD 2 ?_); refine bxE #[.string a3, .int .i64 a5] 35 ?_; intro a6 hg w6 a2 hb; have GE114 := gE hg; replace HB := hB hb; clear hb hg; have hz7 := cz2 a2))
  go_ret
  exact ⟨eS, bS⟩
def spec_l01In.f (a0 : Int) (a1 : Int) (a2 : Int) : Option (Bool) := if a0 ≥ a1 then (some (decide (a0 ≤ a2))) else (some false)
theorem spec_l01In.calls (a0 : Int) (a1 : Int) (a2 : Int) (r : Bool) (w : World) (h : spec_l01In.f a0 a1 a2 = some r) :
  Calls Tryz.prog 65 #[.int .i64 a0, .int .i64 a1, .int .i64 a2] w fun e w' => e = .returned (.bool r) ∧ Drawn0 w w' := by
 have H := h
 clear h
 unfold spec_l01In.f at H
 by_cases c4 : a0 ≥ a1
 ·rw [if_pos c4] at H
  have a3 : decide (a1 ≤ a0) = true := decide_eq_true c4
  clear c4
  obtain rfl := Option.some.inj H
  go_enter Tryz.func65, Tryz.ntmps65
  go_wp2
  go_ret
  exact ⟨fS, dS⟩
 ·rw [if_neg c4] at H
  have a3 : decide (a1 ≤ a0) = false := decide_eq_false c4
  clear c4
  obtain rfl := Option.some.inj H
  go_enter Tryz.func65, Tryz.ntmps65
  go_wp2
  go_ret
  exact ⟨fS, dS⟩
def spec_StackOk.l0 : Nat → List Int → Int → Option (Bool)
 | 0, _, _ => none
 | k + 1, x0, x3 => if x3 < (x0.length : Int) then (if 0 ≤ x3 then ((spec_l01In.f (rd x0 x3) (-9999) 9999).bind fun a2 => (if a2 = true then (spec_StackOk.l0 k x0 (wrap64 (x3 + 1))) else (some false))) else (none)) else (some (decide ((x0.length : Int) ≤ 12)))
def spec_StackOk.f (k : Nat) (l0 : List Int) : Option (Bool) := spec_StackOk.l0 k l0 0
theorem spec_StackOk.calls (k : Nat) (A0 : Option Addr) (c0 : Nat) (l0 : List Int) (r : Bool) (w : World) (hr0 : Kd.C (Kd.int .i64) w A0 l0.length l0) (b1 : l0.length ≤ c0) (h : spec_StackOk.f k l0 = some r) :
  Calls Tryz.prog 70 #[.slice A0 l0.length c0] w fun e w' => e = .returned (.bool r) ∧ Drawn0 w w' := by
 have b2 := aM hr0
 have b8 := aM b1
 clear hr0 b1
 have H := h
 clear h
 unfold spec_StackOk.f at H
 have H' := aM H
 clear H
 go_enter Tryz.func70, Tryz.ntmps70
 go_wp2
 go_loopg [3] k (fun kq v3 w' => ∃ (a2 : Int), v3 = .int .i64 a2 ∧ Aside0 (spec_StackOk.l0 kq l0 a2 = some r) ∧ Aside0 (kq ≤ k) ∧ Drawn0 w w')
 case atStart => exact ⟨(0), fS, H', ⟨Nat.le_refl _⟩, dS⟩
 case round =>
  clear H'
  obtain ⟨a2, rfl, HA, b6, ⟨m1, rfl⟩⟩ := hrel
  cases gk with
  | zero => exact absurd HA.out (by simp [spec_StackOk.l0])
  | succ k1 =>
   have H := HA.out
   clear HA
   simp only [spec_StackOk.l0] at H
   rcases iD H with ⟨a9, H⟩ | ⟨a9, H⟩
   ·obtain ⟨b7, H⟩ := iT H
    replace H := bN H
    obtain ⟨b0, A4, H⟩ := H
    by_cases c5 : b0 = true
    ·subst c5
     rw [if_pos rfl] at H
     have H' := aM H
     clear H
     have a3 : 0 ≤ (a2 : Int) := dA
     have a5 : a2 < (l0.length : Int) := dA
     obtain ⟨a8, a7, a6⟩ := Kd.at_int b2.out a2 a3 a5
     cases a7
     replace a3 := eq_true a3
     replace a5 := eq_true a5
     go_wp2_with (first | ((with_reducible refine gC 65 ?_); refine cM (some 14) Tryz.func65 (spec_l01In.calls (rd l0 a2) (-9999) 9999 _ _ A4.out) ?_; rintro e w' ⟨rfl, ⟨nd, rfl⟩⟩; refine ⟨_, rfl, ?_⟩))
     go_roundg k1
     case measure => have := b6.out; omega
     case rel => exact ⟨(wrap64 (a2 + 1)), fS, H', ⟨by have := b6.out; omega⟩, dS⟩
    ·obtain rfl := Bool.eq_false_iff.mpr c5
     rw [if_neg nF] at H
     obtain rfl := Option.some.inj H
     have a3 : 0 ≤ (a2 : Int) := dA
     have a5 : a2 < (l0.length : Int) := dA
     obtain ⟨a8, a7, a6⟩ := Kd.at_int b2.out a2 a3 a5
     cases a7
     replace a3 := eq_true a3
     replace a5 := eq_true a5
     go_wp2_with (first | ((with_reducible refine gC 65 ?_); refine cM (some 14) Tryz.func65 (spec_l01In.calls (rd l0 a2) (-9999) 9999 _ _ A4.out) ?_; rintro e w' ⟨rfl, ⟨nd, rfl⟩⟩; refine ⟨_, rfl, ?_⟩))
     go_ret
     exact ⟨fS, dS⟩
   ·obtain rfl := Option.some.inj H
    go_wp2
    go_ret
    exact ⟨fS, dS⟩
def spec_l02In.f (a0 : Int) : Option (Bool) := (spec_l01In.f a0 (-200) 200).bind fun a2 => (some a2)
theorem spec_l02In.calls (a0 : Int) (r : Bool) (w : World) (h : spec_l02In.f a0 = some r) :
  Calls Tryz.prog 125 #[.int .i64 a0] w fun e w' => e = .returned (.bool r) ∧ Drawn0 w w' := by
 have H := h
 clear h
 unfold spec_l02In.f at H
 replace H := bN H
 obtain ⟨a2, A2, H⟩ := H
 obtain rfl := Option.some.inj H
 go_enter Tryz.func125, Tryz.ntmps125
 go_wp2_with (first | ((with_reducible refine gC 65 ?_); refine cM (some 4) Tryz.func65 (spec_l01In.calls a0 (-200) 200 a2 _ A2.out) ?_; rintro e w' ⟨rfl, ⟨nd, rfl⟩⟩; refine ⟨_, rfl, ?_⟩))
 go_ret
 exact ⟨fS, dS⟩
def spec_TurnOk.f (a2 : Int) (a3 : Int) (a5 : Int) (a6 : Int) : Option (Bool) := (spec_l01In.f a2 0 3).bind fun a7 => (if a7 = true then ((spec_l01In.f a3 1 4).bind fun a8 => (if a8 = true then ((spec_l02In.f a5).bind fun a9 => (if a9 = true then ((spec_l02In.f a6).bind fun b0 => (some b0)) else (some false))) else (some false))) else (some false))
theorem spec_TurnOk.lf0 {p : Prop} (h : p := by
 go_enter Tryz.func110, Tryz.ntmps110
 go_wp2_with (first | ((with_reducible refine gD 1 ?_); refine bxE #[.int .i64 a2, .int .i64 a3, .int .i64 a5, .int .i64 a6] 38 ?_; intro b2 hg w9 a7 hb; have GE118 := gE hg; replace HB := hB hb; clear hb hg; have hz10 := cz4 a7) | ((with_reducible refine gC 65 ?_); refine cM (some 5) Tryz.func65 (spec_l01In.calls a2 0 3 _ _ A2.out) ?_; rintro e w' ⟨rfl, ⟨nd, rfl⟩⟩; refine ⟨_, rfl, ?_⟩) | (go_at_call 65; (with_reducible refine (spec_l01In.calls a3 1 4 _ _ A4.out).mono ?_); rintro e w' ⟨rfl, ⟨nd, rfl⟩⟩) | (go_at_call 125; (with_reducible refine (spec_l02In.calls a5 _ _ A6.out).mono ?_); rintro e w' ⟨rfl, ⟨nd, rfl⟩⟩) | (go_at_call 125; (with_reducible refine (spec_l02In.calls a6 a8 _ A8.out).mono ?_); rintro e w' ⟨rfl, ⟨nd, rfl⟩⟩))
 go_ret
 exact ⟨eS, bS⟩) : p := h
theorem spec_TurnOk.calls (a2 : Int) (a3 : Int) (a5 : Int) (a6 : Int) (r : Bool) (w : World) (h : spec_TurnOk.f a2 a3 a5 a6 = some r) :
  Calls Tryz.prog 110 #[.agg #[.int .i64 a2, .int .i64 a3, .int .i64 a5, .int .i64 a6]] w fun e w' => e = .returned (.bool r) ∧ Below w.heap.size w w' := by
 have hu38 := Tryz.underlying38
 have HB := aM (Below.refl w.heap.size w)
 have H := h
 clear h
 unfold spec_TurnOk.f at H
 replace H := bN H
 obtain ⟨a9, A2, H⟩ := H
 by_cases c3 : a9 = true
 ·subst c3
  rw [if_pos rfl] at H
  replace H := bN H
  obtain ⟨b0, A4, H⟩ := H
  by_cases c5 : b0 = true
  ·subst c5
   rw [if_pos rfl] at H
   replace H := bN H
   obtain ⟨b1, A6, H⟩ := H
   by_cases c7 : b1 = true
   ·subst c7
    rw [if_pos rfl] at H
    replace H := bN H
    obtain ⟨a8, A8, H⟩ := H
    obtain rfl := Option.some.inj H
    exact spec_TurnOk.lf0
   ·obtain rfl := Bool.eq_false_iff.mpr c7
    rw [if_neg nF] at H
    obtain rfl := Option.some.inj H
    exact spec_TurnOk.lf0
  ·obtain rfl := Bool.eq_false_iff.mpr c5
   rw [if_neg nF] at H
   obtain rfl := Option.some.inj H
   exact spec_TurnOk.lf0
 ·obtain rfl := Bool.eq_false_iff.mpr c3
  rw [if_neg nF] at H
  obtain rfl := Option.some.inj H
  exact spec_TurnOk.lf0
def spec_BoxOk.f (a2 : Int) (a3 : Int) (a5 : Int) (a6 : Int) : Option (Bool) := (spec_l02In.f a2).bind fun a7 => (if a7 = true then ((spec_l02In.f a3).bind fun a8 => (if a8 = true then ((spec_l02In.f a5).bind fun a9 => (if a9 = true then ((spec_l02In.f a6).bind fun b0 => (if b0 = true then (if a2 ≤ a5 then (some (decide (a3 ≤ a6))) else (some false)) else (some false))) else (some false))) else (some false))) else (some false))
theorem spec_BoxOk.lf0 {p : Prop} (h : p := by
 go_enter Tryz.func111, Tryz.ntmps111
 go_wp2_with (first | ((with_reducible refine gD 1 ?_); refine bxE #[.int .i64 a2, .int .i64 a3, .int .i64 a5, .int .i64 a6] 40 ?_; intro b6 hg b7 a7 hb; have GE123 := gE hg; replace HB := hB hb; clear hb hg; have hz12 := cz4 a7) | ((with_reducible refine gC 125 ?_); refine cM (some 5) Tryz.func125 (spec_l02In.calls a2 _ _ A2.out) ?_; rintro e w' ⟨rfl, ⟨nd, rfl⟩⟩; refine ⟨_, rfl, ?_⟩) | (go_at_call 125; (with_reducible refine (spec_l02In.calls a3 _ _ A4.out).mono ?_); rintro e w' ⟨rfl, ⟨nd, rfl⟩⟩) | (go_at_call 125; (with_reducible refine (spec_l02In.calls a5 _ _ A6.out).mono ?_); rintro e w' ⟨rfl, ⟨nd, rfl⟩⟩) | (go_at_call 125; (with_reducible refine (spec_l02In.calls a6 _ _ A8.out).mono ?_); rintro e w' ⟨rfl, ⟨nd, rfl⟩⟩))
 go_ret
 exact ⟨eS, bS⟩) : p := h
theorem spec_BoxOk.calls (a2 : Int) (a3 : Int) (a5 : Int) (a6 : Int) (r : Bool) (w : World) (h : spec_BoxOk.f a2 a3 a5 a6 = some r) :
  Calls Tryz.prog 111 #[.agg #[.int .i64 a2, .int .i64 a3, .int .i64 a5, .int .i64 a6]] w fun e w' => e = .returned (.bool r) ∧ Below w.heap.size w w' := by
 have hu40 := Tryz.underlying40
 have HB := aM (Below.refl w.heap.size w)
 have H := h
 clear h
 unfold spec_BoxOk.f at H
 replace H := bN H
 obtain ⟨a9, A2, H⟩ := H
 by_cases c3 : a9 = true
 ·subst c3
  rw [if_pos rfl] at H
  replace H := bN H
  obtain ⟨b0, A4, H⟩ := H
  by_cases c5 : b0 = true
  ·subst c5
   rw [if_pos rfl] at H
   replace H := bN H
   obtain ⟨b1, A6, H⟩ := H
   by_cases c7 : b1 = true
   ·subst c7
    rw [if_pos rfl] at H
    replace H := bN H
    obtain ⟨b2, A8, H⟩ := H
    by_cases c9 : b2 = true
    ·subst c9
     rw [if_pos rfl] at H
     rcases iD H with ⟨a8, H⟩ | ⟨a8, H⟩
     ·obtain rfl := Option.some.inj H
      exact spec_BoxOk.lf0
     ·obtain rfl := Option.some.inj H
      exact spec_BoxOk.lf0
    ·obtain rfl := Bool.eq_false_iff.mpr c9
     rw [if_neg nF] at H
     obtain rfl := Option.some.inj H
     exact spec_BoxOk.lf0
   ·obtain rfl := Bool.eq_false_iff.mpr c7
    rw [if_neg nF] at H
    obtain rfl := Option.some.inj H
    exact spec_BoxOk.lf0
  ·obtain rfl := Bool.eq_false_iff.mpr c5
   rw [if_neg nF] at H
   obtain rfl := Option.some.inj H
   exact spec_BoxOk.lf0
 ·obtain rfl := Bool.eq_false_iff.mpr c3
  rw [if_neg nF] at H
  obtain rfl := Option.some.inj H
  exact spec_BoxOk.lf0
def spec_PointOk.f (a2 : Int) (a3 : Int) : Option (Bool) := (spec_l02In.f a2).bind fun a5 => (if a5 = true then ((spec_l02In.f a3).bind fun a6 => (some a6)) else (some false))
theorem spec_PointOk.lf0 {p : Prop} (h : p := by
 go_enter Tryz.func113, Tryz.ntmps113
 go_wp2_with (first | ((with_reducible refine gD 1 ?_); refine bxE #[.int .i64 a2, .int .i64 a3] 111 ?_; intro a8 hg w5 a5 hb; have GE128 := gE hg; replace HB := hB hb; clear hb hg; have hz6 := cz2 a5) | ((with_reducible refine gC 125 ?_); refine cM (some 5) Tryz.func125 (spec_l02In.calls a2 _ _ A2.out) ?_; rintro e w' ⟨rfl, ⟨nd, rfl⟩⟩; refine ⟨_, rfl, ?_⟩) | (go_at_call 125; (with_reducible refine (spec_l02In.calls a3 a6 _ A4.out).mono ?_); rintro e w' ⟨rfl, ⟨nd, rfl⟩⟩))
 go_ret
 exact ⟨eS, bS⟩) : p := h
theorem spec_PointOk.calls (a2 : Int) (a3 : Int) (r : Bool) (w : World) (h : spec_PointOk.f a2 a3 = some r) :
  Calls Tryz.prog 113 #[.agg #[.int .i64 a2, .int .i64 a3]] w fun e w' => e = .returned (.bool r) ∧ Below w.heap.size w w' := by
 have hu111 := Tryz.underlying111
 have HB := aM (Below.refl w.heap.size w)
 have H := h
 clear h
 unfold spec_PointOk.f at H
 replace H := bN H
 obtain ⟨a7, A2, H⟩ := H
 by_cases c3 : a7 = true
 ·subst c3
  rw [if_pos rfl] at H
  replace H := bN H
  obtain ⟨a6, A4, H⟩ := H
  obtain rfl := Option.some.inj H
  exact spec_PointOk.lf0
 ·obtain rfl := Bool.eq_false_iff.mpr c3
  rw [if_neg nF] at H
  obtain rfl := Option.some.inj H
  exact spec_PointOk.lf0
end Go.Proofs.YtjkgponlahfnjaaGreat.QFnExactExecToken
