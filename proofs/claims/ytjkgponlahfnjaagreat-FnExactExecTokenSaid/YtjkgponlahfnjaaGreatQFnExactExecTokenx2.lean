/- Walks of functions of the program, made out of the translation by a program of this session: each answers what its plain function tells, for every input at which that is told. -/
import Derived.Test.YtjkgponlahfnjaaGreatQFnExactExecTokenx0
import Derived.Test.YtjkgponlahfnjaaGreatQFnExactExecTokenx1
namespace Go.Proofs.YtjkgponlahfnjaaGreat.QFnExactExecToken
open Go.RowKit Go.Proofs.YtjkgponlahfnjaaGreatW.PrintWords Go.Proofs.YtjkgponlahfnjaaGreatW.PrintLast Go.Proofs.YtjkgponlahfnjaaGreatW.PrintMore
attribute [local go_sem] max2_int min2_int max_two min_two max_three min_three max_four min_four   -- for this text's walks alone
set_option linter.unusedVariables false
set_option linter.unusedSimpArgs false
set_option maxHeartbeats 8000000
set_option maxRecDepth 100000
/-! ### spec_l07Points: function 112 -/
def spec_l07Points.l0 : Nat → List (S111) → Int → Option (Bool)
 | 0, _, _ => none
 | k + 1, x0, x3 => if x3 < (x0.length : Int) then (if 0 ≤ x3 then ((spec_PointOk.f ((rd_T111 x0 x3).f0) ((rd_T111 x0 x3).f1)).bind fun a2 => (if a2 = true then (spec_l07Points.l0 k x0 (wrap64 (x3 + 1))) else (some false))) else (none)) else (some (decide ((x0.length : Int) ≤ 8)))
def spec_l07Points.f (k : Nat) (l0 : List (S111)) : Option (Bool) := spec_l07Points.l0 k l0 0
theorem spec_l07Points.calls (k : Nat) (A0 : Option Addr) (c0 : Nat) (l0 : List (S111)) (r : Bool) (w : World) (hr0 : Kd.C k111 w A0 l0.length l0) (b2 : l0.length ≤ c0) (h : spec_l07Points.f k l0 = some r) :
  Calls Tryz.prog 112 #[.slice A0 l0.length c0] w fun e w' => e = .returned (.bool r) ∧ Below w.heap.size w w' := by
 have hu111 := Tryz.underlying111
 have b6 := aM hr0
 have b9 := aM b2
 clear hr0 b2
 have HB := aM (Below.refl w.heap.size w)
 have H := h
 clear h
 unfold spec_l07Points.f at H
 have H' := aM H
 clear H
 go_enter Tryz.func112, Tryz.ntmps112
 go_wp2
 go_loopg [3] k (fun kq v3 w' => ∃ (a2 : Int), v3 = .int .i64 a2 ∧ Aside0 (spec_l07Points.l0 kq l0 a2 = some r) ∧ Aside0 (kq ≤ k) ∧ Aside0 (Below w.heap.size w w'))
 case atStart => exact ⟨(0), fS, H', ⟨Nat.le_refl _⟩, ⟨bS⟩⟩
 case round =>
  clear H'
  try clear c1
  obtain ⟨a2, rfl, HA, b7, HB⟩ := hrel
  cases gk with
  | zero => exact absurd HA.out (by simp [spec_l07Points.l0])
  | succ k1 =>
   have H := HA.out
   clear HA
   simp only [spec_l07Points.l0] at H
   rcases iD H with ⟨b0, H⟩ | ⟨b0, H⟩
   ·obtain ⟨b8, H⟩ := iT H
    replace H := bN H
    obtain ⟨b1, A4, H⟩ := H
    by_cases c5 : b1 = true
    ·subst c5
     rw [if_pos rfl] at H
     have H' := aM H
     clear H
     have a6 : 0 ≤ (a2 : Int) := dA
     have a7 : a2 < (l0.length : Int) := dA
     obtain ⟨a9, a8, a3, a5⟩ := at_T111 b6.out a2 a6 a7
     cases a8
     replace a3 := cB HB a3
     replace a5 := cB HB a5
     replace a6 := eq_true a6
     replace a7 := eq_true a7
     go_wp2_with (first | ((with_reducible refine gC 113 ?_); refine cM (some 14) Tryz.func113 (spec_PointOk.calls ((rd_T111 l0 a2).f0) ((rd_T111 l0 a2).f1) _ _ A4.out) ?_; rintro e w6 ⟨rfl, hb⟩; refine ⟨_, rfl, ?_⟩; replace HB := hB hb; (try clear hb)))
     go_roundg k1
     case measure => have := b7.out; omega
     case rel => exact ⟨(wrap64 (a2 + 1)), fS, H', ⟨by have := b7.out; omega⟩, ⟨bS⟩⟩
    ·obtain rfl := Bool.eq_false_iff.mpr c5
     rw [if_neg nF] at H
     obtain rfl := Option.some.inj H
     have a6 : 0 ≤ (a2 : Int) := dA
     have a7 : a2 < (l0.length : Int) := dA
     obtain ⟨a9, a8, a3, a5⟩ := at_T111 b6.out a2 a6 a7
     cases a8
     replace a3 := cB HB a3
     replace a5 := cB HB a5
     replace a6 := eq_true a6
     replace a7 := eq_true a7
     go_wp2_with (first | ((with_reducible refine gC 113 ?_); refine cM (some 14) Tryz.func113 (spec_PointOk.calls ((rd_T111 l0 a2).f0) ((rd_T111 l0 a2).f1) _ _ A4.out) ?_; rintro e w7 ⟨rfl, hb⟩; refine ⟨_, rfl, ?_⟩; replace HB := hB hb; (try clear hb)))
     go_ret
     exact ⟨eS, bS⟩
   ·obtain rfl := Option.some.inj H
    go_wp2
    go_ret
    exact ⟨eS, bS⟩
def spec_GraphicsOk.f (k : Nat) (a3 : List Int) (a5 : Int) (a6 : Int) (a7 : Int) (a8 : Int) (a9 : List (S111)) (b0 : Int) (b1 : Int) (b2 : Int) (b6 : Int) (a2 : Int) : Option (Bool) := (spec_StackOk.f k a3).bind fun b7 => (if b7 = true then ((spec_TurnOk.f a5 a6 a7 a8).bind fun b8 => (if b8 = true then ((spec_BoxOk.f b1 b2 b6 a2).bind fun b9 => (if b9 = true then ((spec_l07Points.f k a9).bind fun d0 => (if d0 = true then ((spec_l01In.f b0 0 255).bind fun d1 => (some d1)) else (some false))) else (some false))) else (some false))) else (some false))
theorem spec_GraphicsOk.calls (k : Nat) (d1 : Option Addr) (d2 : Nat) (a6 : List Int) (a8 : Int) (a9 : Int) (b0 : Int) (b1 : Int) (d3 : Option Addr) (d4 : Nat) (a7 : List (S111)) (b8 : Int) (b2 : Int) (b6 : Int) (b7 : Int) (a5 : Int) (r : Bool) (w : World) (d5 : Kd.C (Kd.int .i64) w d1 a6.length a6) (d6 : a6.length ≤ d2) (e0 : Kd.C k111 w d3 a7.length a7) (e1 : a7.length ≤ d4) (h : spec_GraphicsOk.f k a6 a8 a9 b0 b1 a7 b8 b2 b6 b7 a5 = some r) :
  Calls Tryz.prog 63 #[.agg #[.slice d1 a6.length d2, .int .i64 a8, .int .i64 a9, .int .i64 b0, .int .i64 b1, .slice d3 a7.length d4, .int .i64 b8, .int .i64 b2, .int .i64 b6, .int .i64 b7, .int .i64 a5]] w fun e w' => e = .returned (.bool r) ∧ Below w.heap.size w w' := by
 have hu42 := Tryz.underlying42
 have hu38 := Tryz.underlying38
 have hu40 := Tryz.underlying40
 have b9 := aM d5
 have d0 := aM d6
 clear d5 d6
 have e2 := aM e0
 have e3 := aM e1
 clear e0 e1
 have HB := aM (Below.refl w.heap.size w)
 have H := h
 clear h
 unfold spec_GraphicsOk.f at H
 replace H := bN H
 obtain ⟨h1, A2, H⟩ := H
 by_cases c3 : h1 = true
 ·subst c3
  rw [if_pos rfl] at H
  replace H := bN H
  obtain ⟨h2, A4, H⟩ := H
  by_cases c5 : h2 = true
  ·subst c5
   rw [if_pos rfl] at H
   replace H := bN H
   obtain ⟨h3, A6, H⟩ := H
   by_cases c7 : h3 = true
   ·subst c7
    rw [if_pos rfl] at H
    replace H := bN H
    obtain ⟨h4, A8, H⟩ := H
    by_cases c9 : h4 = true
    ·subst c9
     rw [if_pos rfl] at H
     replace H := bN H
     obtain ⟨h5, h6, H⟩ := H
     obtain rfl := Option.some.inj H
     go_enter Tryz.func63, Tryz.ntmps63
     go_wp2_with (first | ((with_reducible refine gD 1 ?_); refine bxE #[.slice d1 a6.length d2, .int .i64 a8, .int .i64 a9, .int .i64 b0, .int .i64 b1, .slice d3 a7.length d4, .int .i64 b8, .int .i64 b2, .int .i64 b6, .int .i64 b7, .int .i64 a5] 42 ?_; intro a3 hg h7 a2 hb; have GE133 := gE hg; replace HB := hB hb; clear hb hg; have hz12 := cz11 a2) | ((with_reducible refine gC 70 ?_); refine cM (some 5) Tryz.func70 (spec_StackOk.calls k _ _ a6 _ _ (cC b9 HB) d0.out A2.out) ?_; rintro e w' ⟨rfl, ⟨nd, rfl⟩⟩; refine ⟨_, rfl, ?_⟩) | (go_at_call 110; (with_reducible refine (spec_TurnOk.calls a8 a9 b0 b1 _ _ A4.out).mono ?_); rintro e h8 ⟨rfl, hb⟩; replace a2 := kB_ a3 hb; replace HB := hB hb; (try clear hb); have e7 := cg5 a2; have e8 := cg6 a2; have e9 := cg7 a2; have f0 := cg8 a2; have f3 := cg9 a2; have e4 := cg10 a2) | (go_at_call 111; (with_reducible refine (spec_BoxOk.calls b2 b6 b7 a5 _ _ A6.out).mono ?_); rintro e h9 ⟨rfl, hb⟩; replace a2 := kB_ a3 hb; replace HB := hB hb; (try clear hb); have f4 := cg5 a2; have f5 := cg6 a2) | (go_at_call 112; (with_reducible refine (spec_l07Points.calls k _ _ a7 _ _ (cC e2 HB) e3.out A8.out).mono ?_); rintro e i1 ⟨rfl, hb⟩; replace a2 := kB_ a3 hb; replace HB := hB hb; (try clear hb); have f6 := cg6 a2) | (go_at_call 65; (with_reducible refine (spec_l01In.calls b8 0 255 h5 _ h6.out).mono ?_); rintro e w' ⟨rfl, ⟨nd, rfl⟩⟩))
     go_ret
     exact ⟨eS, bS⟩
    ·obtain rfl := Bool.eq_false_iff.mpr c9
     rw [if_neg nF] at H
     obtain rfl := Option.some.inj H
     go_enter Tryz.func63, Tryz.ntmps63
     go_wp2_with (first | ((with_reducible refine gD 1 ?_); refine bxE #[.slice d1 a6.length d2, .int .i64 a8, .int .i64 a9, .int .i64 b0, .int .i64 b1, .slice d3 a7.length d4, .int .i64 b8, .int .i64 b2, .int .i64 b6, .int .i64 b7, .int .i64 a5] 42 ?_; intro a3 hg i3 a2 hb; have GE133 := gE hg; replace HB := hB hb; clear hb hg; have hz20 := cz11 a2) | ((with_reducible refine gC 70 ?_); refine cM (some 5) Tryz.func70 (spec_StackOk.calls k _ _ a6 _ _ (cC b9 HB) d0.out A2.out) ?_; rintro e w' ⟨rfl, ⟨nd, rfl⟩⟩; refine ⟨_, rfl, ?_⟩) | (go_at_call 110; (with_reducible refine (spec_TurnOk.calls a8 a9 b0 b1 _ _ A4.out).mono ?_); rintro e i4 ⟨rfl, hb⟩; replace a2 := kB_ a3 hb; replace HB := hB hb; (try clear hb); have f7 := cg5 a2; have f8 := cg7 a2; have f9 := cg8 a2; have g0 := cg9 a2; have e5 := cg10 a2) | (go_at_call 111; (with_reducible refine (spec_BoxOk.calls b2 b6 b7 a5 _ _ A6.out).mono ?_); rintro e i5 ⟨rfl, hb⟩; replace a2 := kB_ a3 hb; replace HB := hB hb; (try clear hb); have g1 := cg5 a2) | (go_at_call 112; (with_reducible refine (spec_l07Points.calls k _ _ a7 _ _ (cC e2 HB) e3.out A8.out).mono ?_); rintro e i6 ⟨rfl, hb⟩; replace a2 := kB_ a3 hb; replace HB := hB hb; (try clear hb)))
     go_ret
     exact ⟨eS, bS⟩
   ·obtain rfl := Bool.eq_false_iff.mpr c7
    rw [if_neg nF] at H
    obtain rfl := Option.some.inj H
    go_enter Tryz.func63, Tryz.ntmps63
    go_wp2_with (first | ((with_reducible refine gD 1 ?_); refine bxE #[.slice d1 a6.length d2, .int .i64 a8, .int .i64 a9, .int .i64 b0, .int .i64 b1, .slice d3 a7.length d4, .int .i64 b8, .int .i64 b2, .int .i64 b6, .int .i64 b7, .int .i64 a5] 42 ?_; intro a3 hg i7 a2 hb; have GE133 := gE hg; replace HB := hB hb; clear hb hg; have hz27 := cz11 a2) | ((with_reducible refine gC 70 ?_); refine cM (some 5) Tryz.func70 (spec_StackOk.calls k _ _ a6 _ _ (cC b9 HB) d0.out A2.out) ?_; rintro e w' ⟨rfl, ⟨nd, rfl⟩⟩; refine ⟨_, rfl, ?_⟩) | (go_at_call 110; (with_reducible refine (spec_TurnOk.calls a8 a9 b0 b1 _ _ A4.out).mono ?_); rintro e i8 ⟨rfl, hb⟩; replace a2 := kB_ a3 hb; replace HB := hB hb; (try clear hb); have g2 := cg7 a2; have g3 := cg8 a2; have g4 := cg9 a2; have e6 := cg10 a2) | (go_at_call 111; (with_reducible refine (spec_BoxOk.calls b2 b6 b7 a5 _ _ A6.out).mono ?_); rintro e i9 ⟨rfl, hb⟩; replace a2 := kB_ a3 hb; replace HB := hB hb; (try clear hb)))
    go_ret
    exact ⟨eS, bS⟩
  ·obtain rfl := Bool.eq_false_iff.mpr c5
   rw [if_neg nF] at H
   obtain rfl := Option.some.inj H
   go_enter Tryz.func63, Tryz.ntmps63
   go_wp2_with (first | ((with_reducible refine gD 1 ?_); refine bxE #[.slice d1 a6.length d2, .int .i64 a8, .int .i64 a9, .int .i64 b0, .int .i64 b1, .slice d3 a7.length d4, .int .i64 b8, .int .i64 b2, .int .i64 b6, .int .i64 b7, .int .i64 a5] 42 ?_; intro a3 hg j5 a2 hb; have GE133 := gE hg; replace HB := hB hb; clear hb hg; have g5 := cg0 a2; have g6 := cg1 a2; have g7 := cg2 a2; have g8 := cg3 a2; have g9 := cg4 a2) | ((with_reducible refine gC 70 ?_); refine cM (some 5) Tryz.func70 (spec_StackOk.calls k _ _ a6 _ _ (cC b9 HB) d0.out A2.out) ?_; rintro e w' ⟨rfl, ⟨nd, rfl⟩⟩; refine ⟨_, rfl, ?_⟩) | (go_at_call 110; (with_reducible refine (spec_TurnOk.calls a8 a9 b0 b1 _ _ A4.out).mono ?_); rintro e j6 ⟨rfl, hb⟩; replace a2 := kB_ a3 hb; replace HB := hB hb; (try clear hb)))
   go_ret
   exact ⟨eS, bS⟩
 ·obtain rfl := Bool.eq_false_iff.mpr c3
  rw [if_neg nF] at H
  obtain rfl := Option.some.inj H
  go_enter Tryz.func63, Tryz.ntmps63
  go_wp2_with (first | ((with_reducible refine gD 1 ?_); refine bxE #[.slice d1 a6.length d2, .int .i64 a8, .int .i64 a9, .int .i64 b0, .int .i64 b1, .slice d3 a7.length d4, .int .i64 b8, .int .i64 b2, .int .i64 b6, .int .i64 b7, .int .i64 a5] 42 ?_; intro a3 hg j7 a2 hb; have GE133 := gE hg; replace HB := hB hb; clear hb hg; have h0 := cg0 a2) | ((with_reducible refine gC 70 ?_); refine cM (some 5) Tryz.func70 (spec_StackOk.calls k _ _ a6 _ _ (cC b9 HB) d0.out A2.out) ?_; rintro e w' ⟨rfl, ⟨nd, rfl⟩⟩; refine ⟨_, rfl, ?_⟩))
  go_ret
  exact ⟨eS, bS⟩
def spec_l07Object.f (k : Nat) (a2 : List (S111)) (a3 : Int) (a5 : Int) (a6 : Int) (a7 : Int) (a8 : Int) : Option (Bool) := if (a2.length : Int) ≥ 3 then ((spec_l07Points.f k a2).bind fun a9 => (if a9 = true then ((spec_l01In.f a3 0 255).bind fun b0 => (if b0 = true then ((spec_BoxOk.f a5 a6 a7 a8).bind fun b1 => (some b1)) else (some false))) else (some false))) else (some false)
theorem spec_l07Object.calls (k : Nat) (b1 : Option Addr) (b2 : Nat) (a3 : List (S111)) (a6 : Int) (a7 : Int) (a8 : Int) (a9 : Int) (b0 : Int) (r : Bool) (w : World) (b8 : Kd.C k111 w b1 a3.length a3) (b9 : a3.length ≤ b2) (h : spec_l07Object.f k a3 a6 a7 a8 a9 b0 = some r) :
  Calls Tryz.prog 64 #[.agg #[.slice b1 a3.length b2, .int .i64 a6, .int .i64 a7, .int .i64 a8, .int .i64 a9, .int .i64 b0]] w fun e w' => e = .returned (.bool r) ∧ Below w.heap.size w w' := by
 have hu103 := Tryz.underlying103
 have hu40 := Tryz.underlying40
 have b6 := aM b8
 have b7 := aM b9
 clear b8 b9
 have HB := aM (Below.refl w.heap.size w)
 have H := h
 clear h
 unfold spec_l07Object.f at H
 by_cases c2 : (a3.length : Int) ≥ 3
 ·rw [if_pos c2] at H
  have e3 : decide (3 ≤ (a3.length : Int)) = true := decide_eq_true c2
  have e4 : decide (3 ≤ a3.length) = true := decide_eq_true (by omega)
  clear c2
  replace H := bN H
  obtain ⟨e5, A3, H⟩ := H
  by_cases c4 : e5 = true
  ·subst c4
   rw [if_pos rfl] at H
   replace H := bN H
   obtain ⟨e6, A5, H⟩ := H
   by_cases c6 : e6 = true
   ·subst c6
    rw [if_pos rfl] at H
    replace H := bN H
    obtain ⟨e7, A7, H⟩ := H
    obtain rfl := Option.some.inj H
    go_enter Tryz.func64, Tryz.ntmps64
    go_wp2_with (first | ((with_reducible refine gD 1 ?_); refine bxE #[.slice b1 a3.length b2, .int .i64 a6, .int .i64 a7, .int .i64 a8, .int .i64 a9, .int .i64 b0] 103 ?_; intro a5 hg w8 a2 hb; have GE139 := gE hg; replace HB := hB hb; clear hb hg; have e8 := cg0 a2; have e9 := cg1 a2; have f0 := cg2 a2; have f3 := cg3 a2; have f4 := cg4 a2; have f5 := cg5 a2) | (go_at_call 112; (with_reducible refine (spec_l07Points.calls k _ _ a3 _ _ (cC b6 HB) b7.out A3.out).mono ?_); rintro e f6 ⟨rfl, hb⟩; replace a2 := kB_ a5 hb; replace HB := hB hb; (try clear hb); have d0 := cg1 a2; have d1 := cg2 a2; have d2 := cg3 a2; have d3 := cg4 a2; have d4 := cg5 a2) | (go_at_call 65; (with_reducible refine (spec_l01In.calls a6 0 255 _ _ A5.out).mono ?_); rintro e w' ⟨rfl, ⟨nd, rfl⟩⟩) | (go_at_call 111; (with_reducible refine (spec_BoxOk.calls a7 a8 a9 b0 e7 _ A7.out).mono ?_); rintro e f7 ⟨rfl, hb⟩; replace a2 := kB_ a5 hb; replace HB := hB hb; (try clear hb)))
    go_ret
    exact ⟨eS, bS⟩
   ·obtain rfl := Bool.eq_false_iff.mpr c6
    rw [if_neg nF] at H
    obtain rfl := Option.some.inj H
    go_enter Tryz.func64, Tryz.ntmps64
    go_wp2_with (first | ((with_reducible refine gD 1 ?_); refine bxE #[.slice b1 a3.length b2, .int .i64 a6, .int .i64 a7, .int .i64 a8, .int .i64 a9, .int .i64 b0] 103 ?_; intro a5 hg f8 a2 hb; have GE139 := gE hg; replace HB := hB hb; clear hb hg; have d5 := cg0 a2; have d6 := cg1 a2) | (go_at_call 112; (with_reducible refine (spec_l07Points.calls k _ _ a3 _ _ (cC b6 HB) b7.out A3.out).mono ?_); rintro e f9 ⟨rfl, hb⟩; replace a2 := kB_ a5 hb; replace HB := hB hb; (try clear hb); have e0 := cg1 a2) | (go_at_call 65; (with_reducible refine (spec_l01In.calls a6 0 255 _ _ A5.out).mono ?_); rintro e w' ⟨rfl, ⟨nd, rfl⟩⟩))
    go_ret
    exact ⟨eS, bS⟩
  ·obtain rfl := Bool.eq_false_iff.mpr c4
   rw [if_neg nF] at H
   obtain rfl := Option.some.inj H
   go_enter Tryz.func64, Tryz.ntmps64
   go_wp2_with (first | ((with_reducible refine gD 1 ?_); refine bxE #[.slice b1 a3.length b2, .int .i64 a6, .int .i64 a7, .int .i64 a8, .int .i64 a9, .int .i64 b0] 103 ?_; intro a5 hg g0 a2 hb; have GE139 := gE hg; replace HB := hB hb; clear hb hg; have e1 := cg0 a2) | (go_at_call 112; (with_reducible refine (spec_l07Points.calls k _ _ a3 _ _ (cC b6 HB) b7.out A3.out).mono ?_); rintro e g1 ⟨rfl, hb⟩; replace a2 := kB_ a5 hb; replace HB := hB hb; (try clear hb)))
   go_ret
   exact ⟨eS, bS⟩
 ·rw [if_neg c2] at H
  have e3 : decide (3 ≤ (a3.length : Int)) = false := decide_eq_false c2
  have e4 : decide (3 ≤ a3.length) = false := decide_eq_false (by omega)
  clear c2
  obtain rfl := Option.some.inj H
  go_enter Tryz.func64, Tryz.ntmps64
  go_wp2_with (first | ((with_reducible refine gD 1 ?_); refine bxE #[.slice b1 a3.length b2, .int .i64 a6, .int .i64 a7, .int .i64 a8, .int .i64 a9, .int .i64 b0] 103 ?_; intro a5 hg g2 a2 hb; have GE139 := gE hg; replace HB := hB hb; clear hb hg; have e2 := cg0 a2))
  go_ret
  exact ⟨eS, bS⟩
end Go.Proofs.YtjkgponlahfnjaaGreat.QFnExactExecToken
