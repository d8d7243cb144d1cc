/- Walks of functions of the program, made out of the translation by a program of this session: each answers what its plain function tells, for every input at which that is told. -/
import Derived.Test.YtjkgponlahfnjaaGreatQFnExactExecTokenx0
import Derived.Test.YtjkgponlahfnjaaGreatQFnExactExecTokenx10
namespace Go.Proofs.YtjkgponlahfnjaaGreat.QFnExactExecToken
open Go.RowKit Go.Proofs.YtjkgponlahfnjaaGreatW.PrintWords Go.Proofs.YtjkgponlahfnjaaGreatW.PrintLast Go.Proofs.YtjkgponlahfnjaaGreatW.PrintMore
attribute [local go_sem] max2_int min2_int max_two min_two max_three min_three max_four min_four   -- for this text's walks alone
set_option linter.unusedVariables false
set_option linter.unusedSimpArgs false
set_option maxHeartbeats 8000000
set_option maxRecDepth 100000
/-! ### impl_BoxOk: function 116 -/
def impl_BoxOk.f (a2 : Int) (a3 : Int) (a5 : Int) (a6 : Int) : Option (Bool) := (impl_coordOk.f a2).bind fun a7 => (if a7 = true then ((impl_coordOk.f a3).bind fun a8 => (if a8 = true then ((impl_coordOk.f a5).bind fun a9 => (if a9 = true then ((impl_coordOk.f a6).bind fun b0 => (if b0 = true then (if a2 ≤ a5 then (some (decide (a3 ≤ a6))) else (some false)) else (some false))) else (some false))) else (some false))) else (some false))
theorem impl_BoxOk.lf0 {p : Prop} (h : p := by
 go_enter Tryz.func116, Tryz.ntmps116
 go_wp2_with (first | ((with_reducible refine gD 1 ?_); refine bxE #[.int .i64 a2, .int .i64 a3, .int .i64 a5, .int .i64 a6] 40 ?_; intro b6 hg b7 a7 hb; have GE669 := gE hg; replace HB := hB hb; clear hb hg; have hz12 := cz4 a7) | ((with_reducible refine gC 126 ?_); refine cM (some 5) Tryz.func126 (impl_coordOk.calls a2 _ _ A2.out) ?_; rintro e w' ⟨rfl, ⟨nd, rfl⟩⟩; refine ⟨_, rfl, ?_⟩) | (go_at_call 126; (with_reducible refine (impl_coordOk.calls a3 _ _ A4.out).mono ?_); rintro e w' ⟨rfl, ⟨nd, rfl⟩⟩) | (go_at_call 126; (with_reducible refine (impl_coordOk.calls a5 _ _ A6.out).mono ?_); rintro e w' ⟨rfl, ⟨nd, rfl⟩⟩) | (go_at_call 126; (with_reducible refine (impl_coordOk.calls a6 _ _ A8.out).mono ?_); rintro e w' ⟨rfl, ⟨nd, rfl⟩⟩))
 go_ret
 exact ⟨eS, bS⟩) : p := h
theorem impl_BoxOk.calls (a2 : Int) (a3 : Int) (a5 : Int) (a6 : Int) (r : Bool) (w : World) (h : impl_BoxOk.f a2 a3 a5 a6 = some r) :
  Calls Tryz.prog 116 #[.agg #[.int .i64 a2, .int .i64 a3, .int .i64 a5, .int .i64 a6]] w fun e w' => e = .returned (.bool r) ∧ Below w.heap.size w w' := by
 have hu40 := Tryz.underlying40
 have HB := aM (Below.refl w.heap.size w)
 have H := h
 clear h
 unfold impl_BoxOk.f at H
 replace H := bN H
 obtain ⟨a9, A2, H⟩ := H
 by_cases c3 : a9 = true
 ·subst c3
  rw [if_pos rfl] at H
  replace H := bN H
  obtain ⟨b0, A4, H⟩ := H
  by_cases c5 : b0 = true
  ·subst c5
   rw [if_pos rfl] at H
   replace H := bN H
   obtain ⟨b1, A6, H⟩ := H
   by_cases c7 : b1 = true
   ·subst c7
    rw [if_pos rfl] at H
    replace H := bN H
    obtain ⟨b2, A8, H⟩ := H
    by_cases c9 : b2 = true
    ·subst c9
     rw [if_pos rfl] at H
     rcases iD H with ⟨a8, H⟩ | ⟨a8, H⟩
     ·obtain rfl := Option.some.inj H
      exact impl_BoxOk.lf0
     ·obtain rfl := Option.some.inj H
      exact impl_BoxOk.lf0
    ·obtain rfl := Bool.eq_false_iff.mpr c9
     rw [if_neg nF] at H
     obtain rfl := Option.some.inj H
     exact impl_BoxOk.lf0
   ·obtain rfl := Bool.eq_false_iff.mpr c7
    rw [if_neg nF] at H
    obtain rfl := Option.some.inj H
    exact impl_BoxOk.lf0
  ·obtain rfl := Bool.eq_false_iff.mpr c5
   rw [if_neg nF] at H
   obtain rfl := Option.some.inj H
   exact impl_BoxOk.lf0
 ·obtain rfl := Bool.eq_false_iff.mpr c3
  rw [if_neg nF] at H
  obtain rfl := Option.some.inj H
  exact impl_BoxOk.lf0
def impl_PointOk.f (a2 : Int) (a3 : Int) : Option (Bool) := (impl_coordOk.f a2).bind fun a5 => (if a5 = true then ((impl_coordOk.f a3).bind fun a6 => (some a6)) else (some false))
theorem impl_PointOk.lf0 {p : Prop} (h : p := by
 go_enter Tryz.func127, Tryz.ntmps127
 go_wp2_with (first | ((with_reducible refine gD 1 ?_); refine bxE #[.int .i64 a2, .int .i64 a3] 111 ?_; intro a8 hg w5 a5 hb; have GE674 := gE hg; replace HB := hB hb; clear hb hg; have hz6 := cz2 a5) | ((with_reducible refine gC 126 ?_); refine cM (some 5) Tryz.func126 (impl_coordOk.calls a2 _ _ A2.out) ?_; rintro e w' ⟨rfl, ⟨nd, rfl⟩⟩; refine ⟨_, rfl, ?_⟩) | (go_at_call 126; (with_reducible refine (impl_coordOk.calls a3 a6 _ A4.out).mono ?_); rintro e w' ⟨rfl, ⟨nd, rfl⟩⟩))
 go_ret
 exact ⟨eS, bS⟩) : p := h
theorem impl_PointOk.calls (a2 : Int) (a3 : Int) (r : Bool) (w : World) (h : impl_PointOk.f a2 a3 = some r) :
  Calls Tryz.prog 127 #[.agg #[.int .i64 a2, .int .i64 a3]] w fun e w' => e = .returned (.bool r) ∧ Below w.heap.size w w' := by
 have hu111 := Tryz.underlying111
 have HB := aM (Below.refl w.heap.size w)
 have H := h
 clear h
 unfold impl_PointOk.f at H
 replace H := bN H
 obtain ⟨a7, A2, H⟩ := H
 by_cases c3 : a7 = true
 ·subst c3
  rw [if_pos rfl] at H
  replace H := bN H
  obtain ⟨a6, A4, H⟩ := H
  obtain rfl := Option.some.inj H
  exact impl_PointOk.lf0
 ·obtain rfl := Bool.eq_false_iff.mpr c3
  rw [if_neg nF] at H
  obtain rfl := Option.some.inj H
  exact impl_PointOk.lf0
def impl_pointsOk.l0 : Nat → List (S111) → Int → Int → Option (Bool)
 | 0, _, _, _ => none
 | k + 1, x5, x6, x7 => if x7 < x6 then (if 0 ≤ x7 then (if x7 < (x5.length : Int) then ((impl_PointOk.f ((rd_T111 x5 x7).f0) ((rd_T111 x5 x7).f1)).bind fun a2 => (if a2 = true then (impl_pointsOk.l0 k x5 x6 (wrap64 (x7 + 1))) else (some false))) else (none)) else (none)) else (some true)
def impl_pointsOk.f (k : Nat) (l0 : List (S111)) : Option (Bool) := impl_pointsOk.l0 k l0 (l0.length : Int) 0
theorem impl_pointsOk.calls (k : Nat) (A0 : Option Addr) (c0 : Nat) (l0 : List (S111)) (r : Bool) (w : World) (hr0 : Kd.C k111 w A0 l0.length l0) (b7 : l0.length ≤ c0) (h : impl_pointsOk.f k l0 = some r) :
  Calls Tryz.prog 117 #[.slice A0 l0.length c0] w fun e w' => e = .returned (.bool r) ∧ Below w.heap.size w w' := by
 have hu111 := Tryz.underlying111
 have b8 := aM hr0
 have d2 := aM b7
 clear hr0 b7
 have HB := aM (Below.refl w.heap.size w)
 have H := h
 clear h
 unfold impl_pointsOk.f at H
 have H' := aM H
 clear H
 go_enter Tryz.func117, Tryz.ntmps117
 go_wp2
 go_loopg [7] k (fun kq v7 w' => ∃ (a2 : Int), v7 = .int .i64 a2 ∧ Aside0 (impl_pointsOk.l0 kq l0 (l0.length : Int) a2 = some r) ∧ Aside0 (kq ≤ k) ∧ Aside0 (Below w.heap.size w w'))
 case atStart => exact ⟨(0), fS, H', ⟨Nat.le_refl _⟩, ⟨bS⟩⟩
 case round =>
  clear H'
  try clear c1
  obtain ⟨a2, rfl, HA, b9, HB⟩ := hrel
  cases gk with
  | zero => exact absurd HA.out (by simp [impl_pointsOk.l0])
  | succ k1 =>
   have H := HA.out
   clear HA
   simp only [impl_pointsOk.l0] at H
   rcases iD H with ⟨b2, H⟩ | ⟨b2, H⟩
   ·obtain ⟨d0, H⟩ := iT H
    obtain ⟨d1, H⟩ := iT H
    replace H := bN H
    obtain ⟨b6, A5, H⟩ := H
    by_cases c6 : b6 = true
    ·subst c6
     rw [if_pos rfl] at H
     have H' := aM H
     clear H
     have a7 : 0 ≤ (a2 : Int) := dA
     have a8 : a2 < (l0.length : Int) := dA
     obtain ⟨b1, b0, a3, a5⟩ := at_T111 b8.out a2 a7 a8
     cases b0
     replace a3 := cB HB a3
     replace a5 := cB HB a5
     replace a7 := eq_true a7
     replace a8 := eq_true a8
     go_wp2_with (first | ((with_reducible refine gD 4 ?_); refine bxE #[.int .i64 0, .int .i64 0] 111 ?_; intro a9 hg w7 a6 hb; have GE678 := gE hg; replace HB := hB hb; clear hb hg; have hz8 := cz2 a6) | ((with_reducible refine gC 127 ?_); refine cM (some 12) Tryz.func127 (impl_PointOk.calls ((rd_T111 l0 a2).f0) ((rd_T111 l0 a2).f1) _ _ A5.out) ?_; rintro e w9 ⟨rfl, hb⟩; refine ⟨_, rfl, ?_⟩; replace a6 := kO a9 #[.int .i64 ((rd_T111 l0 a2).f0), .int .i64 ((rd_T111 l0 a2).f1)] 111 hb; replace HB := hB hb; (try clear hb)))
     go_roundg k1
     case measure => have := b9.out; omega
     case rel => exact ⟨(wrap64 (a2 + 1)), fS, H', ⟨by have := b9.out; omega⟩, ⟨bS⟩⟩
    ·obtain rfl := Bool.eq_false_iff.mpr c6
     rw [if_neg nF] at H
     obtain rfl := Option.some.inj H
     have a7 : 0 ≤ (a2 : Int) := dA
     have a8 : a2 < (l0.length : Int) := dA
     obtain ⟨b1, b0, a3, a5⟩ := at_T111 b8.out a2 a7 a8
     cases b0
     replace a3 := cB HB a3
     replace a5 := cB HB a5
     replace a7 := eq_true a7
     replace a8 := eq_true a8
     go_wp2_with (first | ((with_reducible refine gD 4 ?_); refine bxE #[.int .i64 0, .int .i64 0] 111 ?_; intro a9 hg d3 a6 hb; have GE678 := gE hg; replace HB := hB hb; clear hb hg; have hz11 := cz2 a6) | ((with_reducible refine gC 127 ?_); refine cM (some 12) Tryz.func127 (impl_PointOk.calls ((rd_T111 l0 a2).f0) ((rd_T111 l0 a2).f1) _ _ A5.out) ?_; rintro e d4 ⟨rfl, hb⟩; refine ⟨_, rfl, ?_⟩; replace a6 := kO a9 #[.int .i64 ((rd_T111 l0 a2).f0), .int .i64 ((rd_T111 l0 a2).f1)] 111 hb; replace HB := hB hb; (try clear hb)))
     go_ret
     exact ⟨eS, bS⟩
   ·obtain rfl := Option.some.inj H
    go_wp2
    go_ret
    exact ⟨eS, bS⟩
def impl_GraphicsOk.f (k : Nat) (a5 : List Int) (a6 : Int) (a7 : Int) (a8 : Int) (a9 : Int) (a2 : List (S111)) (b0 : Int) (b1 : Int) (b2 : Int) (b6 : Int) (a3 : Int) : Option (Bool) := (impl_StackOk.f k a5).bind fun b7 => (if b7 = true then ((impl_TurnOk.f a6 a7 a8 a9).bind fun b8 => (if b8 = true then ((impl_BoxOk.f b1 b2 b6 a3).bind fun b9 => (if b9 = true then (if (a2.length : Int) ≤ 8 then ((impl_pointsOk.f k a2).bind fun d0 => (if d0 = true then ((impl_within.f b0 0 255).bind fun d1 => (some d1)) else (some false))) else (some false)) else (some false))) else (some false))) else (some false))
theorem impl_GraphicsOk.calls (k : Nat) (d1 : Option Addr) (d2 : Nat) (a7 : List Int) (a8 : Int) (a9 : Int) (b0 : Int) (b1 : Int) (d3 : Option Addr) (d4 : Nat) (a6 : List (S111)) (d0 : Int) (b2 : Int) (b6 : Int) (b7 : Int) (a5 : Int) (r : Bool) (w : World) (d5 : Kd.C (Kd.int .i64) w d1 a7.length a7) (d6 : a7.length ≤ d2) (e0 : Kd.C k111 w d3 a6.length a6) (e1 : a6.length ≤ d4) (h : impl_GraphicsOk.f k a7 a8 a9 b0 b1 a6 d0 b2 b6 b7 a5 = some r) :
  Calls Tryz.prog 81 #[.agg #[.slice d1 a7.length d2, .int .i64 a8, .int .i64 a9, .int .i64 b0, .int .i64 b1, .slice d3 a6.length d4, .int .i64 d0, .int .i64 b2, .int .i64 b6, .int .i64 b7, .int .i64 a5]] w fun e w' => e = .returned (.bool r) ∧ Below w.heap.size w w' := by
 have hu42 := Tryz.underlying42
 have hu38 := Tryz.underlying38
 have hu40 := Tryz.underlying40
 have b8 := aM d5
 have b9 := aM d6
 clear d5 d6
 have e2 := aM e0
 have e3 := aM e1
 clear e0 e1
 have HB := aM (Below.refl w.heap.size w)
 have H := h
 clear h
 unfold impl_GraphicsOk.f at H
 replace H := bN H
 obtain ⟨h7, A2, H⟩ := H
 by_cases c3 : h7 = true
 ·subst c3
  rw [if_pos rfl] at H
  replace H := bN H
  obtain ⟨h8, A4, H⟩ := H
  by_cases c5 : h8 = true
  ·subst c5
   rw [if_pos rfl] at H
   replace H := bN H
   obtain ⟨h9, A6, H⟩ := H
   by_cases c7 : h9 = true
   ·subst c7
    rw [if_pos rfl] at H
    by_cases c8 : (a6.length : Int) ≤ 8
    ·rw [if_pos c8] at H
     have i1 : decide ((a6.length : Int) ≤ 8) = true := decide_eq_true c8
     have i3 : decide (a6.length ≤ 8) = true := decide_eq_true (by omega)
     clear c8
     replace H := bN H
     obtain ⟨i4, A9, H⟩ := H
     by_cases c10 : i4 = true
     ·subst c10
      rw [if_pos rfl] at H
      replace H := bN H
      obtain ⟨i5, i6, H⟩ := H
      obtain rfl := Option.some.inj H
      go_enter Tryz.func81, Tryz.ntmps81
      go_wp2_with (first | ((with_reducible refine gD 1 ?_); refine bxE #[.slice d1 a7.length d2, .int .i64 a8, .int .i64 a9, .int .i64 b0, .int .i64 b1, .slice d3 a6.length d4, .int .i64 d0, .int .i64 b2, .int .i64 b6, .int .i64 b7, .int .i64 a5] 42 ?_; intro a3 hg i7 a2 hb; have GE680 := gE hg; replace HB := hB hb; clear hb hg; have hz13 := cz11 a2) | ((with_reducible refine gC 88 ?_); refine cM (some 5) Tryz.func88 (impl_StackOk.calls k _ _ a7 _ _ (cC b8 HB) b9.out A2.out) ?_; rintro e w' ⟨rfl, ⟨nd, rfl⟩⟩; refine ⟨_, rfl, ?_⟩) | (go_at_call 115; (with_reducible refine (impl_TurnOk.calls a8 a9 b0 b1 _ _ A4.out).mono ?_); rintro e i8 ⟨rfl, hb⟩; replace a2 := kB_ a3 hb; replace HB := hB hb; (try clear hb); have e8 := cg5 a2; have e9 := cg6 a2; have f0 := cg7 a2; have f3 := cg8 a2; have f4 := cg9 a2; have e4 := cg10 a2) | (go_at_call 116; (with_reducible refine (impl_BoxOk.calls b2 b6 b7 a5 _ _ A6.out).mono ?_); rintro e i9 ⟨rfl, hb⟩; replace a2 := kB_ a3 hb; replace HB := hB hb; (try clear hb); have f5 := cg5 a2; have f6 := cg6 a2) | (go_at_call 117; (with_reducible refine (impl_pointsOk.calls k _ _ a6 _ _ (cC e2 HB) e3.out A9.out).mono ?_); rintro e j5 ⟨rfl, hb⟩; replace a2 := kB_ a3 hb; replace HB := hB hb; (try clear hb); have f7 := cg6 a2) | (go_at_call 83; (with_reducible refine (impl_within.calls d0 0 255 i5 _ i6.out).mono ?_); rintro e w' ⟨rfl, ⟨nd, rfl⟩⟩))
      go_ret
      exact ⟨eS, bS⟩
     ·obtain rfl := Bool.eq_false_iff.mpr c10
      rw [if_neg nF] at H
      obtain rfl := Option.some.inj H
      go_enter Tryz.func81, Tryz.ntmps81
      go_wp2_with (first | ((with_reducible refine gD 1 ?_); refine bxE #[.slice d1 a7.length d2, .int .i64 a8, .int .i64 a9, .int .i64 b0, .int .i64 b1, .slice d3 a6.length d4, .int .i64 d0, .int .i64 b2, .int .i64 b6, .int .i64 b7, .int .i64 a5] 42 ?_; intro a3 hg j6 a2 hb; have GE680 := gE hg; replace HB := hB hb; clear hb hg; have hz21 := cz11 a2) | ((with_reducible refine gC 88 ?_); refine cM (some 5) Tryz.func88 (impl_StackOk.calls k _ _ a7 _ _ (cC b8 HB) b9.out A2.out) ?_; rintro e w' ⟨rfl, ⟨nd, rfl⟩⟩; refine ⟨_, rfl, ?_⟩) | (go_at_call 115; (with_reducible refine (impl_TurnOk.calls a8 a9 b0 b1 _ _ A4.out).mono ?_); rintro e j7 ⟨rfl, hb⟩; replace a2 := kB_ a3 hb; replace HB := hB hb; (try clear hb); have f8 := cg5 a2; have f9 := cg7 a2; have g0 := cg8 a2; have g1 := cg9 a2; have e5 := cg10 a2) | (go_at_call 116; (with_reducible refine (impl_BoxOk.calls b2 b6 b7 a5 _ _ A6.out).mono ?_); rintro e j8 ⟨rfl, hb⟩; replace a2 := kB_ a3 hb; replace HB := hB hb; (try clear hb); have g2 := cg5 a2) | (go_at_call 117; (with_reducible refine (impl_pointsOk.calls k _ _ a6 _ _ (cC e2 HB) e3.out A9.out).mono ?_); rintro e j9 ⟨rfl, hb⟩; replace a2 := kB_ a3 hb; replace HB := hB hb; (try clear hb)))
      go_ret
      exact ⟨eS, bS⟩
    ·rw [if_neg c8] at H
     have i1 : decide ((a6.length : Int) ≤ 8) = false := decide_eq_false c8
     have i3 : decide (a6.length ≤ 8) = false := decide_eq_false (by omega)
     clear c8
     obtain rfl := Option.some.inj H
     go_enter Tryz.func81, Tryz.ntmps81
     go_wp2_with (first | ((with_reducible refine gD 1 ?_); refine bxE #[.slice d1 a7.length d2, .int .i64 a8, .int .i64 a9, .int .i64 b0, .int .i64 b1, .slice d3 a6.length d4, .int .i64 d0, .int .i64 b2, .int .i64 b6, .int .i64 b7, .int .i64 a5] 42 ?_; intro a3 hg k0 a2 hb; have GE680 := gE hg; replace HB := hB hb; clear hb hg; have hz28 := cz11 a2) | ((with_reducible refine gC 88 ?_); refine cM (some 5) Tryz.func88 (impl_StackOk.calls k _ _ a7 _ _ (cC b8 HB) b9.out A2.out) ?_; rintro e w' ⟨rfl, ⟨nd, rfl⟩⟩; refine ⟨_, rfl, ?_⟩) | (go_at_call 115; (with_reducible refine (impl_TurnOk.calls a8 a9 b0 b1 _ _ A4.out).mono ?_); rintro e k1 ⟨rfl, hb⟩; replace a2 := kB_ a3 hb; replace HB := hB hb; (try clear hb); have g3 := cg5 a2; have g4 := cg7 a2; have g5 := cg8 a2; have g6 := cg9 a2; have e6 := cg10 a2) | (go_at_call 116; (with_reducible refine (impl_BoxOk.calls b2 b6 b7 a5 _ _ A6.out).mono ?_); rintro e k2 ⟨rfl, hb⟩; replace a2 := kB_ a3 hb; replace HB := hB hb; (try clear hb); have g7 := cg5 a2))
     go_ret
     exact ⟨eS, bS⟩
   ·obtain rfl := Bool.eq_false_iff.mpr c7
    rw [if_neg nF] at H
    obtain rfl := Option.some.inj H
    go_enter Tryz.func81, Tryz.ntmps81
    go_wp2_with (first | ((with_reducible refine gD 1 ?_); refine bxE #[.slice d1 a7.length d2, .int .i64 a8, .int .i64 a9, .int .i64 b0, .int .i64 b1, .slice d3 a6.length d4, .int .i64 d0, .int .i64 b2, .int .i64 b6, .int .i64 b7, .int .i64 a5] 42 ?_; intro a3 hg k3 a2 hb; have GE680 := gE hg; replace HB := hB hb; clear hb hg; have hz34 := cz11 a2) | ((with_reducible refine gC 88 ?_); refine cM (some 5) Tryz.func88 (impl_StackOk.calls k _ _ a7 _ _ (cC b8 HB) b9.out A2.out) ?_; rintro e w' ⟨rfl, ⟨nd, rfl⟩⟩; refine ⟨_, rfl, ?_⟩) | (go_at_call 115; (with_reducible refine (impl_TurnOk.calls a8 a9 b0 b1 _ _ A4.out).mono ?_); rintro e k4 ⟨rfl, hb⟩; replace a2 := kB_ a3 hb; replace HB := hB hb; (try clear hb); have g8 := cg7 a2; have g9 := cg8 a2; have h0 := cg9 a2; have e7 := cg10 a2) | (go_at_call 116; (with_reducible refine (impl_BoxOk.calls b2 b6 b7 a5 _ _ A6.out).mono ?_); rintro e k5 ⟨rfl, hb⟩; replace a2 := kB_ a3 hb; replace HB := hB hb; (try clear hb)))
    go_ret
    exact ⟨eS, bS⟩
  ·obtain rfl := Bool.eq_false_iff.mpr c5
   rw [if_neg nF] at H
   obtain rfl := Option.some.inj H
   go_enter Tryz.func81, Tryz.ntmps81
   go_wp2_with (first | ((with_reducible refine gD 1 ?_); refine bxE #[.slice d1 a7.length d2, .int .i64 a8, .int .i64 a9, .int .i64 b0, .int .i64 b1, .slice d3 a6.length d4, .int .i64 d0, .int .i64 b2, .int .i64 b6, .int .i64 b7, .int .i64 a5] 42 ?_; intro a3 hg k6 a2 hb; have GE680 := gE hg; replace HB := hB hb; clear hb hg; have h1 := cg0 a2; have h2 := cg1 a2; have h3 := cg2 a2; have h4 := cg3 a2; have h5 := cg4 a2) | ((with_reducible refine gC 88 ?_); refine cM (some 5) Tryz.func88 (impl_StackOk.calls k _ _ a7 _ _ (cC b8 HB) b9.out A2.out) ?_; rintro e w' ⟨rfl, ⟨nd, rfl⟩⟩; refine ⟨_, rfl, ?_⟩) | (go_at_call 115; (with_reducible refine (impl_TurnOk.calls a8 a9 b0 b1 _ _ A4.out).mono ?_); rintro e k7 ⟨rfl, hb⟩; replace a2 := kB_ a3 hb; replace HB := hB hb; (try clear hb)))
   go_ret
   exact ⟨eS, bS⟩
 ·obtain rfl := Bool.eq_false_iff.mpr c3
  rw [if_neg nF] at H
  obtain rfl := Option.some.inj H
  go_enter Tryz.func81, Tryz.ntmps81
  go_wp2_with (first | ((with_reducible refine gD 1 ?_); refine bxE #[.slice d1 a7.length d2, .int .i64 a8, .int .i64 a9, .int .i64 b0, .int .i64 b1, .slice d3 a6.length d4, .int .i64 d0, .int .i64 b2, .int .i64 b6, .int .i64 b7, .int .i64 a5] 42 ?_; intro a3 hg k9 a2 hb; have GE680 := gE hg; replace HB := hB hb; clear hb hg; have h6 := cg0 a2) | ((with_reducible refine gC 88 ?_); refine cM (some 5) Tryz.func88 (impl_StackOk.calls k _ _ a7 _ _ (cC b8 HB) b9.out A2.out) ?_; rintro e w' ⟨rfl, ⟨nd, rfl⟩⟩; refine ⟨_, rfl, ?_⟩))
  go_ret
  exact ⟨eS, bS⟩
def impl_ObjectOk.f (k : Nat) (a2 : List (S111)) (a3 : Int) (a5 : Int) (a6 : Int) (a7 : Int) (a8 : Int) : Option (Bool) := (impl_within.f (a2.length : Int) 3 8).bind fun a9 => (if a9 = true then ((impl_pointsOk.f k a2).bind fun b0 => (if b0 = true then ((impl_within.f a3 0 255).bind fun b1 => (if b1 = true then ((impl_BoxOk.f a5 a6 a7 a8).bind fun b2 => (some b2)) else (some false))) else (some false))) else (some false))
theorem impl_ObjectOk.calls (k : Nat) (b1 : Option Addr) (b2 : Nat) (a3 : List (S111)) (a6 : Int) (a7 : Int) (a8 : Int) (a9 : Int) (b0 : Int) (r : Bool) (w : World) (b8 : Kd.C k111 w b1 a3.length a3) (b9 : a3.length ≤ b2) (h : impl_ObjectOk.f k a3 a6 a7 a8 a9 b0 = some r) :
  Calls Tryz.prog 82 #[.agg #[.slice b1 a3.length b2, .int .i64 a6, .int .i64 a7, .int .i64 a8, .int .i64 a9, .int .i64 b0]] w fun e w' => e = .returned (.bool r) ∧ Below w.heap.size w w' := by
 have hu103 := Tryz.underlying103
 have hu40 := Tryz.underlying40
 have b6 := aM b8
 have b7 := aM b9
 clear b8 b9
 have HB := aM (Below.refl w.heap.size w)
 have H := h
 clear h
 unfold impl_ObjectOk.f at H
 replace H := bN H
 obtain ⟨e9, A2, H⟩ := H
 by_cases c3 : e9 = true
 ·subst c3
  rw [if_pos rfl] at H
  replace H := bN H
  obtain ⟨f0, A4, H⟩ := H
  by_cases c5 : f0 = true
  ·subst c5
   rw [if_pos rfl] at H
   replace H := bN H
   obtain ⟨f3, A6, H⟩ := H
   by_cases c7 : f3 = true
   ·subst c7
    rw [if_pos rfl] at H
    replace H := bN H
    obtain ⟨f4, A8, H⟩ := H
    obtain rfl := Option.some.inj H
    go_enter Tryz.func82, Tryz.ntmps82
    go_wp2_with (first | ((with_reducible refine gD 1 ?_); refine bxE #[.slice b1 a3.length b2, .int .i64 a6, .int .i64 a7, .int .i64 a8, .int .i64 a9, .int .i64 b0] 103 ?_; intro a5 hg w9 a2 hb; have GE686 := gE hg; replace HB := hB hb; clear hb hg; have d0 := cg0 a2; have d1 := cg1 a2; have d2 := cg2 a2; have d3 := cg3 a2; have d4 := cg4 a2; have d5 := cg5 a2) | ((with_reducible refine gC 83 ?_); refine cM (some 6) Tryz.func83 (impl_within.calls (a3.length : Int) 3 8 _ _ A2.out) ?_; rintro e w' ⟨rfl, ⟨nd, rfl⟩⟩; refine ⟨_, rfl, ?_⟩) | (go_at_call 117; (with_reducible refine (impl_pointsOk.calls k _ _ a3 _ _ (cS (Kd.C_below b6.out bS)) b7.out A4.out).mono ?_); rintro e f5 ⟨rfl, hb⟩; replace a2 := kB_ a5 hb; replace HB := hB hb; (try clear hb); have d6 := cg1 a2; have e0 := cg2 a2; have e1 := cg3 a2; have e2 := cg4 a2; have e3 := cg5 a2) | (go_at_call 83; (with_reducible refine (impl_within.calls a6 0 255 _ _ A6.out).mono ?_); rintro e w' ⟨rfl, ⟨nd, rfl⟩⟩) | (go_at_call 116; (with_reducible refine (impl_BoxOk.calls a7 a8 a9 b0 f4 _ A8.out).mono ?_); rintro e f6 ⟨rfl, hb⟩; replace a2 := kB_ a5 hb; replace HB := hB hb; (try clear hb)))
    go_ret
    exact ⟨eS, bS⟩
   ·obtain rfl := Bool.eq_false_iff.mpr c7
    rw [if_neg nF] at H
    obtain rfl := Option.some.inj H
    go_enter Tryz.func82, Tryz.ntmps82
    go_wp2_with (first | ((with_reducible refine gD 1 ?_); refine bxE #[.slice b1 a3.length b2, .int .i64 a6, .int .i64 a7, .int .i64 a8, .int .i64 a9, .int .i64 b0] 103 ?_; intro a5 hg f7 a2 hb; have GE686 := gE hg; replace HB := hB hb; clear hb hg; have e4 := cg0 a2; have e5 := cg1 a2) | ((with_reducible refine gC 83 ?_); refine cM (some 6) Tryz.func83 (impl_within.calls (a3.length : Int) 3 8 _ _ A2.out) ?_; rintro e w' ⟨rfl, ⟨nd, rfl⟩⟩; refine ⟨_, rfl, ?_⟩) | (go_at_call 117; (with_reducible refine (impl_pointsOk.calls k _ _ a3 _ _ (cS (Kd.C_below b6.out bS)) b7.out A4.out).mono ?_); rintro e f8 ⟨rfl, hb⟩; replace a2 := kB_ a5 hb; replace HB := hB hb; (try clear hb); have e6 := cg1 a2) | (go_at_call 83; (with_reducible refine (impl_within.calls a6 0 255 _ _ A6.out).mono ?_); rintro e w' ⟨rfl, ⟨nd, rfl⟩⟩))
    go_ret
    exact ⟨eS, bS⟩
  ·obtain rfl := Bool.eq_false_iff.mpr c5
   rw [if_neg nF] at H
   obtain rfl := Option.some.inj H
   go_enter Tryz.func82, Tryz.ntmps82
   go_wp2_with (first | ((with_reducible refine gD 1 ?_); refine bxE #[.slice b1 a3.length b2, .int .i64 a6, .int .i64 a7, .int .i64 a8, .int .i64 a9, .int .i64 b0] 103 ?_; intro a5 hg f9 a2 hb; have GE686 := gE hg; replace HB := hB hb; clear hb hg; have e7 := cg0 a2) | ((with_reducible refine gC 83 ?_); refine cM (some 6) Tryz.func83 (impl_within.calls (a3.length : Int) 3 8 _ _ A2.out) ?_; rintro e w' ⟨rfl, ⟨nd, rfl⟩⟩; refine ⟨_, rfl, ?_⟩) | (go_at_call 117; (with_reducible refine (impl_pointsOk.calls k _ _ a3 _ _ (cS (Kd.C_below b6.out bS)) b7.out A4.out).mono ?_); rintro e g0 ⟨rfl, hb⟩; replace a2 := kB_ a5 hb; replace HB := hB hb; (try clear hb)))
   go_ret
   exact ⟨eS, bS⟩
 ·obtain rfl := Bool.eq_false_iff.mpr c3
  rw [if_neg nF] at H
  obtain rfl := Option.some.inj H
  go_enter Tryz.func82, Tryz.ntmps82
  go_wp2_with (first | ((with_reducible refine gD 1 ?_); refine bxE #[.slice b1 a3.length b2, .int .i64 a6, .int .i64 a7, .int .i64 a8, .int .i64 a9, .int .i64 b0] 103 ?_; intro a5 hg g1 a2 hb; have GE686 := gE hg; replace HB := hB hb; clear hb hg; have e8 := cg0 a2) | ((with_reducible refine gC 83 ?_); refine cM (some 6) Tryz.func83 (impl_within.calls (a3.length : Int) 3 8 _ _ A2.out) ?_; rintro e w' ⟨rfl, ⟨nd, rfl⟩⟩; refine ⟨_, rfl, ?_⟩))
  go_ret
  exact ⟨eS, bS⟩
end Go.Proofs.YtjkgponlahfnjaaGreat.QFnExactExecToken
