-- Made out of the translation by a program of this session (a changed copy of the print). Not trusted: Lean checks it.
import Derived.Test.YtpickbenfkcpmaaQFnRuns7x0
import Derived.Test.YtpickbenfkcpmaaQFnRuns7x5
namespace Go.Proofs.Ytpickbenfkcpmaa.QFnRuns7
open Go.RowKit Go.Proofs.YtpickbenfkcpmaaW.PrintWords Go.Proofs.YtpickbenfkcpmaaW.PrintLast Go.Proofs.YtpickbenfkcpmaaW.PrintMore
attribute [local go_sem] max2_int min2_int max_two min_two max_three min_three max_four min_four   -- for this text's walks alone
set_option linter.unusedVariables false
set_option linter.unusedSimpArgs false
set_option maxHeartbeats 8000000
set_option maxRecDepth 100000

/-! ### impl_PageOk: function 19 -/
mutual
def impl_PageOk.j0 : Nat → Bool → List Int → Int → Int → Int → Int → List (S90) → Int → Int → Int → Int → Int → List (S33) → List (S82) → Option (Bool)
 | 0, _, _, _, _, _, _, _, _, _, _, _, _, _, _ => none
 | k + 1, e0, a5, a6, a7, a8, a9, b0, b1, b2, b6, b7, b8, a2, a3 => if e0 = true then (some false) else (impl_PageOk.l0 k a2 (a2.length : Int) 0 a5 a6 a7 a8 a9 b0 b1 b2 b6 b7 b8 a2 a3)
def impl_PageOk.l0 : Nat → List (S33) → Int → Int → List Int → Int → Int → Int → Int → List (S90) → Int → Int → Int → Int → Int → List (S33) → List (S82) → Option (Bool)
 | 0, _, _, _, _, _, _, _, _, _, _, _, _, _, _, _, _ => none
 | k + 1, d0, d5, b9, a5, a6, a7, a8, a9, b0, b1, b2, b6, b7, b8, a2, a3 => if b9 < d5 then (if 0 ≤ b9 then (if b9 < (d0.length : Int) then ((impl_GraphicsOk.f k ((rd_T33 d0 b9).f0) ((rd_T33 d0 b9).f1.f0) ((rd_T33 d0 b9).f1.f1) ((rd_T33 d0 b9).f1.f2) ((rd_T33 d0 b9).f1.f3) ((rd_T33 d0 b9).f2) ((rd_T33 d0 b9).f3) ((rd_T33 d0 b9).f4.f0) ((rd_T33 d0 b9).f4.f1) ((rd_T33 d0 b9).f4.f2) ((rd_T33 d0 b9).f4.f3)).bind fun d3 => (if d3 = true then (impl_PageOk.l0 k d0 d5 (wrap64 (b9 + 1)) a5 a6 a7 a8 a9 b0 b1 b2 b6 b7 b8 a2 a3) else (some false))) else (none)) else (none)) else (impl_PageOk.l1 k a3 (a3.length : Int) 0)
def impl_PageOk.l1 : Nat → List (S82) → Int → Int → Option (Bool)
 | 0, _, _, _ => none
 | k + 1, d2, d6, d1 => if d1 < d6 then (if 0 ≤ d1 then (if d1 < (d2.length : Int) then ((impl_ObjectOk.f k ((rd_T82 d2 d1).f0) ((rd_T82 d2 d1).f1) ((rd_T82 d2 d1).f2.f0) ((rd_T82 d2 d1).f2.f1) ((rd_T82 d2 d1).f2.f2) ((rd_T82 d2 d1).f2.f3)).bind fun d4 => (if d4 = true then (impl_PageOk.l1 k d2 d6 (wrap64 (d1 + 1))) else (some false))) else (none)) else (none)) else (some true)
end
def impl_PageOk.f (k : Nat) (a6 : List Int) (a7 : Int) (a8 : Int) (a9 : Int) (b0 : Int) (b1 : List (S90)) (b2 : Int) (b6 : Int) (b7 : Int) (b8 : Int) (a2 : Int) (a3 : List (S33)) (a5 : List (S82)) : Option (Bool) := (impl_GraphicsOk.f k a6 a7 a8 a9 b0 b1 b2 b6 b7 b8 a2).bind fun b9 => (if b9 = true then (if (a3.length : Int) > 4 then (impl_PageOk.j0 k true a6 a7 a8 a9 b0 b1 b2 b6 b7 b8 a2 a3 a5) else (impl_PageOk.j0 k (decide ((a5.length : Int) > 12)) a6 a7 a8 a9 b0 b1 b2 b6 b7 b8 a2 a3 a5)) else (impl_PageOk.j0 k true a6 a7 a8 a9 b0 b1 b2 b6 b7 b8 a2 a3 a5))
theorem impl_PageOk.calls (k : Nat) (i8 : Option Addr) (i9 : Nat) (d4 : List Int) (e9 : Int) (f5 : Int) (f6 : Int) (f7 : Int) (j5 : Option Addr) (j6 : Nat) (d5 : List (S90)) (f8 : Int) (f9 : Int) (g0 : Int) (g1 : Int) (b0 : Int) (g3 : Option Addr) (g4 : Nat) (a2 : List (S33)) (g5 : Option Addr) (g6 : Nat) (a5 : List (S82)) (r : Bool) (w : World) (l6 : Kd.C (Kd.int .i64) w i8 d4.length d4) (l7 : d4.length ≤ i9) (l8 : Kd.C k90 w j5 d5.length d5) (l9 : d5.length ≤ j6) (j7 : Kd.C k33 w g3 a2.length a2) (j8 : a2.length ≤ g4) (j9 : Kd.C k82 w g5 a5.length a5) (k0 : a5.length ≤ g6) (h : impl_PageOk.f k d4 e9 f5 f6 f7 d5 f8 f9 g0 g1 b0 a2 a5 = some r) :
  Calls Try.prog 19 #[.agg #[.slice i8 d4.length i9, .int .i64 e9, .int .i64 f5, .int .i64 f6, .int .i64 f7, .slice j5 d5.length j6, .int .i64 f8, .int .i64 f9, .int .i64 g0, .int .i64 g1, .int .i64 b0, .slice g3 a2.length g4, .slice g5 a5.length g6]] w fun e w' => e = .returned (.bool r) ∧ Below w.heap.size w w' := by
 have hu37 := Try.underlying37
 have hu33 := Try.underlying33
 have hu82 := Try.underlying82
 have k1 := aM l6
 have k4 := aM l7
 clear l6 l7
 have k5 := aM l8
 have k6 := aM l9
 clear l8 l9
 have k7 := aM j7
 have n8 := aM j8
 clear j7 j8
 have k9 := aM j9
 have o0 := aM k0
 clear j9 k0
 have HB := aM (Below.refl w.heap.size w)
 have H := h
 clear h
 unfold impl_PageOk.f at H
 have o1 := aM H
 clear H
 go_enter Try.func19, Try.ntmps19
 go_upto_region 1 with (first | ((with_reducible refine gD 1 ?_); refine bxE #[.slice i8 d4.length i9, .int .i64 e9, .int .i64 f5, .int .i64 f6, .int .i64 f7, .slice j5 d5.length j6, .int .i64 f8, .int .i64 f9, .int .i64 g0, .int .i64 g1, .int .i64 b0, .slice g3 a2.length g4, .slice g5 a5.length g6] 37 ?_; intro a7 hg w3 a8 hb; have GE426 := gE hg; replace HB := hB hb; clear hb hg))
 (try simp only [Act.put, List.setIfInBounds_toArray, List.set_cons_zero, List.set_cons_succ])
 go_cut [22] (fun q6 wc => ∃ (kq : Nat) (i7 : Bool), q6 = .bool i7 ∧ Aside0 (impl_PageOk.j0 kq i7 d4 e9 f5 f6 f7 d5 f8 f9 g0 g1 b0 a2 a5 = some r) ∧ Aside0 (kq ≤ k) ∧ Aside0 (wc.heap[a7]? = some (.cells #[(.slice i8 d4.length i9), .int .i64 e9, .int .i64 f5, .int .i64 f6, .int .i64 f7, (.slice j5 d5.length j6), .int .i64 f8, .int .i64 f9, .int .i64 g0, .int .i64 g1, .int .i64 b0, (.slice g3 a2.length g4), (.slice g5 a5.length g6)] 37 (0, 0))) ∧ Aside0 (Below w.heap.size w wc))
 case first =>
  have H := o1.out
  clear o1
  replace H := bN H
  obtain ⟨o4, A4, H⟩ := H
  by_cases c5 : o4 = true
  ·subst c5
   rw [if_pos rfl] at H
   by_cases c6 : (a2.length : Int) > 4
   ·rw [if_pos c6] at H
    have h3 : decide (4 < (a2.length : Int)) = true := decide_eq_true c6
    have l5 : decide (4 < a2.length) = true := decide_eq_true (by omega)
    clear c6
    (first | rw [h3] | (simp only [i64_w, i32_w]; rw [h3]) | skip)
    have H' := aM H
    clear H
    have hz7 := cz13 a8
    go_wp2_with (first | ((with_reducible refine gC 36 ?_); refine cM (some 9) Try.func36 (impl_GraphicsOk.calls k _ _ d4 e9 f5 f6 f7 _ _ d5 f8 f9 g0 g1 b0 _ _ (cC k1 HB) k4.out (cC k5 HB) k6.out A4.out) ?_; rintro e w8 ⟨rfl, hb⟩; refine ⟨_, rfl, ?_⟩; replace a8 := kB_ a7 hb; replace HB := hB hb; (try clear hb); have n5 := cg11 a8))
    go_meet
    case rel => exact ⟨_, (true), fS, H', ⟨by first | omega | exact Nat.le_refl _⟩, ⟨kS⟩, ⟨bS⟩⟩
   ·rw [if_neg c6] at H
    have h3 : decide (4 < (a2.length : Int)) = false := decide_eq_false c6
    have l5 : decide (4 < a2.length) = false := decide_eq_false (by omega)
    clear c6
    (first | rw [h3] | (simp only [i64_w, i32_w]; rw [h3]) | skip)
    have H' := aM H
    clear H
    have hz10 := cz13 a8
    go_wp2_with (first | ((with_reducible refine gC 36 ?_); refine cM (some 9) Try.func36 (impl_GraphicsOk.calls k _ _ d4 e9 f5 f6 f7 _ _ d5 f8 f9 g0 g1 b0 _ _ (cC k1 HB) k4.out (cC k5 HB) k6.out A4.out) ?_; rintro e q9 ⟨rfl, hb⟩; refine ⟨_, rfl, ?_⟩; replace a8 := kB_ a7 hb; replace HB := hB hb; (try clear hb); have m4 := cg11 a8; have m5 := cg12 a8))
    go_meet
    case rel => exact ⟨_, (decide ((a5.length : Int) > 12)), fS, H', ⟨by first | omega | exact Nat.le_refl _⟩, ⟨kS⟩, ⟨bS⟩⟩
  ·obtain rfl := Bool.eq_false_iff.mpr c5
   rw [if_neg nF] at H
   have H' := aM H
   clear H
   have hz13 := cz13 a8
   go_wp2_with (first | ((with_reducible refine gC 36 ?_); refine cM (some 9) Try.func36 (impl_GraphicsOk.calls k _ _ d4 e9 f5 f6 f7 _ _ d5 f8 f9 g0 g1 b0 _ _ (cC k1 HB) k4.out (cC k5 HB) k6.out A4.out) ?_; rintro e r0 ⟨rfl, hb⟩; refine ⟨_, rfl, ?_⟩; replace a8 := kB_ a7 hb; replace HB := hB hb; (try clear hb)))
   go_meet
   case rel => exact ⟨_, (true), fS, H', ⟨by first | omega | exact Nat.le_refl _⟩, ⟨kS⟩, ⟨bS⟩⟩
 case rest =>
  clear o1
  try clear c1
  try clear p2
  try clear c3
  try clear c5
  try clear c6
  try clear h3
  try clear l5
  obtain ⟨kq, i7, rfl, HA, HJ1, a8, HB⟩ := hcut
  cases kq with
  | zero => exact absurd HA.out (by simp [impl_PageOk.j0])
  | succ kj1 =>
   have H := HA.out
   clear HA
   simp only [impl_PageOk.j0] at H
   by_cases n6 : i7 = true
   ·subst n6
    rw [if_pos rfl] at H
    obtain rfl := Option.some.inj H
    go_wp2
    go_ret
    exact ⟨eS, bS⟩
   ·obtain rfl := Bool.eq_false_iff.mpr n6
    rw [if_neg nF] at H
    have H' := aM H
    clear H
    have m6 := cg11 a8
    go_wp2
    go_loopg [26] kj1 (fun kq q7 w' => ∃ (a3 : Int), q7 = .int .i64 a3 ∧ Aside0 (impl_PageOk.l0 kq a2 (a2.length : Int) a3 d4 e9 f5 f6 f7 d5 f8 f9 g0 g1 b0 a2 a5 = some r) ∧ Aside0 (kq ≤ kj1) ∧ Aside0 (w'.heap[a7]? = some (.cells #[(.slice i8 d4.length i9), .int .i64 e9, .int .i64 f5, .int .i64 f6, .int .i64 f7, (.slice j5 d5.length j6), .int .i64 f8, .int .i64 f9, .int .i64 g0, .int .i64 g1, .int .i64 b0, (.slice g3 a2.length g4), (.slice g5 a5.length g6)] 37 (0, 0))) ∧ Aside0 (Below w.heap.size w w'))
    case atStart => exact ⟨(0), fS, H', ⟨Nat.le_refl _⟩, ⟨kS⟩, ⟨bS⟩⟩
    case round =>
     clear H'
     try clear c1
     try clear p2
     try clear c3
     try clear c5
     try clear c6
     try clear h3
     try clear l5
     try clear n6
     try clear p2
     obtain ⟨a3, rfl, HA, n7, a8, HB⟩ := hrel
     cases gk with
     | zero => exact absurd HA.out (by simp [impl_PageOk.l0])
     | succ k2 =>
      have H := HA.out
      clear HA
      simp only [impl_PageOk.l0] at H
      by_cases m1 : a3 < (a2.length : Int)
      ·rw [if_pos m1] at H
       have m0 : decide (a3 < (a2.length : Int)) = true := decide_eq_true m1
       clear m1
       obtain ⟨m7, H⟩ := iT H
       obtain ⟨m8, H⟩ := iT H
       replace H := bN H
       obtain ⟨o5, o8, H⟩ := H
       by_cases o6 : o5 = true
       ·subst o6
        rw [if_pos rfl] at H
        have H' := aM H
        clear H
        have h4 : 0 ≤ (a3 : Int) := dA
        have h5 : a3 < (a2.length : Int) := dA
        obtain ⟨m9, h7, h8, h9, i1, m2, b1, b2, b6, b7, b8, b9, d0, d1, d2, d3, a9, hl428_0, hi428_0, hl428_5, hi428_5⟩ := at_T33 k7.out a3 h4 h5
        cases m2
        replace b1 := cB HB b1
        replace b2 := cB HB b2
        replace b6 := cB HB b6
        replace b7 := cB HB b7
        replace b8 := cB HB b8
        replace b9 := cB HB b9
        replace d0 := cB HB d0
        replace d1 := cB HB d1
        replace d2 := cB HB d2
        replace d3 := cB HB d3
        replace a9 := cB HB a9
        have g7 := aM hi428_0
        have g8 := aM hl428_0
        clear hi428_0 hl428_0
        have g9 := aM hi428_5
        have h0 := aM hl428_5
        clear hi428_5 hl428_5
        replace h4 := eq_true h4
        replace h5 := eq_true h5
        go_wp2_with (first | ((with_reducible refine gD 4 ?_); refine bxE #[.slice none 0 0, .int .i64 0, .int .i64 0, .int .i64 0, .int .i64 0, .slice none 0 0, .int .i64 0, .int .i64 0, .int .i64 0, .int .i64 0, .int .i64 0] 33 ?_; intro l3 hg r1 g2 hb; have GE429 := gE hg; have e5 := nL_ a7 hg; have e6 := nG_ a7 hg; replace a8 := kB_ a7 hb; replace HB := hB hb; clear hb hg; have hnb23 := nP e6 e5; have hz24 := cz11 g2) | ((with_reducible refine gC 36 ?_); refine cM (some 31) Try.func36 (impl_GraphicsOk.calls k2 _ _ ((rd_T33 a2 a3).f0) ((rd_T33 a2 a3).f1.f0) ((rd_T33 a2 a3).f1.f1) ((rd_T33 a2 a3).f1.f2) ((rd_T33 a2 a3).f1.f3) _ _ ((rd_T33 a2 a3).f2) ((rd_T33 a2 a3).f3) ((rd_T33 a2 a3).f4.f0) ((rd_T33 a2 a3).f4.f1) ((rd_T33 a2 a3).f4.f2) ((rd_T33 a2 a3).f4.f3) _ _ (Kd.C_below g7.out bS) g8.out (Kd.C_below g9.out bS) h0.out o8.out) ?_; rintro e r2 ⟨rfl, hb⟩; refine ⟨_, rfl, ?_⟩; replace a8 := kB_ a7 hb; replace g2 := aM (blk_below (g := l3) (o := .cells #[.slice h7 ((rd_T33 a2 a3).f0).length h8, .int .i64 ((rd_T33 a2 a3).f1.f0), .int .i64 ((rd_T33 a2 a3).f1.f1), .int .i64 ((rd_T33 a2 a3).f1.f2), .int .i64 ((rd_T33 a2 a3).f1.f3), .slice h9 ((rd_T33 a2 a3).f2).length i1, .int .i64 ((rd_T33 a2 a3).f3), .int .i64 ((rd_T33 a2 a3).f4.f0), .int .i64 ((rd_T33 a2 a3).f4.f1), .int .i64 ((rd_T33 a2 a3).f4.f2), .int .i64 ((rd_T33 a2 a3).f4.f3)] 33 (0, 0)) (kQ g2) hb); replace HB := hB hb; (try clear hb)))
        go_roundg k2
        case measure => have := HJ1.out; have := n7.out; omega
        case rel => exact ⟨(wrap64 (a3 + 1)), fS, H', ⟨by have := HJ1.out; have := n7.out; omega⟩, ⟨kS⟩, ⟨bS⟩⟩
       ·obtain rfl := Bool.eq_false_iff.mpr o6
        rw [if_neg nF] at H
        obtain rfl := Option.some.inj H
        have h4 : 0 ≤ (a3 : Int) := dA
        have h5 : a3 < (a2.length : Int) := dA
        obtain ⟨m9, h7, h8, h9, i1, m2, b1, b2, b6, b7, b8, b9, d0, d1, d2, d3, a9, hl428_0, hi428_0, hl428_5, hi428_5⟩ := at_T33 k7.out a3 h4 h5
        cases m2
        replace b1 := cB HB b1
        replace b2 := cB HB b2
        replace b6 := cB HB b6
        replace b7 := cB HB b7
        replace b8 := cB HB b8
        replace b9 := cB HB b9
        replace d0 := cB HB d0
        replace d1 := cB HB d1
        replace d2 := cB HB d2
        replace d3 := cB HB d3
        replace a9 := cB HB a9
        have g7 := aM hi428_0
        have g8 := aM hl428_0
        clear hi428_0 hl428_0
        have g9 := aM hi428_5
        have h0 := aM hl428_5
        clear hi428_5 hl428_5
        replace h4 := eq_true h4
        replace h5 := eq_true h5
        go_wp2_with (first | ((with_reducible refine gD 4 ?_); refine bxE #[.slice none 0 0, .int .i64 0, .int .i64 0, .int .i64 0, .int .i64 0, .slice none 0 0, .int .i64 0, .int .i64 0, .int .i64 0, .int .i64 0, .int .i64 0] 33 ?_; intro l3 hg r3 g2 hb; have GE429 := gE hg; have e5 := nL_ a7 hg; have e6 := nG_ a7 hg; replace a8 := kB_ a7 hb; replace HB := hB hb; clear hb hg; have hnb27 := nP e6 e5; have hz28 := cz11 g2) | ((with_reducible refine gC 36 ?_); refine cM (some 31) Try.func36 (impl_GraphicsOk.calls k2 _ _ ((rd_T33 a2 a3).f0) ((rd_T33 a2 a3).f1.f0) ((rd_T33 a2 a3).f1.f1) ((rd_T33 a2 a3).f1.f2) ((rd_T33 a2 a3).f1.f3) _ _ ((rd_T33 a2 a3).f2) ((rd_T33 a2 a3).f3) ((rd_T33 a2 a3).f4.f0) ((rd_T33 a2 a3).f4.f1) ((rd_T33 a2 a3).f4.f2) ((rd_T33 a2 a3).f4.f3) _ _ (Kd.C_below g7.out bS) g8.out (Kd.C_below g9.out bS) h0.out o8.out) ?_; rintro e r4 ⟨rfl, hb⟩; refine ⟨_, rfl, ?_⟩; replace a8 := kB_ a7 hb; replace g2 := aM (blk_below (g := l3) (o := .cells #[.slice h7 ((rd_T33 a2 a3).f0).length h8, .int .i64 ((rd_T33 a2 a3).f1.f0), .int .i64 ((rd_T33 a2 a3).f1.f1), .int .i64 ((rd_T33 a2 a3).f1.f2), .int .i64 ((rd_T33 a2 a3).f1.f3), .slice h9 ((rd_T33 a2 a3).f2).length i1, .int .i64 ((rd_T33 a2 a3).f3), .int .i64 ((rd_T33 a2 a3).f4.f0), .int .i64 ((rd_T33 a2 a3).f4.f1), .int .i64 ((rd_T33 a2 a3).f4.f2), .int .i64 ((rd_T33 a2 a3).f4.f3)] 33 (0, 0)) (kQ g2) hb); replace HB := hB hb; (try clear hb)))
        go_ret
        exact ⟨eS, bS⟩
      ·rw [if_neg m1] at H
       have m0 : decide (a3 < (a2.length : Int)) = false := decide_eq_false m1
       clear m1
       have H' := aM H
       clear H
       have n0 := cg12 a8
       go_wp2
       go_loopg [37] k2 (fun kq q8 w' => ∃ (a6 : Int), q8 = .int .i64 a6 ∧ Aside0 (impl_PageOk.l1 kq a5 (a5.length : Int) a6 = some r) ∧ Aside0 (kq ≤ k2) ∧ Aside0 (w'.heap[a7]? = some (.cells #[(.slice i8 d4.length i9), .int .i64 e9, .int .i64 f5, .int .i64 f6, .int .i64 f7, (.slice j5 d5.length j6), .int .i64 f8, .int .i64 f9, .int .i64 g0, .int .i64 g1, .int .i64 b0, (.slice g3 a2.length g4), (.slice g5 a5.length g6)] 37 (0, 0))) ∧ Aside0 (Below w.heap.size w w'))
       case atStart => exact ⟨(0), fS, H', ⟨Nat.le_refl _⟩, ⟨kS⟩, ⟨bS⟩⟩
       case round =>
        clear H'
        try clear c1
        try clear c2
        try clear p2
        try clear c3
        try clear c4
        try clear p4
        try clear q4
        try clear r5
        try clear c5
        try clear c6
        try clear h3
        try clear l5
        try clear p6
        try clear n6
        try clear m1
        try clear m0
        try clear r6
        try clear m7
        try clear r7
        try clear m8
        try clear o6
        try clear s0
        try clear s1
        try clear b1
        try clear b2
        try clear a9
        try clear b6
        try clear b7
        try clear b8
        try clear b9
        try clear d0
        try clear d1
        try clear d2
        try clear d3
        try clear p2
        try clear h4
        try clear h5
        obtain ⟨a6, rfl, HA, o9, a8, HB⟩ := hrel
        cases gk with
        | zero => exact absurd HA.out (by simp [impl_PageOk.l1])
        | succ k3 =>
         have H := HA.out
         clear HA
         simp only [impl_PageOk.l1] at H
         rcases iD H with ⟨n1, H⟩ | ⟨n1, H⟩
         ·obtain ⟨q0, H⟩ := iT H
          obtain ⟨q2, H⟩ := iT H
          replace H := bN H
          obtain ⟨o7, q3, H⟩ := H
          by_cases q5 : o7 = true
          ·subst q5
           rw [if_pos rfl] at H
           have H' := aM H
           clear H
           have i3 : 0 ≤ (a6 : Int) := dA
           have i4 : a6 < (a5.length : Int) := dA
           obtain ⟨n2, i5, i6, m3, d6, e0, e1, e2, e3, e4, hl431_0, hi431_0⟩ := at_T82 k9.out a6 i3 i4
           cases m3
           replace d6 := cB HB d6
           replace e0 := cB HB e0
           replace e1 := cB HB e1
           replace e2 := cB HB e2
           replace e3 := cB HB e3
           replace e4 := cB HB e4
           have h1 := aM hi431_0
           have h2 := aM hl431_0
           clear hi431_0 hl431_0
           replace i3 := eq_true i3
           replace i4 := eq_true i4
           go_wp2_with (first | ((with_reducible refine gD 6 ?_); refine bxE #[.slice none 0 0, .int .i64 0, .int .i64 0, .int .i64 0, .int .i64 0, .int .i64 0] 82 ?_; intro l4 hg s2 h6 hb; have GE432 := gE hg; have e7 := nL_ a7 hg; have e8 := nG_ a7 hg; replace a8 := kB_ a7 hb; replace HB := hB hb; clear hb hg; have hnb37 := nP e8 e7; have hz38 := cz6 h6) | ((with_reducible refine gC 37 ?_); refine cM (some 42) Try.func37 (impl_ObjectOk.calls k3 _ _ ((rd_T82 a5 a6).f0) ((rd_T82 a5 a6).f1) ((rd_T82 a5 a6).f2.f0) ((rd_T82 a5 a6).f2.f1) ((rd_T82 a5 a6).f2.f2) ((rd_T82 a5 a6).f2.f3) _ _ (Kd.C_below h1.out bS) h2.out q3.out) ?_; rintro e s3 ⟨rfl, hb⟩; refine ⟨_, rfl, ?_⟩; replace a8 := kB_ a7 hb; replace h6 := kO l4 #[.slice i5 ((rd_T82 a5 a6).f0).length i6, .int .i64 ((rd_T82 a5 a6).f1), .int .i64 ((rd_T82 a5 a6).f2.f0), .int .i64 ((rd_T82 a5 a6).f2.f1), .int .i64 ((rd_T82 a5 a6).f2.f2), .int .i64 ((rd_T82 a5 a6).f2.f3)] 82 hb; replace HB := hB hb; (try clear hb)))
           go_roundg k3
           case measure => have := HJ1.out; have := n7.out; have := o9.out; omega
           case rel => exact ⟨(wrap64 (a6 + 1)), fS, H', ⟨by have := HJ1.out; have := n7.out; have := o9.out; omega⟩, ⟨kS⟩, ⟨bS⟩⟩
          ·obtain rfl := Bool.eq_false_iff.mpr q5
           rw [if_neg nF] at H
           obtain rfl := Option.some.inj H
           have i3 : 0 ≤ (a6 : Int) := dA
           have i4 : a6 < (a5.length : Int) := dA
           obtain ⟨n2, i5, i6, m3, d6, e0, e1, e2, e3, e4, hl431_0, hi431_0⟩ := at_T82 k9.out a6 i3 i4
           cases m3
           replace d6 := cB HB d6
           replace e0 := cB HB e0
           replace e1 := cB HB e1
           replace e2 := cB HB e2
           replace e3 := cB HB e3
           replace e4 := cB HB e4
           have h1 := aM hi431_0
           have h2 := aM hl431_0
           clear hi431_0 hl431_0
           replace i3 := eq_true i3
           replace i4 := eq_true i4
           go_wp2_with (first | ((with_reducible refine gD 6 ?_); refine bxE #[.slice none 0 0, .int .i64 0, .int .i64 0, .int .i64 0, .int .i64 0, .int .i64 0] 82 ?_; intro l4 hg s4 h6 hb; have GE432 := gE hg; have e7 := nL_ a7 hg; have e8 := nG_ a7 hg; replace a8 := kB_ a7 hb; replace HB := hB hb; clear hb hg; have hnb41 := nP e8 e7; have hz42 := cz6 h6) | ((with_reducible refine gC 37 ?_); refine cM (some 42) Try.func37 (impl_ObjectOk.calls k3 _ _ ((rd_T82 a5 a6).f0) ((rd_T82 a5 a6).f1) ((rd_T82 a5 a6).f2.f0) ((rd_T82 a5 a6).f2.f1) ((rd_T82 a5 a6).f2.f2) ((rd_T82 a5 a6).f2.f3) _ _ (Kd.C_below h1.out bS) h2.out q3.out) ?_; rintro e s5 ⟨rfl, hb⟩; refine ⟨_, rfl, ?_⟩; replace a8 := kB_ a7 hb; replace h6 := kO l4 #[.slice i5 ((rd_T82 a5 a6).f0).length i6, .int .i64 ((rd_T82 a5 a6).f1), .int .i64 ((rd_T82 a5 a6).f2.f0), .int .i64 ((rd_T82 a5 a6).f2.f1), .int .i64 ((rd_T82 a5 a6).f2.f2), .int .i64 ((rd_T82 a5 a6).f2.f3)] 82 hb; replace HB := hB hb; (try clear hb)))
           go_ret
           exact ⟨eS, bS⟩
         ·obtain rfl := Option.some.inj H
          go_wp2
          go_ret
          exact ⟨eS, bS⟩

/-! ### slices_Clone_int_int: function 41 -/
def slices_Clone_int_int.f (l0 : List Int) : Option (List Int) := (some (([] : List Int) : List Int)).bind fun a2 => (if a2.length + l0.length < 17592186044416 then (some (a2 ++ l0)) else (none))
theorem slices_Clone_int_int.calls (A0 : Option Addr) (c0 : Nat) (l0 : List Int) (r : List Int) (w : World) (hr0 : Kd.C (Kd.int .i64) w A0 l0.length l0) (a9 : l0.length ≤ c0) (h : slices_Clone_int_int.f l0 = some r) :
  Calls Try.prog 41 #[.slice A0 l0.length c0] w fun e w' => ∃ v0_ : Value, e = .returned (v0_) ∧ Kd.R (Kd.int .i64) 3 w' w.heap.size (fun _ => True) v0_ r ∧ Below w.heap.size w w' := by
 obtain _ | A0 := A0
 ·have hl0 : l0 = [] := by
   rcases Nat.eq_zero_or_pos l0.length with h0 | h0
   ·exact List.eq_nil_of_length_eq_zero h0
   ·obtain ⟨ad, e, _⟩ := hr0.2.2 h0
    cases e
  subst hl0
  have hr_ : r = [] := by
   have h_ := h
   simp [slices_Clone_int_int.f] at h_
   first | exact h_ | exact h_.symm
  subst hr_
  have he_ : ∀ w : World, (binOp .eql 26 (.slice none 0 c0) (.slice none 0 0)).run Try.prog w = .ok (.bool true) w := fun _ => rfl
  go_enter Try.func41, Try.ntmps41
  go_wp2
  go_ret
  exact ⟨_, rfl, Kd.R_nil _ _ _ _ _, Below.refl _ _⟩
 have he_ : ∀ w : World, (binOp .eql 26 (.slice (some A0) l0.length c0) (.slice none 0 0)).run Try.prog w = .ok (.bool false) w := fun _ => rfl
 have b0 := aM hr0
 have b2 := aM a9
 clear hr0 a9
 have HB := aM (Below.refl w.heap.size w)
 have H := h
 clear h
 unfold slices_Clone_int_int.f at H
 obtain ⟨a2, hy_⟩ : ∃ y_ : List Int, y_ = (([] : List Int)) := ⟨_, rfl⟩
 replace H : (if a2.length + l0.length < 17592186044416 then (some (a2 ++ l0)) else (none)) = some r := yS
 have Ny434 := aM hy_
 clear hy_
 by_cases c2 : a2.length + l0.length < 17592186044416
 ·rw [if_pos c2] at H
  have LMc2 := aM c2
  clear c2
  obtain ⟨a7, hy_⟩ : ∃ y_ : List Int, y_ = (a2 ++ l0) := ⟨_, rfl⟩
  replace H : (some a7) = some r := yS
  have Ny437 := aM hy_
  clear hy_
  obtain rfl := Option.some.inj H
  go_enter Try.func41, Try.ntmps41
  go_wp2_with (first | ((with_reducible refine gate_dst (N := 5) rfl ?_); refine Kd.R_lit (Kd.int .i64) _ 3 ?hg (N := 5) ?hd (xs := ([] : List Int)) (inner := []) (ok := fun _ => True) (okp := fun _ => True) ?hr ?hp (fun _ hk => hk) trivial (Below.refl _ _) (Nat.le_refl _) (by simp) ?_; (case hd => rfl); (case hg => rfl); (case hr => first | (go_simp; done) | (go_simp; rfl)); (case hp => exact (Reps.none _ _)); intro a8 w3 a5 hb hg_ hnew_; clear hg_ hnew_; (first | rw [← Ny434.out] at a5 | (simp only [Int.reduceToNat] at a5; rw [← Ny434.out] at a5)); have a3 := aM (Kd.R_lower a5 (below_size bS)); replace HB := hB hb; clear hb a5) | ((with_reducible refine gate_builtin (b := .append) (xs := #[.tmp 5, .tmp 6]) rfl ?_); at_builtin; refine Kd.R_append_rows (Kd.int .i64) (w0 := w) w.heap.size rfl (.tmp 5) (.tmp 6) 26 3 (.int .i64 0) 8 rfl Try.underlying26 info3 rfl (by decide) (by omega) a8 a2 l0 _ _ _ (fun _ => True) (fun _ => False) rfl rfl ?aO ?aR (fun _ _ h => h) (fun _ h => h.elim) ?aF ?aB ?aS ?aL ?_; (case aR => exact cS (Kd.C_below b0.out HB.out)); (case aB => exact bS); (case aF => exact (fun _ _ => trivial)); (case aO => exact (rS a3)); (case aS => exact (below_size bS)); (case aL => have := LMc2.out; (try dsimp only at this); omega); intro b1 w5 ho hb hg hat; rw [← Ny437.out] at ho; have a6 := aM (ho); replace HB := aM (hb); clear a3; clear ho hb hg hat))
  go_ret
  exact ⟨_, eS, rS a6, bS⟩
 ·rw [if_neg c2] at H
  exact absurd H (by simp)

/-! ### impl_Point: function 44 -/
def impl_Point.f (l0 : List (S90)) : Option ((List (S90))) := (some (([] : List (S90)) : List (S90))).bind fun a2 => (if a2.length + l0.length < 8796093022208 then (some (a2 ++ l0)) else (none))
theorem impl_Point.calls (A0 : Option Addr) (c0 : Nat) (l0 : List (S90)) (r : List (S90)) (w : World) (hr0 : Kd.C k90 w A0 l0.length l0) (a9 : l0.length ≤ c0) (h : impl_Point.f l0 = some r) :
  Calls Try.prog 44 #[.slice A0 l0.length c0] w fun e w' => ∃ v0_ : Value, e = .returned (v0_) ∧ Kd.R k90 90 w' w.heap.size (fun _ => True) v0_ r ∧ Below w.heap.size w w' := by
 obtain _ | A0 := A0
 ·have hl0 : l0 = [] := by
   rcases Nat.eq_zero_or_pos l0.length with h0 | h0
   ·exact List.eq_nil_of_length_eq_zero h0
   ·obtain ⟨ad, e, _⟩ := hr0.2.2 h0
    cases e
  subst hl0
  have hr_ : r = [] := by
   have h_ := h
   simp [impl_Point.f] at h_
   first | exact h_ | exact h_.symm
  subst hr_
  have he_ : ∀ w : World, (binOp .eql 29 (.slice none 0 c0) (.slice none 0 0)).run Try.prog w = .ok (.bool true) w := fun _ => rfl
  go_enter Try.func44, Try.ntmps44
  go_wp2
  go_ret
  exact ⟨_, rfl, Kd.R_nil _ _ _ _ _, Below.refl _ _⟩
 have he_ : ∀ w : World, (binOp .eql 29 (.slice (some A0) l0.length c0) (.slice none 0 0)).run Try.prog w = .ok (.bool false) w := fun _ => rfl
 have b0 := aM hr0
 have b2 := aM a9
 clear hr0 a9
 have HB := aM (Below.refl w.heap.size w)
 have H := h
 clear h
 unfold impl_Point.f at H
 obtain ⟨a2, hy_⟩ : ∃ y_ : List (S90), y_ = (([] : List (S90))) := ⟨_, rfl⟩
 replace H : (if a2.length + l0.length < 8796093022208 then (some (a2 ++ l0)) else (none)) = some r := yS
 have Ny440 := aM hy_
 clear hy_
 by_cases c2 : a2.length + l0.length < 8796093022208
 ·rw [if_pos c2] at H
  have LMc2 := aM c2
  clear c2
  obtain ⟨a7, hy_⟩ : ∃ y_ : List (S90), y_ = (a2 ++ l0) := ⟨_, rfl⟩
  replace H : (some a7) = some r := yS
  have Ny443 := aM hy_
  clear hy_
  obtain rfl := Option.some.inj H
  go_enter Try.func44, Try.ntmps44
  go_wp2_with (first | ((with_reducible refine gate_dst (N := 5) rfl ?_); refine Kd.R_lit k90 _ 90 ?hg (N := 5) ?hd (xs := ([] : List (S90))) (inner := []) (ok := fun _ => True) (okp := fun _ => True) ?hr ?hp (fun _ hk => hk) trivial (Below.refl _ _) (Nat.le_refl _) (by simp) ?_; (case hd => rfl); (case hg => rfl); (case hr => first | (go_simp; done) | (go_simp; rfl)); (case hp => exact (Reps.none _ _)); intro a8 w3 a5 hb hg_ hnew_; clear hg_ hnew_; (first | rw [← Ny440.out] at a5 | (simp only [Int.reduceToNat] at a5; rw [← Ny440.out] at a5)); have a3 := aM (Kd.R_lower a5 (below_size bS)); replace HB := hB hb; clear hb a5) | ((with_reducible refine gate_builtin (b := .append) (xs := #[.tmp 5, .tmp 6]) rfl ?_); at_builtin; refine Kd.R_append_rows k90 (w0 := w) w.heap.size rfl (.tmp 5) (.tmp 6) 29 90 (.agg #[(.int .i64 0), (.int .i64 0)]) 16 rfl Try.underlying29 info90 rfl (by decide) (by omega) a8 a2 l0 _ _ _ (fun _ => True) (fun _ => False) rfl rfl ?aO ?aR (fun _ _ h => h) (fun _ h => h.elim) ?aF ?aB ?aS ?aL ?_; (case aR => exact cS (Kd.C_below b0.out HB.out)); (case aB => exact bS); (case aF => exact (fun _ _ => trivial)); (case aO => exact (rS a3)); (case aS => exact (below_size bS)); (case aL => have := LMc2.out; (try dsimp only at this); omega); intro b1 w5 ho hb hg hat; rw [← Ny443.out] at ho; have a6 := aM (ho); replace HB := aM (hb); clear a3; clear ho hb hg hat))
  go_ret
  exact ⟨_, eS, rS a6, bS⟩
 ·rw [if_neg c2] at H
  exact absurd H (by simp)

end Go.Proofs.Ytpickbenfkcpmaa.QFnRuns7
