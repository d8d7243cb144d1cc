/- Walks of functions of the program, made out of the translation by a program of this session: each answers what its plain function tells, for every input at which that is told. -/
import Derived.Test.YtjkgponlahfnjaaGreatQFnExactExecTokenx0
import Derived.Test.YtjkgponlahfnjaaGreatQFnExactExecTokenx11
namespace Go.Proofs.YtjkgponlahfnjaaGreat.QFnExactExecToken
open Go.RowKit Go.Proofs.YtjkgponlahfnjaaGreatW.PrintWords Go.Proofs.YtjkgponlahfnjaaGreatW.PrintLast Go.Proofs.YtjkgponlahfnjaaGreatW.PrintMore
attribute [local go_sem] max2_int min2_int max_two min_two max_three min_three max_four min_four   -- for this text's walks alone
set_option linter.unusedVariables false
set_option linter.unusedSimpArgs false
set_option maxHeartbeats 8000000
set_option maxRecDepth 100000
/-! ### impl_PageOk: function 36 -/
mutual
def impl_PageOk.j0 : Nat → Bool → List Int → Int → Int → Int → Int → List (S111) → Int → Int → Int → Int → Int → List (S42) → List (S103) → Option (Bool)
 | 0, _, _, _, _, _, _, _, _, _, _, _, _, _, _ => none
 | k + 1, e0, a5, a6, a7, a8, a9, b0, b1, b2, b6, b7, b8, a2, a3 => if e0 = true then (some false) else (impl_PageOk.l0 k a2 (a2.length : Int) 0 a5 a6 a7 a8 a9 b0 b1 b2 b6 b7 b8 a2 a3)
def impl_PageOk.l0 : Nat → List (S42) → Int → Int → List Int → Int → Int → Int → Int → List (S111) → Int → Int → Int → Int → Int → List (S42) → List (S103) → Option (Bool)
 | 0, _, _, _, _, _, _, _, _, _, _, _, _, _, _, _, _ => none
 | k + 1, d0, d5, b9, a5, a6, a7, a8, a9, b0, b1, b2, b6, b7, b8, a2, a3 => if b9 < d5 then (if 0 ≤ b9 then (if b9 < (d0.length : Int) then ((impl_GraphicsOk.f k ((rd_T42 d0 b9).f0) ((rd_T42 d0 b9).f1.f0) ((rd_T42 d0 b9).f1.f1) ((rd_T42 d0 b9).f1.f2) ((rd_T42 d0 b9).f1.f3) ((rd_T42 d0 b9).f2) ((rd_T42 d0 b9).f3) ((rd_T42 d0 b9).f4.f0) ((rd_T42 d0 b9).f4.f1) ((rd_T42 d0 b9).f4.f2) ((rd_T42 d0 b9).f4.f3)).bind fun d3 => (if d3 = true then (impl_PageOk.l0 k d0 d5 (wrap64 (b9 + 1)) a5 a6 a7 a8 a9 b0 b1 b2 b6 b7 b8 a2 a3) else (some false))) else (none)) else (none)) else (impl_PageOk.l1 k a3 (a3.length : Int) 0)
def impl_PageOk.l1 : Nat → List (S103) → Int → Int → Option (Bool)
 | 0, _, _, _ => none
 | k + 1, d2, d6, d1 => if d1 < d6 then (if 0 ≤ d1 then (if d1 < (d2.length : Int) then ((impl_ObjectOk.f k ((rd_T103 d2 d1).f0) ((rd_T103 d2 d1).f1) ((rd_T103 d2 d1).f2.f0) ((rd_T103 d2 d1).f2.f1) ((rd_T103 d2 d1).f2.f2) ((rd_T103 d2 d1).f2.f3)).bind fun d4 => (if d4 = true then (impl_PageOk.l1 k d2 d6 (wrap64 (d1 + 1))) else (some false))) else (none)) else (none)) else (some true)
end
def impl_PageOk.f (k : Nat) (a6 : List Int) (a7 : Int) (a8 : Int) (a9 : Int) (b0 : Int) (b1 : List (S111)) (b2 : Int) (b6 : Int) (b7 : Int) (b8 : Int) (a2 : Int) (a3 : List (S42)) (a5 : List (S103)) : Option (Bool) := (impl_GraphicsOk.f k a6 a7 a8 a9 b0 b1 b2 b6 b7 b8 a2).bind fun b9 => (if b9 = true then (if (a3.length : Int) > 4 then (impl_PageOk.j0 k true a6 a7 a8 a9 b0 b1 b2 b6 b7 b8 a2 a3 a5) else (impl_PageOk.j0 k (decide ((a5.length : Int) > 12)) a6 a7 a8 a9 b0 b1 b2 b6 b7 b8 a2 a3 a5)) else (impl_PageOk.j0 k true a6 a7 a8 a9 b0 b1 b2 b6 b7 b8 a2 a3 a5))
theorem impl_PageOk.calls (k : Nat) (i8 : Option Addr) (i9 : Nat) (d4 : List Int) (e9 : Int) (f5 : Int) (f6 : Int) (f7 : Int) (j5 : Option Addr) (j6 : Nat) (d5 : List (S111)) (f8 : Int) (f9 : Int) (g0 : Int) (g1 : Int) (b0 : Int) (g3 : Option Addr) (g4 : Nat) (a2 : List (S42)) (g5 : Option Addr) (g6 : Nat) (a5 : List (S103)) (r : Bool) (w : World) (l6 : Kd.C (Kd.int .i64) w i8 d4.length d4) (l7 : d4.length ≤ i9) (l8 : Kd.C k111 w j5 d5.length d5) (l9 : d5.length ≤ j6) (j7 : Kd.C k42 w g3 a2.length a2) (j8 : a2.length ≤ g4) (j9 : Kd.C k103 w g5 a5.length a5) (k0 : a5.length ≤ g6) (h : impl_PageOk.f k d4 e9 f5 f6 f7 d5 f8 f9 g0 g1 b0 a2 a5 = some r) :
  Calls Tryz.prog 36 #[.agg #[.slice i8 d4.length i9, .int .i64 e9, .int .i64 f5, .int .i64 f6, .int .i64 f7, .slice j5 d5.length j6, .int .i64 f8, .int .i64 f9, .int .i64 g0, .int .i64 g1, .int .i64 b0, .slice g3 a2.length g4, .slice g5 a5.length g6]] w fun e w' => e = .returned (.bool r) ∧ Below w.heap.size w w' := by
 have hu46 := Tryz.underlying46
 have hu42 := Tryz.underlying42
 have hu103 := Tryz.underlying103
 have k1 := aM l6
 have k4 := aM l7
 clear l6 l7
 have k5 := aM l8
 have k6 := aM l9
 clear l8 l9
 have k7 := aM j7
 have n8 := aM j8
 clear j7 j8
 have k9 := aM j9
 have o0 := aM k0
 clear j9 k0
 have HB := aM (Below.refl w.heap.size w)
 have H := h
 clear h
 unfold impl_PageOk.f at H
 have o1 := aM H
 clear H
 go_enter Tryz.func36, Tryz.ntmps36
 go_upto_region 1 with (first | ((with_reducible refine gD 1 ?_); refine bxE #[.slice i8 d4.length i9, .int .i64 e9, .int .i64 f5, .int .i64 f6, .int .i64 f7, .slice j5 d5.length j6, .int .i64 f8, .int .i64 f9, .int .i64 g0, .int .i64 g1, .int .i64 b0, .slice g3 a2.length g4, .slice g5 a5.length g6] 46 ?_; intro a7 hg w3 a8 hb; have GE691 := gE hg; replace HB := hB hb; clear hb hg))
 (try simp only [Act.put, List.setIfInBounds_toArray, List.set_cons_zero, List.set_cons_succ])
 go_cut [22] (fun q5 wc => ∃ (kq : Nat) (i7 : Bool), q5 = .bool i7 ∧ Aside0 (impl_PageOk.j0 kq i7 d4 e9 f5 f6 f7 d5 f8 f9 g0 g1 b0 a2 a5 = some r) ∧ Aside0 (kq ≤ k) ∧ Aside0 (wc.heap[a7]? = some (.cells #[(.slice i8 d4.length i9), .int .i64 e9, .int .i64 f5, .int .i64 f6, .int .i64 f7, (.slice j5 d5.length j6), .int .i64 f8, .int .i64 f9, .int .i64 g0, .int .i64 g1, .int .i64 b0, (.slice g3 a2.length g4), (.slice g5 a5.length g6)] 46 (0, 0))) ∧ Aside0 (Below w.heap.size w wc))
 case first =>
  have H := o1.out
  clear o1
  replace H := bN H
  obtain ⟨o4, A4, H⟩ := H
  by_cases c5 : o4 = true
  ·subst c5
   rw [if_pos rfl] at H
   by_cases c6 : (a2.length : Int) > 4
   ·rw [if_pos c6] at H
    have h3 : decide (4 < (a2.length : Int)) = true := decide_eq_true c6
    have l5 : decide (4 < a2.length) = true := decide_eq_true (by omega)
    clear c6
    (first | rw [h3] | (simp only [i64_w, i32_w]; rw [h3]) | skip)
    have H' := aM H
    clear H
    have hz7 := cz13 a8
    go_wp2_with (first | ((with_reducible refine gC 81 ?_); refine cM (some 9) Tryz.func81 (impl_GraphicsOk.calls k _ _ d4 e9 f5 f6 f7 _ _ d5 f8 f9 g0 g1 b0 _ _ (cC k1 HB) k4.out (cC k5 HB) k6.out A4.out) ?_; rintro e w8 ⟨rfl, hb⟩; refine ⟨_, rfl, ?_⟩; replace a8 := kB_ a7 hb; replace HB := hB hb; (try clear hb); have n5 := cg11 a8))
    go_meet
    case rel => exact ⟨_, (true), fS, H', ⟨by first | omega | exact Nat.le_refl _⟩, ⟨kS⟩, ⟨bS⟩⟩
   ·rw [if_neg c6] at H
    have h3 : decide (4 < (a2.length : Int)) = false := decide_eq_false c6
    have l5 : decide (4 < a2.length) = false := decide_eq_false (by omega)
    clear c6
    (first | rw [h3] | (simp only [i64_w, i32_w]; rw [h3]) | skip)
    have H' := aM H
    clear H
    have hz10 := cz13 a8
    go_wp2_with (first | ((with_reducible refine gC 81 ?_); refine cM (some 9) Tryz.func81 (impl_GraphicsOk.calls k _ _ d4 e9 f5 f6 f7 _ _ d5 f8 f9 g0 g1 b0 _ _ (cC k1 HB) k4.out (cC k5 HB) k6.out A4.out) ?_; rintro e q9 ⟨rfl, hb⟩; refine ⟨_, rfl, ?_⟩; replace a8 := kB_ a7 hb; replace HB := hB hb; (try clear hb); have m4 := cg11 a8; have m5 := cg12 a8))
    go_meet
    case rel => exact ⟨_, (decide ((a5.length : Int) > 12)), fS, H', ⟨by first | omega | exact Nat.le_refl _⟩, ⟨kS⟩, ⟨bS⟩⟩
  ·obtain rfl := Bool.eq_false_iff.mpr c5
   rw [if_neg nF] at H
   have H' := aM H
   clear H
   have hz13 := cz13 a8
   go_wp2_with (first | ((with_reducible refine gC 81 ?_); refine cM (some 9) Tryz.func81 (impl_GraphicsOk.calls k _ _ d4 e9 f5 f6 f7 _ _ d5 f8 f9 g0 g1 b0 _ _ (cC k1 HB) k4.out (cC k5 HB) k6.out A4.out) ?_; rintro e r0 ⟨rfl, hb⟩; refine ⟨_, rfl, ?_⟩; replace a8 := kB_ a7 hb; replace HB := hB hb; (try clear hb)))
   go_meet
   case rel => exact ⟨_, (true), fS, H', ⟨by first | omega | exact Nat.le_refl _⟩, ⟨kS⟩, ⟨bS⟩⟩
 case rest =>
  clear o1
  try clear p2
  try clear c3
  try clear c5
  try clear c6
  try clear h3
  try clear l5
  try clear c8
  obtain ⟨kq, i7, rfl, HA, HJ1, a8, HB⟩ := hcut
  cases kq with
  | zero => exact absurd HA.out (by simp [impl_PageOk.j0])
  | succ kj1 =>
   have H := HA.out
   clear HA
   simp only [impl_PageOk.j0] at H
   by_cases n6 : i7 = true
   ·subst n6
    rw [if_pos rfl] at H
    obtain rfl := Option.some.inj H
    go_wp2
    go_ret
    exact ⟨eS, bS⟩
   ·obtain rfl := Bool.eq_false_iff.mpr n6
    rw [if_neg nF] at H
    have H' := aM H
    clear H
    have m6 := cg11 a8
    go_wp2
    go_loopg [26] kj1 (fun kq q7 w' => ∃ (a3 : Int), q7 = .int .i64 a3 ∧ Aside0 (impl_PageOk.l0 kq a2 (a2.length : Int) a3 d4 e9 f5 f6 f7 d5 f8 f9 g0 g1 b0 a2 a5 = some r) ∧ Aside0 (kq ≤ kj1) ∧ Aside0 (w'.heap[a7]? = some (.cells #[(.slice i8 d4.length i9), .int .i64 e9, .int .i64 f5, .int .i64 f6, .int .i64 f7, (.slice j5 d5.length j6), .int .i64 f8, .int .i64 f9, .int .i64 g0, .int .i64 g1, .int .i64 b0, (.slice g3 a2.length g4), (.slice g5 a5.length g6)] 46 (0, 0))) ∧ Aside0 (Below w.heap.size w w'))
    case atStart => exact ⟨(0), fS, H', ⟨Nat.le_refl _⟩, ⟨kS⟩, ⟨bS⟩⟩
    case round =>
     clear H'
     try clear c1
     try clear p2
     try clear c3
     try clear c5
     try clear c6
     try clear h3
     try clear l5
     try clear c8
     try clear n6
     try clear p2
     obtain ⟨a3, rfl, HA, n7, a8, HB⟩ := hrel
     cases gk with
     | zero => exact absurd HA.out (by simp [impl_PageOk.l0])
     | succ k2 =>
      have H := HA.out
      clear HA
      simp only [impl_PageOk.l0] at H
      by_cases m1 : a3 < (a2.length : Int)
      ·rw [if_pos m1] at H
       have m0 : decide (a3 < (a2.length : Int)) = true := decide_eq_true m1
       clear m1
       obtain ⟨m7, H⟩ := iT H
       obtain ⟨m8, H⟩ := iT H
       replace H := bN H
       obtain ⟨o5, o8, H⟩ := H
       by_cases o6 : o5 = true
       ·subst o6
        rw [if_pos rfl] at H
        have H' := aM H
        clear H
        have h4 : 0 ≤ (a3 : Int) := dA
        have h5 : a3 < (a2.length : Int) := dA
        obtain ⟨m9, h7, h8, h9, i1, m2, b1, b2, b6, b7, b8, b9, d0, d1, d2, d3, a9, hl693_0, hi693_0, hl693_5, hi693_5⟩ := at_T42 k7.out a3 h4 h5
        cases m2
        replace b1 := cB HB b1
        replace b2 := cB HB b2
        replace b6 := cB HB b6
        replace b7 := cB HB b7
        replace b8 := cB HB b8
        replace b9 := cB HB b9
        replace d0 := cB HB d0
        replace d1 := cB HB d1
        replace d2 := cB HB d2
        replace d3 := cB HB d3
        replace a9 := cB HB a9
        have g7 := aM hi693_0
        have g8 := aM hl693_0
        clear hi693_0 hl693_0
        have g9 := aM hi693_5
        have h0 := aM hl693_5
        clear hi693_5 hl693_5
        replace h4 := eq_true h4
        replace h5 := eq_true h5
        go_wp2_with (first | ((with_reducible refine gD 4 ?_); refine bxE #[.slice none 0 0, .int .i64 0, .int .i64 0, .int .i64 0, .int .i64 0, .slice none 0 0, .int .i64 0, .int .i64 0, .int .i64 0, .int .i64 0, .int .i64 0] 42 ?_; intro l3 hg r1 g2 hb; have GE694 := gE hg; have e5 := nL_ a7 hg; have e6 := nG_ a7 hg; replace a8 := kB_ a7 hb; replace HB := hB hb; clear hb hg; have hnb23 := nP e6 e5; have hz24 := cz11 g2) | ((with_reducible refine gC 81 ?_); refine cM (some 31) Tryz.func81 (impl_GraphicsOk.calls k2 _ _ ((rd_T42 a2 a3).f0) ((rd_T42 a2 a3).f1.f0) ((rd_T42 a2 a3).f1.f1) ((rd_T42 a2 a3).f1.f2) ((rd_T42 a2 a3).f1.f3) _ _ ((rd_T42 a2 a3).f2) ((rd_T42 a2 a3).f3) ((rd_T42 a2 a3).f4.f0) ((rd_T42 a2 a3).f4.f1) ((rd_T42 a2 a3).f4.f2) ((rd_T42 a2 a3).f4.f3) _ _ (Kd.C_below g7.out bS) g8.out (Kd.C_below g9.out bS) h0.out o8.out) ?_; rintro e r2 ⟨rfl, hb⟩; refine ⟨_, rfl, ?_⟩; replace a8 := kB_ a7 hb; replace g2 := aM (blk_below (g := l3) (o := .cells #[.slice h7 ((rd_T42 a2 a3).f0).length h8, .int .i64 ((rd_T42 a2 a3).f1.f0), .int .i64 ((rd_T42 a2 a3).f1.f1), .int .i64 ((rd_T42 a2 a3).f1.f2), .int .i64 ((rd_T42 a2 a3).f1.f3), .slice h9 ((rd_T42 a2 a3).f2).length i1, .int .i64 ((rd_T42 a2 a3).f3), .int .i64 ((rd_T42 a2 a3).f4.f0), .int .i64 ((rd_T42 a2 a3).f4.f1), .int .i64 ((rd_T42 a2 a3).f4.f2), .int .i64 ((rd_T42 a2 a3).f4.f3)] 42 (0, 0)) (kQ g2) hb); replace HB := hB hb; (try clear hb)))
        go_roundg k2
        case measure => have := HJ1.out; have := n7.out; omega
        case rel => exact ⟨(wrap64 (a3 + 1)), fS, H', ⟨by have := HJ1.out; have := n7.out; omega⟩, ⟨kS⟩, ⟨bS⟩⟩
       ·obtain rfl := Bool.eq_false_iff.mpr o6
        rw [if_neg nF] at H
        obtain rfl := Option.some.inj H
        have h4 : 0 ≤ (a3 : Int) := dA
        have h5 : a3 < (a2.length : Int) := dA
        obtain ⟨m9, h7, h8, h9, i1, m2, b1, b2, b6, b7, b8, b9, d0, d1, d2, d3, a9, hl693_0, hi693_0, hl693_5, hi693_5⟩ := at_T42 k7.out a3 h4 h5
        cases m2
        replace b1 := cB HB b1
        replace b2 := cB HB b2
        replace b6 := cB HB b6
        replace b7 := cB HB b7
        replace b8 := cB HB b8
        replace b9 := cB HB b9
        replace d0 := cB HB d0
        replace d1 := cB HB d1
        replace d2 := cB HB d2
        replace d3 := cB HB d3
        replace a9 := cB HB a9
        have g7 := aM hi693_0
        have g8 := aM hl693_0
        clear hi693_0 hl693_0
        have g9 := aM hi693_5
        have h0 := aM hl693_5
        clear hi693_5 hl693_5
        replace h4 := eq_true h4
        replace h5 := eq_true h5
        go_wp2_with (first | ((with_reducible refine gD 4 ?_); refine bxE #[.slice none 0 0, .int .i64 0, .int .i64 0, .int .i64 0, .int .i64 0, .slice none 0 0, .int .i64 0, .int .i64 0, .int .i64 0, .int .i64 0, .int .i64 0] 42 ?_; intro l3 hg r3 g2 hb; have GE694 := gE hg; have e5 := nL_ a7 hg; have e6 := nG_ a7 hg; replace a8 := kB_ a7 hb; replace HB := hB hb; clear hb hg; have hnb27 := nP e6 e5; have hz28 := cz11 g2) | ((with_reducible refine gC 81 ?_); refine cM (some 31) Tryz.func81 (impl_GraphicsOk.calls k2 _ _ ((rd_T42 a2 a3).f0) ((rd_T42 a2 a3).f1.f0) ((rd_T42 a2 a3).f1.f1) ((rd_T42 a2 a3).f1.f2) ((rd_T42 a2 a3).f1.f3) _ _ ((rd_T42 a2 a3).f2) ((rd_T42 a2 a3).f3) ((rd_T42 a2 a3).f4.f0) ((rd_T42 a2 a3).f4.f1) ((rd_T42 a2 a3).f4.f2) ((rd_T42 a2 a3).f4.f3) _ _ (Kd.C_below g7.out bS) g8.out (Kd.C_below g9.out bS) h0.out o8.out) ?_; rintro e r4 ⟨rfl, hb⟩; refine ⟨_, rfl, ?_⟩; replace a8 := kB_ a7 hb; replace g2 := aM (blk_below (g := l3) (o := .cells #[.slice h7 ((rd_T42 a2 a3).f0).length h8, .int .i64 ((rd_T42 a2 a3).f1.f0), .int .i64 ((rd_T42 a2 a3).f1.f1), .int .i64 ((rd_T42 a2 a3).f1.f2), .int .i64 ((rd_T42 a2 a3).f1.f3), .slice h9 ((rd_T42 a2 a3).f2).length i1, .int .i64 ((rd_T42 a2 a3).f3), .int .i64 ((rd_T42 a2 a3).f4.f0), .int .i64 ((rd_T42 a2 a3).f4.f1), .int .i64 ((rd_T42 a2 a3).f4.f2), .int .i64 ((rd_T42 a2 a3).f4.f3)] 42 (0, 0)) (kQ g2) hb); replace HB := hB hb; (try clear hb)))
        go_ret
        exact ⟨eS, bS⟩
      ·rw [if_neg m1] at H
       have m0 : decide (a3 < (a2.length : Int)) = false := decide_eq_false m1
       clear m1
       have H' := aM H
       clear H
       have n0 := cg12 a8
       go_wp2
       go_loopg [37] k2 (fun kq q8 w' => ∃ (a6 : Int), q8 = .int .i64 a6 ∧ Aside0 (impl_PageOk.l1 kq a5 (a5.length : Int) a6 = some r) ∧ Aside0 (kq ≤ k2) ∧ Aside0 (w'.heap[a7]? = some (.cells #[(.slice i8 d4.length i9), .int .i64 e9, .int .i64 f5, .int .i64 f6, .int .i64 f7, (.slice j5 d5.length j6), .int .i64 f8, .int .i64 f9, .int .i64 g0, .int .i64 g1, .int .i64 b0, (.slice g3 a2.length g4), (.slice g5 a5.length g6)] 46 (0, 0))) ∧ Aside0 (Below w.heap.size w w'))
       case atStart => exact ⟨(0), fS, H', ⟨Nat.le_refl _⟩, ⟨kS⟩, ⟨bS⟩⟩
       case round =>
        clear H'
        try clear c1
        try clear c2
        try clear p2
        try clear c3
        try clear c5
        try clear c6
        try clear h3
        try clear l5
        try clear p6
        try clear q6
        try clear r5
        try clear c8
        try clear n6
        try clear m1
        try clear m0
        try clear r6
        try clear m7
        try clear r7
        try clear m8
        try clear o6
        try clear s0
        try clear s1
        try clear b1
        try clear b2
        try clear a9
        try clear b6
        try clear b7
        try clear b8
        try clear b9
        try clear d0
        try clear d1
        try clear d2
        try clear d3
        try clear p2
        try clear h4
        try clear h5
        obtain ⟨a6, rfl, HA, o9, a8, HB⟩ := hrel
        cases gk with
        | zero => exact absurd HA.out (by simp [impl_PageOk.l1])
        | succ k3 =>
         have H := HA.out
         clear HA
         simp only [impl_PageOk.l1] at H
         rcases iD H with ⟨n1, H⟩ | ⟨n1, H⟩
         ·obtain ⟨q0, H⟩ := iT H
          obtain ⟨q2, H⟩ := iT H
          replace H := bN H
          obtain ⟨o7, q3, H⟩ := H
          by_cases q4 : o7 = true
          ·subst q4
           rw [if_pos rfl] at H
           have H' := aM H
           clear H
           have i3 : 0 ≤ (a6 : Int) := dA
           have i4 : a6 < (a5.length : Int) := dA
           obtain ⟨n2, i5, i6, m3, d6, e0, e1, e2, e3, e4, hl696_0, hi696_0⟩ := at_T103 k9.out a6 i3 i4
           cases m3
           replace d6 := cB HB d6
           replace e0 := cB HB e0
           replace e1 := cB HB e1
           replace e2 := cB HB e2
           replace e3 := cB HB e3
           replace e4 := cB HB e4
           have h1 := aM hi696_0
           have h2 := aM hl696_0
           clear hi696_0 hl696_0
           replace i3 := eq_true i3
           replace i4 := eq_true i4
           go_wp2_with (first | ((with_reducible refine gD 6 ?_); refine bxE #[.slice none 0 0, .int .i64 0, .int .i64 0, .int .i64 0, .int .i64 0, .int .i64 0] 103 ?_; intro l4 hg s2 h6 hb; have GE697 := gE hg; have e7 := nL_ a7 hg; have e8 := nG_ a7 hg; replace a8 := kB_ a7 hb; replace HB := hB hb; clear hb hg; have hnb37 := nP e8 e7; have hz38 := cz6 h6) | ((with_reducible refine gC 82 ?_); refine cM (some 42) Tryz.func82 (impl_ObjectOk.calls k3 _ _ ((rd_T103 a5 a6).f0) ((rd_T103 a5 a6).f1) ((rd_T103 a5 a6).f2.f0) ((rd_T103 a5 a6).f2.f1) ((rd_T103 a5 a6).f2.f2) ((rd_T103 a5 a6).f2.f3) _ _ (Kd.C_below h1.out bS) h2.out q3.out) ?_; rintro e s3 ⟨rfl, hb⟩; refine ⟨_, rfl, ?_⟩; replace a8 := kB_ a7 hb; replace h6 := kO l4 #[.slice i5 ((rd_T103 a5 a6).f0).length i6, .int .i64 ((rd_T103 a5 a6).f1), .int .i64 ((rd_T103 a5 a6).f2.f0), .int .i64 ((rd_T103 a5 a6).f2.f1), .int .i64 ((rd_T103 a5 a6).f2.f2), .int .i64 ((rd_T103 a5 a6).f2.f3)] 103 hb; replace HB := hB hb; (try clear hb)))
           go_roundg k3
           case measure => have := HJ1.out; have := n7.out; have := o9.out; omega
           case rel => exact ⟨(wrap64 (a6 + 1)), fS, H', ⟨by have := HJ1.out; have := n7.out; have := o9.out; omega⟩, ⟨kS⟩, ⟨bS⟩⟩
          ·obtain rfl := Bool.eq_false_iff.mpr q4
           rw [if_neg nF] at H
           obtain rfl := Option.some.inj H
           have i3 : 0 ≤ (a6 : Int) := dA
           have i4 : a6 < (a5.length : Int) := dA
           obtain ⟨n2, i5, i6, m3, d6, e0, e1, e2, e3, e4, hl696_0, hi696_0⟩ := at_T103 k9.out a6 i3 i4
           cases m3
           replace d6 := cB HB d6
           replace e0 := cB HB e0
           replace e1 := cB HB e1
           replace e2 := cB HB e2
           replace e3 := cB HB e3
           replace e4 := cB HB e4
           have h1 := aM hi696_0
           have h2 := aM hl696_0
           clear hi696_0 hl696_0
           replace i3 := eq_true i3
           replace i4 := eq_true i4
           go_wp2_with (first | ((with_reducible refine gD 6 ?_); refine bxE #[.slice none 0 0, .int .i64 0, .int .i64 0, .int .i64 0, .int .i64 0, .int .i64 0] 103 ?_; intro l4 hg s4 h6 hb; have GE697 := gE hg; have e7 := nL_ a7 hg; have e8 := nG_ a7 hg; replace a8 := kB_ a7 hb; replace HB := hB hb; clear hb hg; have hnb41 := nP e8 e7; have hz42 := cz6 h6) | ((with_reducible refine gC 82 ?_); refine cM (some 42) Tryz.func82 (impl_ObjectOk.calls k3 _ _ ((rd_T103 a5 a6).f0) ((rd_T103 a5 a6).f1) ((rd_T103 a5 a6).f2.f0) ((rd_T103 a5 a6).f2.f1) ((rd_T103 a5 a6).f2.f2) ((rd_T103 a5 a6).f2.f3) _ _ (Kd.C_below h1.out bS) h2.out q3.out) ?_; rintro e s5 ⟨rfl, hb⟩; refine ⟨_, rfl, ?_⟩; replace a8 := kB_ a7 hb; replace h6 := kO l4 #[.slice i5 ((rd_T103 a5 a6).f0).length i6, .int .i64 ((rd_T103 a5 a6).f1), .int .i64 ((rd_T103 a5 a6).f2.f0), .int .i64 ((rd_T103 a5 a6).f2.f1), .int .i64 ((rd_T103 a5 a6).f2.f2), .int .i64 ((rd_T103 a5 a6).f2.f3)] 103 hb; replace HB := hB hb; (try clear hb)))
           go_ret
           exact ⟨eS, bS⟩
         ·obtain rfl := Option.some.inj H
          go_wp2
          go_ret
          exact ⟨eS, bS⟩
mutual
def impl_IsName.j0 : Nat → ByteArray → Bool → Option (Bool)
 | 0, _, _ => none
 | k + 1, x0, x11 => if x11 = true then (some false) else (impl_IsName.l0 k x0 0)
def impl_IsName.l0 : Nat → ByteArray → Int → Option (Bool)
 | 0, _, _ => none
 | k + 1, x0, x3 => if x3 < (x0.size : Int) then (if 0 ≤ x3 then (if (bt x0 x3) < 97 then (some false) else (if (bt x0 x3) > 122 then (some false) else (impl_IsName.l0 k x0 (wrap64 (x3 + 1))))) else (none)) else (some true)
end
def impl_IsName.f (k : Nat) (a0 : ByteArray) : Option (Bool) := if (a0.size : Int) < 1 then (impl_IsName.j0 k a0 true) else (impl_IsName.j0 k a0 (decide ((a0.size : Int) > 8)))
theorem impl_IsName.calls (k : Nat) (a0 : ByteArray) (r : Bool) (w : World) (h : impl_IsName.f k a0 = some r) :
  Calls Tryz.prog 84 #[.string a0] w fun e w' => e = .returned (.bool r) ∧ Drawn0 w w' := by
 have H := h
 clear h
 unfold impl_IsName.f at H
 have a8 := aM H
 clear H
 go_enter Tryz.func84, Tryz.ntmps84
 go_upto_region 1 with (fail)
 go_cut [11] (fun b6 wc => ∃ (kq : Nat) (a5 : Bool), b6 = .bool a5 ∧ Aside0 (impl_IsName.j0 kq a0 a5 = some r) ∧ Aside0 (kq ≤ k) ∧ Drawn0 w wc)
 case first =>
  have H := a8.out
  clear a8
  by_cases c3 : (a0.size : Int) < 1
  ·rw [if_pos c3] at H
   have a3 : decide ((a0.size : Int) < 1) = true := decide_eq_true c3
   have a6 : decide (a0.size < 1) = true := decide_eq_true (by omega)
   clear c3
   (first | rw [a3] | (simp only [i64_w, i32_w]; rw [a3]) | skip)
   have H' := aM H
   clear H
   go_wp2
   go_meet
   case rel => exact ⟨_, (true), fS, H', ⟨by first | omega | exact Nat.le_refl _⟩, dS⟩
  ·rw [if_neg c3] at H
   have a3 : decide ((a0.size : Int) < 1) = false := decide_eq_false c3
   have a6 : decide (a0.size < 1) = false := decide_eq_false (by omega)
   clear c3
   (first | rw [a3] | (simp only [i64_w, i32_w]; rw [a3]) | skip)
   have H' := aM H
   clear H
   go_wp2
   go_meet
   case rel => exact ⟨_, (decide ((a0.size : Int) > 8)), fS, H', ⟨by first | omega | exact Nat.le_refl _⟩, dS⟩
 case rest =>
  clear a8
  try clear p2
  try clear c3
  try clear a3
  try clear a6
  obtain ⟨kq, a5, rfl, HA, HJ1, ⟨mc1, rfl⟩⟩ := hcut
  cases kq with
  | zero => exact absurd HA.out (by simp [impl_IsName.j0])
  | succ kj1 =>
   have H := HA.out
   clear HA
   simp only [impl_IsName.j0] at H
   by_cases c4 : a5 = true
   ·subst c4
    rw [if_pos rfl] at H
    obtain rfl := Option.some.inj H
    go_wp2
    go_ret
    exact ⟨fS, dS⟩
   ·obtain rfl := Bool.eq_false_iff.mpr c4
    rw [if_neg nF] at H
    have H' := aM H
    clear H
    go_wp2
    go_loopg [3] kj1 (fun kq v3 w' => ∃ (a2 : Int), v3 = .int .i64 a2 ∧ Aside0 (impl_IsName.l0 kq a0 a2 = some r) ∧ Aside0 (kq ≤ kj1) ∧ Drawn0 w w')
    case atStart => exact ⟨(0), fS, H', ⟨Nat.le_refl _⟩, dS⟩
    case round =>
     clear H'
     try clear c1
     try clear p2
     try clear c3
     try clear a3
     try clear a6
     try clear c4
     try clear p2
     obtain ⟨a2, rfl, HA, b1, ⟨m2, rfl⟩⟩ := hrel
     cases gk with
     | zero => exact absurd HA.out (by simp [impl_IsName.l0])
     | succ k2 =>
      have H := HA.out
      clear HA
      simp only [impl_IsName.l0] at H
      rcases iD H with ⟨a9, H⟩ | ⟨a9, H⟩
      ·obtain ⟨b7, H⟩ := iT H
       rcases iD H with ⟨b0, H⟩ | ⟨b0, H⟩
       ·obtain rfl := Option.some.inj H
        have p7 : 0 ≤ (a2 : Int) := dA
        have q7 : a2 < (a0.size : Int) := dA
        have b2 := bt_at a0 a2
        replace p7 := eq_true p7
        replace q7 := eq_true q7
        go_wp2
        go_ret
        exact ⟨fS, dS⟩
       ·by_cases c10 : (bt a0 a2) > 122
        ·rw [if_pos c10] at H
         have a7 : decide (122 < (bt a0 a2)) = true := decide_eq_true c10
         clear c10
         obtain rfl := Option.some.inj H
         have p7 : 0 ≤ (a2 : Int) := dA
         have q7 : a2 < (a0.size : Int) := dA
         have b2 := bt_at a0 a2
         replace p7 := eq_true p7
         replace q7 := eq_true q7
         have p9 : 0 ≤ (a2 : Int) := dA
         have q9 : a2 < (a0.size : Int) := dA
         have b8 := bt_at a0 a2
         replace p9 := eq_true p9
         replace q9 := eq_true q9
         go_wp2
         go_ret
         exact ⟨fS, dS⟩
        ·rw [if_neg c10] at H
         have a7 : decide (122 < (bt a0 a2)) = false := decide_eq_false c10
         clear c10
         have H' := aM H
         clear H
         have p7 : 0 ≤ (a2 : Int) := dA
         have q7 : a2 < (a0.size : Int) := dA
         have b2 := bt_at a0 a2
         replace p7 := eq_true p7
         replace q7 := eq_true q7
         have p9 : 0 ≤ (a2 : Int) := dA
         have q9 : a2 < (a0.size : Int) := dA
         have b8 := bt_at a0 a2
         replace p9 := eq_true p9
         replace q9 := eq_true q9
         go_wp2
         go_roundg k2
         case measure => have := HJ1.out; have := b1.out; omega
         case rel => exact ⟨(wrap64 (a2 + 1)), fS, H', ⟨by have := HJ1.out; have := b1.out; omega⟩, dS⟩
      ·obtain rfl := Option.some.inj H
       go_wp2
       go_ret
       exact ⟨fS, dS⟩
end Go.Proofs.YtjkgponlahfnjaaGreat.QFnExactExecToken
