/- Walks of functions of the program, made out of the translation by a program of this session: each answers what its plain function tells, for every input at which that is told. -/
import Derived.Test.YtjkgponlahfnjaaGreatQFnExactExecTokenx0
import Derived.Test.YtjkgponlahfnjaaGreatQFnExactExecTokenx1
import Derived.Test.YtjkgponlahfnjaaGreatQFnExactExecTokenx2
namespace Go.Proofs.YtjkgponlahfnjaaGreat.QFnExactExecToken
open Go.RowKit Go.Proofs.YtjkgponlahfnjaaGreatW.PrintWords Go.Proofs.YtjkgponlahfnjaaGreatW.PrintLast Go.Proofs.YtjkgponlahfnjaaGreatW.PrintMore
attribute [local go_sem] max2_int min2_int max_two min_two max_three min_three max_four min_four   -- for this text's walks alone
set_option linter.unusedVariables false
set_option linter.unusedSimpArgs false
set_option maxHeartbeats 8000000
set_option maxRecDepth 100000
/-! ### spec_PageOk: function 23 -/
mutual
def spec_PageOk.j0 : Nat → Bool → List Int → Int → Int → Int → Int → List (S111) → Int → Int → Int → Int → Int → List (S42) → List (S103) → Option (Bool)
 | 0, _, _, _, _, _, _, _, _, _, _, _, _, _, _ => none
 | k + 1, d1, a5, a6, a7, a8, a9, b0, b1, b2, b6, b7, b8, a2, a3 => if d1 = true then (some false) else (spec_PageOk.l0 k 0 a5 a6 a7 a8 a9 b0 b1 b2 b6 b7 b8 a2 a3)
def spec_PageOk.l0 : Nat → Int → List Int → Int → Int → Int → Int → List (S111) → Int → Int → Int → Int → Int → List (S42) → List (S103) → Option (Bool)
 | 0, _, _, _, _, _, _, _, _, _, _, _, _, _, _ => none
 | k + 1, x3, a5, a6, a7, a8, a9, b0, b1, b2, b6, b7, b8, a2, a3 => if x3 < (a2.length : Int) then (if 0 ≤ x3 then ((spec_GraphicsOk.f k ((rd_T42 a2 x3).f0) ((rd_T42 a2 x3).f1.f0) ((rd_T42 a2 x3).f1.f1) ((rd_T42 a2 x3).f1.f2) ((rd_T42 a2 x3).f1.f3) ((rd_T42 a2 x3).f2) ((rd_T42 a2 x3).f3) ((rd_T42 a2 x3).f4.f0) ((rd_T42 a2 x3).f4.f1) ((rd_T42 a2 x3).f4.f2) ((rd_T42 a2 x3).f4.f3)).bind fun b9 => (if b9 = true then (spec_PageOk.l0 k (wrap64 (x3 + 1)) a5 a6 a7 a8 a9 b0 b1 b2 b6 b7 b8 a2 a3) else (some false))) else (none)) else (spec_PageOk.l1 k 0 a5 a6 a7 a8 a9 b0 b1 b2 b6 b7 b8 a2 a3)
def spec_PageOk.l1 : Nat → Int → List Int → Int → Int → Int → Int → List (S111) → Int → Int → Int → Int → Int → List (S42) → List (S103) → Option (Bool)
 | 0, _, _, _, _, _, _, _, _, _, _, _, _, _, _ => none
 | k + 1, x4, a5, a6, a7, a8, a9, b0, b1, b2, b6, b7, b8, a2, a3 => if x4 < (a3.length : Int) then (if 0 ≤ x4 then ((spec_l07Object.f k ((rd_T103 a3 x4).f0) ((rd_T103 a3 x4).f1) ((rd_T103 a3 x4).f2.f0) ((rd_T103 a3 x4).f2.f1) ((rd_T103 a3 x4).f2.f2) ((rd_T103 a3 x4).f2.f3)).bind fun d0 => (if d0 = true then (spec_PageOk.l1 k (wrap64 (x4 + 1)) a5 a6 a7 a8 a9 b0 b1 b2 b6 b7 b8 a2 a3) else (some false))) else (none)) else (some true)
end
def spec_PageOk.f (k : Nat) (a6 : List Int) (a7 : Int) (a8 : Int) (a9 : Int) (b0 : Int) (b1 : List (S111)) (b2 : Int) (b6 : Int) (b7 : Int) (b8 : Int) (a2 : Int) (a3 : List (S42)) (a5 : List (S103)) : Option (Bool) := (spec_GraphicsOk.f k a6 a7 a8 a9 b0 b1 b2 b6 b7 b8 a2).bind fun b9 => (if b9 = true then (if (a3.length : Int) > 4 then (spec_PageOk.j0 k true a6 a7 a8 a9 b0 b1 b2 b6 b7 b8 a2 a3 a5) else (spec_PageOk.j0 k (decide ((a5.length : Int) > 12)) a6 a7 a8 a9 b0 b1 b2 b6 b7 b8 a2 a3 a5)) else (spec_PageOk.j0 k true a6 a7 a8 a9 b0 b1 b2 b6 b7 b8 a2 a3 a5))
theorem spec_PageOk.calls (k : Nat) (h4 : Option Addr) (h5 : Nat) (d4 : List Int) (e5 : Int) (e6 : Int) (e7 : Int) (e8 : Int) (h6 : Option Addr) (h7 : Nat) (d5 : List (S111)) (e9 : Int) (f5 : Int) (f6 : Int) (f7 : Int) (a9 : Int) (f8 : Option Addr) (f9 : Nat) (a2 : List (S42)) (g0 : Option Addr) (g1 : Nat) (a3 : List (S103)) (r : Bool) (w : World) (j6 : Kd.C (Kd.int .i64) w h4 d4.length d4) (j7 : d4.length ≤ h5) (j8 : Kd.C k111 w h6 d5.length d5) (j9 : d5.length ≤ h7) (h8 : Kd.C k42 w f8 a2.length a2) (h9 : a2.length ≤ f9) (i1 : Kd.C k103 w g0 a3.length a3) (i3 : a3.length ≤ g1) (h : spec_PageOk.f k d4 e5 e6 e7 e8 d5 e9 f5 f6 f7 a9 a2 a3 = some r) :
  Calls Tryz.prog 23 #[.agg #[.slice h4 d4.length h5, .int .i64 e5, .int .i64 e6, .int .i64 e7, .int .i64 e8, .slice h6 d5.length h7, .int .i64 e9, .int .i64 f5, .int .i64 f6, .int .i64 f7, .int .i64 a9, .slice f8 a2.length f9, .slice g0 a3.length g1]] w fun e w' => e = .returned (.bool r) ∧ Below w.heap.size w w' := by
 have hu46 := Tryz.underlying46
 have hu42 := Tryz.underlying42
 have hu103 := Tryz.underlying103
 have i4 := aM j6
 have i5 := aM j7
 clear j6 j7
 have i6 := aM j8
 have i7 := aM j9
 clear j8 j9
 have i8 := aM h8
 have n1 := aM h9
 clear h8 h9
 have i9 := aM i1
 have n2 := aM i3
 clear i1 i3
 have HB := aM (Below.refl w.heap.size w)
 have H := h
 clear h
 unfold spec_PageOk.f at H
 have n5 := aM H
 clear H
 go_enter Tryz.func23, Tryz.ntmps23
 go_upto_region 1 with (first | ((with_reducible refine gD 1 ?_); refine bxE #[.slice h4 d4.length h5, .int .i64 e5, .int .i64 e6, .int .i64 e7, .int .i64 e8, .slice h6 d5.length h7, .int .i64 e9, .int .i64 f5, .int .i64 f6, .int .i64 f7, .int .i64 a9, .slice f8 a2.length f9, .slice g0 a3.length g1] 46 ?_; intro d3 hg w3 a6 hb; have GE143 := gE hg; replace HB := hB hb; clear hb hg))
 (try simp only [Act.put, List.setIfInBounds_toArray, List.set_cons_zero, List.set_cons_succ])
 go_cut [20] (fun o8 wc => ∃ (kq : Nat) (h3 : Bool), o8 = .bool h3 ∧ Aside0 (spec_PageOk.j0 kq h3 d4 e5 e6 e7 e8 d5 e9 f5 f6 f7 a9 a2 a3 = some r) ∧ Aside0 (kq ≤ k) ∧ Aside0 (wc.heap[d3]? = some (.cells #[(.slice h4 d4.length h5), .int .i64 e5, .int .i64 e6, .int .i64 e7, .int .i64 e8, (.slice h6 d5.length h7), .int .i64 e9, .int .i64 f5, .int .i64 f6, .int .i64 f7, .int .i64 a9, (.slice f8 a2.length f9), (.slice g0 a3.length g1)] 46 (0, 0))) ∧ Aside0 (Below w.heap.size w wc))
 case first =>
  have H := n5.out
  clear n5
  replace H := bN H
  obtain ⟨n6, A4, H⟩ := H
  by_cases c5 : n6 = true
  ·subst c5
   rw [if_pos rfl] at H
   by_cases c6 : (a2.length : Int) > 4
   ·rw [if_pos c6] at H
    have g8 : decide (4 < (a2.length : Int)) = true := decide_eq_true c6
    have j5 : decide (4 < a2.length) = true := decide_eq_true (by omega)
    clear c6
    (first | rw [g8] | (simp only [i64_w, i32_w]; rw [g8]) | skip)
    have H' := aM H
    clear H
    have hz7 := cz13 a6
    go_wp2_with (first | ((with_reducible refine gC 63 ?_); refine cM (some 7) Tryz.func63 (spec_GraphicsOk.calls k _ _ d4 e5 e6 e7 e8 _ _ d5 e9 f5 f6 f7 a9 _ _ (cC i4 HB) i5.out (cC i6 HB) i7.out A4.out) ?_; rintro e w8 ⟨rfl, hb⟩; refine ⟨_, rfl, ?_⟩; replace a6 := kB_ d3 hb; replace HB := hB hb; (try clear hb); have m8 := cg11 a6))
    go_meet
    case rel => exact ⟨_, (true), fS, H', ⟨by first | omega | exact Nat.le_refl _⟩, ⟨kS⟩, ⟨bS⟩⟩
   ·rw [if_neg c6] at H
    have g8 : decide (4 < (a2.length : Int)) = false := decide_eq_false c6
    have j5 : decide (4 < a2.length) = false := decide_eq_false (by omega)
    clear c6
    (first | rw [g8] | (simp only [i64_w, i32_w]; rw [g8]) | skip)
    have H' := aM H
    clear H
    have hz10 := cz13 a6
    go_wp2_with (first | ((with_reducible refine gC 63 ?_); refine cM (some 7) Tryz.func63 (spec_GraphicsOk.calls k _ _ d4 e5 e6 e7 e8 _ _ d5 e9 f5 f6 f7 a9 _ _ (cC i4 HB) i5.out (cC i6 HB) i7.out A4.out) ?_; rintro e q0 ⟨rfl, hb⟩; refine ⟨_, rfl, ?_⟩; replace a6 := kB_ d3 hb; replace HB := hB hb; (try clear hb); have l6 := cg11 a6; have l7 := cg12 a6))
    go_meet
    case rel => exact ⟨_, (decide ((a3.length : Int) > 12)), fS, H', ⟨by first | omega | exact Nat.le_refl _⟩, ⟨kS⟩, ⟨bS⟩⟩
  ·obtain rfl := Bool.eq_false_iff.mpr c5
   rw [if_neg nF] at H
   have H' := aM H
   clear H
   have hz13 := cz13 a6
   go_wp2_with (first | ((with_reducible refine gC 63 ?_); refine cM (some 7) Tryz.func63 (spec_GraphicsOk.calls k _ _ d4 e5 e6 e7 e8 _ _ d5 e9 f5 f6 f7 a9 _ _ (cC i4 HB) i5.out (cC i6 HB) i7.out A4.out) ?_; rintro e q2 ⟨rfl, hb⟩; refine ⟨_, rfl, ?_⟩; replace a6 := kB_ d3 hb; replace HB := hB hb; (try clear hb)))
   go_meet
   case rel => exact ⟨_, (true), fS, H', ⟨by first | omega | exact Nat.le_refl _⟩, ⟨kS⟩, ⟨bS⟩⟩
 case rest =>
  clear n5
  try clear c2
  try clear p2
  try clear c5
  try clear c6
  try clear g8
  try clear j5
  obtain ⟨kq, h3, rfl, HA, HJ1, a6, HB⟩ := hcut
  cases kq with
  | zero => exact absurd HA.out (by simp [spec_PageOk.j0])
  | succ kj1 =>
   have H := HA.out
   clear HA
   simp only [spec_PageOk.j0] at H
   by_cases m9 : h3 = true
   ·subst m9
    rw [if_pos rfl] at H
    obtain rfl := Option.some.inj H
    go_wp2
    go_ret
    exact ⟨eS, bS⟩
   ·obtain rfl := Bool.eq_false_iff.mpr m9
    rw [if_neg nF] at H
    have H' := aM H
    clear H
    go_wp2
    go_loopg [3] kj1 (fun kq v3 w' => ∃ (a5 : Int), v3 = .int .i64 a5 ∧ Aside0 (spec_PageOk.l0 kq a5 d4 e5 e6 e7 e8 d5 e9 f5 f6 f7 a9 a2 a3 = some r) ∧ Aside0 (kq ≤ kj1) ∧ Aside0 (w'.heap[d3]? = some (.cells #[(.slice h4 d4.length h5), .int .i64 e5, .int .i64 e6, .int .i64 e7, .int .i64 e8, (.slice h6 d5.length h7), .int .i64 e9, .int .i64 f5, .int .i64 f6, .int .i64 f7, .int .i64 a9, (.slice f8 a2.length f9), (.slice g0 a3.length g1)] 46 (0, 0))) ∧ Aside0 (Below w.heap.size w w'))
    case atStart => exact ⟨(0), fS, H', ⟨Nat.le_refl _⟩, ⟨kS⟩, ⟨bS⟩⟩
    case round =>
     clear H'
     try clear c1
     try clear c2
     try clear p2
     try clear c5
     try clear c6
     try clear g8
     try clear j5
     try clear m9
     try clear p2
     obtain ⟨a5, rfl, HA, n0, a6, HB⟩ := hrel
     cases gk with
     | zero => exact absurd HA.out (by simp [spec_PageOk.l0])
     | succ k2 =>
      have H := HA.out
      clear HA
      simp only [spec_PageOk.l0] at H
      by_cases k1 : a5 < (a2.length : Int)
      ·rw [if_pos k1] at H
       have k0 : decide (a5 < (a2.length : Int)) = true := decide_eq_true k1
       clear k1
       obtain ⟨l8, H⟩ := iT H
       replace H := bN H
       obtain ⟨n7, o1, H⟩ := H
       by_cases n8 : n7 = true
       ·subst n8
        rw [if_pos rfl] at H
        have H' := aM H
        clear H
        have l9 := cg11 a6
        have g9 : 0 ≤ (a5 : Int) := dA
        have h0 : a5 < (a2.length : Int) := dA
        obtain ⟨m0, k4, k5, k6, k7, k9, b0, b1, b2, b6, b7, b8, b9, d0, d1, d2, a8, hl145_0, hi145_0, hl145_5, hi145_5⟩ := at_T42 i8.out a5 g9 h0
        cases k9
        replace b0 := cB HB b0
        replace b1 := cB HB b1
        replace b2 := cB HB b2
        replace b6 := cB HB b6
        replace b7 := cB HB b7
        replace b8 := cB HB b8
        replace b9 := cB HB b9
        replace d0 := cB HB d0
        replace d1 := cB HB d1
        replace d2 := cB HB d2
        replace a8 := cB HB a8
        have g2 := aM hi145_0
        have g3 := aM hl145_0
        clear hi145_0 hl145_0
        have g4 := aM hi145_5
        have g5 := aM hl145_5
        clear hi145_5 hl145_5
        replace g9 := eq_true g9
        replace h0 := eq_true h0
        go_wp2_with (first | ((with_reducible refine gC 63 ?_); refine cM (some 33) Tryz.func63 (spec_GraphicsOk.calls k2 _ _ ((rd_T42 a2 a5).f0) ((rd_T42 a2 a5).f1.f0) ((rd_T42 a2 a5).f1.f1) ((rd_T42 a2 a5).f1.f2) ((rd_T42 a2 a5).f1.f3) _ _ ((rd_T42 a2 a5).f2) ((rd_T42 a2 a5).f3) ((rd_T42 a2 a5).f4.f0) ((rd_T42 a2 a5).f4.f1) ((rd_T42 a2 a5).f4.f2) ((rd_T42 a2 a5).f4.f3) _ _ (cC g2 HB) g3.out (cC g4 HB) g5.out o1.out) ?_; rintro e q3 ⟨rfl, hb⟩; refine ⟨_, rfl, ?_⟩; replace a6 := kB_ d3 hb; replace HB := hB hb; (try clear hb)))
        go_roundg k2
        case measure => have := HJ1.out; have := n0.out; omega
        case rel => exact ⟨(wrap64 (a5 + 1)), fS, H', ⟨by have := HJ1.out; have := n0.out; omega⟩, ⟨kS⟩, ⟨bS⟩⟩
       ·obtain rfl := Bool.eq_false_iff.mpr n8
        rw [if_neg nF] at H
        obtain rfl := Option.some.inj H
        have m1 := cg11 a6
        have g9 : 0 ≤ (a5 : Int) := dA
        have h0 : a5 < (a2.length : Int) := dA
        obtain ⟨m0, k4, k5, k6, k7, k9, b0, b1, b2, b6, b7, b8, b9, d0, d1, d2, a8, hl145_0, hi145_0, hl145_5, hi145_5⟩ := at_T42 i8.out a5 g9 h0
        cases k9
        replace b0 := cB HB b0
        replace b1 := cB HB b1
        replace b2 := cB HB b2
        replace b6 := cB HB b6
        replace b7 := cB HB b7
        replace b8 := cB HB b8
        replace b9 := cB HB b9
        replace d0 := cB HB d0
        replace d1 := cB HB d1
        replace d2 := cB HB d2
        replace a8 := cB HB a8
        have g2 := aM hi145_0
        have g3 := aM hl145_0
        clear hi145_0 hl145_0
        have g4 := aM hi145_5
        have g5 := aM hl145_5
        clear hi145_5 hl145_5
        replace g9 := eq_true g9
        replace h0 := eq_true h0
        go_wp2_with (first | ((with_reducible refine gC 63 ?_); refine cM (some 33) Tryz.func63 (spec_GraphicsOk.calls k2 _ _ ((rd_T42 a2 a5).f0) ((rd_T42 a2 a5).f1.f0) ((rd_T42 a2 a5).f1.f1) ((rd_T42 a2 a5).f1.f2) ((rd_T42 a2 a5).f1.f3) _ _ ((rd_T42 a2 a5).f2) ((rd_T42 a2 a5).f3) ((rd_T42 a2 a5).f4.f0) ((rd_T42 a2 a5).f4.f1) ((rd_T42 a2 a5).f4.f2) ((rd_T42 a2 a5).f4.f3) _ _ (cC g2 HB) g3.out (cC g4 HB) g5.out o1.out) ?_; rintro e q4 ⟨rfl, hb⟩; refine ⟨_, rfl, ?_⟩; replace a6 := kB_ d3 hb; replace HB := hB hb; (try clear hb)))
        go_ret
        exact ⟨eS, bS⟩
      ·rw [if_neg k1] at H
       have k0 : decide (a5 < (a2.length : Int)) = false := decide_eq_false k1
       clear k1
       have H' := aM H
       clear H
       have m2 := cg11 a6
       go_wp2
       go_loopg [4] k2 (fun kq v4 w' => ∃ (a7 : Int), v4 = .int .i64 a7 ∧ Aside0 (spec_PageOk.l1 kq a7 d4 e5 e6 e7 e8 d5 e9 f5 f6 f7 a9 a2 a3 = some r) ∧ Aside0 (kq ≤ k2) ∧ Aside0 (w'.heap[d3]? = some (.cells #[(.slice h4 d4.length h5), .int .i64 e5, .int .i64 e6, .int .i64 e7, .int .i64 e8, (.slice h6 d5.length h7), .int .i64 e9, .int .i64 f5, .int .i64 f6, .int .i64 f7, .int .i64 a9, (.slice f8 a2.length f9), (.slice g0 a3.length g1)] 46 (0, 0))) ∧ Aside0 (Below w.heap.size w w'))
       case atStart => exact ⟨(0), fS, H', ⟨Nat.le_refl _⟩, ⟨kS⟩, ⟨bS⟩⟩
       case round =>
        clear H'
        try clear c1
        try clear p1
        try clear q1
        try clear hx1
        try clear c2
        try clear p2
        try clear c5
        try clear c6
        try clear g8
        try clear j5
        try clear p6
        try clear q5
        try clear q6
        try clear q7
        try clear o9
        try clear m9
        try clear k1
        try clear k0
        try clear q8
        try clear l8
        try clear n8
        try clear q9
        try clear b0
        try clear b1
        try clear a8
        try clear b2
        try clear b6
        try clear b7
        try clear b8
        try clear b9
        try clear d0
        try clear d1
        try clear d2
        try clear g9
        try clear p2
        try clear h0
        obtain ⟨a7, rfl, HA, o4, a6, HB⟩ := hrel
        cases gk with
        | zero => exact absurd HA.out (by simp [spec_PageOk.l1])
        | succ k3 =>
         have H := HA.out
         clear HA
         simp only [spec_PageOk.l1] at H
         rcases iD H with ⟨m3, H⟩ | ⟨m3, H⟩
         ·obtain ⟨o5, H⟩ := iT H
          replace H := bN H
          obtain ⟨o0, o6, H⟩ := H
          by_cases o7 : o0 = true
          ·subst o7
           rw [if_pos rfl] at H
           have H' := aM H
           clear H
           have m4 := cg12 a6
           have h1 : 0 ≤ (a7 : Int) := dA
           have h2 : a7 < (a3.length : Int) := dA
           obtain ⟨m5, l3, l4, l5, d6, e0, e1, e2, e3, e4, hl147_0, hi147_0⟩ := at_T103 i9.out a7 h1 h2
           cases l5
           replace d6 := cB HB d6
           replace e0 := cB HB e0
           replace e1 := cB HB e1
           replace e2 := cB HB e2
           replace e3 := cB HB e3
           replace e4 := cB HB e4
           have g6 := aM hi147_0
           have g7 := aM hl147_0
           clear hi147_0 hl147_0
           replace h1 := eq_true h1
           replace h2 := eq_true h2
           go_wp2_with (first | ((with_reducible refine gC 64 ?_); refine cM (some 47) Tryz.func64 (spec_l07Object.calls k3 _ _ ((rd_T103 a3 a7).f0) ((rd_T103 a3 a7).f1) ((rd_T103 a3 a7).f2.f0) ((rd_T103 a3 a7).f2.f1) ((rd_T103 a3 a7).f2.f2) ((rd_T103 a3 a7).f2.f3) _ _ (cC g6 HB) g7.out o6.out) ?_; rintro e r0 ⟨rfl, hb⟩; refine ⟨_, rfl, ?_⟩; replace a6 := kB_ d3 hb; replace HB := hB hb; (try clear hb)))
           go_roundg k3
           case measure => have := HJ1.out; have := n0.out; have := o4.out; omega
           case rel => exact ⟨(wrap64 (a7 + 1)), fS, H', ⟨by have := HJ1.out; have := n0.out; have := o4.out; omega⟩, ⟨kS⟩, ⟨bS⟩⟩
          ·obtain rfl := Bool.eq_false_iff.mpr o7
           rw [if_neg nF] at H
           obtain rfl := Option.some.inj H
           have m6 := cg12 a6
           have h1 : 0 ≤ (a7 : Int) := dA
           have h2 : a7 < (a3.length : Int) := dA
           obtain ⟨m5, l3, l4, l5, d6, e0, e1, e2, e3, e4, hl147_0, hi147_0⟩ := at_T103 i9.out a7 h1 h2
           cases l5
           replace d6 := cB HB d6
           replace e0 := cB HB e0
           replace e1 := cB HB e1
           replace e2 := cB HB e2
           replace e3 := cB HB e3
           replace e4 := cB HB e4
           have g6 := aM hi147_0
           have g7 := aM hl147_0
           clear hi147_0 hl147_0
           replace h1 := eq_true h1
           replace h2 := eq_true h2
           go_wp2_with (first | ((with_reducible refine gC 64 ?_); refine cM (some 47) Tryz.func64 (spec_l07Object.calls k3 _ _ ((rd_T103 a3 a7).f0) ((rd_T103 a3 a7).f1) ((rd_T103 a3 a7).f2.f0) ((rd_T103 a3 a7).f2.f1) ((rd_T103 a3 a7).f2.f2) ((rd_T103 a3 a7).f2.f3) _ _ (cC g6 HB) g7.out o6.out) ?_; rintro e r1 ⟨rfl, hb⟩; refine ⟨_, rfl, ?_⟩; replace a6 := kB_ d3 hb; replace HB := hB hb; (try clear hb)))
           go_ret
           exact ⟨eS, bS⟩
         ·obtain rfl := Option.some.inj H
          have m7 := cg12 a6
          go_wp2
          go_ret
          exact ⟨eS, bS⟩
def spec_IsName.l0 : Nat → ByteArray → Int → Option (Bool)
 | 0, _, _ => none
 | k + 1, x0, x3 => if x3 < (x0.size : Int) then (if 0 ≤ x3 then (if (bt x0 x3) < 97 then (some false) else (if (bt x0 x3) > 122 then (some false) else (spec_IsName.l0 k x0 (wrap64 (x3 + 1))))) else (none)) else ((spec_l01In.f (x0.size : Int) 1 8).bind fun a2 => (some a2))
def spec_IsName.f (k : Nat) (a0 : ByteArray) : Option (Bool) := spec_IsName.l0 k a0 0
theorem spec_IsName.calls (k : Nat) (a0 : ByteArray) (r : Bool) (w : World) (h : spec_IsName.f k a0 = some r) :
  Calls Tryz.prog 66 #[.string a0] w fun e w' => e = .returned (.bool r) ∧ Drawn0 w w' := by
 have H := h
 clear h
 unfold spec_IsName.f at H
 have H' := aM H
 clear H
 go_enter Tryz.func66, Tryz.ntmps66
 go_wp2
 go_loopg [3] k (fun kq v3 w' => ∃ (a2 : Int), v3 = .int .i64 a2 ∧ Aside0 (spec_IsName.l0 kq a0 a2 = some r) ∧ Aside0 (kq ≤ k) ∧ Drawn0 w w')
 case atStart => exact ⟨(0), fS, H', ⟨Nat.le_refl _⟩, dS⟩
 case round =>
  clear H'
  obtain ⟨a2, rfl, HA, a8, ⟨m1, rfl⟩⟩ := hrel
  cases gk with
  | zero => exact absurd HA.out (by simp [spec_IsName.l0])
  | succ k1 =>
   have H := HA.out
   clear HA
   simp only [spec_IsName.l0] at H
   rcases iD H with ⟨a3, H⟩ | ⟨a3, H⟩
   ·obtain ⟨b0, H⟩ := iT H
    rcases iD H with ⟨a5, H⟩ | ⟨a5, H⟩
    ·obtain rfl := Option.some.inj H
     have p4 : 0 ≤ (a2 : Int) := dA
     have q4 : a2 < (a0.size : Int) := dA
     have a9 := bt_at a0 a2
     replace p4 := eq_true p4
     replace q4 := eq_true q4
     go_wp2
     go_ret
     exact ⟨fS, dS⟩
    ·by_cases c7 : (bt a0 a2) > 122
     ·rw [if_pos c7] at H
      have a6 : decide (122 < (bt a0 a2)) = true := decide_eq_true c7
      clear c7
      obtain rfl := Option.some.inj H
      have p4 : 0 ≤ (a2 : Int) := dA
      have q4 : a2 < (a0.size : Int) := dA
      have a9 := bt_at a0 a2
      replace p4 := eq_true p4
      replace q4 := eq_true q4
      have p6 : 0 ≤ (a2 : Int) := dA
      have q6 : a2 < (a0.size : Int) := dA
      have b1 := bt_at a0 a2
      replace p6 := eq_true p6
      replace q6 := eq_true q6
      go_wp2
      go_ret
      exact ⟨fS, dS⟩
     ·rw [if_neg c7] at H
      have a6 : decide (122 < (bt a0 a2)) = false := decide_eq_false c7
      clear c7
      have H' := aM H
      clear H
      have p4 : 0 ≤ (a2 : Int) := dA
      have q4 : a2 < (a0.size : Int) := dA
      have a9 := bt_at a0 a2
      replace p4 := eq_true p4
      replace q4 := eq_true q4
      have p6 : 0 ≤ (a2 : Int) := dA
      have q6 : a2 < (a0.size : Int) := dA
      have b1 := bt_at a0 a2
      replace p6 := eq_true p6
      replace q6 := eq_true q6
      go_wp2
      go_roundg k1
      case measure => have := a8.out; omega
      case rel => exact ⟨(wrap64 (a2 + 1)), fS, H', ⟨by have := a8.out; omega⟩, dS⟩
   ·replace H := bN H
    obtain ⟨a7, A8, H⟩ := H
    obtain rfl := Option.some.inj H
    go_wp2_with (first | ((with_reducible refine gC 65 ?_); refine cM (some 22) Tryz.func65 (spec_l01In.calls (a0.size : Int) 1 8 a7 _ A8.out) ?_; rintro e w' ⟨rfl, ⟨nd, rfl⟩⟩; refine ⟨_, rfl, ?_⟩))
    go_ret
    exact ⟨fS, dS⟩
def spec_TokenOk.f (k : Nat) (a2 : ByteArray) (a3 : Int) : Option (Bool) := if a2.toList = ([] : List UInt8) then ((spec_l01In.f a3 (-999) 999).bind fun a5 => (some a5)) else ((spec_IsName.f k a2).bind fun a6 => (if a6 = true then (some (a3 == 0)) else (some false)))
theorem spec_TokenOk.calls (k : Nat) (a2 : ByteArray) (a5 : Int) (r : Bool) (w : World) (h : spec_TokenOk.f k a2 a5 = some r) :
  Calls Tryz.prog 24 #[.agg #[.string a2, .int .i64 a5]] w fun e w' => e = .returned (.bool r) ∧ Below w.heap.size w w' := by
 have hu50 := Tryz.underlying50
 have HB := aM (Below.refl w.heap.size w)
 have H := h
 clear h
 unfold spec_TokenOk.f at H
 by_cases c2 : a2.toList = ([] : List UInt8)
 ·rw [if_pos c2] at H
  obtain ⟨a7, a8⟩ := eqT c2
  clear c2
  replace H := bN H
  obtain ⟨a9, A3, H⟩ := H
  obtain rfl := Option.some.inj H
  go_enter Tryz.func24, Tryz.ntmps24
  go_wp2_with (first | ((with_reducible refine gD 1 ?_); refine bxE #[.string a2, .int .i64 a5] 50 ?_; intro a6 hg w4 a3 hb; have GE150 := gE hg; replace HB := hB hb; clear hb hg; have hz5 := cz2 a3) | ((with_reducible refine gC 65 ?_); refine cM (some 8) Tryz.func65 (spec_l01In.calls a5 (-999) 999 a9 _ A3.out) ?_; rintro e w' ⟨rfl, ⟨nd, rfl⟩⟩; refine ⟨_, rfl, ?_⟩))
  go_ret
  exact ⟨eS, bS⟩
 ·rw [if_neg c2] at H
  obtain ⟨a7, a8⟩ := eqF c2
  replace H := bN H
  obtain ⟨b0, A6, H⟩ := H
  by_cases c7 : b0 = true
  ·subst c7
   rw [if_pos rfl] at H
   obtain rfl := Option.some.inj H
   go_enter Tryz.func24, Tryz.ntmps24
   go_wp2_with (first | ((with_reducible refine gD 1 ?_); refine bxE #[.string a2, .int .i64 a5] 50 ?_; intro a6 hg w8 a3 hb; have GE150 := gE hg; replace HB := hB hb; clear hb hg; have hz9 := cz2 a3) | ((with_reducible refine gC 66 ?_); refine cM (some 11) Tryz.func66 (spec_IsName.calls k a2 _ _ A6.out) ?_; rintro e w' ⟨rfl, ⟨nd, rfl⟩⟩; refine ⟨_, rfl, ?_⟩))
   go_ret
   exact ⟨eS, bS⟩
  ·obtain rfl := Bool.eq_false_iff.mpr c7
   rw [if_neg nF] at H
   obtain rfl := Option.some.inj H
   go_enter Tryz.func24, Tryz.ntmps24
   go_wp2_with (first | ((with_reducible refine gD 1 ?_); refine bxE #[.string a2, .int .i64 a5] 50 ?_; intro a6 hg b1 a3 hb; have GE150 := gE hg; replace HB := hB hb; clear hb hg; have hz11 := cz2 a3) | ((with_reducible refine gC 66 ?_); refine cM (some 11) Tryz.func66 (spec_IsName.calls k a2 _ _ A6.out) ?_; rintro e w' ⟨rfl, ⟨nd, rfl⟩⟩; refine ⟨_, rfl, ?_⟩))
   go_ret
   exact ⟨eS, bS⟩
def spec_l05Copy.f (l0 : List Int) : Option (List Int) := (some (([] : List Int) : List Int)).bind fun a2 => (if a2.length + l0.length < 17592186044416 then (some (a2 ++ l0)) else (none))
theorem spec_l05Copy.calls (A0 : Option Addr) (c0 : Nat) (l0 : List Int) (r : List Int) (w : World) (hr0 : Kd.C (Kd.int .i64) w A0 l0.length l0) (a9 : l0.length ≤ c0) (h : spec_l05Copy.f l0 = some r) :
  Calls Tryz.prog 69 #[.slice A0 l0.length c0] w fun e w' => ∃ v0_ : Value, e = .returned (v0_) ∧ Kd.R (Kd.int .i64) 3 w' w.heap.size (fun _ => True) v0_ r ∧ Below w.heap.size w w' := by
 have b0 := aM hr0
 have b2 := aM a9
 clear hr0 a9
 have HB := aM (Below.refl w.heap.size w)
 have H := h
 clear h
 unfold spec_l05Copy.f at H
 obtain ⟨a2, hy_⟩ : ∃ y_ : List Int, y_ = (([] : List Int)) := ⟨_, rfl⟩
 replace H : (if a2.length + l0.length < 17592186044416 then (some (a2 ++ l0)) else (none)) = some r := yS
 have Ny153 := aM hy_
 clear hy_
 by_cases c2 : a2.length + l0.length < 17592186044416
 ·rw [if_pos c2] at H
  have LMc2 := aM c2
  clear c2
  obtain ⟨a7, hy_⟩ : ∃ y_ : List Int, y_ = (a2 ++ l0) := ⟨_, rfl⟩
  replace H : (some a7) = some r := yS
  have Ny156 := aM hy_
  clear hy_
  obtain rfl := Option.some.inj H
  go_enter Tryz.func69, Tryz.ntmps69
  go_wp2_with (first | ((with_reducible refine gate_dst (N := 3) rfl ?_); refine Kd.R_lit (Kd.int .i64) _ 3 ?hg (N := 3) ?hd (xs := ([] : List Int)) (inner := []) (ok := fun _ => True) (okp := fun _ => True) ?hr ?hp (fun _ hk => hk) trivial (Below.refl _ _) (Nat.le_refl _) (by simp) ?_; (case hd => rfl); (case hg => rfl); (case hr => first | (go_simp; done) | (go_simp; rfl)); (case hp => exact (Reps.none _ _)); intro a8 w3 a5 hb hg_ hnew_; clear hg_ hnew_; (first | rw [← Ny153.out] at a5 | (simp only [Int.reduceToNat] at a5; rw [← Ny153.out] at a5)); have a3 := aM (Kd.R_lower a5 (below_size bS)); replace HB := hB hb; clear hb a5) | ((with_reducible refine gate_builtin (b := .append) (xs := #[.tmp 3, .tmp 4]) rfl ?_); at_builtin; refine Kd.R_append_rows (Kd.int .i64) (w0 := w) w.heap.size rfl (.tmp 3) (.tmp 4) 22 3 (.int .i64 0) 8 rfl Tryz.underlying22 info3 rfl (by decide) (by omega) a8 a2 l0 _ _ _ (fun _ => True) (fun _ => False) rfl rfl ?aO ?aR (fun _ _ h => h) (fun _ h => h.elim) ?aF ?aB ?aS ?aL ?_; (case aR => exact cS (Kd.C_below b0.out HB.out)); (case aB => exact bS); (case aF => exact (fun _ _ => trivial)); (case aO => exact (rS a3)); (case aS => exact (below_size bS)); (case aL => have := LMc2.out; (try dsimp only at this); omega); intro b1 w5 ho hb hg hat; rw [← Ny156.out] at ho; have a6 := aM (ho); replace HB := aM (hb); clear a3; clear ho hb hg hat))
  go_ret
  exact ⟨_, eS, rS a6, bS⟩
 ·rw [if_neg c2] at H
  exact absurd H (by simp)
def spec_l07Graphics.f (a6 : List Int) (a7 : Int) (a8 : Int) (a9 : Int) (b0 : Int) (a2 : List (S111)) (b1 : Int) (b2 : Int) (b6 : Int) (b7 : Int) (a3 : Int) : Option (List Int × Int × Int × Int × Int × (List (S111)) × Int × Int × Int × Int × Int) := (spec_l05Copy.f a6).bind fun b8 => ((some (([] : List (S111)) : List (S111))).bind fun a5 => (if a5.length + a2.length < 8796093022208 then (some (b8, a7, a8, a9, b0, (a5 ++ a2), b1, b2, b6, b7, a3)) else (none)))
theorem spec_l07Graphics.calls (f6 : Option Addr) (f7 : Nat) (e1 : List Int) (a2 : Int) (a5 : Int) (a7 : Int) (a9 : Int) (f0 : Option Addr) (f3 : Nat) (b6 : List (S111)) (b8 : Int) (d1 : Int) (d2 : Int) (d6 : Int) (b7 : Int) (r1 : List Int) (r2 : Int) (r3 : Int) (r4 : Int) (r5 : Int) (r6 : List (S111)) (r7 : Int) (r8 : Int) (r9 : Int) (g6 : Int) (g7 : Int) (w : World) (f8 : Kd.C (Kd.int .i64) w f6 e1.length e1) (f9 : e1.length ≤ f7) (g0 : Kd.C k111 w f0 b6.length b6) (g1 : b6.length ≤ f3) (h : spec_l07Graphics.f e1 a2 a5 a7 a9 b6 b8 d1 d2 d6 b7 = some (r1, r2, r3, r4, r5, r6, r7, r8, r9, g6, g7)) :
  Calls Tryz.prog 67 #[.agg #[.slice f6 e1.length f7, .int .i64 a2, .int .i64 a5, .int .i64 a7, .int .i64 a9, .slice f0 b6.length f3, .int .i64 b8, .int .i64 d1, .int .i64 d2, .int .i64 d6, .int .i64 b7]] w fun e w' => ∃ v0_ v5_ : Value, e = .returned (.agg #[v0_, .int .i64 r2, .int .i64 r3, .int .i64 r4, .int .i64 r5, v5_, .int .i64 r7, .int .i64 r8, .int .i64 r9, .int .i64 g6, .int .i64 g7]) ∧ Kd.R (Kd.int .i64) 3 w' w.heap.size (fun _ => True) v0_ r1 ∧ Kd.R k111 111 w' w.heap.size (fun _ => True) v5_ r6 ∧ Below w.heap.size w w' := by
 have hu42 := Tryz.underlying42
 have g3 := aM f8
 have g4 := aM f9
 clear f8 f9
 have g5 := aM g0
 have h4 := aM g1
 clear g0 g1
 have HB := aM (Below.refl w.heap.size w)
 have H := h
 clear h
 unfold spec_l07Graphics.f at H
 replace H := bN H
 obtain ⟨a8, A2, H⟩ := H
 obtain ⟨f4, hy_⟩ : ∃ y_ : List (S111), y_ = (([] : List (S111))) := ⟨_, rfl⟩
 replace H : (if f4.length + b6.length < 8796093022208 then (some (a8, a2, a5, a7, a9, (f4 ++ b6), b8, d1, d2, d6, b7)) else (none)) = some (r1, r2, r3, r4, r5, r6, r7, r8, r9, g6, g7) := yS
 have Ny165 := aM hy_
 clear hy_
 by_cases c3 : f4.length + b6.length < 8796093022208
 ·rw [if_pos c3] at H
  have LMc3 := aM c3
  clear c3
  obtain ⟨e0, hy_⟩ : ∃ y_ : List (S111), y_ = (f4 ++ b6) := ⟨_, rfl⟩
  replace H : (some (a8, a2, a5, a7, a9, e0, b8, d1, d2, d6, b7)) = some (r1, r2, r3, r4, r5, r6, r7, r8, r9, g6, g7) := yS
  have Ny168 := aM hy_
  clear hy_
  simp only [Option.some.injEq, Prod.mk.injEq] at H
  obtain ⟨rfl, rfl, rfl, rfl, rfl, rfl, rfl, rfl, rfl, rfl, rfl⟩ := H
  go_enter Tryz.func67, Tryz.ntmps67
  go_wp2_with (first | ((with_reducible refine gD 1 ?_); refine bxE #[.slice f6 e1.length f7, .int .i64 a2, .int .i64 a5, .int .i64 a7, .int .i64 a9, .slice f0 b6.length f3, .int .i64 b8, .int .i64 d1, .int .i64 d2, .int .i64 d6, .int .i64 b7] 42 ?_; intro b0 hg w4 a6 hb; have GE159 := gE hg; replace HB := hB hb; clear hb hg) | ((with_reducible refine gD 2 ?_); refine bxE #[.slice none 0 0, .int .i64 0, .int .i64 0, .int .i64 0, .int .i64 0, .slice none 0 0, .int .i64 0, .int .i64 0, .int .i64 0, .int .i64 0, .int .i64 0] 42 ?_; intro b1 hg w5 b2 hb; have GE160 := gE hg; have e5 := nL_ b0 hg; have e6 := nG_ b0 hg; replace a6 := kB_ b0 hb; replace HB := hB hb; clear hb hg; have hnb6 := nP e5 e6; have hz7 := cz11 a6) | ((with_reducible refine gD 3 ?_); refine bxE #[.slice none 0 0, .int .i64 0, .int .i64 0, .int .i64 0, .int .i64 0, .slice none 0 0, .int .i64 0, .int .i64 0, .int .i64 0, .int .i64 0, .int .i64 0] 42 ?_; intro e2 hg w8 a3 hb; have GE161 := gE hg; have e7 := nL_ b0 hg; have e8 := nG_ b0 hg; have d3 := nL_ b1 hg; have e9 := nG_ b1 hg; replace a6 := kB_ b0 hb; replace b2 := kB_ b1 hb; replace HB := hB hb; clear hb hg; have hnb9 := nP e8 e7; have hnb10 := nP e9 d3; have hz11 := cz11 a3; have g8 := cg0 a6; have g9 := cg5 a6) | ((with_reducible refine gC 69 ?_); refine cM (some 7) Tryz.func69 (spec_l05Copy.calls _ _ e1 a8 _ (Kd.C_below g3.out bS) g4.out A2.out) ?_; rintro e h8 ⟨h6, rfl, h5, hb⟩; refine ⟨_, rfl, ?_⟩; have d4 := aM (Kd.R_lower h5 (below_size bS)); replace a6 := kB_ b0 hb; replace b2 := kB_ b1 hb; replace a3 := aM (blk_below (g := e2) (o := .cells #[.slice f6 e1.length f7, .int .i64 a2, .int .i64 a5, .int .i64 a7, .int .i64 a9, .slice f0 b6.length f3, .int .i64 b8, .int .i64 d1, .int .i64 d2, .int .i64 d6, .int .i64 b7] 42 (0, 0)) (kQ a3) hb); replace HB := hB hb; (try clear hb h5); obtain ⟨b9, d0, h1⟩ := Kd.R_slice d4.out; subst h1; have hz15 := cz11 a3) | ((with_reducible refine gate_dst (N := 9) rfl ?_); refine Kd.R_lit k111 _ 111 ?hg (N := 9) ?hd (xs := ([] : List (S111))) (inner := []) (ok := fun _ => True) (okp := fun _ => True) ?hr ?hp (fun _ hk => hk) trivial (Below.refl _ _) (Nat.le_refl _) (by simp) ?_; (case hd => rfl); (case hg => rfl); (case hr => first | (go_simp; done) | (go_simp; rfl)); (case hp => exact (Reps.none _ _)); intro h2 h9 f5 hb hg_ hnew_; clear hg_ hnew_; (first | rw [← Ny165.out] at f5 | (simp only [Int.reduceToNat] at f5; rw [← Ny165.out] at f5)); have d5 := aM (Kd.R_lower f5 (below_size bS)); replace d4 := aM (Kd.R_below (by exact rG d4 a3) hb); replace a6 := kB_ b0 hb; replace b2 := kB_ b1 hb; replace a3 := kO e2 #[.slice b9 a8.length d0, .int .i64 a2, .int .i64 a5, .int .i64 a7, .int .i64 a9, .slice f0 b6.length f3, .int .i64 b8, .int .i64 d1, .int .i64 d2, .int .i64 d6, .int .i64 b7] 42 hb; replace HB := hB hb; clear hb f5; have h0 := cg5 a6) | ((with_reducible refine gate_builtin (b := .append) (xs := #[.tmp 9, .tmp 11]) rfl ?_); at_builtin; refine Kd.R_append_rows k111 (w0 := w) w.heap.size rfl (.tmp 9) (.tmp 11) 39 111 (.agg #[(.int .i64 0), (.int .i64 0)]) 16 rfl Tryz.underlying39 info111 rfl (by decide) (by omega) h2 f4 b6 _ _ _ (fun _ => True) (fun _ => False) rfl rfl ?aO ?aR (fun _ _ h => h) (fun _ h => h.elim) ?aF ?aB ?aS ?aL ?_; (case aR => exact cS (Kd.C_below g5.out HB.out)); (case aB => exact bS); (case aF => exact (fun _ _ => trivial)); (case aO => exact (rS d5)); (case aS => exact (below_size bS)); (case aL => have := LMc3.out; (try dsimp only at this); omega); intro h7 i1 ho hb hg hat; rw [← Ny168.out] at ho; have g2 := aM (ho); replace a6 := aM (blk_grown (g := b0) kS hg (Kd.R_ne d5.out a6.out (by decide))); replace b2 := aM (blk_grown (g := b1) kS hg (Kd.R_ne d5.out b2.out (by decide))); replace a3 := aM (blk_grown (g := e2) kS hg (Kd.R_ne d5.out a3.out (by decide))); replace d4 := aM (Kd.R_over' (rS d4) (Kd.R_typed (rS d5)) (by decide) hg); replace HB := aM (hb); clear d5; clear ho hb hg hat; obtain ⟨e3, e4, h3⟩ := Kd.R_slice g2.out; subst h3; have hz21 := cz11 a3; have hz22 := cz11 b2))
  refine bodyPost_ret (results_cell_row rfl _ _ b1 42 #[.slice b9 a8.length d0, .int .i64 a2, .int .i64 a5, .int .i64 a7, .int .i64 a9, .slice e3 e0.length e4, .int .i64 b8, .int .i64 d1, .int .i64 d2, .int .i64 d6, .int .i64 b7] (0, 0) _ rfl (by (with_reducible repeat (first | refine blk_drewN ?_ _ | refine blk_drew ?_ | refine blk_alloc ?_ _)); refine blk_put (cs := #[.slice b9 a8.length d0, .int .i64 a2, .int .i64 a5, .int .i64 a7, .int .i64 a9, .slice e3 e0.length e4, .int .i64 b8, .int .i64 d1, .int .i64 d2, .int .i64 d6, .int .i64 0]) ?_ 10 _ rfl; (with_reducible repeat (first | refine blk_drewN ?_ _ | refine blk_drew ?_ | refine blk_alloc ?_ _)); refine blk_put (cs := #[.slice b9 a8.length d0, .int .i64 a2, .int .i64 a5, .int .i64 a7, .int .i64 a9, .slice e3 e0.length e4, .int .i64 b8, .int .i64 d1, .int .i64 d2, .int .i64 0, .int .i64 0]) ?_ 9 _ rfl; (with_reducible repeat (first | refine blk_drewN ?_ _ | refine blk_drew ?_ | refine blk_alloc ?_ _)); refine blk_put (cs := #[.slice b9 a8.length d0, .int .i64 a2, .int .i64 a5, .int .i64 a7, .int .i64 a9, .slice e3 e0.length e4, .int .i64 b8, .int .i64 d1, .int .i64 0, .int .i64 0, .int .i64 0]) ?_ 8 _ rfl; (with_reducible repeat (first | refine blk_drewN ?_ _ | refine blk_drew ?_ | refine blk_alloc ?_ _)); refine blk_put (cs := #[.slice b9 a8.length d0, .int .i64 a2, .int .i64 a5, .int .i64 a7, .int .i64 a9, .slice e3 e0.length e4, .int .i64 b8, .int .i64 0, .int .i64 0, .int .i64 0, .int .i64 0]) ?_ 7 _ rfl; (with_reducible repeat (first | refine blk_drewN ?_ _ | refine blk_drew ?_ | refine blk_alloc ?_ _)); refine blk_put (cs := #[.slice b9 a8.length d0, .int .i64 a2, .int .i64 a5, .int .i64 a7, .int .i64 a9, .slice e3 e0.length e4, .int .i64 0, .int .i64 0, .int .i64 0, .int .i64 0, .int .i64 0]) ?_ 6 _ rfl; (with_reducible repeat (first | refine blk_drewN ?_ _ | refine blk_drew ?_ | refine blk_alloc ?_ _)); refine blk_put (cs := #[.slice b9 a8.length d0, .int .i64 a2, .int .i64 a5, .int .i64 a7, .int .i64 a9, .slice none 0 0, .int .i64 0, .int .i64 0, .int .i64 0, .int .i64 0, .int .i64 0]) ?_ 5 _ rfl; (with_reducible repeat (first | refine blk_drewN ?_ _ | refine blk_drew ?_ | refine blk_alloc ?_ _)); refine blk_put (cs := #[.slice b9 a8.length d0, .int .i64 a2, .int .i64 a5, .int .i64 a7, .int .i64 0, .slice none 0 0, .int .i64 0, .int .i64 0, .int .i64 0, .int .i64 0, .int .i64 0]) ?_ 4 _ rfl; (with_reducible repeat (first | refine blk_drewN ?_ _ | refine blk_drew ?_ | refine blk_alloc ?_ _)); refine blk_put (cs := #[.slice b9 a8.length d0, .int .i64 a2, .int .i64 a5, .int .i64 0, .int .i64 0, .slice none 0 0, .int .i64 0, .int .i64 0, .int .i64 0, .int .i64 0, .int .i64 0]) ?_ 3 _ rfl; (with_reducible repeat (first | refine blk_drewN ?_ _ | refine blk_drew ?_ | refine blk_alloc ?_ _)); refine blk_put (cs := #[.slice b9 a8.length d0, .int .i64 a2, .int .i64 0, .int .i64 0, .int .i64 0, .slice none 0 0, .int .i64 0, .int .i64 0, .int .i64 0, .int .i64 0, .int .i64 0]) ?_ 2 _ rfl; (with_reducible repeat (first | refine blk_drewN ?_ _ | refine blk_drew ?_ | refine blk_alloc ?_ _)); refine blk_put (cs := #[.slice b9 a8.length d0, .int .i64 0, .int .i64 0, .int .i64 0, .int .i64 0, .slice none 0 0, .int .i64 0, .int .i64 0, .int .i64 0, .int .i64 0, .int .i64 0]) ?_ 1 _ rfl; (with_reducible repeat (first | refine blk_drewN ?_ _ | refine blk_drew ?_ | refine blk_alloc ?_ _)); refine blk_put (cs := #[.slice none 0 0, .int .i64 0, .int .i64 0, .int .i64 0, .int .i64 0, .slice none 0 0, .int .i64 0, .int .i64 0, .int .i64 0, .int .i64 0, .int .i64 0]) ?_ 0 _ rfl; (with_reducible repeat (first | refine blk_drewN ?_ _ | refine blk_drew ?_ | refine blk_alloc ?_ _)); refine blk_far ?_ d3.out _; (with_reducible repeat (first | refine blk_drewN ?_ _ | refine blk_drew ?_ | refine blk_alloc ?_ _)); exact b2.out) Tryz.underlying42 rfl (by kernel_rfl)) rfl ?_
  exact ⟨_, _, eS, by exact Kd.R_mono (R_on (g := b1) (Kd.R_far (p := ⟨e2, 5, none⟩) (Kd.R_types (Kd.R_types d4.out a3.out (by decide)) b2.out (by decide)) (fun _ hk => hk.1.2) (.slice e3 e0.length e4)) (fun _ hk => hk.2)) (fun _ hk => trivial), by exact Kd.R_mono (R_on (g := b1) (Kd.R_far (p := ⟨e2, 5, none⟩) (Kd.R_types (Kd.R_types g2.out a3.out (by decide)) b2.out (by decide)) (fun _ hk => hk.1.2) (.slice e3 e0.length e4)) (fun _ hk => hk.2)) (fun _ hk => trivial), bS⟩
 ·rw [if_neg c3] at H
  exact absurd H (by simp)
end Go.Proofs.YtjkgponlahfnjaaGreat.QFnExactExecToken
