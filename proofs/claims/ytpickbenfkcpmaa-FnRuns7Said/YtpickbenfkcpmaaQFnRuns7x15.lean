-- Made out of the translation by a program of this session (a changed copy of the print). Not trusted: Lean checks it.
import Derived.Test.YtpickbenfkcpmaaQFnRuns7x0
import Derived.Test.YtpickbenfkcpmaaQFnRuns7x4
import Derived.Test.YtpickbenfkcpmaaQFnRuns7x14
namespace Go.Proofs.Ytpickbenfkcpmaa.QFnRuns7
open Go.RowKit Go.Proofs.YtpickbenfkcpmaaW.PrintWords Go.Proofs.YtpickbenfkcpmaaW.PrintLast Go.Proofs.YtpickbenfkcpmaaW.PrintMore
attribute [local go_sem] max2_int min2_int max_two min_two max_three min_three max_four min_four   -- for this text's walks alone
set_option linter.unusedVariables false
set_option linter.unusedSimpArgs false
set_option maxHeartbeats 8000000
set_option maxRecDepth 100000

/-! ### impl_RunPage: function 6 -/
def impl_RunPage.l0 : Nat → List (S46) → List (S46) → Int → Int → List Int → Int → Int → Int → Int → List (S90) → Int → Int → Int → Int → Int → List (S33) → List (S82) → Option (List Int × Int × Int × Int × Int × (List (S90)) × Int × Int × Int × Int × Int × (List (S33)) × (List (S82)) × Int)
 | 0, _, _, _, _, _, _, _, _, _, _, _, _, _, _, _, _, _ => none
 | k + 1, x4, d1, d2, d0, a3, a5, a6, a7, a8, a9, b0, b1, b2, b6, b7, b8, b9 => if d0 < d2 then (if 0 ≤ d0 then (if d0 < (d1.length : Int) then ((impl_ExecToken.f k a3 a5 a6 a7 a8 a9 b0 b1 b2 b6 b7 b8 b9 ((rd_T46 d1 d0).f0) ((rd_T46 d1 d0).f1)).bind fun a2 => (if a2.2.2.2.2.2.2.2.2.2.2.2.2.2 = true then (impl_RunPage.l0 k x4 d1 d2 (wrap64 (d0 + 1)) a2.1 a2.2.1 a2.2.2.1 a2.2.2.2.1 a2.2.2.2.2.1 a2.2.2.2.2.2.1 a2.2.2.2.2.2.2.1 a2.2.2.2.2.2.2.2.1 a2.2.2.2.2.2.2.2.2.1 a2.2.2.2.2.2.2.2.2.2.1 a2.2.2.2.2.2.2.2.2.2.2.1 a2.2.2.2.2.2.2.2.2.2.2.2.1 a2.2.2.2.2.2.2.2.2.2.2.2.2.1) else (some (a3, a5, a6, a7, a8, a9, b0, b1, b2, b6, b7, b8, b9, d0)))) else (none)) else (none)) else (some (a3, a5, a6, a7, a8, a9, b0, b1, b2, b6, b7, b8, b9, (x4.length : Int)))
def impl_RunPage.f (k : Nat) (l0 : List (S46)) : Option (List Int × Int × Int × Int × Int × (List (S90)) × Int × Int × Int × Int × Int × (List (S33)) × (List (S82)) × Int) := (impl_FlattenBlocks.f k l0).bind fun a3 => (if a3.2 = true then ((impl_NewPage.f).bind fun a2 => (impl_RunPage.l0 k a3.1 a3.1 (a3.1.length : Int) 0 a2.1 a2.2.1 a2.2.2.1 a2.2.2.2.1 a2.2.2.2.2.1 a2.2.2.2.2.2.1 a2.2.2.2.2.2.2.1 a2.2.2.2.2.2.2.2.1 a2.2.2.2.2.2.2.2.2.1 a2.2.2.2.2.2.2.2.2.2.1 a2.2.2.2.2.2.2.2.2.2.2.1 a2.2.2.2.2.2.2.2.2.2.2.2.1 a2.2.2.2.2.2.2.2.2.2.2.2.2)) else (some (([] : List Int), 0, 0, 0, 0, ([] : List (S90)), 0, 0, 0, 0, 0, ([] : List (S33)), ([] : List (S82)), (-1))))
theorem impl_RunPage.calls (k : Nat) (A0 : Option Addr) (c0 : Nat) (l0 : List (S46)) (r1 : List Int) (r2 : Int) (r3 : Int) (r4 : Int) (r5 : Int) (r6 : List (S90)) (r7 : Int) (r8 : Int) (r9 : Int) (o9 : Int) (q0 : Int) (q2 : List (S33)) (q3 : List (S82)) (q4 : Int) (w : World) (hr0 : Kd.C k46 w A0 l0.length l0) (y5 : l0.length ≤ c0) (h : impl_RunPage.f k l0 = some (r1, r2, r3, r4, r5, r6, r7, r8, r9, o9, q0, q2, q3, q4)) :
  Calls Try.prog 6 #[.slice A0 l0.length c0] w fun e w' => ∃ v0_ v5_ v11_ v12_ : Value, e = .returned (.tuple #[.agg #[v0_, .int .i64 r2, .int .i64 r3, .int .i64 r4, .int .i64 r5, v5_, .int .i64 r7, .int .i64 r8, .int .i64 r9, .int .i64 o9, .int .i64 q0, v11_, v12_], .int .i64 q4]) ∧ Kd.V (Kd.int .i64) 3 w' w.heap.size (fun k_ => (w.heap.size ≤ k_)) v0_ r1 ∧ Kd.V k90 90 w' w.heap.size (fun k_ => (w.heap.size ≤ k_)) v5_ r6 ∧ Kd.V k33 33 w' w.heap.size (fun k_ => (w.heap.size ≤ k_)) v11_ q2 ∧ Kd.V k82 82 w' w.heap.size (fun k_ => (w.heap.size ≤ k_)) v12_ q3 ∧ Below w.heap.size w w' := by
 have hu37 := Try.underlying37
 have hu46 := Try.underlying46
 have y6 := aM hr0
 have y7 := aM y5
 clear hr0 y5
 have HB := aM (Below.refl w.heap.size w)
 have H := h
 clear h
 unfold impl_RunPage.f at H
 replace H := bN H
 obtain ⟨⟨b1, q5⟩, A2, H⟩ := H
 by_cases c3 : q5 = true
 ·subst c3
  rw [if_pos rfl] at H
  replace H := bN H
  obtain ⟨⟨k5, m3, m4, m5, m6, k6, m7, m8, m9, n0, n1, k7, k9⟩, A4, H⟩ := H
  have H' := aM H
  clear H
  go_enter Try.func6, Try.ntmps6
  go_wp2_with (first | ((with_reducible refine gD 2 ?_); refine bxE #[.slice none 0 0, .int .i64 0, .int .i64 0, .int .i64 0, .int .i64 0, .slice none 0 0, .int .i64 0, .int .i64 0, .int .i64 0, .int .i64 0, .int .i64 0, .slice none 0 0, .slice none 0 0] 37 ?_; intro a2 hg w5 e2 hb; have GE814 := gE hg; replace HB := hB hb; clear hb hg) | ((with_reducible refine gC 7 ?_); refine cM (some 13) Try.func7 (impl_FlattenBlocks.calls k _ _ l0 b1 _ _ (cC y6 HB) y7.out A2.out) ?_; rintro e w6 ⟨q6, rfl, i1, hb⟩; refine ⟨_, rfl, ?_⟩; have h0 := aM (Kd.V_lower (Kd.V_mono (ok' := fun k_ => (w.heap.size ≤ k_) ∧ k_ ≠ a2) i1 (fun k_ hk_ => ⟨(Nat.le_trans (below_size bS) hk_), (Kd.freshB (g := a2) kS k_ hk_)⟩)) (below_size bS)); replace e2 := kB_ a2 hb; replace HB := hB hb; (try clear hb i1)) | ((with_reducible refine gC 8 ?_); refine cM (some 19) Try.func8 (impl_NewPage.calls  k5 m3 m4 m5 m6 k6 m7 m8 m9 n0 n1 k7 k9 _ A4.out) ?_; rintro e w7 ⟨A6, A7, A8, A9, rfl, i1, j5, j6, j7, hb⟩; refine ⟨_, rfl, ?_⟩; have i5 := aM (Kd.R_lower (Kd.R_newM (M := fun k_ => (w.heap.size ≤ k_)) i1 (below_size bS) (fun k_ h_ => h_)) (below_size bS)); have i6 := aM (Kd.R_lower (Kd.R_newM (M := fun k_ => (w.heap.size ≤ k_)) j5 (below_size bS) (fun k_ h_ => h_)) (below_size bS)); have i7 := aM (Kd.S_lower (Kd.S_newM (M := fun k_ => (w.heap.size ≤ k_)) j6 (below_size bS) (fun k_ h_ => h_)) (below_size bS)); have i8 := aM (Kd.S_lower (Kd.S_newM (M := fun k_ => (w.heap.size ≤ k_)) j7 (below_size bS) (fun k_ h_ => h_)) (below_size bS)); replace h0 := vT4 (vS [] h0) hb (Kd.R_base i1) (Kd.R_base j5) (Kd.S_base j6) (Kd.S_base j7); replace e2 := kB_ a2 hb; replace HB := hB hb; (try clear hb i1 j5 j6 j7)) | ((with_reducible refine gD 6 ?_); refine bxE #[.slice none 0 0, .int .i64 0, .int .i64 0, .int .i64 0, .int .i64 0, .slice none 0 0, .int .i64 0, .int .i64 0, .int .i64 0, .int .i64 0, .int .i64 0, .slice none 0 0, .slice none 0 0] 37 ?_; intro a8 hg w8 e1 hb; have GE840 := gE hg; have e5 := nL_ a2 hg; have e6 := nG_ a2 hg; replace h0 := vE (vS [] h0) hg hb; replace i5 := rB i5 hb; replace i6 := rB i6 hb; replace i7 := sB i7 hb; replace i8 := sB i8 hb; replace e2 := kB_ a2 hb; replace HB := hB hb; clear hb hg; obtain ⟨B0, B2, B7⟩ := Kd.R_slice i5.out; subst B7; have hnb10 := nP e6 e5; have hz11 := cz13 e1; obtain ⟨q7, q8, q9⟩ := Kd.R_slice i6.out; subst q9; obtain ⟨r0, s0, s1⟩ := Kd.S_slice i7.out; subst s1; obtain ⟨s2, s3, s4⟩ := Kd.S_slice i8.out; subst s4; obtain ⟨n2, n5, s5⟩ := Kd.V_slice h0.out; subst s5))
  go_loopg [22] k (fun kq B8 w' => ∃ (b0 : Int) (e7 : Int) (e8 : Int) (e9 : Int) (f3 : Int) (f4 : Int) (f5 : Int) (f6 : Int) (f7 : Int) (f8 : Int) (b2 : List Int) (b6 : Int) (b7 : Int) (b8 : Int) (b9 : Int) (d0 : List (S90)) (d1 : Int) (d2 : Int) (d3 : Int) (d4 : Int) (d5 : Int) (d6 : List (S33)) (e0 : List (S82)) (h6 : Value) (h7 : Value) (h8 : Value) (h9 : Value), B8 = .int .i64 b0 ∧ Aside0 (impl_RunPage.l0 kq b1 b1 (b1.length : Int) b0 b2 b6 b7 b8 b9 d0 d1 d2 d3 d4 d5 d6 e0 = some (r1, r2, r3, r4, r5, r6, r7, r8, r9, o9, q0, q2, q3, q4)) ∧ Aside0 (kq ≤ k) ∧ Aside0 (Kd.V k46 46 w' w.heap.size (fun k_ => (w.heap.size ≤ k_) ∧ k_ ≠ a2 ∧ k_ ≠ a8) (.slice n2 b1.length n5) b1) ∧ Aside0 (Kd.V k46 46 w' w.heap.size (fun k_ => (w.heap.size ≤ k_) ∧ k_ ≠ a2 ∧ k_ ≠ a8) (.slice n2 b1.length n5) b1) ∧ Aside0 (Kd.V (Kd.int .i64) 3 w' w.heap.size (fun k_ => (w.heap.size ≤ k_) ∧ k_ ≠ a2 ∧ k_ ≠ a8) h6 b2) ∧ Aside0 (Kd.V k90 90 w' w.heap.size (fun k_ => (w.heap.size ≤ k_) ∧ k_ ≠ a2 ∧ k_ ≠ a8) h7 d0) ∧ Aside0 (Kd.V k33 33 w' w.heap.size (fun k_ => (w.heap.size ≤ k_) ∧ k_ ≠ a2 ∧ k_ ≠ a8) h8 d6) ∧ Aside0 (Kd.V k82 82 w' w.heap.size (fun k_ => (w.heap.size ≤ k_) ∧ k_ ≠ a2 ∧ k_ ≠ a8) h9 e0) ∧ Aside0 (w'.heap[a2]? = some (.cells #[(.slice none 0 0), .int .i64 e7, .int .i64 e8, .int .i64 e9, .int .i64 f3, (.slice none 0 0), .int .i64 f4, .int .i64 f5, .int .i64 f6, .int .i64 f7, .int .i64 f8, (.slice none 0 0), (.slice none 0 0)] 37 (0, 0))) ∧ Aside0 (w'.heap[a8]? = some (.cells #[h6, .int .i64 b6, .int .i64 b7, .int .i64 b8, .int .i64 b9, h7, .int .i64 d1, .int .i64 d2, .int .i64 d3, .int .i64 d4, .int .i64 d5, h8, h9] 37 (0, 0))) ∧ Aside0 (Below w.heap.size w w'))
  case atStart => exact ⟨(0), (0), (0), (0), (0), (0), (0), (0), (0), (0), (k5), (m3), (m4), (m5), (m6), (k6), (m7), (m8), (m9), (n0), (n1), (k7), (k9), (.slice B0 k5.length B2), (.slice q7 k6.length q8), (.slice r0 k7.length s0), (.slice s2 k9.length s3), fS, H', ⟨Nat.le_refl _⟩, ⟨vO [a8] h0⟩, ⟨vO [a8] h0⟩, ⟨Kd.R_V (by exact Kd.R_mono (R_on (g := a8) (Kd.R_types (Kd.R_types (Kd.R_types i5.out e2.out (by decide)) e1.out (by decide)) e1.out (by decide)) (fun _ hk => hk.2)) (fun _ hk => ⟨hk.1.1.1.1, ⟨hk.1.1.2, hk.1.2⟩⟩))⟩, ⟨Kd.R_V (by exact Kd.R_mono (R_on (g := a8) (Kd.R_types (Kd.R_types (Kd.R_types i6.out e2.out (by decide)) e1.out (by decide)) e1.out (by decide)) (fun _ hk => hk.2)) (fun _ hk => ⟨hk.1.1.1.1, ⟨hk.1.1.2, hk.1.2⟩⟩))⟩, ⟨Kd.S_V (by exact Kd.S_mono (S_on (g := a8) (Kd.S_types (Kd.S_types (Kd.S_types i7.out e2.out (by decide)) e1.out (by decide)) e1.out (by decide)) (fun _ hk => hk.2)) (fun _ hk => ⟨hk.1.1.1.1, ⟨hk.1.1.2, hk.1.2⟩⟩))⟩, ⟨Kd.S_V (by exact Kd.S_mono (S_on (g := a8) (Kd.S_types (Kd.S_types (Kd.S_types i8.out e2.out (by decide)) e1.out (by decide)) e1.out (by decide)) (fun _ hk => hk.2)) (fun _ hk => ⟨hk.1.1.1.1, ⟨hk.1.1.2, hk.1.2⟩⟩))⟩, ⟨kS⟩, ⟨kS⟩, ⟨bS⟩⟩
  case round =>
   clear H'
   try clear c1
   try clear p2
   try clear c3
   try clear c6
   try clear c7
   try clear c8
   try clear c10
   obtain ⟨b0, e7, e8, e9, f3, f4, f5, f6, f7, f8, b2, b6, b7, b8, b9, d0, d1, d2, d3, d4, d5, d6, e0, h6, h7, h8, h9, rfl, HA, y8, f9, e3, a3, a5, a6, a7, e2, e1, HB⟩ := hrel
   cases gk with
   | zero => exact absurd HA.out (by simp [impl_RunPage.l0])
   | succ k1 =>
    have H := HA.out
    clear HA
    simp only [impl_RunPage.l0] at H
    rcases iD H with ⟨n6, H⟩ | ⟨n6, H⟩
    ·obtain ⟨y9, H⟩ := iT H
     obtain ⟨A1, H⟩ := iT H
     replace H := bN H
     obtain ⟨⟨j8, l3, l4, l5, l6, j9, l7, l8, l9, m0, m1, k0, k2, s6⟩, A3, H⟩ := H
     by_cases A5 : s6 = true
     ·subst A5
      rw [if_pos rfl] at H
      have H' := aM H
      clear H
      have i3 : 0 ≤ (b0 : Int) := dA
      have i4 : b0 < (b1.length : Int) := dA
      obtain ⟨n7, m2, k3, k4⟩ := at_T46 (Kd.V_reads' e3.out).2.2 b0 i3 i4
      cases m2
      replace i3 := eq_true i3
      replace i4 := eq_true i4
      go_wp2_with (first | ((with_reducible refine gD 8 ?_); refine bxE #[.string (⟨#[]⟩ : ByteArray), .int .i64 0] 46 ?_; intro a9 hg C9 h5 hb; have GE842 := gE hg; have g0 := nL_ a2 hg; have g1 := nG_ a2 hg; have g2 := nL_ a8 hg; have g3 := nG_ a8 hg; replace f9 := vE (vS [] f9) hg hb; replace e3 := vE (vS [] e3) hg hb; replace a3 := vE (vS [] a3) hg hb; replace a5 := vE (vS [] a5) hg hb; replace a6 := vE (vS [] a6) hg hb; replace a7 := vE (vS [] a7) hg hb; replace e2 := kB_ a2 hb; replace e1 := kB_ a8 hb; replace HB := hB hb; clear hb hg; have hnb22 := nP g1 g0; have hnb23 := nP g3 g2; have hz24 := cz2 h5; have hnb25 := nP e6 e5; have hz26 := cz13 e1; obtain ⟨s7, s8, s9⟩ := Kd.V_slice a3.out; subst s9; obtain ⟨t0, t1, t2⟩ := Kd.V_slice a5.out; subst t2; obtain ⟨t3, t4, t5⟩ := Kd.V_slice a6.out; subst t5; obtain ⟨t6, t7, t8⟩ := Kd.V_slice a7.out; subst t8) | ((with_reducible refine gC 9 ?_); refine cL (some 30) Try.func9 #[.agg #[.slice s7 b2.length s8, .int .i64 b6, .int .i64 b7, .int .i64 b8, .int .i64 b9, .slice t0 d0.length t1, .int .i64 d1, .int .i64 d2, .int .i64 d3, .int .i64 d4, .int .i64 d5, .slice t3 d6.length t4, .slice t6 e0.length t7], .agg #[.string ((rd_T46 b1 b0).f0), .int .i64 ((rd_T46 b1 b0).f1)]] ?_; (with_reducible refine (impl_ExecToken.calls k1 _ _ b2 b6 b7 b8 b9 _ _ d0 d1 d2 d3 d4 d5 _ _ d6 _ _ e0 ((rd_T46 b1 b0).f0) ((rd_T46 b1 b0).f1) j8 l3 l4 l5 l6 j9 l7 l8 l9 m0 m1 k0 k2 _ _ ?side1 ?side2 ?side3 ?side4 ?side5 ?side6 ?side7 ?side8 A3.out).mono ?_); (case side1 => exact vC [a9] a3); (case side2 => exact (Kd.V_reads' a3.out).2.1); (case side3 => exact vC [a9] a5); (case side4 => exact (Kd.V_reads' a5.out).2.1); (case side5 => exact vC [a9] a6); (case side6 => exact (Kd.V_reads' a6.out).2.1); (case side7 => exact vC [a9] a7); (case side8 => exact (Kd.V_reads' a7.out).2.1); rintro e D0 ⟨t9, u0, u1, u2, rfl, i1, j5, j6, j7, hb⟩; refine ⟨_, rfl, ?_⟩; have h1 := aM (Kd.V_lower (Kd.V_mono (ok' := fun k_ => (w.heap.size ≤ k_) ∧ k_ ≠ a2 ∧ k_ ≠ a8 ∧ k_ ≠ a9) i1 (fun k_ hk_ => ⟨(Nat.le_trans (below_size bS) hk_), (Kd.freshB (g := a2) kS k_ hk_), (Kd.freshB (g := a8) kS k_ hk_), (Kd.freshB (g := a9) (o := .cells #[.string ((rd_T46 b1 b0).f0), .int .i64 ((rd_T46 b1 b0).f1)] 46 (0, 0)) kS k_ hk_)⟩)) (below_size bS)); have h2 := aM (Kd.V_lower (Kd.V_mono (ok' := fun k_ => (w.heap.size ≤ k_) ∧ k_ ≠ a2 ∧ k_ ≠ a8 ∧ k_ ≠ a9) j5 (fun k_ hk_ => ⟨(Nat.le_trans (below_size bS) hk_), (Kd.freshB (g := a2) kS k_ hk_), (Kd.freshB (g := a8) kS k_ hk_), (Kd.freshB (g := a9) (o := .cells #[.string ((rd_T46 b1 b0).f0), .int .i64 ((rd_T46 b1 b0).f1)] 46 (0, 0)) kS k_ hk_)⟩)) (below_size bS)); have h3 := aM (Kd.V_lower (Kd.V_mono (ok' := fun k_ => (w.heap.size ≤ k_) ∧ k_ ≠ a2 ∧ k_ ≠ a8 ∧ k_ ≠ a9) j6 (fun k_ hk_ => ⟨(Nat.le_trans (below_size bS) hk_), (Kd.freshB (g := a2) kS k_ hk_), (Kd.freshB (g := a8) kS k_ hk_), (Kd.freshB (g := a9) (o := .cells #[.string ((rd_T46 b1 b0).f0), .int .i64 ((rd_T46 b1 b0).f1)] 46 (0, 0)) kS k_ hk_)⟩)) (below_size bS)); have h4 := aM (Kd.V_lower (Kd.V_mono (ok' := fun k_ => (w.heap.size ≤ k_) ∧ k_ ≠ a2 ∧ k_ ≠ a8 ∧ k_ ≠ a9) j7 (fun k_ hk_ => ⟨(Nat.le_trans (below_size bS) hk_), (Kd.freshB (g := a2) kS k_ hk_), (Kd.freshB (g := a8) kS k_ hk_), (Kd.freshB (g := a9) (o := .cells #[.string ((rd_T46 b1 b0).f0), .int .i64 ((rd_T46 b1 b0).f1)] 46 (0, 0)) kS k_ hk_)⟩)) (below_size bS)); replace f9 := vB (vS [a9] f9) hb; replace e3 := vB (vS [a9] e3) hb; replace a3 := vB (vS [a9] a3) hb; replace a5 := vB (vS [a9] a5) hb; replace a6 := vB (vS [a9] a6) hb; replace a7 := vB (vS [a9] a7) hb; replace e2 := kB_ a2 hb; replace e1 := kB_ a8 hb; replace h5 := kO a9 #[.string ((rd_T46 b1 b0).f0), .int .i64 ((rd_T46 b1 b0).f1)] 46 hb; replace HB := hB hb; (try clear hb hk i1 j5 j6 j7)) | ((with_reducible refine gD 9 ?_); refine bxE #[.slice none 0 0, .int .i64 0, .int .i64 0, .int .i64 0, .int .i64 0, .slice none 0 0, .int .i64 0, .int .i64 0, .int .i64 0, .int .i64 0, .int .i64 0, .slice none 0 0, .slice none 0 0] 37 ?_; intro e4 hg D1 i9 hb; have GE865 := gE hg; have g4 := nL_ a2 hg; have g5 := nG_ a2 hg; have g6 := nL_ a8 hg; have g7 := nG_ a8 hg; have g8 := nL_ a9 hg; have g9 := nG_ a9 hg; replace f9 := vE (vS [] f9) hg hb; replace e3 := vE (vS [] e3) hg hb; replace a3 := vE (vS [] a3) hg hb; replace a5 := vE (vS [] a5) hg hb; replace a6 := vE (vS [] a6) hg hb; replace a7 := vE (vS [] a7) hg hb; replace h1 := vE (vS [] h1) hg hb; replace h2 := vE (vS [] h2) hg hb; replace h3 := vE (vS [] h3) hg hb; replace h4 := vE (vS [] h4) hg hb; replace e2 := kB_ a2 hb; replace e1 := kB_ a8 hb; replace h5 := kB_ a9 hb; replace HB := hB hb; clear hb hg; obtain ⟨u3, u4, u5⟩ := Kd.V_slice h1.out; subst u5; have hnb34 := nP g5 g4; have hnb35 := nP g7 g6; have hnb36 := nP g9 g8; have hz37 := cz13 i9; obtain ⟨u6, u7, u9⟩ := Kd.V_slice h2.out; subst u9; obtain ⟨v0, v1, v2⟩ := Kd.V_slice h3.out; subst v2; obtain ⟨v3, v4, v5⟩ := Kd.V_slice h4.out; subst v5; have hz41 := cz13 e1))
      go_roundg k1
      case measure => have := y8.out; omega
      case rel => exact ⟨(wrap64 (b0 + 1)), (e7), (e8), (e9), (f3), (f4), (f5), (f6), (f7), (f8), (j8), (l3), (l4), (l5), (l6), (j9), (l7), (l8), (l9), (m0), (m1), (k0), (k2), (.slice u3 j8.length u4), (.slice u6 j9.length u7), (.slice v0 k0.length v1), (.slice v3 k2.length v4), fS, H', ⟨by have := y8.out; omega⟩, ⟨vO [e4, a8] f9⟩, ⟨vO [e4, a8] e3⟩, ⟨vO [e4, a8] h1⟩, ⟨vO [e4, a8] h2⟩, ⟨vO [e4, a8] h3⟩, ⟨vO [e4, a8] h4⟩, ⟨kS⟩, ⟨kS⟩, ⟨bS⟩⟩
     ·obtain rfl := Bool.eq_false_iff.mpr A5
      rw [if_neg nF] at H
      simp only [Option.some.injEq, Prod.mk.injEq] at H
      obtain ⟨rfl, rfl, rfl, rfl, rfl, rfl, rfl, rfl, rfl, rfl, rfl, rfl, rfl, rfl⟩ := H
      have i3 : 0 ≤ (b0 : Int) := dA
      have i4 : b0 < (b1.length : Int) := dA
      obtain ⟨n7, m2, k3, k4⟩ := at_T46 (Kd.V_reads' e3.out).2.2 b0 i3 i4
      cases m2
      replace i3 := eq_true i3
      replace i4 := eq_true i4
      go_wp2_with (first | ((with_reducible refine gD 8 ?_); refine bxE #[.string (⟨#[]⟩ : ByteArray), .int .i64 0] 46 ?_; intro a9 hg D2 h5 hb; have GE842 := gE hg; have g0 := nL_ a2 hg; have g1 := nG_ a2 hg; have g2 := nL_ a8 hg; have g3 := nG_ a8 hg; replace f9 := vE (vS [] f9) hg hb; replace e3 := vE (vS [] e3) hg hb; replace a3 := vE (vS [] a3) hg hb; replace a5 := vE (vS [] a5) hg hb; replace a6 := vE (vS [] a6) hg hb; replace a7 := vE (vS [] a7) hg hb; replace e2 := kB_ a2 hb; replace e1 := kB_ a8 hb; replace HB := hB hb; clear hb hg; have hnb43 := nP g1 g0; have hnb44 := nP g3 g2; have hz45 := cz2 h5; have hnb46 := nP e6 e5; have hz47 := cz13 e1; obtain ⟨n8, o0, v6⟩ := Kd.V_slice a3.out; subst v6; obtain ⟨o1, o4, v7⟩ := Kd.V_slice a5.out; subst v7; obtain ⟨o5, o6, v8⟩ := Kd.V_slice a6.out; subst v8; obtain ⟨o7, o8, v9⟩ := Kd.V_slice a7.out; subst v9) | ((with_reducible refine gC 9 ?_); refine cL (some 30) Try.func9 #[.agg #[.slice n8 b2.length o0, .int .i64 b6, .int .i64 b7, .int .i64 b8, .int .i64 b9, .slice o1 d0.length o4, .int .i64 d1, .int .i64 d2, .int .i64 d3, .int .i64 d4, .int .i64 d5, .slice o5 d6.length o6, .slice o7 e0.length o8], .agg #[.string ((rd_T46 b1 b0).f0), .int .i64 ((rd_T46 b1 b0).f1)]] ?_; (with_reducible refine (impl_ExecToken.calls k1 _ _ b2 b6 b7 b8 b9 _ _ d0 d1 d2 d3 d4 d5 _ _ d6 _ _ e0 ((rd_T46 b1 b0).f0) ((rd_T46 b1 b0).f1) j8 l3 l4 l5 l6 j9 l7 l8 l9 m0 m1 k0 k2 _ _ ?side1 ?side2 ?side3 ?side4 ?side5 ?side6 ?side7 ?side8 A3.out).mono ?_); (case side1 => exact vC [a9] a3); (case side2 => exact (Kd.V_reads' a3.out).2.1); (case side3 => exact vC [a9] a5); (case side4 => exact (Kd.V_reads' a5.out).2.1); (case side5 => exact vC [a9] a6); (case side6 => exact (Kd.V_reads' a6.out).2.1); (case side7 => exact vC [a9] a7); (case side8 => exact (Kd.V_reads' a7.out).2.1); rintro e D3 ⟨t9, u0, u1, u2, rfl, i1, j5, j6, j7, hb⟩; refine ⟨_, rfl, ?_⟩; have h1 := aM (Kd.V_lower (Kd.V_mono (ok' := fun k_ => (w.heap.size ≤ k_) ∧ k_ ≠ a2 ∧ k_ ≠ a8 ∧ k_ ≠ a9) i1 (fun k_ hk_ => ⟨(Nat.le_trans (below_size bS) hk_), (Kd.freshB (g := a2) kS k_ hk_), (Kd.freshB (g := a8) kS k_ hk_), (Kd.freshB (g := a9) (o := .cells #[.string ((rd_T46 b1 b0).f0), .int .i64 ((rd_T46 b1 b0).f1)] 46 (0, 0)) kS k_ hk_)⟩)) (below_size bS)); have h2 := aM (Kd.V_lower (Kd.V_mono (ok' := fun k_ => (w.heap.size ≤ k_) ∧ k_ ≠ a2 ∧ k_ ≠ a8 ∧ k_ ≠ a9) j5 (fun k_ hk_ => ⟨(Nat.le_trans (below_size bS) hk_), (Kd.freshB (g := a2) kS k_ hk_), (Kd.freshB (g := a8) kS k_ hk_), (Kd.freshB (g := a9) (o := .cells #[.string ((rd_T46 b1 b0).f0), .int .i64 ((rd_T46 b1 b0).f1)] 46 (0, 0)) kS k_ hk_)⟩)) (below_size bS)); have h3 := aM (Kd.V_lower (Kd.V_mono (ok' := fun k_ => (w.heap.size ≤ k_) ∧ k_ ≠ a2 ∧ k_ ≠ a8 ∧ k_ ≠ a9) j6 (fun k_ hk_ => ⟨(Nat.le_trans (below_size bS) hk_), (Kd.freshB (g := a2) kS k_ hk_), (Kd.freshB (g := a8) kS k_ hk_), (Kd.freshB (g := a9) (o := .cells #[.string ((rd_T46 b1 b0).f0), .int .i64 ((rd_T46 b1 b0).f1)] 46 (0, 0)) kS k_ hk_)⟩)) (below_size bS)); have h4 := aM (Kd.V_lower (Kd.V_mono (ok' := fun k_ => (w.heap.size ≤ k_) ∧ k_ ≠ a2 ∧ k_ ≠ a8 ∧ k_ ≠ a9) j7 (fun k_ hk_ => ⟨(Nat.le_trans (below_size bS) hk_), (Kd.freshB (g := a2) kS k_ hk_), (Kd.freshB (g := a8) kS k_ hk_), (Kd.freshB (g := a9) (o := .cells #[.string ((rd_T46 b1 b0).f0), .int .i64 ((rd_T46 b1 b0).f1)] 46 (0, 0)) kS k_ hk_)⟩)) (below_size bS)); replace f9 := vB (vS [a9] f9) hb; replace e3 := vB (vS [a9] e3) hb; replace a3 := vB (vS [a9] a3) hb; replace a5 := vB (vS [a9] a5) hb; replace a6 := vB (vS [a9] a6) hb; replace a7 := vB (vS [a9] a7) hb; replace e2 := kB_ a2 hb; replace e1 := kB_ a8 hb; replace h5 := kO a9 #[.string ((rd_T46 b1 b0).f0), .int .i64 ((rd_T46 b1 b0).f1)] 46 hb; replace HB := hB hb; (try clear hb hk i1 j5 j6 j7)) | ((with_reducible refine gD 9 ?_); refine bxE #[.slice none 0 0, .int .i64 0, .int .i64 0, .int .i64 0, .int .i64 0, .slice none 0 0, .int .i64 0, .int .i64 0, .int .i64 0, .int .i64 0, .int .i64 0, .slice none 0 0, .slice none 0 0] 37 ?_; intro e4 hg D4 i9 hb; have GE865 := gE hg; have g4 := nL_ a2 hg; have g5 := nG_ a2 hg; have g6 := nL_ a8 hg; have g7 := nG_ a8 hg; have g8 := nL_ a9 hg; have g9 := nG_ a9 hg; replace f9 := vE (vS [] f9) hg hb; replace e3 := vE (vS [] e3) hg hb; replace a3 := vE (vS [] a3) hg hb; replace a5 := vE (vS [] a5) hg hb; replace a6 := vE (vS [] a6) hg hb; replace a7 := vE (vS [] a7) hg hb; replace h1 := vE (vS [] h1) hg hb; replace h2 := vE (vS [] h2) hg hb; replace h3 := vE (vS [] h3) hg hb; replace h4 := vE (vS [] h4) hg hb; replace e2 := kB_ a2 hb; replace e1 := kB_ a8 hb; replace h5 := kB_ a9 hb; replace HB := hB hb; clear hb hg; obtain ⟨B9, C0, w9⟩ := Kd.V_slice h1.out; subst w9; have hnb55 := nP g5 g4; have hnb56 := nP g7 g6; have hnb57 := nP g9 g8; have hz58 := cz13 i9; obtain ⟨C2, C3, x0⟩ := Kd.V_slice h2.out; subst x0; obtain ⟨C4, C5, x1⟩ := Kd.V_slice h3.out; subst x1; obtain ⟨C6, C7, x2⟩ := Kd.V_slice h4.out; subst x2; have hz62 := cz13 e1; have hz63 := cz13 e2))
      refine bodyPost_ret (results_ct rfl _ _ a2 37 #[.slice n8 b2.length o0, .int .i64 b6, .int .i64 b7, .int .i64 b8, .int .i64 b9, .slice o1 d0.length o4, .int .i64 d1, .int .i64 d2, .int .i64 d3, .int .i64 d4, .int .i64 d5, .slice o5 d6.length o6, .slice o7 e0.length o8] (0, 0) _ rfl kS Try.underlying37 rfl (by kernel_rfl)) rfl ?_
      exact ⟨_, _, _, _, eS, vO [e4, a2] a3, vO [e4, a2] a5, vO [e4, a2] a6, vO [e4, a2] a7, bS⟩
    ·simp only [Option.some.injEq, Prod.mk.injEq] at H
     obtain ⟨rfl, rfl, rfl, rfl, rfl, rfl, rfl, rfl, rfl, rfl, rfl, rfl, rfl, rfl⟩ := H
     have hnb64 := nP e6 e5
     have hz65 := cz13 e1
     obtain ⟨x3, x4, x5⟩ := Kd.V_slice a3.out
     subst x5
     have hz67 := cz13 e2
     obtain ⟨x6, x7, x8⟩ := Kd.V_slice a5.out
     subst x8
     obtain ⟨x9, y0, y1⟩ := Kd.V_slice a6.out
     subst y1
     obtain ⟨y2, y3, y4⟩ := Kd.V_slice a7.out
     subst y4
     go_wp2
     refine bodyPost_ret (results_ct rfl _ _ a2 37 #[.slice x3 b2.length x4, .int .i64 b6, .int .i64 b7, .int .i64 b8, .int .i64 b9, .slice x6 d0.length x7, .int .i64 d1, .int .i64 d2, .int .i64 d3, .int .i64 d4, .int .i64 d5, .slice x9 d6.length y0, .slice y2 e0.length y3] (0, 0) _ rfl kS Try.underlying37 rfl (by kernel_rfl)) rfl ?_
     exact ⟨_, _, _, _, eS, vO [a2] a3, vO [a2] a5, vO [a2] a6, vO [a2] a7, bS⟩
 ·obtain rfl := Bool.eq_false_iff.mpr c3
  rw [if_neg nF] at H
  simp only [Option.some.injEq, Prod.mk.injEq] at H
  obtain ⟨rfl, rfl, rfl, rfl, rfl, rfl, rfl, rfl, rfl, rfl, rfl, rfl, rfl, rfl⟩ := H
  go_enter Try.func6, Try.ntmps6
  go_wp2_with (first | ((with_reducible refine gD 2 ?_); refine bxE #[.slice none 0 0, .int .i64 0, .int .i64 0, .int .i64 0, .int .i64 0, .slice none 0 0, .int .i64 0, .int .i64 0, .int .i64 0, .int .i64 0, .int .i64 0, .slice none 0 0, .slice none 0 0] 37 ?_; intro a2 hg D5 e2 hb; have GE814 := gE hg; replace HB := hB hb; clear hb hg) | ((with_reducible refine gC 7 ?_); refine cM (some 13) Try.func7 (impl_FlattenBlocks.calls k _ _ l0 b1 _ _ (cC y6 HB) y7.out A2.out) ?_; rintro e D6 ⟨q6, rfl, i1, hb⟩; refine ⟨_, rfl, ?_⟩; have h0 := aM (Kd.V_lower (Kd.V_mono (ok' := fun k_ => (w.heap.size ≤ k_) ∧ k_ ≠ a2) i1 (fun k_ hk_ => ⟨(Nat.le_trans (below_size bS) hk_), (Kd.freshB (g := a2) kS k_ hk_)⟩)) (below_size bS)); replace e2 := kB_ a2 hb; replace HB := hB hb; (try clear hb i1); have hz73 := cz13 e2))
  refine bodyPost_ret (results_ct rfl _ _ a2 37 #[.slice none 0 0, .int .i64 0, .int .i64 0, .int .i64 0, .int .i64 0, .slice none 0 0, .int .i64 0, .int .i64 0, .int .i64 0, .int .i64 0, .int .i64 0, .slice none 0 0, .slice none 0 0] (0, 0) _ rfl kS Try.underlying37 rfl (by kernel_rfl)) rfl ?_
  exact ⟨_, _, _, _, eS, Kd.V_nil _ _ _ _ _, Kd.V_nil _ _ _ _ _, Kd.V_nil _ _ _ _ _, Kd.V_nil _ _ _ _ _, bS⟩

/-! ### laws_sameInts: function 10 -/
def laws_sameInts.l0 : Nat → List Int → List Int → Int → Option (Bool)
 | 0, _, _, _ => none
 | k + 1, x0, x1, x5 => if x5 < (x0.length : Int) then (if 0 ≤ x5 then (if x5 < (x1.length : Int) then (if (rd x0 x5) = (rd x1 x5) then (laws_sameInts.l0 k x0 x1 (wrap64 (x5 + 1))) else (some false)) else (none)) else (none)) else (some true)
def laws_sameInts.f (k : Nat) (l0 : List Int) (l1 : List Int) : Option (Bool) := if (l0.length : Int) = (l1.length : Int) then (laws_sameInts.l0 k l0 l1 0) else (some false)
theorem laws_sameInts.calls (k : Nat) (A0 : Option Addr) (c0 : Nat) (l0 : List Int) (A1 : Option Addr) (c1 : Nat) (l1 : List Int) (r : Bool) (w : World) (hr0 : Kd.C (Kd.int .i64) w A0 l0.length l0) (d3 : l0.length ≤ c0) (d4 : Kd.C (Kd.int .i64) w A1 l1.length l1) (d5 : l1.length ≤ c1) (h : laws_sameInts.f k l0 l1 = some r) :
  Calls Try.prog 10 #[.slice A0 l0.length c0, .slice A1 l1.length c1] w fun e w' => e = .returned (.bool r) ∧ Drawn0 w w' := by
 have d6 := aM hr0
 have e4 := aM d3
 clear hr0 d3
 have e0 := aM d4
 have e5 := aM d5
 clear d4 d5
 have H := h
 clear h
 unfold laws_sameInts.f at H
 by_cases c3 : (l0.length : Int) = (l1.length : Int)
 ·rw [if_pos c3] at H
  have b2 : ((l0.length : Int) == (l1.length : Int)) = true := beq_iff_eq.mpr c3
  have b6 : ((l0.length : Int) != (l1.length : Int)) = false := bne_eq_false_iff_eq.mpr c3
  have b7 : (l0.length == l1.length) = true := by first | simpa using c3 | (simp at c3 ⊢; omega)
  clear c3
  have H' := aM H
  clear H
  go_enter Try.func10, Try.ntmps10
  go_wp2
  repeat (go_quiet (fail); try go_wp2)
  go_loopg [5] k (fun kq v5 w' => ∃ (a2 : Int), v5 = .int .i64 a2 ∧ Aside0 (laws_sameInts.l0 kq l0 l1 a2 = some r) ∧ Aside0 (kq ≤ k) ∧ Drawn0 w w')
  case atStart => exact ⟨(0), fS, H', ⟨Nat.le_refl _⟩, dS⟩
  case round =>
   clear H'
   try clear c1
   try clear p2
   try clear c3
   try clear b2
   try clear b6
   try clear b7
   obtain ⟨a2, rfl, HA, e1, ⟨m1, rfl⟩⟩ := hrel
   cases gk with
   | zero => exact absurd HA.out (by simp [laws_sameInts.l0])
   | succ k1 =>
    have H := HA.out
    clear HA
    simp only [laws_sameInts.l0] at H
    rcases iD H with ⟨d0, H⟩ | ⟨d0, H⟩
    ·obtain ⟨e2, H⟩ := iT H
     obtain ⟨e3, H⟩ := iT H
     by_cases c7 : (rd l0 a2) = (rd l1 a2)
     ·rw [if_pos c7] at H
      have d1 : ((rd l0 a2) == (rd l1 a2)) = true := beq_iff_eq.mpr c7
      have d2 : ((rd l0 a2) != (rd l1 a2)) = false := bne_eq_false_iff_eq.mpr c7
      clear c7
      have H' := aM H
      clear H
      have a3 : 0 ≤ (a2 : Int) := dA
      have a5 : a2 < (l0.length : Int) := dA
      obtain ⟨b8, b0, a8⟩ := Kd.at_int d6.out a2 a3 a5
      cases b0
      replace a3 := eq_true a3
      replace a5 := eq_true a5
      have a6 : 0 ≤ (a2 : Int) := dA
      have a7 : a2 < (l1.length : Int) := dA
      obtain ⟨b9, b1, a9⟩ := Kd.at_int e0.out a2 a6 a7
      cases b1
      replace a6 := eq_true a6
      replace a7 := eq_true a7
      go_wp2
      repeat (go_quiet (fail); try go_wp2)
      go_roundg k1
      case measure => have := e1.out; omega
      case rel => exact ⟨(wrap64 (a2 + 1)), fS, H', ⟨by have := e1.out; omega⟩, dS⟩
     ·rw [if_neg c7] at H
      have d1 : ((rd l0 a2) == (rd l1 a2)) = false := beq_eq_false_iff_ne.mpr c7
      have d2 : ((rd l0 a2) != (rd l1 a2)) = true := bne_iff_ne.mpr c7
      obtain rfl := Option.some.inj H
      have a3 : 0 ≤ (a2 : Int) := dA
      have a5 : a2 < (l0.length : Int) := dA
      obtain ⟨b8, b0, a8⟩ := Kd.at_int d6.out a2 a3 a5
      cases b0
      replace a3 := eq_true a3
      replace a5 := eq_true a5
      have a6 : 0 ≤ (a2 : Int) := dA
      have a7 : a2 < (l1.length : Int) := dA
      obtain ⟨b9, b1, a9⟩ := Kd.at_int e0.out a2 a6 a7
      cases b1
      replace a6 := eq_true a6
      replace a7 := eq_true a7
      go_wp2
      repeat (go_quiet (fail); try go_wp2)
      go_ret
      exact ⟨fS, dS⟩
    ·obtain rfl := Option.some.inj H
     go_wp2
     repeat (go_quiet (fail); try go_wp2)
     go_ret
     exact ⟨fS, dS⟩
 ·rw [if_neg c3] at H
  have b2 : ((l0.length : Int) == (l1.length : Int)) = false := beq_eq_false_iff_ne.mpr c3
  have b6 : ((l0.length : Int) != (l1.length : Int)) = true := bne_iff_ne.mpr c3
  have b7 : (l0.length == l1.length) = false := by first | simpa using c3 | (simp at c3 ⊢; omega)
  obtain rfl := Option.some.inj H
  go_enter Try.func10, Try.ntmps10
  go_wp2
  repeat (go_quiet (fail); try go_wp2)
  go_ret
  exact ⟨fS, dS⟩

end Go.Proofs.Ytpickbenfkcpmaa.QFnRuns7
