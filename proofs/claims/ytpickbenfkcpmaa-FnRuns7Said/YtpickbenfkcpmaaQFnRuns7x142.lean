-- Made out of the translation by a program of this session (a changed copy of the print). Not trusted: Lean checks it.
import Derived.Test.YtpickbenfkcpmaaQFnRuns7x140
namespace Go.Proofs.Ytpickbenfkcpmaa.QFnRuns7
open Go.RowKit Go.Proofs.YtpickbenfkcpmaaW.PrintWords Go.Proofs.YtpickbenfkcpmaaW.PrintLast Go.Proofs.YtpickbenfkcpmaaW.PrintMore
attribute [local go_sem] max2_int min2_int max_two min_two max_three min_three max_four min_four   -- for this text's walks alone
set_option linter.unusedVariables false
set_option linter.unusedSimpArgs false
set_option maxHeartbeats 64000000
set_option maxRecDepth 100000

theorem impl_ExecToken.calls1 (k : Nat) (t9 : Option Addr) (u0 : Nat) (i9 : List Int) (k2 : Int) (k4 : Int) (k5 : Int) (k6 : Int) (u1 : Option Addr) (u2 : Nat) (j5 : List (S90)) (k7 : Int) (k9 : Int) (l3 : Int) (l4 : Int) (f8 : Int) (q0 : Option Addr) (q2 : Nat) (e8 : List (S33)) (q3 : Option Addr) (q4 : Nat) (e9 : List (S82)) (j6 : ByteArray) (s4 : Int) (r1 : List Int) (r2 : Int) (r3 : Int) (r4 : Int) (r5 : Int) (r6 : List (S90)) (r7 : Int) (r8 : Int) (r9 : Int) (A4 : Int) (A5 : Int) (A6 : List (S33)) (A8 : List (S82)) (B0 : Bool) (w : World) (B7 : Kd.C (Kd.int .i64) w t9 i9.length i9) (B8 : i9.length ≤ u0) (B9 : Kd.C k90 w u1 j5.length j5) (C0 : j5.length ≤ u2) (v3 : Kd.C k33 w q0 e8.length e8) (v4 : e8.length ≤ q2) (v5 : Kd.C k82 w q3 e9.length e9) (v6 : e9.length ≤ q4) (h : impl_ExecToken.f k i9 k2 k4 k5 k6 j5 k7 k9 l3 l4 f8 e8 e9 j6 s4 = some (r1, r2, r3, r4, r5, r6, r7, r8, r9, A4, A5, A6, A8, B0)) (hA_ : Aside0 (j6.toList ∈ ([[110, 101, 119], [109, 111, 118, 101, 116, 111], [108, 105, 110, 101, 116, 111], [114, 101, 99, 116]] : List (List UInt8)))) :
  Calls Try.prog 9 #[.agg #[.slice t9 i9.length u0, .int .i64 k2, .int .i64 k4, .int .i64 k5, .int .i64 k6, .slice u1 j5.length u2, .int .i64 k7, .int .i64 k9, .int .i64 l3, .int .i64 l4, .int .i64 f8, .slice q0 e8.length q2, .slice q3 e9.length q4], .agg #[.string j6, .int .i64 s4]] w fun e w' => ∃ v0_ v5_ v11_ v12_ : Value, e = .returned (.tuple #[.agg #[v0_, .int .i64 r2, .int .i64 r3, .int .i64 r4, .int .i64 r5, v5_, .int .i64 r7, .int .i64 r8, .int .i64 r9, .int .i64 A4, .int .i64 A5, v11_, v12_], .bool B0]) ∧ Kd.V (Kd.int .i64) 3 w' w.heap.size (fun k_ => (w.heap.size ≤ k_)) v0_ r1 ∧ Kd.V k90 90 w' w.heap.size (fun k_ => (w.heap.size ≤ k_)) v5_ r6 ∧ Kd.V k33 33 w' w.heap.size (fun k_ => (w.heap.size ≤ k_)) v11_ A6 ∧ Kd.V k82 82 w' w.heap.size (fun k_ => (w.heap.size ≤ k_)) v12_ A8 ∧ Below w.heap.size w w' := by
 have hu37 := Try.underlying37
 have hu46 := Try.underlying46
 have hu28 := Try.underlying28
 have hu90 := Try.underlying90
 have hu31 := Try.underlying31
 have hu82 := Try.underlying82
 have hu33 := Try.underlying33
 have q5 := aM B7
 have q8 := aM B8
 clear B7 B8
 have q9 := aM B9
 have r0 := aM C0
 clear B9 C0
 have n2 := aM v3
 have n5 := aM v4
 clear v3 v4
 have n6 := aM v5
 have n7 := aM v6
 clear v5 v6
 have HB := aM (Below.refl w.heap.size w)
 have H := h
 clear h
 unfold impl_ExecToken.f at H
 have W0 := aM H
 clear H
 go_enter Try.func9, Try.ntmps9
 go_upto_region 1 with (first | ((with_reducible refine gD 2 ?_); refine bxE #[.slice t9 i9.length u0, .int .i64 k2, .int .i64 k4, .int .i64 k5, .int .i64 k6, .slice u1 j5.length u2, .int .i64 k7, .int .i64 k9, .int .i64 l3, .int .i64 l4, .int .i64 f8, .slice q0 e8.length q2, .slice q3 e9.length q4] 37 ?_; intro e6 hg w4 d2 hb; have GE623 := gE hg; replace HB := hB hb; clear hb hg) | ((with_reducible refine gD 3 ?_); refine bxE #[.string j6, .int .i64 s4] 46 ?_; intro f4 hg w5 d3 hb; have GE624 := gE hg; have e1 := nL_ e6 hg; have e2 := nG_ e6 hg; replace d2 := kB_ e6 hb; replace HB := hB hb; clear hb hg) | ((with_reducible refine gD 4 ?_); refine bxE #[.slice none 0 0, .int .i64 0, .int .i64 0, .int .i64 0, .int .i64 0, .slice none 0 0, .int .i64 0, .int .i64 0, .int .i64 0, .int .i64 0, .int .i64 0, .slice none 0 0, .slice none 0 0] 37 ?_; intro b7 hg w6 b1 hb; have GE625 := gE hg; have g8 := nL_ e6 hg; have g9 := nG_ e6 hg; have e3 := nL_ f4 hg; have e4 := nG_ f4 hg; replace d2 := kB_ e6 hb; replace d3 := kB_ f4 hb; replace HB := hB hb; clear hb hg))
 (try simp only [Act.put, List.setIfInBounds_toArray, List.set_cons_zero, List.set_cons_succ])
 go_cut [20] (fun v20 wc => ∃ (kq : Nat) (t4 : Bool), v20 = .bool t4 ∧ Aside0 (impl_ExecToken.j0 kq t4 i9 k2 k4 k5 k6 j5 k7 k9 l3 l4 f8 e8 e9 j6 s4 = some (r1, r2, r3, r4, r5, r6, r7, r8, r9, A4, A5, A6, A8, B0)) ∧ Aside0 (kq ≤ k) ∧ Aside0 (wc.heap[e6]? = some (.cells #[(.slice t9 i9.length u0), .int .i64 k2, .int .i64 k4, .int .i64 k5, .int .i64 k6, (.slice u1 j5.length u2), .int .i64 k7, .int .i64 k9, .int .i64 l3, .int .i64 l4, .int .i64 f8, (.slice q0 e8.length q2), (.slice q3 e9.length q4)] 37 (0, 0))) ∧ Aside0 (wc.heap[f4]? = some (.cells #[.string j6, .int .i64 s4] 46 (0, 0))) ∧ Aside0 (wc.heap[b7]? = some (.cells #[(.slice none 0 0), .int .i64 0, .int .i64 0, .int .i64 0, .int .i64 0, (.slice none 0 0), .int .i64 0, .int .i64 0, .int .i64 0, .int .i64 0, .int .i64 0, (.slice none 0 0), (.slice none 0 0)] 37 (0, 0))) ∧ Aside0 (Below w.heap.size w wc))
 case first =>
  have H := W0.out
  clear W0
  replace H := bN H
  obtain ⟨W1, A7, H⟩ := H
  by_cases c8 : W1 = true
  ·subst c8
   rw [if_pos rfl] at H
   replace H := bN H
   obtain ⟨G3, A9, H⟩ := H
   have H' := aM H
   clear H
   have hnb10 := nP e1 e2
   have hnb11 := nP g8 g9
   have hz12 := cz13 d2
   go_wp2_with (first | ((with_reducible refine gC 19 ?_); refine cM (some 14) Try.func19 (impl_PageOk.calls k _ _ i9 k2 k4 k5 k6 _ _ j5 k7 k9 l3 l4 f8 _ _ e8 _ _ e9 _ _ (cC q5 HB) q8.out (cC q9 HB) r0.out (cC n2 HB) n5.out (cC n6 HB) n7.out A7.out) ?_; rintro e w13 ⟨rfl, hb⟩; refine ⟨_, rfl, ?_⟩; replace d2 := kB_ e6 hb; replace d3 := kB_ f4 hb; replace b1 := kB_ b7 hb; replace HB := hB hb; (try clear hb); have hnb14 := nP e3 e4; have hz15 := cz2 d3) | (go_at_call 20; (with_reducible refine (impl_TokenOk.calls k j6 s4 G3 _ A9.out).mono ?_); rintro e w16 ⟨rfl, hb⟩; replace d2 := kB_ e6 hb; replace d3 := kB_ f4 hb; replace b1 := kB_ b7 hb; replace HB := hB hb; (try clear hb)))
   go_meet
   case rel => exact ⟨_, (!G3), fS, H', ⟨by first | omega | exact Nat.le_refl _⟩, ⟨kS⟩, ⟨kS⟩, ⟨kS⟩, ⟨bS⟩⟩
  ·obtain rfl := Bool.eq_false_iff.mpr c8
   rw [if_neg nF] at H
   have H' := aM H
   clear H
   have hnb17 := nP e1 e2
   have hnb18 := nP g8 g9
   have hz19 := cz13 d2
   go_wp2_with (first | ((with_reducible refine gC 19 ?_); refine cM (some 14) Try.func19 (impl_PageOk.calls k _ _ i9 k2 k4 k5 k6 _ _ j5 k7 k9 l3 l4 f8 _ _ e8 _ _ e9 _ _ (cC q5 HB) q8.out (cC q9 HB) r0.out (cC n2 HB) n5.out (cC n6 HB) n7.out A7.out) ?_; rintro e w20 ⟨rfl, hb⟩; refine ⟨_, rfl, ?_⟩; replace d2 := kB_ e6 hb; replace d3 := kB_ f4 hb; replace b1 := kB_ b7 hb; replace HB := hB hb; (try clear hb)))
   go_meet
   case rel => exact ⟨_, (true), fS, H', ⟨by first | omega | exact Nat.le_refl _⟩, ⟨kS⟩, ⟨kS⟩, ⟨kS⟩, ⟨bS⟩⟩
 case rest =>
  clear W0
  try clear c1
  try clear p2
  try clear c8
  try clear c9
  try clear c10
  try clear c11
  try clear c14
  try clear c17
  try clear c18
  try clear c19
  obtain ⟨kq, t4, rfl, HA, HJ2, d2, d3, b1, HB⟩ := hcut
  cases kq with
  | zero => exact absurd HA.out (by simp [impl_ExecToken.j0])
  | succ kj2 =>
   have H := HA.out
   clear HA
   simp only [impl_ExecToken.j0] at H
   by_cases c21 : t4 = true
   ·subst c21
    rw [if_pos rfl] at H
    replace H := bN H
    obtain ⟨⟨G4, G5, G6, G7, G8, G9, H2, H3, H4, H5, H6, H7, H8⟩, A22, H⟩ := H
    simp only [Option.some.injEq, Prod.mk.injEq] at H
    obtain ⟨rfl, rfl, rfl, rfl, rfl, rfl, rfl, rfl, rfl, rfl, rfl, rfl, rfl, rfl⟩ := H
    have hnb23 := nP e1 e2
    have hnb24 := nP g8 g9
    have hz25 := cz13 d2
    go_wp2_with (first | ((with_reducible refine gC 21 ?_); refine cM (some 22) Try.func21 (impl_copyPage.calls kj2 _ _ i9 k2 k4 k5 k6 _ _ j5 k7 k9 l3 l4 f8 _ _ e8 _ _ e9 G4 G5 G6 G7 G8 G9 H2 H3 H4 H5 H6 H7 H8 _ (cC q5 HB) q8.out (cC q9 HB) r0.out (cC n2 HB) n5.out (cC n6 HB) n7.out A22.out) ?_; rintro e w26 ⟨af1, af2, af4, af5, rfl, n0, n8, u3, u4, hb⟩; refine ⟨_, rfl, ?_⟩; have C2 := aM (Kd.R_lower (Kd.R_newM (M := fun k_ => (w.heap.size ≤ k_)) n0 (below_size bS) (fun k_ h_ => h_)) (below_size bS)); have C3 := aM (Kd.R_lower (Kd.R_newM (M := fun k_ => (w.heap.size ≤ k_)) n8 (below_size bS) (fun k_ h_ => h_)) (below_size bS)); have C4 := aM (Kd.S_lower (Kd.S_newM (M := fun k_ => (w.heap.size ≤ k_)) u3 (below_size bS) (fun k_ h_ => h_)) (below_size bS)); have C5 := aM (Kd.S_lower (Kd.S_newM (M := fun k_ => (w.heap.size ≤ k_)) u4 (below_size bS) (fun k_ h_ => h_)) (below_size bS)); replace d2 := kB_ e6 hb; replace d3 := kB_ f4 hb; replace b1 := kB_ b7 hb; replace HB := hB hb; (try clear hb n0 n8 u3 u4); obtain ⟨W2, W3, W4⟩ := Kd.R_slice C2.out; subst W4; have hnb28 := nP e4 e3; have hz29 := cz13 b1; obtain ⟨W5, W6, W7⟩ := Kd.R_slice C3.out; subst W7; obtain ⟨W8, W9, X0⟩ := Kd.S_slice C4.out; subst X0; obtain ⟨X1, X2, X3⟩ := Kd.S_slice C5.out; subst X3))
    refine bodyPost_ret (results_ct rfl _ _ b7 37 #[.slice W2 G4.length W3, .int .i64 G5, .int .i64 G6, .int .i64 G7, .int .i64 G8, .slice W5 G9.length W6, .int .i64 H2, .int .i64 H3, .int .i64 H4, .int .i64 H5, .int .i64 H6, .slice W8 H7.length W9, .slice X1 H8.length X2] (0, 0) _ rfl kS Try.underlying37 rfl (by kernel_rfl)) rfl ?_
    exact ⟨_, _, _, _, eS, Kd.R_V (by exact Kd.R_mono (R_on (g := b7) (Kd.R_types C2.out b1.out (by decide)) (fun _ hk => hk.2)) (fun _ hk => hk.1.1)), Kd.R_V (by exact Kd.R_mono (R_on (g := b7) (Kd.R_types C3.out b1.out (by decide)) (fun _ hk => hk.2)) (fun _ hk => hk.1.1)), Kd.S_V (by exact Kd.S_mono (S_on (g := b7) (Kd.S_types C4.out b1.out (by decide)) (fun _ hk => hk.2)) (fun _ hk => hk.1.1)), Kd.S_V (by exact Kd.S_mono (S_on (g := b7) (Kd.S_types C5.out b1.out (by decide)) (fun _ hk => hk.2)) (fun _ hk => hk.1.1)), bS⟩
   ·obtain rfl := Bool.eq_false_iff.mpr c21
    rw [if_neg nF] at H
    replace H := bN H
    obtain ⟨⟨l9, g2, g3, g4, g5, f3, j7, j8, j9, k0, k1, d6, e0⟩, A33, H⟩ := H
    replace H := bN H
    obtain ⟨⟨v8, H9⟩, A34, H⟩ := H
    have E4 := aM H
    clear H
    have hnb36 := nP e1 e2
    have hnb37 := nP g8 g9
    have hz38 := cz13 d2
    go_upto_block 0 with (first | ((with_reducible refine gC 21 ?_); refine cM (some 24) Try.func21 (impl_copyPage.calls kj2 _ _ i9 k2 k4 k5 k6 _ _ j5 k7 k9 l3 l4 f8 _ _ e8 _ _ e9 l9 g2 g3 g4 g5 f3 j7 j8 j9 k0 k1 d6 e0 _ (cC q5 HB) q8.out (cC q9 HB) r0.out (cC n2 HB) n5.out (cC n6 HB) n7.out A33.out) ?_; rintro e w39 ⟨af8, af9, ag0, ag1, rfl, n0, n8, u3, u4, hb⟩; refine ⟨_, rfl, ?_⟩; have e7 := aM (Kd.R_lower (Kd.R_newM (M := fun k_ => (w.heap.size ≤ k_)) n0 (below_size bS) (fun k_ h_ => h_)) (below_size bS)); have b6 := aM (Kd.R_lower (Kd.R_newM (M := fun k_ => (w.heap.size ≤ k_)) n8 (below_size bS) (fun k_ h_ => h_)) (below_size bS)); have b2 := aM (Kd.S_lower (Kd.S_newM (M := fun k_ => (w.heap.size ≤ k_)) u3 (below_size bS) (fun k_ h_ => h_)) (below_size bS)); have b8 := aM (Kd.S_lower (Kd.S_newM (M := fun k_ => (w.heap.size ≤ k_)) u4 (below_size bS) (fun k_ h_ => h_)) (below_size bS)); replace d2 := kB_ e6 hb; replace d3 := kB_ f4 hb; replace b1 := kB_ b7 hb; replace HB := hB hb; (try clear hb n0 n8 u3 u4)) | ((with_reducible refine gD 6 ?_); refine bxE #[.slice none 0 0, .int .i64 0, .int .i64 0, .int .i64 0, .int .i64 0, .slice none 0 0, .int .i64 0, .int .i64 0, .int .i64 0, .int .i64 0, .int .i64 0, .slice none 0 0, .slice none 0 0] 37 ?_; intro b0 hg w40 a2 hb; have GE670 := gE hg; have f9 := nL_ e6 hg; have h0 := nG_ e6 hg; have g0 := nL_ f4 hg; have h1 := nG_ f4 hg; have g1 := nL_ b7 hg; have h2 := nG_ b7 hg; replace e7 := rB e7 hb; replace b6 := rB b6 hb; replace b2 := sB b2 hb; replace b8 := sB b8 hb; replace d2 := kB_ e6 hb; replace d3 := kB_ f4 hb; replace b1 := kB_ b7 hb; replace HB := hB hb; clear hb hg; obtain ⟨s5, o7, X4⟩ := Kd.R_slice e7.out; subst X4; have hnb42 := nP h0 f9; have hnb43 := nP h1 g0; have hnb44 := nP h2 g1; have hz45 := cz13 a2; obtain ⟨m7, m8, X5⟩ := Kd.R_slice b6.out; subst X5; obtain ⟨l5, l6, X6⟩ := Kd.S_slice b2.out; subst X6; obtain ⟨l7, l8, X7⟩ := Kd.S_slice b8.out; subst X7; have hnb49 := nP e3 e4; have hz50 := cz2 d3) | ((with_reducible refine gC 22 ?_); refine cM (some 28) Try.func22 (impl_taken.calls kj2 j6 v8 H9 _ A34.out) ?_; rintro e w' ⟨rfl, ⟨nd, rfl⟩⟩; refine ⟨_, rfl, ?_⟩))
    (try simp only [Act.put, List.setIfInBounds_toArray, List.set_cons_zero, List.set_cons_succ])
    go_cut [7] (fun v7 wc => ∃ (kq : Nat) (t5 : Bool) (h3 : List Int) (h4 : Int) (h5 : Int) (h6 : Int) (h7 : Int) (h8 : List (S90)) (h9 : Int) (i1 : Int) (i3 : Int) (i4 : Int) (i5 : Int) (i6 : List (S33)) (i7 : List (S82)) (o4 : Value) (d1 : Value) (s2 : Value) (s3 : Value), v7 = .bool t5 ∧ Aside0 (impl_ExecToken.j4 kq t5 i9 k2 k4 k5 k6 j5 k7 k9 l3 l4 f8 e8 e9 h3 h4 h5 h6 h7 h8 h9 i1 i3 i4 i5 i6 i7 = some (r1, r2, r3, r4, r5, r6, r7, r8, r9, A4, A5, A6, A8, B0)) ∧ Aside0 (kq ≤ kj2) ∧ Aside0 (Kd.R (Kd.int .i64) 3 wc w.heap.size (fun k_ => (w.heap.size ≤ k_)) o4 h3) ∧ Aside0 (Kd.R k90 90 wc w.heap.size (fun k_ => (w.heap.size ≤ k_)) d1 h8) ∧ Aside0 (Kd.S k33 33 wc w.heap.size (fun k_ => (w.heap.size ≤ k_) ∧ some k_ ≠ (o4 : Value).ownBlock ∧ some k_ ≠ (d1 : Value).ownBlock) s2 i6) ∧ Aside0 (Kd.S k82 82 wc w.heap.size (fun k_ => (w.heap.size ≤ k_)) s3 i7) ∧ Aside0 (wc.heap[e6]? = some (.cells #[(.slice t9 i9.length u0), .int .i64 k2, .int .i64 k4, .int .i64 k5, .int .i64 k6, (.slice u1 j5.length u2), .int .i64 k7, .int .i64 k9, .int .i64 l3, .int .i64 l4, .int .i64 f8, (.slice q0 e8.length q2), (.slice q3 e9.length q4)] 37 (0, 0))) ∧ Aside0 (wc.heap[f4]? = some (.cells #[.string j6, .int .i64 s4] 46 (0, 0))) ∧ Aside0 (wc.heap[b7]? = some (.cells #[(.slice none 0 0), .int .i64 0, .int .i64 0, .int .i64 0, .int .i64 0, (.slice none 0 0), .int .i64 0, .int .i64 0, .int .i64 0, .int .i64 0, .int .i64 0, (.slice none 0 0), (.slice none 0 0)] 37 (0, 0))) ∧ Aside0 (wc.heap[b0]? = some (.cells #[o4, .int .i64 h4, .int .i64 h5, .int .i64 h6, .int .i64 h7, d1, .int .i64 h9, .int .i64 i1, .int .i64 i3, .int .i64 i4, .int .i64 i5, s2, s3] 37 (0, 0))) ∧ Aside0 (Below w.heap.size w wc))
    case first =>
     have H := E4.out
     clear E4
     by_cases X8 : j6.toList = ([] : List UInt8)
     ·exact absurd hA_.out (by rw [X8]; decide)
     ·rw [if_neg X8] at H
      obtain ⟨C6, ac1⟩ := eqF X8
      (first | rw [C6] | (simp only [i64_w, i32_w]; rw [C6]) | skip)
      replace H := bN H
      obtain ⟨X9, U5, H⟩ := H
      by_cases c64 : X9 = true
      ·subst c64
       rw [if_pos rfl] at H
       replace H := bN H
       obtain ⟨⟨E5, I0⟩, A65, H⟩ := H
       have H' := aM H
       clear H
       have hnb66 := nP e2 e1
       have hnb67 := nP e3 e4
       have hnb68 := nP g0 h1
       have hz69 := cz2 d3
       go_wp2_with (first | ((with_reducible refine gC 24 ?_); refine cM (some 49) Try.func24 (impl_IsStackOp.calls j6 _ _ U5.out) ?_; rintro e w' ⟨rfl, ⟨nd, rfl⟩⟩; refine ⟨_, rfl, ?_⟩; have hnb70 := nP h0 f9; have hnb71 := nP h2 g1; have U6 := cg0 a2; have U7 := blk_frozen a2.out 0) | ((with_reducible refine gC 25 ?_); refine cL (some 56) Try.func25 #[.slice s5 l9.length o7, .string j6] ?_; (with_reducible refine (impl_StackOp.calls kj2 _ _ l9 j6 E5 I0 _ ?side1 ?side2 A65.out).mono ?_); (case side1 => refine (Kd.R_reads' (e := 3) (base := w.heap.size) (ok := fun k_ => ((w.heap.size ≤ k_) ∧ True)) (n := l9.length) (c := o7) ?_).2.2; exact (by exact rG e7 a2)); (case side2 => exact (Kd.R_reads' e7.out).2.1); rintro e w73 ⟨ag3, rfl, n0, hb⟩; refine ⟨_, rfl, ?_⟩; have C7 := aM (Kd.R_lower (Kd.R_new' (Kd.R_newM (M := fun k_ => (w.heap.size ≤ k_)) n0 (below_size bS) (fun k_ h_ => h_)) (Kd.R_lt (by exact rG e7 a2))) (below_size bS)); replace e7 := aM (Kd.R_elder' (by exact rG e7 a2) (Kd.R_base n0) hb); replace b6 := aM (Kd.R_below (by exact rG b6 a2) hb); replace b2 := aM (Kd.S_elder' (by exact sG b2 a2) (Kd.R_base n0) hb); replace b8 := aM (Kd.S_below (by exact sG b8 a2) hb); replace d2 := kB_ e6 hb; replace d3 := kB_ f4 hb; replace b1 := kB_ b7 hb; replace a2 := kB_ b0 hb; replace HB := hB hb; (try clear hb hk n0); obtain ⟨Y0, Y1, Y2⟩ := Kd.R_slice C7.out; subst Y2; have U8 := cg0 a2; have U9 := blk_frozen a2.out 0))
       go_meet
       case rel => exact ⟨_, (I0), (E5), (g2), (g3), (g4), (g5), (f3), (j7), (j8), (j9), (k0), (k1), (d6), (e0), (.slice Y0 E5.length Y1), (.slice m7 f3.length m8), (.slice l5 d6.length l6), (.slice l7 e0.length l8), fS, H', ⟨by have := HJ2.out; first | omega | exact Nat.le_refl _⟩, ⟨rW [b0] C7 a2⟩, ⟨rW [b0] b6 a2⟩, ⟨sW [b0] b2 a2⟩, ⟨sW [b0] b8 a2⟩, ⟨kS⟩, ⟨kS⟩, ⟨kS⟩, ⟨kS⟩, ⟨bS⟩⟩
      ·obtain rfl := Bool.eq_false_iff.mpr c64
       rw [if_neg nF] at H
       by_cases Y3 : H9 = true
       ·subst Y3
        rw [if_pos rfl] at H
        replace H := bN H
        obtain ⟨⟨d0, a5, Y4⟩, A77, H⟩ := H
        by_cases Y5 : Y4 = true
        ·subst Y5
         rw [if_pos rfl] at H
         have I1 := aM H
         clear H
         have hnb80 := nP e2 e1
         have hnb81 := nP e3 e4
         have hnb82 := nP g0 h1
         have hz83 := cz2 d3
         go_wp2_with (first | ((with_reducible refine gC 24 ?_); refine cM (some 49) Try.func24 (impl_IsStackOp.calls j6 _ _ U5.out) ?_; rintro e w' ⟨rfl, ⟨nd, rfl⟩⟩; refine ⟨_, rfl, ?_⟩; have hnb84 := nP h0 f9; have hnb85 := nP h2 g1; have V0 := cg0 a2; have V1 := blk_frozen a2.out 0) | ((with_reducible refine gC 26 ?_); refine cL (some 68) Try.func26 #[.slice s5 l9.length o7, .int .i64 v8] ?_; (with_reducible refine (impl_TakeNumbers.calls kj2 _ _ l9 v8 d0 a5 _ _ ?side1 ?side2 A77.out).mono ?_); (case side1 => refine (Kd.R_reads' (e := 3) (base := w.heap.size) (ok := fun k_ => ((w.heap.size ≤ k_) ∧ True)) (n := l9.length) (c := o7) ?_).2.2; exact (by exact rG e7 a2)); (case side2 => exact (Kd.R_reads' e7.out).2.1); rintro e w87 ⟨Y6, s9, rfl, n0, n8, hb⟩; refine ⟨_, rfl, ?_⟩; have d4 := aM (Kd.R_lower (Kd.R_new' (Kd.R_newM (M := fun k_ => (w.heap.size ≤ k_)) n0 (below_size bS) (fun k_ h_ => h_)) (Kd.R_lt (by exact rG e7 a2))) (below_size bS)); have b9 := aM (Kd.R_lower (Kd.R_new' (Kd.R_newM (M := fun k_ => (w.heap.size ≤ k_)) n8 (below_size bS) (fun k_ h_ => h_)) (Kd.R_lt (by exact rG e7 a2))) (below_size bS)); replace e7 := aM (Kd.R_mono (Kd.R_told (Kd.R_told (Kd.R_old (by exact rG e7 a2) hb) (Kd.R_base n0)) (Kd.R_base n8)) (fun _ h_ => h_.1)); replace b6 := aM (Kd.R_below (by exact rG b6 a2) hb); replace b2 := aM (Kd.S_mono (Kd.S_told (Kd.S_told (Kd.S_old (by exact sG b2 a2) hb) (Kd.R_base n0)) (Kd.R_base n8)) (fun _ h_ => h_.1)); replace b8 := aM (Kd.S_below (by exact sG b8 a2) hb); replace d2 := kB_ e6 hb; replace d3 := kB_ f4 hb; replace b1 := kB_ b7 hb; replace a2 := kB_ b0 hb; replace HB := hB hb; (try clear hb hk n0 n8); obtain ⟨f5, f6, Y7⟩ := Kd.R_slice d4.out; subst Y7; have V2 := cg0 a2; have V3 := blk_frozen a2.out 0) | ((with_reducible refine gate_store (t := 26) (p := 74) rfl ?_); refine store_event (t := 26) (p := 74) (v := ?vo_w90) (w1 := (w87.setCell ⟨b0, 0, none⟩ (.slice f5 d0.length f6))) ?hg ?ho ?hn ?hr ?_; (case ho => rfl); (case hg => rfl); (case hn => rfl); (case hr => first | (go_simp; done) | (go_simp; rfl)); intro t6 hw; replace e7 : Aside0 (Kd.R (Kd.int .i64) 3 t6 w.heap.size (fun k_ => (w.heap.size ≤ k_) ∧ some k_ ≠ (.slice f5 d0.length f6 : Value).ownBlock ∧ some k_ ≠ (s9 : Value).ownBlock) (.slice s5 l9.length o7) l9) := ⟨(by rw [hw]; exact (by exact rT (Kd.R_mono (Kd.R_far (p := ⟨b0, 0, none⟩) (Kd.R_types e7.out a2.out (by decide)) (fun _ hk => hk.2) (.slice f5 d0.length f6)) (fun _ hk => ⟨hk.1.1.1.1, ⟨hk.1.1.2, hk.1.2⟩⟩))))⟩; replace b6 : Aside0 (Kd.R k90 90 t6 w.heap.size (fun k_ => (w.heap.size ≤ k_)) (.slice m7 f3.length m8) f3) := ⟨(by rw [hw]; exact (by exact rT (Kd.R_mono (Kd.R_far (p := ⟨b0, 0, none⟩) (Kd.R_types b6.out a2.out (by decide)) (fun _ hk => hk.2) (.slice f5 d0.length f6)) (fun _ hk => hk.1.1))))⟩; replace b2 : Aside0 (Kd.S k33 33 t6 w.heap.size (fun k_ => (w.heap.size ≤ k_) ∧ some k_ ≠ (.slice s5 l9.length o7 : Value).ownBlock ∧ some k_ ≠ (.slice m7 f3.length m8 : Value).ownBlock ∧ some k_ ≠ (.slice f5 d0.length f6 : Value).ownBlock ∧ some k_ ≠ (s9 : Value).ownBlock) (.slice l5 d6.length l6) d6) := ⟨(by rw [hw]; exact (by exact sT (Kd.S_mono (Kd.S_far (p := ⟨b0, 0, none⟩) (Kd.S_types b2.out a2.out (by decide)) (fun _ hk => hk.2) (.slice f5 d0.length f6)) (fun _ hk => ⟨hk.1.1.1.1, ⟨hk.1.1.1.2.1, ⟨hk.1.1.1.2.2, ⟨hk.1.1.2, hk.1.2⟩⟩⟩⟩))))⟩; replace b8 : Aside0 (Kd.S k82 82 t6 w.heap.size (fun k_ => (w.heap.size ≤ k_) ∧ some k_ ≠ (.slice m7 f3.length m8 : Value).ownBlock) (.slice l7 e0.length l8) e0) := ⟨(by rw [hw]; exact (by exact sT (Kd.S_mono (Kd.S_far (p := ⟨b0, 0, none⟩) (Kd.S_types b8.out a2.out (by decide)) (fun _ hk => hk.2) (.slice f5 d0.length f6)) (fun _ hk => ⟨hk.1.1, hk.1.2⟩))))⟩; replace d4 : Aside0 (Kd.R (Kd.int .i64) 3 t6 w.heap.size (fun k_ => (w.heap.size ≤ k_) ∧ some k_ ≠ (.slice s5 l9.length o7 : Value).ownBlock ∧ some k_ ≠ (s9 : Value).ownBlock) (.slice f5 d0.length f6) d0) := ⟨(by rw [hw]; exact (by exact rT (Kd.R_mono (Kd.R_far (p := ⟨b0, 0, none⟩) (Kd.R_types d4.out a2.out (by decide)) (fun _ hk => hk.2) (.slice f5 d0.length f6)) (fun _ hk => ⟨hk.1.1.1, ⟨hk.1.2, hk.1.1.2⟩⟩))))⟩; replace b9 : Aside0 (Kd.R (Kd.int .i64) 3 t6 w.heap.size (fun k_ => (w.heap.size ≤ k_) ∧ some k_ ≠ (.slice s5 l9.length o7 : Value).ownBlock ∧ some k_ ≠ (.slice f5 d0.length f6 : Value).ownBlock) s9 a5) := ⟨(by rw [hw]; exact (by exact rT (Kd.R_mono (Kd.R_far (p := ⟨b0, 0, none⟩) (Kd.R_types b9.out a2.out (by decide)) (fun _ hk => hk.2) (.slice f5 d0.length f6)) (fun _ hk => ⟨hk.1.1.1, ⟨hk.1.2, hk.1.1.2⟩⟩))))⟩; replace d2 : Aside0 (t6.heap[e6]? = some (.cells #[.slice t9 i9.length u0, .int .i64 k2, .int .i64 k4, .int .i64 k5, .int .i64 k6, .slice u1 j5.length u2, .int .i64 k7, .int .i64 k9, .int .i64 l3, .int .i64 l4, .int .i64 f8, .slice q0 e8.length q2, .slice q3 e9.length q4] 37 (0, 0))) := ⟨(by rw [hw]; exact kS)⟩; replace d3 : Aside0 (t6.heap[f4]? = some (.cells #[.string j6, .int .i64 s4] 46 (0, 0))) := ⟨(by rw [hw]; exact kS)⟩; replace b1 : Aside0 (t6.heap[b7]? = some (.cells #[.slice none 0 0, .int .i64 0, .int .i64 0, .int .i64 0, .int .i64 0, .slice none 0 0, .int .i64 0, .int .i64 0, .int .i64 0, .int .i64 0, .int .i64 0, .slice none 0 0, .slice none 0 0] 37 (0, 0))) := ⟨(by rw [hw]; exact kS)⟩; replace a2 : Aside0 (t6.heap[b0]? = some (.cells #[.slice f5 d0.length f6, .int .i64 g2, .int .i64 g3, .int .i64 g4, .int .i64 g5, .slice m7 f3.length m8, .int .i64 j7, .int .i64 j8, .int .i64 j9, .int .i64 k0, .int .i64 k1, .slice l5 d6.length l6, .slice l7 e0.length l8] 37 (0, 0))) := ⟨(by rw [hw]; exact kS)⟩; replace HB : Aside0 (Below w.heap.size w t6) := ⟨(by rw [hw]; exact bS)⟩; clear hw; have hz91 := cz2 d3))
         have H := I1.out
         clear I1
         have n_ := aM (Kd.S_mono (ok' := (fun k_ => (w.heap.size ≤ k_) ∧ some k_ ≠ (.slice m7 f3.length m8 : Value).ownBlock ∧ some k_ ≠ (.slice f5 d0.length f6 : Value).ownBlock ∧ some k_ ≠ (s9 : Value).ownBlock)) b2.out (fun k_ hk => ⟨hk.1, ⟨hk.2.2.1, ⟨hk.2.2.2.1, hk.2.2.2.2⟩⟩⟩))
         clear b2
         have b2 := n_
         clear n_
         have n_ := aM (Kd.R_mono (ok' := (fun k_ => (w.heap.size ≤ k_) ∧ some k_ ≠ (s9 : Value).ownBlock)) d4.out (fun k_ hk => ⟨hk.1, hk.2.2⟩))
         clear d4
         have d4 := n_
         clear n_
         have n_ := aM (Kd.R_mono (ok' := (fun k_ => (w.heap.size ≤ k_) ∧ some k_ ≠ (.slice f5 d0.length f6 : Value).ownBlock)) b9.out (fun k_ hk => ⟨hk.1, hk.2.2⟩))
         clear b9
         have b9 := n_
         clear n_
         (try clear e7)
         obtain ⟨L92, hF_, hM623_, hM624_, hM625_⟩ := FrI_pack3 d2.out d3.out b1.out f9.out g0.out g1.out [37, 46] (by decide) (by decide) (by decide)
         have HLM623 := aM hM623_
         have HLM624 := aM hM624_
         have HLM625 := aM hM625_
         have a9 := aM hF_
         clear hF_ hM623_ hM624_ hM625_ d2 d3 b1
         by_cases G1 : j6.toList = ([110, 101, 119] : List UInt8)
         ·rw [if_pos G1] at H
          obtain ⟨I2, I3⟩ := eqT G1
          clear G1
          have H' := aM H
          clear H
          obtain ⟨ag5, ag6, Y8⟩ := Kd.R_slice b9.out
          subst Y8
          go_at_call 27
          go_enter Try.func27, Try.ntmps27
          have V4 := cg5 a2
          have V5 := blk_frozen a2.out 5
          try go_wp2
          (try (go_ret; (try simp only [])))
          (try (refine ⟨_, rfl, ?_⟩))
          have d2 := aM (FrI_get a9.out HLM623.out)
          have d3 := aM (FrI_get a9.out HLM624.out)
          have b1 := aM (FrI_get a9.out HLM625.out)
          clear a9
          try go_wp2
          go_meet
          case rel => exact ⟨_, (true), (d0), (g2), (g3), (g4), (g5), (([] : List (S90))), (j7), (j8), (j9), (k0), (k1), (d6), (e0), (.slice f5 d0.length f6), (.slice none 0 0), (.slice l5 d6.length l6), (.slice l7 e0.length l8), fS, H', ⟨by have := HJ2.out; first | omega | exact Nat.le_refl _⟩, ⟨rW [b0] d4 a2⟩, ⟨by first | exact Kd.R_nil _ _ _ _ _ | exact Kd.N_nil _ _ _ _ _ | exact Kd.V_nil _ _ _ _ _ | exact Kd.Q_nil _ _ _ _ _ | exact Kd.S_nil _ _ _ _ _⟩, ⟨sW [b0] b2 a2⟩, ⟨sW [b0] b8 a2⟩, ⟨kS⟩, ⟨kS⟩, ⟨kS⟩, ⟨kS⟩, ⟨bS⟩⟩
         ·rw [if_neg G1] at H
          obtain ⟨I2, I3⟩ := eqF G1
          by_cases G2 : j6.toList = ([109, 111, 118, 101, 116, 111] : List UInt8)
          ·skip
           rw [if_pos G2] at H
           obtain ⟨I4, I5⟩ := eqT G2
           clear G2
           by_cases V6 : 0 < (a5.length : Int)
           ·rw [if_pos V6] at H
            have ac4 : decide (0 < (a5.length : Int)) = true := decide_eq_true V6
            have ac5 : decide (0 < a5.length) = true := decide_eq_true (by omega)
            clear V6
            by_cases V7 : 1 < (a5.length : Int)
            ·rw [if_pos V7] at H
             have ac6 : decide (1 < (a5.length : Int)) = true := decide_eq_true V7
             have ac7 : decide (1 < a5.length) = true := decide_eq_true (by omega)
             clear V7
             replace H := bN H
             obtain ⟨⟨t0, t1⟩, A99, H⟩ := H
             obtain ⟨E6, hy_⟩ : ∃ y_ : List (S90), y_ = (([(⟨t0, t1⟩ : S90)] : List (S90))) := ⟨_, rfl⟩
             replace H : (impl_ExecToken.j4 kj2 true i9 k2 k4 k5 k6 j5 k7 k9 l3 l4 f8 e8 e9 d0 g2 g3 g4 g5 E6 j7 j8 j9 k0 k1 d6 e0) = some (r1, r2, r3, r4, r5, r6, r7, r8, r9, A4, A5, A6, A8, B0) := yS
             have Ny693 := aM hy_
             clear hy_
             have H' := aM H
             clear H
             obtain ⟨ac8, ac9, I6⟩ := Kd.R_slice b9.out
             subst I6
             go_at_call 27
             go_enter Try.func27, Try.ntmps27
             try go_wp2
             replace b6 := rD b6
             replace b2 := sD b2
             replace b8 := sD b8
             replace d4 := rD d4
             replace b9 := rD b9
             replace a2 := bD a2
             replace a9 := aM (FrI_drew a9.out)
             replace HB := hD HB
             have E7 : 0 ≤ (0 : Int) := (by omega)
             have E8 : 0 < (a5.length : Int) := dA
             obtain ⟨t7, Y9, o5⟩ := Kd.at_int (Kd.R_reads' b9.out).2.2 0 E7 E8
             cases Y9
             have qi689 : (0 < a5.length) = True := eq_true (by omega)
             (try rw [show ((0 : Int)).toNat = 0 from rfl] at o5)
             (try rw [Addr.add_zero'] at o5)
             replace E7 := eq_true E7
             replace E8 := eq_true E8
             have E9 : 0 ≤ (1 : Int) := (by omega)
             have F2 : 1 < (a5.length : Int) := dA
             obtain ⟨I7, Z0, o6⟩ := Kd.at_int (Kd.R_reads' b9.out).2.2 1 E9 F2
             obtain rfl : t7 = I7 := (by injection Z0)
             (try simp only [show (1 : Int).toNat = 1 from rfl, Nat.reduceMul, Nat.reduceEqDiff, Go.Addr.add, ↓reduceIte] at o6)
             have qi690 : (1 < a5.length) = True := eq_true (by omega)
             (try rw [show ((1 : Int)).toNat = 1 from rfl] at o6)
             replace E9 := eq_true E9
             replace F2 := eq_true F2
             refine start_ (n := 17) (S := fun w' => w'.cell? ⟨b0, 1, none⟩ = some (.int .i64 g2) ∧ w'.cell? ⟨b0, 2, none⟩ = some (.int .i64 g3) ∧ w'.cell? ⟨b0, 3, none⟩ = some (.int .i64 g4) ∧ w'.cell? ⟨b0, 4, none⟩ = some (.int .i64 g5) ∧ w'.cell? t7 = some (.int .i64 (rd a5 0)) ∧ w'.cell? ⟨t7.block, t7.off + 1, none⟩ = some (.int .i64 (rd a5 1))) (ds := [16]) (mB 17 0) (by kernel_rfl) rfl rfl ⟨(blk_cell a2.out 1).trans rfl, (blk_cell a2.out 2).trans rfl, (blk_cell a2.out 3).trans rfl, (blk_cell a2.out 4).trans rfl, o5, o6⟩ (fun hHeld => ?_); refine with_tabW impl_ExecToken.i27.tab18 impl_ExecToken.i27.bits18 (fun HT_ HW_ => ?_)
             generalize t6.drew = ag8 at b6 b2 b8 d4 b9 a2 a9 HB o5 o6 hHeld ⊢
             refine pU 0 (some 68) (mB 17 1) ?_
             refine pU 1 (some 69) (mB 17 3) ?_
             refine pU 2 (some 70) (mB 17 7) ?_
             refine pU 3 (some 71) (mB 17 15) ?_
             refine pU 5 (some 73) (mB 17 47) ?_
             refine pU 6 (some 74) (mB 17 111) ?_
             refine pU 8 (some 76) (mB 17 367) ?_
             refine pU 9 (some 77) (mB 17 879) ?_
             refine tK 4 (some 72) (mB 17 895) ?_
             refine tK 7 (some 75) (mB 17 1023) ?_
             refine tK 10 (some 78) (mB 17 2047) ?_
             refine pU 11 (some 79) (mB 17 4095) ?_
             refine one_ (i := 12) (N := some 80) (mB 17 8191) rfl rfl (one_of HT_.out (by kernel_rfl)) (by decide) (fun K hK => ?_)
             refine goes_ Try.func43 (by kernel_rfl) rfl #[.agg #[.int .i64 g2, .int .i64 g3, .int .i64 g4, .int .i64 g5], .agg #[.int .i64 (rd a5 0), .int .i64 (rd a5 1)]] (by rfl) rfl rfl mA ?_
             with_reducible refine (impl_moved.calls kj2 g2 g3 g4 g5 (rd a5 0) (rd a5 1) t0 t1 _ A99.out).mono ?_
             rintro e ag9 ⟨rfl, hb⟩
             have HS4_ := (hb.cell (World.block_lt_of_cell? _ _ (hHeld.2.2.2.2.1))).trans (hHeld.2.2.2.2.1)
             have HS5_ := (hb.cell (World.block_lt_of_cell? _ _ (hHeld.2.2.2.2.2))).trans (hHeld.2.2.2.2.2)
             refine ⟨_, rfl, ?_⟩
             replace b6 := rB b6 hb
             replace b2 := sB b2 hb
             replace b8 := sB b8 hb
             replace d4 := rB d4 hb
             replace b9 := rB b9 hb
             replace a2 := kB_ b0 hb
             replace a9 := aM (FrI_belowS hb a9.out (FrN0 a9.out))
             replace HB := hB hb
             (try clear hb)
             (try clear hb2)
             (try clear hk)
             (try clear hi)
             refine hK.out _ _ ⟨(blk_cell a2.out 1).trans rfl, (blk_cell a2.out 2).trans rfl, (blk_cell a2.out 3).trans rfl, (blk_cell a2.out 4).trans rfl, HS4_, HS5_⟩ (fun hHeld => ?_)
             clear hK K
             refine norm_ (a' := ?_) ?_ ?_
             rotate_left
             ·show Act.put _ (some 80) _ = _
              simp only [Act.put, List.setIfInBounds_toArray, List.set_cons_zero, List.set_cons_succ, i64_w, i32_w]
              rfl
             refine one_ (i := 13) (N := some 81) (mB 17 16383) rfl rfl (one_of HT_.out (by kernel_rfl)) (by decide) (fun K hK => ?_)
             refine Kd.R_lit_step k90 _ 90 ?hg (N := 81) ?hd (xs := ([(⟨t0, t1⟩ : S90)] : List (S90))) (inner := [.int .i64 t0, .int .i64 t1]) (ok := fun _ => True) (okp := fun _ => True) ?hr ?hp (fun _ hk => hk) trivial (Below.refl _ _) (Nat.le_refl _) (by simp) ?_; (case hd => rfl); (case hg => rfl); (case hr => first | (go_simp; done) | (go_simp; rfl)); (case hp => exact (Reps.c2 (show Kd.M k90 _ _ _ (⟨t0, t1⟩ : S90) [.int .i64 t0, .int .i64 t1] from (k90_mkM _ _ _ (⟨t0, t1⟩ : S90) )) (Reps.none _ _)))
             intro ah0 ah1 o0 hb hg_ hnew_
             have HS4_ := (hb.cell (World.block_lt_of_cell? _ _ (hHeld.2.2.2.2.1))).trans (hHeld.2.2.2.2.1)
             have HS5_ := (hb.cell (World.block_lt_of_cell? _ _ (hHeld.2.2.2.2.2))).trans (hHeld.2.2.2.2.2)
             clear hg_ hnew_
             (first | rw [← Ny693.out] at o0 | (simp only [Int.reduceToNat] at o0; rw [← Ny693.out] at o0))
             have C9 := aM (Kd.R_lower (Kd.R_new' (Kd.R_newM (M := fun k_ => (w.heap.size ≤ k_)) o0 (below_size bS) (fun k_ h_ => h_)) (Kd.R_lt (rS b6))) (below_size bS))
             replace b6 := aM (Kd.R_elder' (rS b6) (Kd.R_base o0) hb)
             replace b2 := aM (Kd.S_elder' (sS b2) (Kd.R_base o0) hb)
             replace b8 := aM (Kd.S_elder' (sS b8) (Kd.R_base o0) hb)
             replace d4 := rB d4 hb
             replace b9 := rB b9 hb
             replace a2 := kB_ b0 hb
             replace a9 := aM (FrI_belowS hb a9.out (FrN0 a9.out))
             replace HB := hB hb
             clear hb o0
             obtain ⟨I8, I9, D0⟩ := Kd.R_slice C9.out
             (first | subst D0 | obtain ⟨rfl, rfl⟩ := slE D0)
             refine hK.out _ _ ⟨(blk_cell a2.out 1).trans rfl, (blk_cell a2.out 2).trans rfl, (blk_cell a2.out 3).trans rfl, (blk_cell a2.out 4).trans rfl, HS4_, HS5_⟩ (fun hHeld => ?_)
             clear hK K
             refine norm_ (a' := ?_) ?_ ?_
             rotate_left
             ·show Act.put _ (some 81) _ = _
              simp only [Act.put, List.setIfInBounds_toArray, List.set_cons_zero, List.set_cons_succ, i64_w, i32_w]
              rfl
             refine pU 14 (some 82) (mB 17 32767) ?_
             refine pU 15 (some 83) (mB 17 65535) ?_
             refine last_ (i := 16) (N := none) (mB 17 131071) rfl rfl (one_of HT_.out (by kernel_rfl)) (by decide) (fun K hK => ?_)
             have hs106 := cg5 a2
             have hfs106 := blk_frozen a2.out 5
             refine skip_ (w1 := ?_) (by rfl) rfl ?_ ?_
             rotate_left
             ·go_simp
              rfl
             refine hK.out _ _ ?_
             clear hK K
             refine done_ (done_of HT_.out (by kernel_rfl)) ?_
             try go_wp2
             (try (go_ret; (try simp only [])))
             (try (refine ⟨_, rfl, ?_⟩))
             have d2 := aM (FrI_get a9.out HLM623.out)
             have d3 := aM (FrI_get a9.out HLM624.out)
             have b1 := aM (FrI_get a9.out HLM625.out)
             clear a9
             try go_wp2
             go_meet
             case rel => exact ⟨_, (true), (d0), (g2), (g3), (g4), (g5), (E6), (j7), (j8), (j9), (k0), (k1), (d6), (e0), (.slice f5 d0.length f6), (.slice I8 E6.length I9), (.slice l5 d6.length l6), (.slice l7 e0.length l8), fS, H', ⟨by have := HJ2.out; first | omega | exact Nat.le_refl _⟩, ⟨rW [b0] d4 a2⟩, ⟨rW [b0] C9 a2⟩, ⟨sW [b0] b2 a2⟩, ⟨sW [b0] b8 a2⟩, ⟨kS⟩, ⟨kS⟩, ⟨kS⟩, ⟨kS⟩, ⟨bS⟩⟩
            ·rw [if_neg V7] at H
             exact absurd H (by simp)
           ·rw [if_neg V6] at H
            exact absurd H (by simp)
          ·rw [if_neg G2] at H
           obtain ⟨I4, I5⟩ := eqF G2
           by_cases s6 : j6.toList = ([108, 105, 110, 101, 116, 111] : List UInt8)
           ·skip
            rw [if_pos s6] at H
            obtain ⟨t2, t3⟩ := eqT s6
            clear s6
            by_cases s7 : (f3.length : Int) = 0
            ·rw [if_pos s7] at H
             have F3 : ((f3.length : Int) == 0) = true := beq_iff_eq.mpr s7
             have F4 : ((f3.length : Int) != 0) = false := bne_eq_false_iff_eq.mpr s7
             clear s7
             have H' := aM H
             clear H
             obtain ⟨ad1, ad2, J0⟩ := Kd.R_slice b9.out
             subst J0
             go_at_call 27
             go_enter Try.func27, Try.ntmps27
             have J1 := cg5 a2
             try go_wp2
             (try (go_ret; (try simp only [])))
             (try (refine ⟨_, rfl, ?_⟩))
             have d2 := aM (FrI_get a9.out HLM623.out)
             have d3 := aM (FrI_get a9.out HLM624.out)
             have b1 := aM (FrI_get a9.out HLM625.out)
             clear a9
             try go_wp2
             go_meet
             case rel => exact ⟨_, (false), (d0), (g2), (g3), (g4), (g5), (f3), (j7), (j8), (j9), (k0), (k1), (d6), (e0), (.slice f5 d0.length f6), (.slice m7 f3.length m8), (.slice l5 d6.length l6), (.slice l7 e0.length l8), fS, H', ⟨by have := HJ2.out; first | omega | exact Nat.le_refl _⟩, ⟨by exact rT (Kd.R_mono d4.out (fun _ hk => hk.1))⟩, ⟨rS b6⟩, ⟨by exact sT (Kd.S_mono b2.out (fun _ hk => ⟨hk.1, ⟨hk.2.2.1, hk.2.1⟩⟩))⟩, ⟨by exact sT (Kd.S_mono b8.out (fun _ hk => hk.1))⟩, ⟨kS⟩, ⟨kS⟩, ⟨kS⟩, ⟨kS⟩, ⟨bS⟩⟩
            ·rw [if_neg s7] at H
             have F3 : ((f3.length : Int) == 0) = false := beq_eq_false_iff_ne.mpr s7
             have F4 : ((f3.length : Int) != 0) = true := bne_iff_ne.mpr s7
             have Z1 : ¬ (f3 = []) := fun h_ => s7 (by rw [h_]; rfl)
             by_cases u5 : 0 < (a5.length : Int)
             ·rw [if_pos u5] at H
              have Z2 : decide (0 < (a5.length : Int)) = true := decide_eq_true u5
              have Z3 : decide (0 < a5.length) = true := decide_eq_true (by omega)
              clear u5
              by_cases u6 : 1 < (a5.length : Int)
              ·rw [if_pos u6] at H
               have Z4 : decide (1 < (a5.length : Int)) = true := decide_eq_true u6
               have Z5 : decide (1 < a5.length) = true := decide_eq_true (by omega)
               clear u6
               replace H := bN H
               obtain ⟨⟨v9, w8⟩, Z6, H⟩ := H
               obtain ⟨LMc114, H⟩ := iL H
               obtain ⟨F5, hy_⟩ : ∃ y_ : List (S90), y_ = (f3 ++ [(⟨v9, w8⟩ : S90)]) := ⟨_, rfl⟩
               replace H : (impl_ExecToken.j4 kj2 true i9 k2 k4 k5 k6 j5 k7 k9 l3 l4 f8 e8 e9 d0 g2 g3 g4 g5 F5 j7 j8 j9 k0 k1 d6 e0) = some (r1, r2, r3, r4, r5, r6, r7, r8, r9, A4, A5, A6, A8, B0) := yS
               have Ny700 := aM hy_
               clear hy_
               have H' := aM H
               clear H
               obtain ⟨ad3, J2, J3⟩ := Kd.R_slice b9.out
               subst J3
               go_at_call 27
               go_enter Try.func27, Try.ntmps27
               have J4 := cg5 a2
               try go_wp2
               replace b6 := rD b6
               replace b2 := sD b2
               replace b8 := sD b8
               replace d4 := rD d4
               replace b9 := rD b9
               replace a2 := bD a2
               replace a9 := aM (FrI_drew a9.out)
               replace HB := hD HB
               have w9 : 0 ≤ (0 : Int) := (by omega)
               have x0 : 0 < (a5.length : Int) := dA
               obtain ⟨s8, Z7, m1⟩ := Kd.at_int (Kd.R_reads' b9.out).2.2 0 w9 x0
               cases Z7
               have qi696 : (0 < a5.length) = True := eq_true (by omega)
               (try rw [show ((0 : Int)).toNat = 0 from rfl] at m1)
               (try rw [Addr.add_zero'] at m1)
               replace w9 := eq_true w9
               replace x0 := eq_true x0
               have x1 : 0 ≤ (1 : Int) := (by omega)
               have x2 : 1 < (a5.length : Int) := dA
               obtain ⟨J5, Z8, m2⟩ := Kd.at_int (Kd.R_reads' b9.out).2.2 1 x1 x2
               obtain rfl : s8 = J5 := (by injection Z8)
               (try simp only [show (1 : Int).toNat = 1 from rfl, Nat.reduceMul, Nat.reduceEqDiff, Go.Addr.add, ↓reduceIte] at m2)
               have qi697 : (1 < a5.length) = True := eq_true (by omega)
               (try rw [show ((1 : Int)).toNat = 1 from rfl] at m2)
               replace x1 := eq_true x1
               replace x2 := eq_true x2
               refine start_ (n := 22) (S := fun w' => w'.cell? ⟨b0, 1, none⟩ = some (.int .i64 g2) ∧ w'.cell? ⟨b0, 2, none⟩ = some (.int .i64 g3) ∧ w'.cell? ⟨b0, 3, none⟩ = some (.int .i64 g4) ∧ w'.cell? ⟨b0, 4, none⟩ = some (.int .i64 g5) ∧ w'.cell? ⟨b0, 5, none⟩ = some (.slice m7 f3.length m8) ∧ w'.cell? s8 = some (.int .i64 (rd a5 0)) ∧ w'.cell? ⟨s8.block, s8.off + 1, none⟩ = some (.int .i64 (rd a5 1))) (ds := [18, 21]) (mB 22 0) (by kernel_rfl) rfl rfl ⟨(blk_cell a2.out 1).trans rfl, (blk_cell a2.out 2).trans rfl, (blk_cell a2.out 3).trans rfl, (blk_cell a2.out 4).trans rfl, (blk_cell a2.out 5).trans rfl, m1, m2⟩ (fun hHeld => ?_); refine with_tabW impl_ExecToken.i27.tab22 impl_ExecToken.i27.bits22 (fun HT_ HW_ => ?_)
               generalize t6.drew = ah2 at b6 b2 b8 d4 b9 a2 a9 HB m1 m2 hHeld ⊢
               refine pU 0 (some 92) (mB 22 1) ?_
               refine pU 1 (some 93) (mB 22 3) ?_
               refine pU 2 (some 94) (mB 22 7) ?_
               refine pU 3 (some 95) (mB 22 15) ?_
               refine pU 5 (some 97) (mB 22 47) ?_
               refine pU 6 (some 98) (mB 22 111) ?_
               refine pU 7 (some 99) (mB 22 239) ?_
               refine pU 9 (some 101) (mB 22 751) ?_
               refine pU 10 (some 102) (mB 22 1775) ?_
               refine pU 12 (some 104) (mB 22 5871) ?_
               refine pU 13 (some 105) (mB 22 14063) ?_
               refine tK 4 (some 96) (mB 22 14079) ?_
               refine tK 8 (some 100) (mB 22 14335) ?_
               refine tK 11 (some 103) (mB 22 16383) ?_
               refine tK 14 (some 106) (mB 22 32767) ?_
               refine pU 15 (some 107) (mB 22 65535) ?_
               refine one_ (i := 16) (N := some 108) (mB 22 131071) rfl rfl (one_of HT_.out (by kernel_rfl)) (by decide) (fun K hK => ?_)
               refine goes_ Try.func43 (by kernel_rfl) rfl #[.agg #[.int .i64 g2, .int .i64 g3, .int .i64 g4, .int .i64 g5], .agg #[.int .i64 (rd a5 0), .int .i64 (rd a5 1)]] (by rfl) rfl rfl mA ?_
               with_reducible refine (impl_moved.calls kj2 g2 g3 g4 g5 (rd a5 0) (rd a5 1) v9 w8 _ Z6.out).mono ?_
               rintro e ah3 ⟨rfl, hb⟩
               have HS5_ := (hb.cell (World.block_lt_of_cell? _ _ (hHeld.2.2.2.2.2.1))).trans (hHeld.2.2.2.2.2.1)
               have HS6_ := (hb.cell (World.block_lt_of_cell? _ _ (hHeld.2.2.2.2.2.2))).trans (hHeld.2.2.2.2.2.2)
               refine ⟨_, rfl, ?_⟩
               replace b6 := rB b6 hb
               replace b2 := sB b2 hb
               replace b8 := sB b8 hb
               replace d4 := rB d4 hb
               replace b9 := rB b9 hb
               replace a2 := kB_ b0 hb
               replace a9 := aM (FrI_belowS hb a9.out (FrN0 a9.out))
               replace HB := hB hb
               (try clear hb)
               (try clear hb2)
               (try clear hk)
               (try clear hi)
               refine hK.out _ _ ⟨(blk_cell a2.out 1).trans rfl, (blk_cell a2.out 2).trans rfl, (blk_cell a2.out 3).trans rfl, (blk_cell a2.out 4).trans rfl, (blk_cell a2.out 5).trans rfl, HS5_, HS6_⟩ (fun hHeld => ?_)
               clear hK K
               refine norm_ (a' := ?_) ?_ ?_
               rotate_left
               ·show Act.put _ (some 108) _ = _
                simp only [Act.put, List.setIfInBounds_toArray, List.set_cons_zero, List.set_cons_succ, i64_w, i32_w]
                rfl
               refine one_ (i := 17) (N := some 109) (mB 22 262143) rfl rfl (one_of HT_.out (by kernel_rfl)) (by decide) (fun K hK => ?_)
               refine value_ (w1 := ?_) (v := ?_) (by rfl) rfl ?_ ?_
               rotate_left 2
               ·go_simp
                constructor
                ·rfl
                ·rfl
               refine hK.out _ _ ⟨(blk_cell (blk_alloc a2.out _) 1).trans rfl, (blk_cell (blk_alloc a2.out _) 2).trans rfl, (blk_cell (blk_alloc a2.out _) 3).trans rfl, (blk_cell (blk_alloc a2.out _) 4).trans rfl, (blk_cell (blk_alloc a2.out _) 5).trans rfl, (World.cell?_alloc_lt _ _ _ (World.block_lt_of_cell? _ _ (hHeld.2.2.2.2.2.1))).trans (hHeld.2.2.2.2.2.1), (World.cell?_alloc_lt _ _ _ (World.block_lt_of_cell? _ _ (hHeld.2.2.2.2.2.2))).trans (hHeld.2.2.2.2.2.2)⟩ (fun hHeld => ?_)
               clear hK K
               refine norm_ (a' := ?_) ?_ ?_
               rotate_left
               ·show Act.put _ (some 109) _ = _
                simp only [Act.put, List.setIfInBounds_toArray, List.set_cons_zero, List.set_cons_succ, i64_w, i32_w]
                rfl
               refine last_ (i := 18) (N := some 110) (mB 22 524287) rfl rfl (one_of HT_.out (by kernel_rfl)) (by decide) (fun K hK => ?_)
               refine Kd.R_append_step k90 (w0 := w) w.heap.size (by rfl) (.tmp 96) (.tmp 109) 29 90 (.agg #[(.int .i64 0), (.int .i64 0)]) 16 rfl Try.underlying29 info90 rfl (by decide) (by omega) (.slice m7 f3.length m8) f3 (⟨v9, w8⟩ : S90) [.int .i64 v9, .int .i64 w8] (fun k_ => (w.heap.size ≤ k_)) (fun _ => False) rfl rfl ?aP (fun _ hk => hk.elim) ?aF ?aO ?aB ?aS ?aL ?_
               (case aP => exact k90_mkM _ _ _ (⟨v9, w8⟩ : S90))
               (case aB => exact bS)
               (case aF => exact (fun k_ hk => (Nat.le_trans (below_size bS) hk)))
               (case aO => exact (rS b6))
               (case aS => exact (below_size bS))
               (case aL => have := LMc114.out; (try dsimp only at this); omega)
               intro ah4 ah5 ho hb hg hat
               rw [← Ny700.out] at ho
               have D1 := aM (ho)
               replace b2 := aM (Kd.S_after (ok := (fun k_ => (w.heap.size ≤ k_) ∧ some k_ ≠ (.slice f5 d0.length f6 : Value).ownBlock ∧ some k_ ≠ (.slice (some s8) a5.length J2 : Value).ownBlock)) (by exact sM b2) hg hat)
               replace b8 := aM (Kd.S_after (ok := (fun k_ => (w.heap.size ≤ k_))) (sS b8) hg hat)
               replace a2 := aM (blk_grown (g := b0) kS hg (Kd.R_ne b6.out a2.out (by decide)))
               replace d4 := aM (Kd.R_over' (rS d4) (Kd.R_typed (rS b6)) (by decide) hg)
               replace b9 := aM (Kd.R_over' (rS b9) (Kd.R_typed (rS b6)) (by decide) hg)
               replace a9 := aM (FrI_grownS hg (Kd.R_typed (rS b6)) (by decide) a9.out (FrN0 a9.out))
               replace HB := aM (hb)
               clear b6
               clear ho hb hg hat
               obtain ⟨J6, J7, D2⟩ := Kd.R_slice D1.out
               (first | subst D2 | obtain ⟨rfl, rfl⟩ := slE D2)
               refine hK.out _ _ ?_
               clear hK K
               refine norm_ (a' := ?_) ?_ ?_
               rotate_left
               ·show Act.put _ (some 110) _ = _
                simp only [Act.put, List.setIfInBounds_toArray, List.set_cons_zero, List.set_cons_succ, i64_w, i32_w]
                rfl
               refine pU 19 (some 111) (mB 22 1048575) ?_
               refine pU 20 (some 112) (mB 22 2097151) ?_
               refine last_ (i := 21) (N := none) (mB 22 4194303) rfl rfl (one_of HT_.out (by kernel_rfl)) (by decide) (fun K hK => ?_)
               have hs121 := cg5 a2
               have hfs121 := blk_frozen a2.out 5
               refine skip_ (w1 := ?_) (by rfl) rfl ?_ ?_
               rotate_left
               ·go_simp
                rfl
               refine hK.out _ _ ?_
               clear hK K
               refine done_ (done_of HT_.out (by kernel_rfl)) ?_
               try go_wp2
               (try (go_ret; (try simp only [])))
               (try (refine ⟨_, rfl, ?_⟩))
               have d2 := aM (FrI_get a9.out HLM623.out)
               have d3 := aM (FrI_get a9.out HLM624.out)
               have b1 := aM (FrI_get a9.out HLM625.out)
               clear a9
               try go_wp2
               go_meet
               case rel => exact ⟨_, (true), (d0), (g2), (g3), (g4), (g5), (F5), (j7), (j8), (j9), (k0), (k1), (d6), (e0), (.slice f5 d0.length f6), (.slice J6 F5.length J7), (.slice l5 d6.length l6), (.slice l7 e0.length l8), fS, H', ⟨by have := HJ2.out; first | omega | exact Nat.le_refl _⟩, ⟨rW [b0] d4 a2⟩, ⟨rW [b0] D1 a2⟩, ⟨sW [b0] b2 a2⟩, ⟨sW [b0] b8 a2⟩, ⟨kS⟩, ⟨kS⟩, ⟨kS⟩, ⟨kS⟩, ⟨bS⟩⟩
              ·rw [if_neg u6] at H
               exact absurd H (by simp)
             ·rw [if_neg u5] at H
              exact absurd H (by simp)
           ·rw [if_neg s6] at H
            obtain ⟨t2, t3⟩ := eqF s6
            by_cases u7 : j6.toList = ([114, 101, 99, 116] : List UInt8)
            ·skip
             rw [if_pos u7] at H
             obtain ⟨x3, x4⟩ := eqT u7
             clear u7
             by_cases u9 : 0 < (a5.length : Int)
             ·rw [if_pos u9] at H
              have x5 : decide (0 < (a5.length : Int)) = true := decide_eq_true u9
              have x6 : decide (0 < a5.length) = true := decide_eq_true (by omega)
              clear u9
              by_cases v0 : 1 < (a5.length : Int)
              ·rw [if_pos v0] at H
               have x7 : decide (1 < (a5.length : Int)) = true := decide_eq_true v0
               have x8 : decide (1 < a5.length) = true := decide_eq_true (by omega)
               clear v0
               by_cases v1 : 2 < (a5.length : Int)
               ·rw [if_pos v1] at H
                have x9 : decide (2 < (a5.length : Int)) = true := decide_eq_true v1
                have y0 : decide (2 < a5.length) = true := decide_eq_true (by omega)
                clear v1
                by_cases v2 : 3 < (a5.length : Int)
                ·rw [if_pos v2] at H
                 have y1 : decide (3 < (a5.length : Int)) = true := decide_eq_true v2
                 have y2 : decide (3 < a5.length) = true := decide_eq_true (by omega)
                 clear v2
                 have y3 := aM H
                 clear H
                 obtain ⟨ad4, ad5, J8⟩ := Kd.R_slice b9.out
                 subst J8
                 go_at_call 27
                 go_enter Try.func27, Try.ntmps27
                 try go_wp2
                 replace b6 := rD b6
                 replace b2 := sD b2
                 replace b8 := sD b8
                 replace d4 := rD d4
                 replace b9 := rD b9
                 replace a2 := bD a2
                 replace a9 := aM (FrI_drew a9.out)
                 replace HB := hD HB
                 have y4 : 0 ≤ (0 : Int) := (by omega)
                 have y5 : 0 < (a5.length : Int) := dA
                 obtain ⟨m9, Z9, m3⟩ := Kd.at_int (Kd.R_reads' b9.out).2.2 0 y4 y5
                 cases Z9
                 have qi703 : (0 < a5.length) = True := eq_true (by omega)
                 (try rw [show ((0 : Int)).toNat = 0 from rfl] at m3)
                 (try rw [Addr.add_zero'] at m3)
                 replace y4 := eq_true y4
                 replace y5 := eq_true y5
                 have y6 : 0 ≤ (1 : Int) := (by omega)
                 have y7 : 1 < (a5.length : Int) := dA
                 obtain ⟨J9, aa0, m4⟩ := Kd.at_int (Kd.R_reads' b9.out).2.2 1 y6 y7
                 obtain rfl : m9 = J9 := (by injection aa0)
                 (try simp only [show (1 : Int).toNat = 1 from rfl, Nat.reduceMul, Nat.reduceEqDiff, Go.Addr.add, ↓reduceIte] at m4)
                 have qi704 : (1 < a5.length) = True := eq_true (by omega)
                 (try rw [show ((1 : Int)).toNat = 1 from rfl] at m4)
                 replace y6 := eq_true y6
                 replace y7 := eq_true y7
                 have y8 : 0 ≤ (2 : Int) := (by omega)
                 have y9 : 2 < (a5.length : Int) := dA
                 obtain ⟨K0, aa1, m5⟩ := Kd.at_int (Kd.R_reads' b9.out).2.2 2 y8 y9
                 obtain rfl : m9 = K0 := (by injection aa1)
                 (try simp only [show (2 : Int).toNat = 2 from rfl, Nat.reduceMul, Nat.reduceEqDiff, Go.Addr.add, ↓reduceIte] at m5)
                 have qi705 : (2 < a5.length) = True := eq_true (by omega)
                 (try rw [show ((2 : Int)).toNat = 2 from rfl] at m5)
                 replace y8 := eq_true y8
                 replace y9 := eq_true y9
                 have A0 : 0 ≤ (3 : Int) := (by omega)
                 have A1 : 3 < (a5.length : Int) := dA
                 obtain ⟨K1, aa2, m6⟩ := Kd.at_int (Kd.R_reads' b9.out).2.2 3 A0 A1
                 obtain rfl : m9 = K1 := (by injection aa2)
                 (try simp only [show (3 : Int).toNat = 3 from rfl, Nat.reduceMul, Nat.reduceEqDiff, Go.Addr.add, ↓reduceIte] at m6)
                 have qi706 : (3 < a5.length) = True := eq_true (by omega)
                 (try rw [show ((3 : Int)).toNat = 3 from rfl] at m6)
                 replace A0 := eq_true A0
                 replace A1 := eq_true A1
                 refine start_ (n := 16) (S := fun w' => w'.cell? m9 = some (.int .i64 (rd a5 0)) ∧ w'.cell? ⟨m9.block, m9.off + 1, none⟩ = some (.int .i64 (rd a5 1)) ∧ w'.cell? ⟨m9.block, m9.off + 2, none⟩ = some (.int .i64 (rd a5 2)) ∧ w'.cell? ⟨m9.block, m9.off + 3, none⟩ = some (.int .i64 (rd a5 3))) (ds := []) (mB 16 0) (by kernel_rfl) rfl rfl ⟨m3, m4, m5, m6⟩ (fun hHeld => ?_); refine with_tabW impl_ExecToken.i27.tab24 impl_ExecToken.i27.bits24 (fun HT_ HW_ => ?_)
                 generalize t6.drew = ah6 at b6 b2 b8 d4 b9 a2 a9 HB m3 m4 m5 m6 hHeld ⊢
                 refine pU 0 (some 115) (mB 16 1) ?_
                 refine pU 1 (some 116) (mB 16 3) ?_
                 refine pU 3 (some 118) (mB 16 11) ?_
                 refine pU 4 (some 119) (mB 16 27) ?_
                 refine pU 6 (some 121) (mB 16 91) ?_
                 refine pU 7 (some 122) (mB 16 219) ?_
                 refine pU 9 (some 124) (mB 16 731) ?_
                 refine pU 10 (some 125) (mB 16 1755) ?_
                 refine tK 2 (some 117) (mB 16 1759) ?_
                 refine pU 12 (some 8) (mB 16 5855) ?_
                 refine tK 5 (some 120) (mB 16 5887) ?_
                 refine pU 13 (some 9) (mB 16 14079) ?_
                 refine tK 8 (some 123) (mB 16 14335) ?_
                 refine pU 14 (some 10) (mB 16 30719) ?_
                 refine tK 11 (some 126) (mB 16 32767) ?_
                 refine pU 15 (some 11) (mB 16 65535) ?_
                 refine done_ (done_of HT_.out (by kernel_rfl)) ?_
                 go_upto_region 25 with (fail)
                 go_cut [134] from 1 to 0 (fun aa3 wc => ∃ (kq : Nat) (n1 : Bool), aa3 = .bool n1 ∧ Aside0 (impl_ExecToken.j1 kq (rd a5 0) (rd a5 1) (rd a5 2) (rd a5 3) n1 true i9 k2 k4 k5 k6 j5 k7 k9 l3 l4 f8 e8 e9 d0 g2 g3 g4 g5 f3 j7 j8 j9 k0 k1 d6 e0 = some (r1, r2, r3, r4, r5, r6, r7, r8, r9, A4, A5, A6, A8, B0)) ∧ Aside0 (kq ≤ kj2) ∧ Aside0 (Kd.R (Kd.int .i64) 3 wc w.heap.size (fun k_ => (w.heap.size ≤ k_)) (.slice f5 d0.length f6) d0) ∧ Aside0 (Kd.R k90 90 wc w.heap.size (fun k_ => (w.heap.size ≤ k_)) (.slice m7 f3.length m8) f3) ∧ Aside0 (Kd.S k33 33 wc w.heap.size (fun k_ => (w.heap.size ≤ k_) ∧ some k_ ≠ ((.slice f5 d0.length f6) : Value).ownBlock ∧ some k_ ≠ ((.slice m7 f3.length m8) : Value).ownBlock) (.slice l5 d6.length l6) d6) ∧ Aside0 (Kd.S k82 82 wc w.heap.size (fun k_ => (w.heap.size ≤ k_) ∧ some k_ ≠ ((.slice m7 f3.length m8) : Value).ownBlock) (.slice l7 e0.length l8) e0) ∧ Aside0 (wc.heap[b0]? = some (.cells #[(.slice f5 d0.length f6), .int .i64 g2, .int .i64 g3, .int .i64 g4, .int .i64 g5, (.slice m7 f3.length m8), .int .i64 j7, .int .i64 j8, .int .i64 j9, .int .i64 k0, .int .i64 k1, (.slice l5 d6.length l6), (.slice l7 e0.length l8)] 37 (0, 0))) ∧ Aside0 (FrI L92 b0 [37, 46] wc) ∧ Aside0 (Below w.heap.size w wc))
                 case first =>
                  have H := y3.out
                  clear y3
                  replace H := bN H
                  obtain ⟨aa4, K2, H⟩ := H
                  by_cases B2 : aa4 = true
                  ·subst B2
                   rw [if_pos rfl] at H
                   replace H := bN H
                   obtain ⟨K3, aa5, H⟩ := H
                   have H' := aM H
                   clear H
                   go_wp2_with (first | ((with_reducible refine gC 34 ?_); refine cM (some 128) Try.func34 (impl_within.calls (rd a5 2) 0 200 _ _ K2.out) ?_; rintro e w' ⟨rfl, ⟨nd, rfl⟩⟩; refine ⟨_, rfl, ?_⟩) | (go_at_call 34; (with_reducible refine (impl_within.calls (rd a5 3) 0 200 K3 _ aa5.out).mono ?_); rintro e w' ⟨rfl, ⟨nd, rfl⟩⟩))
                   go_meet
                   case rel => exact ⟨_, (!K3), fS, H', ⟨by have := HJ2.out; first | omega | exact Nat.le_refl _⟩, ⟨by exact rT (Kd.R_mono d4.out (fun _ hk => hk.1))⟩, ⟨rS b6⟩, ⟨by exact sT (Kd.S_mono b2.out (fun _ hk => ⟨hk.1, ⟨hk.2.2.1, hk.2.1⟩⟩))⟩, ⟨sS b8⟩, ⟨kS⟩, ⟨by exact FrI_self a9.out (FrN0 a9.out)⟩, ⟨bS⟩⟩
                  ·obtain rfl := Bool.eq_false_iff.mpr B2
                   rw [if_neg nF] at H
                   have H' := aM H
                   clear H
                   go_wp2_with (first | ((with_reducible refine gC 34 ?_); refine cM (some 128) Try.func34 (impl_within.calls (rd a5 2) 0 200 _ _ K2.out) ?_; rintro e w' ⟨rfl, ⟨nd, rfl⟩⟩; refine ⟨_, rfl, ?_⟩))
                   go_meet
                   case rel => exact ⟨_, (true), fS, H', ⟨by have := HJ2.out; first | omega | exact Nat.le_refl _⟩, ⟨by exact rT (Kd.R_mono d4.out (fun _ hk => hk.1))⟩, ⟨rS b6⟩, ⟨by exact sT (Kd.S_mono b2.out (fun _ hk => ⟨hk.1, ⟨hk.2.2.1, hk.2.1⟩⟩))⟩, ⟨sS b8⟩, ⟨kS⟩, ⟨by exact FrI_self a9.out (FrN0 a9.out)⟩, ⟨bS⟩⟩
                 case rest =>
                  clear y3
                  try clear c1
                  try clear c2
                  try clear p2
                  try clear c3
                  try clear c4
                  try clear p6
                  try clear q6
                  try clear hx6
                  try clear qi6
                  try clear p7
                  try clear q7
                  try clear hx7
                  try clear qi7
                  try clear c10
                  try clear c11
                  try clear c12
                  try clear c13
                  try clear c27
                  try clear c34
                  try clear c43
                  try clear p69
                  try clear q69
                  try clear aa6
                  try clear qi69
                  try clear p70
                  try clear q70
                  try clear aa7
                  try clear qi70
                  try clear s6
                  try clear t2
                  try clear t3
                  try clear u5
                  try clear u6
                  try clear aa8
                  try clear u7
                  try clear x3
                  try clear x4
                  try clear u9
                  try clear x5
                  try clear x6
                  try clear v0
                  try clear x7
                  try clear x8
                  try clear v1
                  try clear x9
                  try clear y0
                  try clear v2
                  try clear y1
                  try clear y2
                  try clear B2
                  try clear m1
                  try clear m2
                  try clear m3
                  try clear m4
                  try clear m5
                  try clear m6
                  try clear w9
                  try clear x1
                  try clear y4
                  try clear y6
                  try clear y8
                  try clear A0
                  try clear x0
                  try clear x2
                  try clear y5
                  try clear y7
                  try clear y9
                  try clear A1
                  obtain ⟨kq, n1, rfl, HA, HJ126, a6, a3, a7, a8, a2, a9, HB⟩ := hcut
                  cases kq with
                  | zero => exact absurd HA.out (by simp [impl_ExecToken.j1])
                  | succ kj126 =>
                   have H := HA.out
                   clear HA
                   simp only [impl_ExecToken.j1] at H
                   by_cases F6 : n1 = true
                   ·subst F6
                    rw [if_pos rfl] at H
                    first | rw [if_pos rfl] at H | rw [if_pos trivial] at H
                    have H' := aM H
                    clear H
                    try go_wp2
                    (try (go_ret; (try simp only [])))
                    (try (refine ⟨_, rfl, ?_⟩))
                    have d2 := aM (FrI_get a9.out HLM623.out)
                    have d3 := aM (FrI_get a9.out HLM624.out)
                    have b1 := aM (FrI_get a9.out HLM625.out)
                    clear a9
                    try go_wp2
                    go_meet
                    case rel => exact ⟨_, (false), (d0), (g2), (g3), (g4), (g5), (f3), (j7), (j8), (j9), (k0), (k1), (d6), (e0), (.slice f5 d0.length f6), (.slice m7 f3.length m8), (.slice l5 d6.length l6), (.slice l7 e0.length l8), fS, H', ⟨by have := HJ2.out; have := HJ126.out; first | omega | exact Nat.le_refl _⟩, ⟨rS a6⟩, ⟨rS a3⟩, ⟨sS a7⟩, ⟨by exact sT (Kd.S_mono a8.out (fun _ hk => hk.1))⟩, ⟨kS⟩, ⟨kS⟩, ⟨kS⟩, ⟨kS⟩, ⟨bS⟩⟩
                   ·obtain rfl := Bool.eq_false_iff.mpr F6
                    rw [if_neg nF] at H
                    obtain ⟨g6, hy_⟩ : ∃ y_ : List (S90), y_ = (([(⟨(rd a5 0), (rd a5 1)⟩ : S90), (⟨wrap64 ((rd a5 0) + (rd a5 2)), (rd a5 1)⟩ : S90), (⟨wrap64 ((rd a5 0) + (rd a5 2)), wrap64 ((rd a5 1) + (rd a5 3))⟩ : S90), (⟨(rd a5 0), wrap64 ((rd a5 1) + (rd a5 3))⟩ : S90)] : List (S90))) := ⟨_, rfl⟩
                    replace H : (impl_ExecToken.l0 kj126 g6 (g6.length : Int) 0 true i9 k2 k4 k5 k6 j5 k7 k9 l3 l4 f8 e8 e9 d0 g2 g3 g4 g5 ([] : List (S90)) j7 j8 j9 k0 k1 d6 e0) = some (r1, r2, r3, r4, r5, r6, r7, r8, r9, A4, A5, A6, A8, B0) := yS
                    have Ny709 := aM hy_
                    clear hy_
                    have H' := aM H
                    clear H
                    have K4 := cg5 a2
                    have K5 := blk_frozen a2.out 5
                    go_wp2_with (first | ((with_reducible refine gate_dst (N := 158) rfl ?_); refine Kd.R_lit k90 _ 90 ?hg (N := 158) ?hd (xs := ([(⟨(rd a5 0), (rd a5 1)⟩ : S90), (⟨wrap64 ((rd a5 0) + (rd a5 2)), (rd a5 1)⟩ : S90), (⟨wrap64 ((rd a5 0) + (rd a5 2)), wrap64 ((rd a5 1) + (rd a5 3))⟩ : S90), (⟨(rd a5 0), wrap64 ((rd a5 1) + (rd a5 3))⟩ : S90)] : List (S90))) (inner := [.int .i64 (rd a5 0), .int .i64 (rd a5 1), .int .i64 (wrap64 ((rd a5 0) + (rd a5 2))), .int .i64 (rd a5 1), .int .i64 (wrap64 ((rd a5 0) + (rd a5 2))), .int .i64 (wrap64 ((rd a5 1) + (rd a5 3))), .int .i64 (rd a5 0), .int .i64 (wrap64 ((rd a5 1) + (rd a5 3)))]) (ok := fun _ => True) (okp := fun _ => True) ?hr ?hp (fun _ hk => hk) trivial (Below.refl _ _) (Nat.le_refl _) (by simp) ?_; (case hd => rfl); (case hg => rfl); (case hr => first | (go_simp; done) | (go_simp; rfl)); (case hp => exact (Reps.c2 (show Kd.M k90 _ _ _ (⟨(rd a5 0), (rd a5 1)⟩ : S90) [.int .i64 (rd a5 0), .int .i64 (rd a5 1)] from (k90_mkM _ _ _ (⟨(rd a5 0), (rd a5 1)⟩ : S90) )) (Reps.c2 (show Kd.M k90 _ _ _ (⟨wrap64 ((rd a5 0) + (rd a5 2)), (rd a5 1)⟩ : S90) [.int .i64 (wrap64 ((rd a5 0) + (rd a5 2))), .int .i64 (rd a5 1)] from (k90_mkM _ _ _ (⟨wrap64 ((rd a5 0) + (rd a5 2)), (rd a5 1)⟩ : S90) )) (Reps.c2 (show Kd.M k90 _ _ _ (⟨wrap64 ((rd a5 0) + (rd a5 2)), wrap64 ((rd a5 1) + (rd a5 3))⟩ : S90) [.int .i64 (wrap64 ((rd a5 0) + (rd a5 2))), .int .i64 (wrap64 ((rd a5 1) + (rd a5 3)))] from (k90_mkM _ _ _ (⟨wrap64 ((rd a5 0) + (rd a5 2)), wrap64 ((rd a5 1) + (rd a5 3))⟩ : S90) )) (Reps.c2 (show Kd.M k90 _ _ _ (⟨(rd a5 0), wrap64 ((rd a5 1) + (rd a5 3))⟩ : S90) [.int .i64 (rd a5 0), .int .i64 (wrap64 ((rd a5 1) + (rd a5 3)))] from (k90_mkM _ _ _ (⟨(rd a5 0), wrap64 ((rd a5 1) + (rd a5 3))⟩ : S90) )) (Reps.none _ _)))))); intro ai3 ai4 o1 hb hg_ hnew_; clear hg_ hnew_; (first | rw [← Ny709.out] at o1 | (simp only [Int.reduceToNat] at o1; rw [← Ny709.out] at o1)); have D3 := aM (Kd.R_lower (Kd.R_new' (Kd.R_newM (M := fun k_ => (w.heap.size ≤ k_)) o1 (below_size bS) (fun k_ h_ => h_)) (Kd.R_lt (by exact rG a3 a2))) (below_size bS)); replace a6 := aM (Kd.R_below (by exact rG a6 a2) hb); replace a3 := aM (Kd.R_elder' (by exact rG a3 a2) (Kd.R_base o1) hb); replace a7 := aM (Kd.S_elder' (by exact sG a7 a2) (Kd.R_base o1) hb); replace a8 := aM (Kd.S_elder' (by exact sG a8 a2) (Kd.R_base o1) hb); replace a2 := kO b0 #[.slice f5 d0.length f6, .int .i64 g2, .int .i64 g3, .int .i64 g4, .int .i64 g5, .slice none 0 0, .int .i64 j7, .int .i64 j8, .int .i64 j9, .int .i64 k0, .int .i64 k1, .slice l5 d6.length l6, .slice l7 e0.length l8] 37 hb; replace a9 := aM (FrI_belowS hb a9.out (FrN0 a9.out)); replace HB := hB hb; clear hb o1; obtain ⟨t8, m0, K6⟩ := Kd.R_slice D3.out; subst K6))
                    go_loopg [160] kj126 (fun kq aa9 w' => ∃ (e5 : Int) (i8 : List (S90)) (d1 : Value), aa9 = .int .i64 e5 ∧ Aside0 (impl_ExecToken.l0 kq g6 (g6.length : Int) e5 true i9 k2 k4 k5 k6 j5 k7 k9 l3 l4 f8 e8 e9 d0 g2 g3 g4 g5 i8 j7 j8 j9 k0 k1 d6 e0 = some (r1, r2, r3, r4, r5, r6, r7, r8, r9, A4, A5, A6, A8, B0)) ∧ Aside0 (kq ≤ kj126) ∧ Aside0 (Kd.R k90 90 w' w.heap.size (fun k_ => (w.heap.size ≤ k_) ∧ some k_ ≠ (d1 : Value).ownBlock) (.slice t8 g6.length m0) g6) ∧ Aside0 (Kd.R (Kd.int .i64) 3 w' w.heap.size (fun k_ => (w.heap.size ≤ k_)) (.slice f5 d0.length f6) d0) ∧ Aside0 (Kd.R k90 90 w' w.heap.size (fun k_ => (w.heap.size ≤ k_) ∧ some k_ ≠ ((.slice t8 g6.length m0) : Value).ownBlock) d1 i8) ∧ Aside0 (Kd.S k33 33 w' w.heap.size (fun k_ => (w.heap.size ≤ k_) ∧ some k_ ≠ ((.slice t8 g6.length m0) : Value).ownBlock ∧ some k_ ≠ ((.slice f5 d0.length f6) : Value).ownBlock ∧ some k_ ≠ (d1 : Value).ownBlock) (.slice l5 d6.length l6) d6) ∧ Aside0 (Kd.S k82 82 w' w.heap.size (fun k_ => (w.heap.size ≤ k_) ∧ some k_ ≠ ((.slice t8 g6.length m0) : Value).ownBlock ∧ some k_ ≠ (d1 : Value).ownBlock) (.slice l7 e0.length l8) e0) ∧ Aside0 (w'.heap[b0]? = some (.cells #[(.slice f5 d0.length f6), .int .i64 g2, .int .i64 g3, .int .i64 g4, .int .i64 g5, d1, .int .i64 j7, .int .i64 j8, .int .i64 j9, .int .i64 k0, .int .i64 k1, (.slice l5 d6.length l6), (.slice l7 e0.length l8)] 37 (0, 0))) ∧ Aside0 (FrI L92 b0 [37, 46] w') ∧ Aside0 (Below w.heap.size w w'))
                    case atStart => exact ⟨(0), (([] : List (S90))), (.slice none 0 0), fS, H', ⟨Nat.le_refl _⟩, ⟨by exact rT (Kd.R_mono D3.out (fun _ hk => ⟨hk.1.1, (by simp [Value.ownBlock])⟩))⟩, ⟨rS a6⟩, ⟨by first | exact Kd.R_nil _ _ _ _ _ | exact Kd.N_nil _ _ _ _ _ | exact Kd.V_nil _ _ _ _ _ | exact Kd.Q_nil _ _ _ _ _ | exact Kd.S_nil _ _ _ _ _⟩, ⟨by exact sT (Kd.S_mono a7.out (fun _ hk => ⟨hk.1.1, ⟨hk.2, ⟨hk.1.2.1, (by simp [Value.ownBlock])⟩⟩⟩))⟩, ⟨by exact sT (Kd.S_mono a8.out (fun _ hk => ⟨hk.1.1, ⟨hk.2, (by simp [Value.ownBlock])⟩⟩))⟩, ⟨kS⟩, ⟨by exact FrI_self a9.out (FrN0 a9.out)⟩, ⟨bS⟩⟩
                    case round =>
                     clear H'
                     try clear c1
                     try clear c2
                     try clear p2
                     try clear c3
                     try clear c4
                     try clear p6
                     try clear q6
                     try clear hx6
                     try clear qi6
                     try clear p7
                     try clear q7
                     try clear hx7
                     try clear qi7
                     try clear c10
                     try clear c11
                     try clear c12
                     try clear c13
                     try clear c27
                     try clear c34
                     try clear c43
                     try clear p64
                     try clear p69
                     try clear q69
                     try clear aa6
                     try clear qi69
                     try clear p70
                     try clear q70
                     try clear aa7
                     try clear qi70
                     try clear s6
                     try clear t2
                     try clear t3
                     try clear u5
                     try clear u6
                     try clear aa8
                     try clear u7
                     try clear x3
                     try clear x4
                     try clear u9
                     try clear x5
                     try clear x6
                     try clear v0
                     try clear x7
                     try clear x8
                     try clear v1
                     try clear x9
                     try clear y0
                     try clear v2
                     try clear y1
                     try clear y2
                     try clear B2
                     try clear F6
                     try clear m1
                     try clear m2
                     try clear m3
                     try clear m4
                     try clear m5
                     try clear m6
                     try clear p2
                     try clear p6
                     try clear p69
                     try clear w9
                     try clear x1
                     try clear p7
                     try clear p70
                     try clear y4
                     try clear y6
                     try clear y8
                     try clear A0
                     try clear q6
                     try clear q69
                     try clear x0
                     try clear x2
                     try clear q7
                     try clear q70
                     try clear y5
                     try clear y7
                     try clear y9
                     try clear A1
                     obtain ⟨e5, i8, d1, rfl, HA, HK3, f7, a6, a3, a7, a8, a2, a9, HB⟩ := hrel
                     cases gk with
                     | zero => exact absurd HA.out (by simp [impl_ExecToken.l0])
                     | succ k3 =>
                      have H := HA.out
                      clear HA
                      simp only [impl_ExecToken.l0] at H
                      rcases iD H with ⟨F7, H⟩ | ⟨F7, H⟩
                      ·obtain ⟨ab1, H⟩ := iT H
                       obtain ⟨ab2, H⟩ := iT H
                       replace H := bN H
                       obtain ⟨⟨A2, A3⟩, ab3, H⟩ := H
                       obtain ⟨LMc142, H⟩ := iL H
                       obtain ⟨F8, hy_⟩ : ∃ y_ : List (S90), y_ = (i8 ++ [(⟨A2, A3⟩ : S90)]) := ⟨_, rfl⟩
                       replace H : (impl_ExecToken.l0 k3 g6 (g6.length : Int) (wrap64 (e5 + 1)) true i9 k2 k4 k5 k6 j5 k7 k9 l3 l4 f8 e8 e9 d0 g2 g3 g4 g5 F8 j7 j8 j9 k0 k1 d6 e0) = some (r1, r2, r3, r4, r5, r6, r7, r8, r9, A4, A5, A6, A8, B0) := yS
                       have Ny716 := aM hy_
                       clear hy_
                       have H' := aM H
                       clear H
                       have F9 : 0 ≤ (e5 : Int) := dA
                       have G0 : e5 < (g6.length : Int) := dA
                       obtain ⟨o8, ab4, V8, V9⟩ := at_T90 (Kd.R_reads' f7.out).2.2 e5 F9 G0
                       cases ab4
                       replace F9 := eq_true F9
                       replace G0 := eq_true G0
                       try go_wp2_with (first | ((with_reducible refine gD 13 ?_); refine bxE #[.int .i64 0, .int .i64 0] 90 ?_; intro d5 hg ab5 g7 hb; have GE713 := gE hg; have s0 := nL_ b0 hg; have s1 := nG_ b0 hg; replace f7 := aM (Kd.R_below (Kd.R_elderB (rS f7) d5 (Nat.le_of_eq hg.symm)) hb); replace a6 := rB a6 hb; replace a3 := aM (Kd.R_below (Kd.R_elderB (rS a3) d5 (Nat.le_of_eq hg.symm)) hb); replace a7 := aM (Kd.S_below (Kd.S_elderB (sS a7) d5 (Nat.le_of_eq hg.symm)) hb); replace a8 := aM (Kd.S_below (Kd.S_elderB (sS a8) d5 (Nat.le_of_eq hg.symm)) hb); replace a2 := kB_ b0 hb; replace a9 := aM (FrI_belowS hb a9.out (FrN0 a9.out)); replace HB := hB hb; clear hb hg; have hnb144 := nP s1 s0; have hz145 := cz2 g7))
                       obtain ⟨o9, hw_⟩ : ∃ w_ : World, w_ = ((ab5.setCell ⟨d5, 0, none⟩ (.int .i64 ((rd_T90 g6 e5).f0))).setCell ⟨d5, 1, none⟩ (.int .i64 ((rd_T90 g6 e5).f1))) := ⟨_, rfl⟩
                       have n0_ : Aside0 (Kd.R k90 90 o9 w.heap.size (fun k_ => (w.heap.size ≤ k_) ∧ some k_ ≠ (d1 : Value).ownBlock ∧ k_ ≠ d5) (.slice (some o8) g6.length m0) g6) := ⟨by rw [hw_]; exact (by exact Kd.R_mono (R_on (g := d5) (Kd.R_mono f7.out (fun k_ hk => (⟨hk, hk.2⟩ : _ ∧ k_ ≠ d5))) (fun _ hk => hk.2)) (fun _ hk => ⟨hk.1.1.1, ⟨hk.1.1.2, hk.1.2⟩⟩))⟩
                       have n1_ : Aside0 (Kd.R (Kd.int .i64) 3 o9 w.heap.size (fun k_ => (w.heap.size ≤ k_)) (.slice f5 d0.length f6) d0) := ⟨by rw [hw_]; exact (by exact Kd.R_mono (R_on (g := d5) (Kd.R_types a6.out g7.out (by decide)) (fun _ hk => hk.2)) (fun _ hk => hk.1))⟩
                       have n2_ : Aside0 (Kd.R k90 90 o9 w.heap.size (fun k_ => (w.heap.size ≤ k_) ∧ some k_ ≠ (.slice (some o8) g6.length m0 : Value).ownBlock ∧ k_ ≠ d5) d1 i8) := ⟨by rw [hw_]; exact (by exact Kd.R_mono (R_on (g := d5) (Kd.R_mono a3.out (fun k_ hk => (⟨hk, hk.2⟩ : _ ∧ k_ ≠ d5))) (fun _ hk => hk.2)) (fun _ hk => ⟨hk.1.1.1, ⟨hk.1.1.2, hk.1.2⟩⟩))⟩
                       have n3_ : Aside0 (Kd.S k33 33 o9 w.heap.size (fun k_ => (w.heap.size ≤ k_) ∧ some k_ ≠ (.slice (some o8) g6.length m0 : Value).ownBlock ∧ some k_ ≠ (.slice f5 d0.length f6 : Value).ownBlock ∧ some k_ ≠ (d1 : Value).ownBlock ∧ k_ ≠ d5) (.slice l5 d6.length l6) d6) := ⟨by rw [hw_]; exact (by exact Kd.S_mono (S_on (g := d5) (Kd.S_mono a7.out (fun k_ hk => (⟨hk, hk.2⟩ : _ ∧ k_ ≠ d5))) (fun _ hk => hk.2)) (fun _ hk => ⟨hk.1.1.1, ⟨hk.1.1.2.1, ⟨hk.1.1.2.2.1, ⟨hk.1.1.2.2.2, hk.1.2⟩⟩⟩⟩))⟩
                       have n4_ : Aside0 (Kd.S k82 82 o9 w.heap.size (fun k_ => (w.heap.size ≤ k_) ∧ some k_ ≠ (.slice (some o8) g6.length m0 : Value).ownBlock ∧ some k_ ≠ (d1 : Value).ownBlock ∧ k_ ≠ d5) (.slice l7 e0.length l8) e0) := ⟨by rw [hw_]; exact (by exact Kd.S_mono (S_on (g := d5) (Kd.S_mono a8.out (fun k_ hk => (⟨hk, hk.2⟩ : _ ∧ k_ ≠ d5))) (fun _ hk => hk.2)) (fun _ hk => ⟨hk.1.1.1, ⟨hk.1.1.2.1, ⟨hk.1.1.2.2, hk.1.2⟩⟩⟩))⟩
                       have n5_ : Aside0 (o9.heap[b0]? = some (.cells #[.slice f5 d0.length f6, .int .i64 g2, .int .i64 g3, .int .i64 g4, .int .i64 g5, d1, .int .i64 j7, .int .i64 j8, .int .i64 j9, .int .i64 k0, .int .i64 k1, .slice l5 d6.length l6, .slice l7 e0.length l8] 37 (0, 0))) := ⟨by rw [hw_]; exact kS⟩
                       have n6_ : Aside0 (o9.heap[d5]? = some (.cells #[.int .i64 ((rd_T90 g6 e5).f0), .int .i64 ((rd_T90 g6 e5).f1)] 90 (0, 0))) := ⟨by rw [hw_]; exact kS⟩
                       have n7_ : Aside0 (FrI L92 b0 [37, 46] o9) := ⟨by rw [hw_]; exact (by exact FrI_self a9.out (FrN1 a9.out (FrN0 a9.out) g7.out (by decide)))⟩
                       have n8_ : Aside0 (Below w.heap.size w o9) := ⟨by rw [hw_]; exact bS⟩
                       rw [← hw_]
                       clear hw_ f7 a6 a3 a7 a8 a2 g7 a9 HB
                       have f7 := n0_
                       have a6 := n1_
                       have a3 := n2_
                       have a7 := n3_
                       have a8 := n4_
                       have a2 := n5_
                       have g7 := n6_
                       have a9 := n7_
                       have HB := n8_
                       clear n0_ n1_ n2_ n3_ n4_ n5_ n6_ n7_ n8_
                       replace f7 := rD f7
                       replace a6 := rD a6
                       replace a3 := rD a3
                       replace a7 := sD a7
                       replace a8 := sD a8
                       replace a2 := bD a2
                       replace g7 := bD g7
                       replace a9 := aM (FrI_drew a9.out)
                       replace HB := hD HB
                       refine start_ (n := 16) (S := fun w' => w'.cell? ⟨b0, 1, none⟩ = some (.int .i64 g2) ∧ w'.cell? ⟨b0, 2, none⟩ = some (.int .i64 g3) ∧ w'.cell? ⟨b0, 3, none⟩ = some (.int .i64 g4) ∧ w'.cell? ⟨b0, 4, none⟩ = some (.int .i64 g5) ∧ w'.cell? ⟨b0, 5, none⟩ = some (d1) ∧ w'.cell? ⟨d5, 0, none⟩ = some (.int .i64 ((rd_T90 g6 e5).f0)) ∧ w'.cell? ⟨d5, 1, none⟩ = some (.int .i64 ((rd_T90 g6 e5).f1))) (ds := [15]) (mB 16 0) (by kernel_rfl) rfl rfl ⟨(blk_cell a2.out 1).trans rfl, ⟨(blk_cell a2.out 2).trans rfl, ⟨(blk_cell a2.out 3).trans rfl, ⟨(blk_cell a2.out 4).trans rfl, ⟨(blk_cell a2.out 5).trans rfl, cy2 g7⟩⟩⟩⟩⟩ (fun hHeld => ?_); refine with_tabW impl_ExecToken.i27.tab31 impl_ExecToken.i27.bits31 (fun HT_ HW_ => ?_)
                       generalize o9.drew = ai5 at f7 a6 a3 a7 a8 a2 g7 a9 HB hHeld ⊢
                       refine pU 0 (some 164) (mB 16 1) ?_
                       refine pU 1 (some 165) (mB 16 3) ?_
                       refine pU 2 (some 166) (mB 16 7) ?_
                       refine pU 3 (some 167) (mB 16 15) ?_
                       refine pU 5 (some 169) (mB 16 47) ?_
                       refine pU 6 (some 170) (mB 16 111) ?_
                       refine pU 7 (some 171) (mB 16 239) ?_
                       refine tK 4 (some 168) (mB 16 255) ?_
                       refine tK 8 (some 172) (mB 16 511) ?_
                       refine tK 9 (some 173) (mB 16 1023) ?_
                       refine one_ (i := 10) (N := some 174) (mB 16 2047) rfl rfl (one_of HT_.out (by kernel_rfl)) (by decide) (fun K hK => ?_)
                       refine goes_ Try.func43 (by kernel_rfl) rfl #[.agg #[.int .i64 g2, .int .i64 g3, .int .i64 g4, .int .i64 g5], .agg #[.int .i64 ((rd_T90 g6 e5).f0), .int .i64 ((rd_T90 g6 e5).f1)]] (by rfl) rfl rfl mA ?_
                       with_reducible refine (impl_moved.calls k3 g2 g3 g4 g5 ((rd_T90 g6 e5).f0) ((rd_T90 g6 e5).f1) A2 A3 _ ab3.out).mono ?_
                       rintro e ai6 ⟨rfl, hb⟩
                       refine ⟨_, rfl, ?_⟩
                       replace f7 := rB f7 hb
                       replace a6 := rB a6 hb
                       replace a3 := rB a3 hb
                       replace a7 := sB a7 hb
                       replace a8 := sB a8 hb
                       replace a2 := kB_ b0 hb
                       replace a9 := aM (FrI_belowS hb a9.out (FrN1 a9.out (FrN0 a9.out) g7.out (by decide)))
                       replace g7 := kB_ d5 hb
                       replace HB := hB hb
                       (try clear hb)
                       (try clear hb2)
                       (try clear hk)
                       (try clear hi)
                       refine hK.out _ _ ⟨(blk_cell a2.out 1).trans rfl, ⟨(blk_cell a2.out 2).trans rfl, ⟨(blk_cell a2.out 3).trans rfl, ⟨(blk_cell a2.out 4).trans rfl, ⟨(blk_cell a2.out 5).trans rfl, cy2 g7⟩⟩⟩⟩⟩ (fun hHeld => ?_)
                       clear hK K
                       refine norm_ (a' := ?_) ?_ ?_
                       rotate_left
                       ·show Act.put _ (some 174) _ = _
                        simp only [Act.put, List.setIfInBounds_toArray, List.set_cons_zero, List.set_cons_succ, i64_w, i32_w]
                        rfl
                       refine one_ (i := 11) (N := some 175) (mB 16 4095) rfl rfl (one_of HT_.out (by kernel_rfl)) (by decide) (fun K hK => ?_)
                       refine value_ (w1 := ?_) (v := ?_) (by rfl) rfl ?_ ?_
                       rotate_left 2
                       ·go_simp
                        constructor
                        ·rfl
                        ·rfl
                       refine hK.out _ _ ⟨(blk_cell (blk_alloc a2.out _) 1).trans rfl, (blk_cell (blk_alloc a2.out _) 2).trans rfl, (blk_cell (blk_alloc a2.out _) 3).trans rfl, (blk_cell (blk_alloc a2.out _) 4).trans rfl, (blk_cell (blk_alloc a2.out _) 5).trans rfl, (blk_cell (blk_alloc g7.out _) 0).trans rfl, (blk_cell (blk_alloc g7.out _) 1).trans rfl⟩ (fun hHeld => ?_)
                       clear hK K
                       refine norm_ (a' := ?_) ?_ ?_
                       rotate_left
                       ·show Act.put _ (some 175) _ = _
                        simp only [Act.put, List.setIfInBounds_toArray, List.set_cons_zero, List.set_cons_succ, i64_w, i32_w]
                        rfl
                       refine one_ (i := 12) (N := some 176) (mB 16 8191) rfl rfl (one_of HT_.out (by kernel_rfl)) (by decide) (fun K hK => ?_)
                       refine Kd.R_append_step k90 (w0 := w) w.heap.size (by rfl) (.tmp 168) (.tmp 175) 29 90 (.agg #[(.int .i64 0), (.int .i64 0)]) 16 rfl Try.underlying29 info90 rfl (by decide) (by omega) d1 i8 (⟨A2, A3⟩ : S90) [.int .i64 A2, .int .i64 A3] (fun k_ => (w.heap.size ≤ k_) ∧ some k_ ≠ (.slice (some o8) g6.length m0 : Value).ownBlock ∧ k_ ≠ d5) (fun _ => False) rfl rfl ?aP (fun _ hk => hk.elim) ?aF ?aO ?aB ?aS ?aL ?_
                       (case aP => exact k90_mkM _ _ _ (⟨A2, A3⟩ : S90))
                       (case aB => exact bS)
                       (case aF => exact (fun k_ hk => ⟨(Nat.le_trans (below_size bS) hk), Kd.fresh' (Kd.R_lt (rS f7)) k_ hk, Kd.freshB (g := d5) kS k_ hk⟩))
                       (case aO => exact (rS a3))
                       (case aS => exact (below_size bS))
                       (case aL => have := LMc142.out; (try dsimp only at this); omega)
                       intro ai7 ai8 ho hb hg hat
                       rw [← Ny716.out] at ho
                       have D4 := aM (ho)
                       replace f7 := aM (Kd.R_after (ok := (fun k_ => (w.heap.size ≤ k_) ∧ k_ ≠ d5)) (by exact rM f7) hg hat)
                       replace a6 := aM (Kd.R_over' (rS a6) (Kd.R_typed (rS a3)) (by decide) hg)
                       replace a7 := aM (Kd.S_after (ok := (fun k_ => (w.heap.size ≤ k_) ∧ some k_ ≠ (.slice (some o8) g6.length m0 : Value).ownBlock ∧ some k_ ≠ (.slice f5 d0.length f6 : Value).ownBlock ∧ k_ ≠ d5)) (by exact sM a7) hg hat)
                       replace a8 := aM (Kd.S_after (ok := (fun k_ => (w.heap.size ≤ k_) ∧ some k_ ≠ (.slice (some o8) g6.length m0 : Value).ownBlock ∧ k_ ≠ d5)) (by exact sM a8) hg hat)
                       replace a2 := aM (blk_grown (g := b0) kS hg (Kd.R_ne a3.out a2.out (by decide)))
                       replace a9 := aM (FrI_grownS hg (Kd.R_typed (rS a3)) (by decide) a9.out (FrN1 a9.out (FrN0 a9.out) g7.out (by decide)))
                       replace g7 := aM (blk_grown (g := d5) kS hg (Kd.R_away a3.out (fun _ hk => hk.2.2)))
                       replace HB := aM (hb)
                       clear a3
                       clear ho hb hg hat
                       obtain ⟨K7, K8, D5⟩ := Kd.R_slice D4.out
                       (first | subst D5 | obtain ⟨rfl, rfl⟩ := slE D5)
                       refine hK.out _ _ ⟨(blk_cell a2.out 1).trans rfl, ⟨(blk_cell a2.out 2).trans rfl, ⟨(blk_cell a2.out 3).trans rfl, ⟨(blk_cell a2.out 4).trans rfl, ⟨(blk_cell a2.out 5).trans rfl, cy2 g7⟩⟩⟩⟩⟩ (fun hHeld => ?_)
                       clear hK K
                       refine norm_ (a' := ?_) ?_ ?_
                       rotate_left
                       ·show Act.put _ (some 176) _ = _
                        simp only [Act.put, List.setIfInBounds_toArray, List.set_cons_zero, List.set_cons_succ, i64_w, i32_w]
                        rfl
                       refine pU 13 (some 177) (mB 16 16383) ?_
                       refine pU 14 (some 178) (mB 16 32767) ?_
                       refine last_ (i := 15) (N := none) (mB 16 65535) rfl rfl (one_of HT_.out (by kernel_rfl)) (by decide) (fun K hK => ?_)
                       have hs151 := cg5 a2
                       have hfs151 := blk_frozen a2.out 5
                       have hns151_1 := nP s1 s0
                       refine skip_ (w1 := ?_) (by rfl) rfl ?_ ?_
                       rotate_left
                       ·go_simp
                        rfl
                       refine hK.out _ _ ?_
                       clear hK K
                       refine done_ (done_of HT_.out (by kernel_rfl)) ?_
                       try go_wp2
                       go_roundg k3
                       case measure => have := HJ2.out; have := HJ126.out; have := HK3.out; omega
                       case rel => exact ⟨(wrap64 (e5 + 1)), (F8), (.slice K7 F8.length K8), fS, H', ⟨by have := HJ2.out; have := HJ126.out; have := HK3.out; omega⟩, ⟨rW [b0] f7 a2⟩, ⟨rW [b0] a6 a2⟩, ⟨rW [b0] D4 a2⟩, ⟨sW [b0] a7 a2⟩, ⟨sW [b0] a8 a2⟩, ⟨kS⟩, ⟨by exact FrI_self a9.out (FrN1 a9.out (FrN0 a9.out) g7.out (by decide))⟩, ⟨bS⟩⟩
                      ·first | rw [if_pos rfl] at H | rw [if_pos trivial] at H
                       have H' := aM H
                       clear H
                       try go_wp2
                       (try (go_ret; (try simp only [])))
                       (try (refine ⟨_, rfl, ?_⟩))
                       have d2 := aM (FrI_get a9.out HLM623.out)
                       have d3 := aM (FrI_get a9.out HLM624.out)
                       have b1 := aM (FrI_get a9.out HLM625.out)
                       clear a9
                       try go_wp2
                       go_meet
                       case rel => exact ⟨_, (true), (d0), (g2), (g3), (g4), (g5), (i8), (j7), (j8), (j9), (k0), (k1), (d6), (e0), (.slice f5 d0.length f6), (d1), (.slice l5 d6.length l6), (.slice l7 e0.length l8), fS, H', ⟨by have := HJ2.out; have := HJ126.out; have := HK3.out; first | omega | exact Nat.le_refl _⟩, ⟨rS a6⟩, ⟨by exact rT (Kd.R_mono a3.out (fun _ hk => hk.1))⟩, ⟨by exact sT (Kd.S_mono a7.out (fun _ hk => ⟨hk.1, ⟨hk.2.2.1, hk.2.2.2⟩⟩))⟩, ⟨by exact sT (Kd.S_mono a8.out (fun _ hk => hk.1))⟩, ⟨kS⟩, ⟨kS⟩, ⟨kS⟩, ⟨kS⟩, ⟨bS⟩⟩
                ·rw [if_neg v2] at H
                 exact absurd H (by simp)
               ·rw [if_neg v1] at H
                exact absurd H (by simp)
              ·rw [if_neg v0] at H
               exact absurd H (by simp)
             ·rw [if_neg u9] at H
              exact absurd H (by simp)
            ·exact absurd hA_.out (by simp only [List.mem_cons, List.not_mem_nil, or_false, not_or]; exact ⟨G1, G2, s6, u7⟩)
        ·obtain rfl := Bool.eq_false_iff.mpr Y5
         rw [if_neg nF] at H
         have H' := aM H
         clear H
         have hnb270 := nP e2 e1
         have hnb271 := nP e3 e4
         have hnb272 := nP g0 h1
         have hz273 := cz2 d3
         go_wp2_with (first | ((with_reducible refine gC 24 ?_); refine cM (some 49) Try.func24 (impl_IsStackOp.calls j6 _ _ U5.out) ?_; rintro e w' ⟨rfl, ⟨nd, rfl⟩⟩; refine ⟨_, rfl, ?_⟩; have hnb274 := nP h0 f9; have hnb275 := nP h2 g1; have K9 := cg0 a2; have L0 := blk_frozen a2.out 0) | ((with_reducible refine gC 26 ?_); refine cL (some 68) Try.func26 #[.slice s5 l9.length o7, .int .i64 v8] ?_; (with_reducible refine (impl_TakeNumbers.calls kj2 _ _ l9 v8 d0 a5 _ _ ?side1 ?side2 A77.out).mono ?_); (case side1 => refine (Kd.R_reads' (e := 3) (base := w.heap.size) (ok := fun k_ => ((w.heap.size ≤ k_) ∧ True)) (n := l9.length) (c := o7) ?_).2.2; exact (by exact rG e7 a2)); (case side2 => exact (Kd.R_reads' e7.out).2.1); rintro e ai9 ⟨Y6, s9, rfl, n0, n8, hb⟩; refine ⟨_, rfl, ?_⟩; have d4 := aM (Kd.R_lower (Kd.R_new' (Kd.R_newM (M := fun k_ => (w.heap.size ≤ k_)) n0 (below_size bS) (fun k_ h_ => h_)) (Kd.R_lt (by exact rG e7 a2))) (below_size bS)); have b9 := aM (Kd.R_lower (Kd.R_new' (Kd.R_newM (M := fun k_ => (w.heap.size ≤ k_)) n8 (below_size bS) (fun k_ h_ => h_)) (Kd.R_lt (by exact rG e7 a2))) (below_size bS)); replace e7 := aM (Kd.R_mono (Kd.R_told (Kd.R_told (Kd.R_old (by exact rG e7 a2) hb) (Kd.R_base n0)) (Kd.R_base n8)) (fun _ h_ => h_.1)); replace b6 := aM (Kd.R_below (by exact rG b6 a2) hb); replace b2 := aM (Kd.S_mono (Kd.S_told (Kd.S_told (Kd.S_old (by exact sG b2 a2) hb) (Kd.R_base n0)) (Kd.R_base n8)) (fun _ h_ => h_.1)); replace b8 := aM (Kd.S_below (by exact sG b8 a2) hb); replace d2 := kB_ e6 hb; replace d3 := kB_ f4 hb; replace b1 := kB_ b7 hb; replace a2 := kB_ b0 hb; replace HB := hB hb; (try clear hb hk n0 n8); obtain ⟨L1, L2, L6⟩ := Kd.R_slice d4.out; subst L6; have L8 := cg0 a2; have L9 := blk_frozen a2.out 0))
         go_meet
         case rel => exact ⟨_, (false), (d0), (g2), (g3), (g4), (g5), (f3), (j7), (j8), (j9), (k0), (k1), (d6), (e0), (.slice L1 d0.length L2), (.slice m7 f3.length m8), (.slice l5 d6.length l6), (.slice l7 e0.length l8), fS, H', ⟨by have := HJ2.out; first | omega | exact Nat.le_refl _⟩, ⟨rW [b0] d4 a2⟩, ⟨rW [b0] b6 a2⟩, ⟨sW [b0] b2 a2⟩, ⟨sW [b0] b8 a2⟩, ⟨kS⟩, ⟨kS⟩, ⟨kS⟩, ⟨kS⟩, ⟨bS⟩⟩
       ·obtain rfl := Bool.eq_false_iff.mpr Y3
        rw [if_neg nF] at H
        have H' := aM H
        clear H
        have hnb280 := nP e2 e1
        have hnb281 := nP e3 e4
        have hnb282 := nP g0 h1
        have hz283 := cz2 d3
        go_wp2_with (first | ((with_reducible refine gC 24 ?_); refine cM (some 49) Try.func24 (impl_IsStackOp.calls j6 _ _ U5.out) ?_; rintro e w' ⟨rfl, ⟨nd, rfl⟩⟩; refine ⟨_, rfl, ?_⟩))
        go_meet
        case rel => exact ⟨_, (false), (l9), (g2), (g3), (g4), (g5), (f3), (j7), (j8), (j9), (k0), (k1), (d6), (e0), (.slice s5 l9.length o7), (.slice m7 f3.length m8), (.slice l5 d6.length l6), (.slice l7 e0.length l8), fS, H', ⟨by have := HJ2.out; first | omega | exact Nat.le_refl _⟩, ⟨rW [b0] e7 a2⟩, ⟨rW [b0] b6 a2⟩, ⟨sW [b0] b2 a2⟩, ⟨sW [b0] b8 a2⟩, ⟨kS⟩, ⟨kS⟩, ⟨kS⟩, ⟨kS⟩, ⟨bS⟩⟩
    case rest =>
     clear E4
     try clear c2
     try clear p2
     try clear c4
     try clear c7
     try clear c24
     try clear c25
     try clear c26
     try clear c27
     try clear c28
     try clear c47
     try clear Y3
     try clear Y5
     try clear aj0
     try clear aj1
     try clear aj2
     try clear aj3
     try clear aj6
     try clear aj7
     try clear aj8
     try clear aj9
     try clear ak0
     try clear ak1
     try clear ak2
     try clear ak3
     obtain ⟨kq, t5, h3, h4, h5, h6, h7, h8, h9, i1, i3, i4, i5, i6, i7, o4, d1, s2, s3, rfl, HA, HJ34, a6, a3, a7, a8, d2, d3, b1, a2, HB⟩ := hcut
     cases kq with
     | zero => exact absurd HA.out (by simp [impl_ExecToken.j4])
     | succ kj34 =>
      have H := HA.out
      clear HA
      simp only [impl_ExecToken.j4] at H
      by_cases M1 : t5 = true
      ·subst M1
       rw [if_pos rfl] at H
       replace H := bN H
       obtain ⟨ab6, M3, H⟩ := H
       by_cases M4 : ab6 = true
       ·subst M4
        rw [if_pos rfl] at H
        simp only [Option.some.injEq, Prod.mk.injEq] at H
        obtain ⟨rfl, rfl, rfl, rfl, rfl, rfl, rfl, rfl, rfl, rfl, rfl, rfl, rfl, rfl⟩ := H
        have hnb287 := nP h0 f9
        have hnb288 := nP h1 g0
        have hnb289 := nP h2 g1
        have hz290 := cz13 a2
        obtain ⟨M5, M6, M7⟩ := Kd.R_slice a6.out
        subst M7
        obtain ⟨M8, M9, N1⟩ := Kd.R_slice a3.out
        subst N1
        obtain ⟨N2, N3, N4⟩ := Kd.S_slice a7.out
        subst N4
        obtain ⟨N5, N6, N7⟩ := Kd.S_slice a8.out
        subst N7
        go_wp2_with (first | (go_at_call 19; (with_reducible refine (impl_PageOk.calls kj34 _ _ h3 h4 h5 h6 h7 _ _ h8 h9 i1 i3 i4 i5 _ _ i6 _ _ i7 _ _ (cS (Kd.R_reads' a6.out).2.2) ((Kd.R_reads' a6.out).2.1) (cS (Kd.R_reads' a3.out).2.2) ((Kd.R_reads' a3.out).2.1) (cS (Kd.S_reads' a7.out).2.2) ((Kd.S_reads' a7.out).2.1) (cS (Kd.S_reads' a8.out).2.2) ((Kd.S_reads' a8.out).2.1) M3.out).mono ?_); rintro e ak4 ⟨rfl, hb⟩; replace a6 := rB a6 hb; replace a3 := rB a3 hb; replace a7 := sB a7 hb; replace a8 := sB a8 hb; replace d2 := kB_ e6 hb; replace d3 := kB_ f4 hb; replace b1 := kB_ b7 hb; replace a2 := kB_ b0 hb; replace HB := hB hb; (try clear hb); have hz296 := cz13 a2; have hnb297 := nP g9 g8; have hnb298 := nP e4 e3; have hz299 := cz13 b1))
        refine bodyPost_ret (results_ct rfl _ _ b7 37 #[.slice M5 h3.length M6, .int .i64 h4, .int .i64 h5, .int .i64 h6, .int .i64 h7, .slice M8 h8.length M9, .int .i64 h9, .int .i64 i1, .int .i64 i3, .int .i64 i4, .int .i64 i5, .slice N2 i6.length N3, .slice N5 i7.length N6] (0, 0) _ rfl kS Try.underlying37 rfl (by kernel_rfl)) rfl ?_
        exact ⟨_, _, _, _, eS, Kd.R_V (by exact Kd.R_mono (R_on (g := b7) (Kd.R_types a6.out b1.out (by decide)) (fun _ hk => hk.2)) (fun _ hk => hk.1)), Kd.R_V (by exact Kd.R_mono (R_on (g := b7) (Kd.R_types a3.out b1.out (by decide)) (fun _ hk => hk.2)) (fun _ hk => hk.1)), Kd.S_V (by exact Kd.S_mono (S_on (g := b7) (Kd.S_types a7.out b1.out (by decide)) (fun _ hk => hk.2)) (fun _ hk => hk.1.1)), Kd.S_V (by exact Kd.S_mono (S_on (g := b7) (Kd.S_types a8.out b1.out (by decide)) (fun _ hk => hk.2)) (fun _ hk => hk.1)), bS⟩
       ·obtain rfl := Bool.eq_false_iff.mpr M4
        rw [if_neg nF] at H
        replace H := bN H
        obtain ⟨⟨N8, N9, O0, O1, O2, O3, O4, O5, O6, O7, O8, O9, P0⟩, ab7, H⟩ := H
        simp only [Option.some.injEq, Prod.mk.injEq] at H
        obtain ⟨rfl, rfl, rfl, rfl, rfl, rfl, rfl, rfl, rfl, rfl, rfl, rfl, rfl, rfl⟩ := H
        have hnb301 := nP h0 f9
        have hnb302 := nP h1 g0
        have hnb303 := nP h2 g1
        have hz304 := cz13 a2
        obtain ⟨ae1, ae2, P1⟩ := Kd.R_slice a6.out
        subst P1
        obtain ⟨ae3, ae4, P2⟩ := Kd.R_slice a3.out
        subst P2
        obtain ⟨ae5, ae6, P3⟩ := Kd.S_slice a7.out
        subst P3
        obtain ⟨ae7, ae8, P4⟩ := Kd.S_slice a8.out
        subst P4
        go_wp2_with (first | (go_at_call 19; (with_reducible refine (impl_PageOk.calls kj34 _ _ h3 h4 h5 h6 h7 _ _ h8 h9 i1 i3 i4 i5 _ _ i6 _ _ i7 _ _ (cS (Kd.R_reads' a6.out).2.2) ((Kd.R_reads' a6.out).2.1) (cS (Kd.R_reads' a3.out).2.2) ((Kd.R_reads' a3.out).2.1) (cS (Kd.S_reads' a7.out).2.2) ((Kd.S_reads' a7.out).2.1) (cS (Kd.S_reads' a8.out).2.2) ((Kd.S_reads' a8.out).2.1) M3.out).mono ?_); rintro e ak5 ⟨rfl, hb⟩; replace a6 := rB a6 hb; replace a3 := rB a3 hb; replace a7 := sB a7 hb; replace a8 := sB a8 hb; replace d2 := kB_ e6 hb; replace d3 := kB_ f4 hb; replace b1 := kB_ b7 hb; replace a2 := kB_ b0 hb; replace HB := hB hb; (try clear hb); have hnb310 := nP e1 e2; have hnb311 := nP g8 g9; have hz312 := cz13 d2) | ((with_reducible refine gC 21 ?_); refine cM (some 90) Try.func21 (impl_copyPage.calls kj34 _ _ i9 k2 k4 k5 k6 _ _ j5 k7 k9 l3 l4 f8 _ _ e8 _ _ e9 N8 N9 O0 O1 O2 O3 O4 O5 O6 O7 O8 O9 P0 _ (cC q5 HB) q8.out (cC q9 HB) r0.out (cC n2 HB) n5.out (cC n6 HB) n7.out ab7.out) ?_; rintro e ak6 ⟨ak7, ak8, ak9, al0, rfl, n0, n8, u3, u4, hb⟩; refine ⟨_, rfl, ?_⟩; have D6 := aM (Kd.R_lower (Kd.R_new' (Kd.R_newM (M := fun k_ => (w.heap.size ≤ k_)) n0 (below_size bS) (fun k_ h_ => h_)) (Kd.R_lt (rS a6))) (below_size bS)); have D7 := aM (Kd.R_lower (Kd.R_new' (Kd.R_newM (M := fun k_ => (w.heap.size ≤ k_)) n8 (below_size bS) (fun k_ h_ => h_)) (Kd.R_lt (rS a3))) (below_size bS)); have D8 := aM (Kd.S_lower (Kd.S_new' (Kd.S_new' (Kd.S_new' (Kd.S_newM (M := fun k_ => (w.heap.size ≤ k_)) u3 (below_size bS) (fun k_ h_ => h_)) (Kd.R_lt (rS a6))) (Kd.R_lt (rS a3))) (Kd.S_lt (sS a7))) (below_size bS)); have D9 := aM (Kd.S_lower (Kd.S_new' (Kd.S_new' (Kd.S_newM (M := fun k_ => (w.heap.size ≤ k_)) u4 (below_size bS) (fun k_ h_ => h_)) (Kd.R_lt (rS a3))) (Kd.S_lt (sS a8))) (below_size bS)); replace a6 := aM (Kd.R_elder' (rS a6) (Kd.R_base n0) hb); replace a3 := aM (Kd.R_elder' (rS a3) (Kd.R_base n8) hb); replace a7 := aM (Kd.S_mono (Kd.S_told (Kd.S_told (Kd.S_told (Kd.S_old (sS a7) hb) (Kd.R_base n0)) (Kd.R_base n8)) (Kd.S_base u3)) (fun _ h_ => h_.1)); replace a8 := aM (Kd.S_mono (Kd.S_told (Kd.S_told (Kd.S_old (sS a8) hb) (Kd.R_base n8)) (Kd.S_base u4)) (fun _ h_ => h_.1)); replace d2 := kB_ e6 hb; replace d3 := kB_ f4 hb; replace b1 := kB_ b7 hb; replace a2 := kB_ b0 hb; replace HB := hB hb; (try clear hb n0 n8 u3 u4); obtain ⟨P5, P6, P7⟩ := Kd.R_slice D6.out; subst P7; have hnb315 := nP e4 e3; have hz316 := cz13 b1; obtain ⟨P8, P9, Q0⟩ := Kd.R_slice D7.out; subst Q0; obtain ⟨Q1, Q2, Q3⟩ := Kd.S_slice D8.out; subst Q3; obtain ⟨Q4, Q5, Q6⟩ := Kd.S_slice D9.out; subst Q6))
        refine bodyPost_ret (results_ct rfl _ _ b7 37 #[.slice P5 N8.length P6, .int .i64 N9, .int .i64 O0, .int .i64 O1, .int .i64 O2, .slice P8 O3.length P9, .int .i64 O4, .int .i64 O5, .int .i64 O6, .int .i64 O7, .int .i64 O8, .slice Q1 O9.length Q2, .slice Q4 P0.length Q5] (0, 0) _ rfl kS Try.underlying37 rfl (by kernel_rfl)) rfl ?_
        exact ⟨_, _, _, _, eS, Kd.R_V (by exact Kd.R_mono (R_on (g := b7) (Kd.R_types D6.out b1.out (by decide)) (fun _ hk => hk.2)) (fun _ hk => hk.1.1.1)), Kd.R_V (by exact Kd.R_mono (R_on (g := b7) (Kd.R_types D7.out b1.out (by decide)) (fun _ hk => hk.2)) (fun _ hk => hk.1.1.1)), Kd.S_V (by exact Kd.S_mono (S_on (g := b7) (Kd.S_types D8.out b1.out (by decide)) (fun _ hk => hk.2)) (fun _ hk => hk.1.1.1.1.1)), Kd.S_V (by exact Kd.S_mono (S_on (g := b7) (Kd.S_types D9.out b1.out (by decide)) (fun _ hk => hk.2)) (fun _ hk => hk.1.1.1.1)), bS⟩
      ·obtain rfl := Bool.eq_false_iff.mpr M1
       rw [if_neg nF] at H
       replace H := bN H
       obtain ⟨⟨Q7, Q8, Q9, R1, R2, R7, R9, S0, S1, S2, S3, S4, S5⟩, ab8, H⟩ := H
       simp only [Option.some.injEq, Prod.mk.injEq] at H
       obtain ⟨rfl, rfl, rfl, rfl, rfl, rfl, rfl, rfl, rfl, rfl, rfl, rfl, rfl, rfl⟩ := H
       have hnb321 := nP e1 e2
       have hnb322 := nP g8 g9
       have hnb323 := nP f9 h0
       have hz324 := cz13 d2
       go_wp2_with (first | ((with_reducible refine gC 21 ?_); refine cM (some 90) Try.func21 (impl_copyPage.calls kj34 _ _ i9 k2 k4 k5 k6 _ _ j5 k7 k9 l3 l4 f8 _ _ e8 _ _ e9 Q7 Q8 Q9 R1 R2 R7 R9 S0 S1 S2 S3 S4 S5 _ (cC q5 HB) q8.out (cC q9 HB) r0.out (cC n2 HB) n5.out (cC n6 HB) n7.out ab8.out) ?_; rintro e al1 ⟨al2, al3, al4, al5, rfl, n0, n8, u3, u4, hb⟩; refine ⟨_, rfl, ?_⟩; have E0 := aM (Kd.R_lower (Kd.R_new' (Kd.R_newM (M := fun k_ => (w.heap.size ≤ k_)) n0 (below_size bS) (fun k_ h_ => h_)) (Kd.R_lt (rS a6))) (below_size bS)); have E1 := aM (Kd.R_lower (Kd.R_new' (Kd.R_newM (M := fun k_ => (w.heap.size ≤ k_)) n8 (below_size bS) (fun k_ h_ => h_)) (Kd.R_lt (rS a3))) (below_size bS)); have E2 := aM (Kd.S_lower (Kd.S_new' (Kd.S_new' (Kd.S_new' (Kd.S_newM (M := fun k_ => (w.heap.size ≤ k_)) u3 (below_size bS) (fun k_ h_ => h_)) (Kd.R_lt (rS a6))) (Kd.R_lt (rS a3))) (Kd.S_lt (sS a7))) (below_size bS)); have E3 := aM (Kd.S_lower (Kd.S_new' (Kd.S_new' (Kd.S_newM (M := fun k_ => (w.heap.size ≤ k_)) u4 (below_size bS) (fun k_ h_ => h_)) (Kd.R_lt (rS a3))) (Kd.S_lt (sS a8))) (below_size bS)); replace a6 := aM (Kd.R_elder' (rS a6) (Kd.R_base n0) hb); replace a3 := aM (Kd.R_elder' (rS a3) (Kd.R_base n8) hb); replace a7 := aM (Kd.S_mono (Kd.S_told (Kd.S_told (Kd.S_told (Kd.S_old (sS a7) hb) (Kd.R_base n0)) (Kd.R_base n8)) (Kd.S_base u3)) (fun _ h_ => h_.1)); replace a8 := aM (Kd.S_mono (Kd.S_told (Kd.S_told (Kd.S_old (sS a8) hb) (Kd.R_base n8)) (Kd.S_base u4)) (fun _ h_ => h_.1)); replace d2 := kB_ e6 hb; replace d3 := kB_ f4 hb; replace b1 := kB_ b7 hb; replace a2 := kB_ b0 hb; replace HB := hB hb; (try clear hb n0 n8 u3 u4); obtain ⟨S6, S7, S8⟩ := Kd.R_slice E0.out; subst S8; have hnb327 := nP e4 e3; have hnb328 := nP g1 h2; have hz329 := cz13 b1; obtain ⟨S9, T0, T8⟩ := Kd.R_slice E1.out; subst T8; obtain ⟨T9, U0, U1⟩ := Kd.S_slice E2.out; subst U1; obtain ⟨U2, U3, U4⟩ := Kd.S_slice E3.out; subst U4))
       refine bodyPost_ret (results_ct rfl _ _ b7 37 #[.slice S6 Q7.length S7, .int .i64 Q8, .int .i64 Q9, .int .i64 R1, .int .i64 R2, .slice S9 R7.length T0, .int .i64 R9, .int .i64 S0, .int .i64 S1, .int .i64 S2, .int .i64 S3, .slice T9 S4.length U0, .slice U2 S5.length U3] (0, 0) _ rfl kS Try.underlying37 rfl (by kernel_rfl)) rfl ?_
       exact ⟨_, _, _, _, eS, Kd.R_V (by exact Kd.R_mono (R_on (g := b7) (Kd.R_types E0.out b1.out (by decide)) (fun _ hk => hk.2)) (fun _ hk => hk.1.1.1)), Kd.R_V (by exact Kd.R_mono (R_on (g := b7) (Kd.R_types E1.out b1.out (by decide)) (fun _ hk => hk.2)) (fun _ hk => hk.1.1.1)), Kd.S_V (by exact Kd.S_mono (S_on (g := b7) (Kd.S_types E2.out b1.out (by decide)) (fun _ hk => hk.2)) (fun _ hk => hk.1.1.1.1.1)), Kd.S_V (by exact Kd.S_mono (S_on (g := b7) (Kd.S_types E3.out b1.out (by decide)) (fun _ hk => hk.2)) (fun _ hk => hk.1.1.1.1)), bS⟩

end Go.Proofs.Ytpickbenfkcpmaa.QFnRuns7
