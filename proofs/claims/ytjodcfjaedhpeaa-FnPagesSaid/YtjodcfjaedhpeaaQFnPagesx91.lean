-- Made out of the translation by a program of this session (a changed copy of the print). Not trusted: Lean checks it.
import Derived.Test.YtjodcfjaedhpeaaQFnPagesx90
namespace Go.Proofs.Ytjodcfjaedhpeaa.QFnPages
open Go.RowKit Go.Proofs.YtjodcfjaedhpeaaW.PrintWords Go.Proofs.YtjodcfjaedhpeaaW.PrintLast Go.Proofs.YtjodcfjaedhpeaaW.PrintMore
attribute [local go_sem] max2_int min2_int max_two min_two max_three min_three max_four min_four   -- for this text's walks alone
set_option linter.unusedVariables false
set_option linter.unusedSimpArgs false
set_option maxHeartbeats 64000000
set_option maxRecDepth 100000

theorem spec_ExecToken.calls0 (k : Nat) (t9 : Option Addr) (u0 : Nat) (j5 : List Int) (l9 : Int) (m0 : Int) (m1 : Int) (m2 : Int) (u1 : Option Addr) (u2 : Nat) (j9 : List (S80)) (m3 : Int) (m4 : Int) (m5 : Int) (m6 : Int) (i6 : Int) (s2 : Option Addr) (s3 : Nat) (g4 : List (S31)) (s4 : Option Addr) (s5 : Nat) (g5 : List (S60)) (g3 : ByteArray) (q8 : Int) (r1 : List Int) (r2 : Int) (r3 : Int) (r4 : Int) (r5 : Int) (r6 : List (S80)) (r7 : Int) (r8 : Int) (r9 : Int) (D4 : Int) (D5 : Int) (D6 : List (S31)) (D7 : List (S60)) (D8 : Bool) (w : World) (A2 : Kd.C (Kd.int .i64) w t9 j5.length j5) (A3 : j5.length ≤ u0) (A4 : Kd.C k80 w u1 j9.length j9) (A5 : j9.length ≤ u2) (v3 : Kd.C k31 w s2 g4.length g4) (v4 : g4.length ≤ s3) (v5 : Kd.C k60 w s4 g5.length g5) (v6 : g5.length ≤ s5) (h : spec_ExecToken.f k j5 l9 m0 m1 m2 j9 m3 m4 m5 m6 i6 g4 g5 g3 q8 = some (r1, r2, r3, r4, r5, r6, r7, r8, r9, D4, D5, D6, D7, D8)) (hA_ : Aside0 (g3.toList ∉ (([[110, 101, 119], [109, 111, 118, 101, 116, 111], [108, 105, 110, 101, 116, 111], [114, 101, 99, 116]] : List (List UInt8)) ++ ([[102, 105, 108, 108], [99, 108, 105, 112], [103, 114, 97, 121], [115, 97, 118, 101]] : List (List UInt8))))) :
  Calls Try.prog 43 #[.agg #[.slice t9 j5.length u0, .int .i64 l9, .int .i64 m0, .int .i64 m1, .int .i64 m2, .slice u1 j9.length u2, .int .i64 m3, .int .i64 m4, .int .i64 m5, .int .i64 m6, .int .i64 i6, .slice s2 g4.length s3, .slice s4 g5.length s5], .agg #[.string g3, .int .i64 q8]] w fun e w' => ∃ v0_ v5_ v11_ v12_ : Value, e = .returned (.tuple #[.agg #[v0_, .int .i64 r2, .int .i64 r3, .int .i64 r4, .int .i64 r5, v5_, .int .i64 r7, .int .i64 r8, .int .i64 r9, .int .i64 D4, .int .i64 D5, v11_, v12_], .bool D8]) ∧ Kd.V (Kd.int .i64) 3 w' w.heap.size (fun k_ => (w.heap.size ≤ k_)) v0_ r1 ∧ Kd.V k80 80 w' w.heap.size (fun k_ => (w.heap.size ≤ k_)) v5_ r6 ∧ Kd.V k31 31 w' w.heap.size (fun k_ => (w.heap.size ≤ k_)) v11_ D6 ∧ Kd.V k60 60 w' w.heap.size (fun k_ => (w.heap.size ≤ k_)) v12_ D7 ∧ Below w.heap.size w w' := by
 have hu35 := Try.underlying35
 have hu40 := Try.underlying40
 have hu26 := Try.underlying26
 have hu80 := Try.underlying80
 have hu29 := Try.underlying29
 have hu60 := Try.underlying60
 have hu31 := Try.underlying31
 have n1 := aM A2
 have n2 := aM A3
 clear A2 A3
 have s6 := aM A4
 have s7 := aM A5
 clear A4 A5
 have n6 := aM v3
 have n7 := aM v4
 clear v3 v4
 have n8 := aM v5
 have o0 := aM v6
 clear v5 v6
 have HB := aM (Below.refl w.heap.size w)
 have H := h
 clear h
 unfold spec_ExecToken.f at H
 have W4 := aM H
 clear H
 go_enter Try.func43, Try.ntmps43
 go_upto_region 1 with (first | ((with_reducible refine gD 2 ?_); refine bxE #[.slice t9 j5.length u0, .int .i64 l9, .int .i64 m0, .int .i64 m1, .int .i64 m2, .slice u1 j9.length u2, .int .i64 m3, .int .i64 m4, .int .i64 m5, .int .i64 m6, .int .i64 i6, .slice s2 g4.length s3, .slice s4 g5.length s5] 35 ?_; intro f6 hg w4 d0 hb; have GE303 := gE hg; replace HB := hB hb; clear hb hg) | ((with_reducible refine gD 3 ?_); refine bxE #[.string g3, .int .i64 q8] 40 ?_; intro g2 hg w5 d2 hb; have GE304 := gE hg; have d6 := nL_ f6 hg; have e0 := nG_ f6 hg; replace d0 := kB_ f6 hb; replace HB := hB hb; clear hb hg) | ((with_reducible refine gD 4 ?_); refine bxE #[.slice none 0 0, .int .i64 0, .int .i64 0, .int .i64 0, .int .i64 0, .slice none 0 0, .int .i64 0, .int .i64 0, .int .i64 0, .int .i64 0, .int .i64 0, .slice none 0 0, .slice none 0 0] 35 ?_; intro d1 hg w6 b7 hb; have GE305 := gE hg; have e4 := nL_ f6 hg; have e5 := nG_ f6 hg; have e1 := nL_ g2 hg; have e2 := nG_ g2 hg; replace d0 := kB_ f6 hb; replace d2 := kB_ g2 hb; replace HB := hB hb; clear hb hg))
 (try simp only [Act.put, List.setIfInBounds_toArray, List.set_cons_zero, List.set_cons_succ])
 go_cut [19] (fun v19 wc => ∃ (kq : Nat) (t4 : Bool), v19 = .bool t4 ∧ Aside0 (spec_ExecToken.j0 kq t4 j5 l9 m0 m1 m2 j9 m3 m4 m5 m6 i6 g4 g5 g3 q8 = some (r1, r2, r3, r4, r5, r6, r7, r8, r9, D4, D5, D6, D7, D8)) ∧ Aside0 (kq ≤ k) ∧ Aside0 (wc.heap[f6]? = some (.cells #[(.slice t9 j5.length u0), .int .i64 l9, .int .i64 m0, .int .i64 m1, .int .i64 m2, (.slice u1 j9.length u2), .int .i64 m3, .int .i64 m4, .int .i64 m5, .int .i64 m6, .int .i64 i6, (.slice s2 g4.length s3), (.slice s4 g5.length s5)] 35 (0, 0))) ∧ Aside0 (wc.heap[g2]? = some (.cells #[.string g3, .int .i64 q8] 40 (0, 0))) ∧ Aside0 (wc.heap[d1]? = some (.cells #[(.slice none 0 0), .int .i64 0, .int .i64 0, .int .i64 0, .int .i64 0, (.slice none 0 0), .int .i64 0, .int .i64 0, .int .i64 0, .int .i64 0, .int .i64 0, (.slice none 0 0), (.slice none 0 0)] 35 (0, 0))) ∧ Aside0 (Below w.heap.size w wc))
 case first =>
  have H := W4.out
  clear W4
  replace H := bN H
  obtain ⟨W5, A7, H⟩ := H
  by_cases c8 : W5 = true
  ·subst c8
   rw [if_pos rfl] at H
   replace H := bN H
   obtain ⟨G8, A9, H⟩ := H
   have H' := aM H
   clear H
   have hnb10 := nP d6 e0
   have hnb11 := nP e4 e5
   have hz12 := cz13 d0
   go_wp2_with (first | ((with_reducible refine gC 54 ?_); refine cM (some 13) Try.func54 (spec_PageOk.calls k _ _ j5 l9 m0 m1 m2 _ _ j9 m3 m4 m5 m6 i6 _ _ g4 _ _ g5 _ _ (cC n1 HB) n2.out (cC s6 HB) s7.out (cC n6 HB) n7.out (cC n8 HB) o0.out A7.out) ?_; rintro e w13 ⟨rfl, hb⟩; refine ⟨_, rfl, ?_⟩; replace d0 := kB_ f6 hb; replace d2 := kB_ g2 hb; replace b7 := kB_ d1 hb; replace HB := hB hb; (try clear hb); have hnb14 := nP e1 e2; have hz15 := cz2 d2) | (go_at_call 55; (with_reducible refine (spec_TokenOk.calls k g3 q8 G8 _ A9.out).mono ?_); rintro e w16 ⟨rfl, hb⟩; replace d0 := kB_ f6 hb; replace d2 := kB_ g2 hb; replace b7 := kB_ d1 hb; replace HB := hB hb; (try clear hb)))
   go_meet
   case rel => exact ⟨_, (!G8), fS, H', ⟨by first | omega | exact Nat.le_refl _⟩, ⟨kS⟩, ⟨kS⟩, ⟨kS⟩, ⟨bS⟩⟩
  ·obtain rfl := Bool.eq_false_iff.mpr c8
   rw [if_neg nF] at H
   have H' := aM H
   clear H
   have hnb17 := nP d6 e0
   have hnb18 := nP e4 e5
   have hz19 := cz13 d0
   go_wp2_with (first | ((with_reducible refine gC 54 ?_); refine cM (some 13) Try.func54 (spec_PageOk.calls k _ _ j5 l9 m0 m1 m2 _ _ j9 m3 m4 m5 m6 i6 _ _ g4 _ _ g5 _ _ (cC n1 HB) n2.out (cC s6 HB) s7.out (cC n6 HB) n7.out (cC n8 HB) o0.out A7.out) ?_; rintro e w20 ⟨rfl, hb⟩; refine ⟨_, rfl, ?_⟩; replace d0 := kB_ f6 hb; replace d2 := kB_ g2 hb; replace b7 := kB_ d1 hb; replace HB := hB hb; (try clear hb)))
   go_meet
   case rel => exact ⟨_, (true), fS, H', ⟨by first | omega | exact Nat.le_refl _⟩, ⟨kS⟩, ⟨kS⟩, ⟨kS⟩, ⟨bS⟩⟩
 case rest =>
  clear W4
  try clear c1
  try clear p2
  try clear c4
  try clear c5
  try clear c8
  try clear c10
  try clear c11
  try clear c14
  try clear c17
  try clear c18
  obtain ⟨kq, t4, rfl, HA, HJ2, d0, d2, b7, HB⟩ := hcut
  cases kq with
  | zero => exact absurd HA.out (by simp [spec_ExecToken.j0])
  | succ kj2 =>
   have H := HA.out
   clear HA
   simp only [spec_ExecToken.j0] at H
   by_cases W6 : t4 = true
   ·subst W6
    rw [if_pos rfl] at H
    replace H := bN H
    obtain ⟨⟨G9, H2, H3, H4, H5, H6, H7, H8, H9, I0, I1, I2, I3⟩, A22, H⟩ := H
    simp only [Option.some.injEq, Prod.mk.injEq] at H
    obtain ⟨rfl, rfl, rfl, rfl, rfl, rfl, rfl, rfl, rfl, rfl, rfl, rfl, rfl, rfl⟩ := H
    have hnb23 := nP d6 e0
    have hnb24 := nP e4 e5
    have hz25 := cz13 d0
    go_wp2_with (first | ((with_reducible refine gC 56 ?_); refine cM (some 21) Try.func56 (spec_l07Copy.calls kj2 _ _ j5 l9 m0 m1 m2 _ _ j9 m3 m4 m5 m6 i6 _ _ g4 _ _ g5 G9 H2 H3 H4 H5 H6 H7 H8 H9 I0 I1 I2 I3 _ (cC n1 HB) n2.out (cC s6 HB) s7.out (cC n6 HB) n7.out (cC n8 HB) o0.out A22.out) ?_; rintro e w26 ⟨ae1, ae2, ae3, ae4, rfl, n0, o1, u3, u4, hb⟩; refine ⟨_, rfl, ?_⟩; have A6 := aM (Kd.R_lower (Kd.R_newM (M := fun k_ => (w.heap.size ≤ k_)) n0 (below_size bS) (fun k_ h_ => h_)) (below_size bS)); have A8 := aM (Kd.R_lower (Kd.R_newM (M := fun k_ => (w.heap.size ≤ k_)) o1 (below_size bS) (fun k_ h_ => h_)) (below_size bS)); have B0 := aM (Kd.S_lower (Kd.S_newM (M := fun k_ => (w.heap.size ≤ k_)) u3 (below_size bS) (fun k_ h_ => h_)) (below_size bS)); have B2 := aM (Kd.S_lower (Kd.S_newM (M := fun k_ => (w.heap.size ≤ k_)) u4 (below_size bS) (fun k_ h_ => h_)) (below_size bS)); replace d0 := kB_ f6 hb; replace d2 := kB_ g2 hb; replace b7 := kB_ d1 hb; replace HB := hB hb; (try clear hb n0 o1 u3 u4); obtain ⟨W7, W8, W9⟩ := Kd.R_slice A6.out; subst W9; have hnb28 := nP e2 e1; have hz29 := cz13 b7; obtain ⟨X0, X1, X2⟩ := Kd.R_slice A8.out; subst X2; obtain ⟨X3, X4, X5⟩ := Kd.S_slice B0.out; subst X5; obtain ⟨X6, X7, X8⟩ := Kd.S_slice B2.out; subst X8))
    refine bodyPost_ret (results_ct rfl _ _ d1 35 #[.slice W7 G9.length W8, .int .i64 H2, .int .i64 H3, .int .i64 H4, .int .i64 H5, .slice X0 H6.length X1, .int .i64 H7, .int .i64 H8, .int .i64 H9, .int .i64 I0, .int .i64 I1, .slice X3 I2.length X4, .slice X6 I3.length X7] (0, 0) _ rfl kS Try.underlying35 rfl (by kernel_rfl)) rfl ?_
    exact ⟨_, _, _, _, eS, Kd.R_V (by exact Kd.R_mono (R_on (g := d1) (Kd.R_types A6.out b7.out (by decide)) (fun _ hk => hk.2)) (fun _ hk => hk.1.1)), Kd.R_V (by exact Kd.R_mono (R_on (g := d1) (Kd.R_types A8.out b7.out (by decide)) (fun _ hk => hk.2)) (fun _ hk => hk.1.1)), Kd.S_V (by exact Kd.S_mono (S_on (g := d1) (Kd.S_types B0.out b7.out (by decide)) (fun _ hk => hk.2)) (fun _ hk => hk.1.1)), Kd.S_V (by exact Kd.S_mono (S_on (g := d1) (Kd.S_types B2.out b7.out (by decide)) (fun _ hk => hk.2)) (fun _ hk => hk.1.1)), bS⟩
   ·obtain rfl := Bool.eq_false_iff.mpr W6
    rw [if_neg nF] at H
    replace H := bN H
    obtain ⟨⟨D9, l4, l5, l6, l7, d3, o7, o8, o9, q0, q3, b0, e8⟩, A33, H⟩ := H
    replace H := bN H
    obtain ⟨u5, A34, H⟩ := H
    have E0 := aM H
    clear H
    have hnb36 := nP d6 e0
    have hnb37 := nP e4 e5
    have hz38 := cz13 d0
    go_upto_block 0 with (first | ((with_reducible refine gC 56 ?_); refine cM (some 23) Try.func56 (spec_l07Copy.calls kj2 _ _ j5 l9 m0 m1 m2 _ _ j9 m3 m4 m5 m6 i6 _ _ g4 _ _ g5 D9 l4 l5 l6 l7 d3 o7 o8 o9 q0 q3 b0 e8 _ (cC n1 HB) n2.out (cC s6 HB) s7.out (cC n6 HB) n7.out (cC n8 HB) o0.out A33.out) ?_; rintro e w39 ⟨ae7, ae8, ae9, af0, rfl, n0, o1, u3, u4, hb⟩; refine ⟨_, rfl, ?_⟩; have j6 := aM (Kd.R_lower (Kd.R_newM (M := fun k_ => (w.heap.size ≤ k_)) n0 (below_size bS) (fun k_ h_ => h_)) (below_size bS)); have k0 := aM (Kd.R_lower (Kd.R_newM (M := fun k_ => (w.heap.size ≤ k_)) o1 (below_size bS) (fun k_ h_ => h_)) (below_size bS)); have k1 := aM (Kd.S_lower (Kd.S_newM (M := fun k_ => (w.heap.size ≤ k_)) u3 (below_size bS) (fun k_ h_ => h_)) (below_size bS)); have k2 := aM (Kd.S_lower (Kd.S_newM (M := fun k_ => (w.heap.size ≤ k_)) u4 (below_size bS) (fun k_ h_ => h_)) (below_size bS)); replace d0 := kB_ f6 hb; replace d2 := kB_ g2 hb; replace b7 := kB_ d1 hb; replace HB := hB hb; (try clear hb n0 o1 u3 u4)) | ((with_reducible refine gD 6 ?_); refine bxE #[.slice none 0 0, .int .i64 0, .int .i64 0, .int .i64 0, .int .i64 0, .slice none 0 0, .int .i64 0, .int .i64 0, .int .i64 0, .int .i64 0, .int .i64 0, .slice none 0 0, .slice none 0 0] 35 ?_; intro a8 hg w40 a6 hb; have GE350 := gE hg; have f7 := nL_ f6 hg; have g8 := nG_ f6 hg; have e3 := nL_ g2 hg; have f8 := nG_ g2 hg; have f9 := nL_ d1 hg; have g9 := nG_ d1 hg; replace j6 := rB j6 hb; replace k0 := rB k0 hb; replace k1 := sB k1 hb; replace k2 := sB k2 hb; replace d0 := kB_ f6 hb; replace d2 := kB_ g2 hb; replace b7 := kB_ d1 hb; replace HB := hB hb; clear hb hg; obtain ⟨X9, Y0, Y1⟩ := Kd.R_slice j6.out; subst Y1; have hnb42 := nP g8 f7; have hnb43 := nP f8 e3; have hnb44 := nP g9 f9; have hz45 := cz13 a6; obtain ⟨e9, f5, Y2⟩ := Kd.R_slice k0.out; subst Y2; obtain ⟨m9, h0, Y3⟩ := Kd.S_slice k1.out; subst Y3; obtain ⟨k3, k4, Y4⟩ := Kd.S_slice k2.out; subst Y4; have hnb49 := nP e1 e2; have hz50 := cz2 d2) | ((with_reducible refine gC 57 ?_); refine cM (some 26) Try.func57 (spec_l07Takes.calls kj2 g3 u5 _ A34.out) ?_; rintro e w' ⟨rfl, ⟨nd, rfl⟩⟩; refine ⟨_, rfl, ?_⟩))
    (try simp only [Act.put, List.setIfInBounds_toArray, List.set_cons_zero, List.set_cons_succ])
    go_cut [7] (fun v7 wc => ∃ (kq : Nat) (t5 : Bool) (h1 : List Int) (h2 : Int) (h3 : Int) (h4 : Int) (h5 : Int) (h6 : List (S80)) (h7 : Int) (h8 : Int) (h9 : Int) (i1 : Int) (i3 : Int) (i4 : List (S31)) (i5 : List (S60)) (q6 : Value) (q7 : Value) (s9 : Value) (t0 : Value), v7 = .bool t5 ∧ Aside0 (spec_ExecToken.j4 kq t5 j5 l9 m0 m1 m2 j9 m3 m4 m5 m6 i6 g4 g5 h1 h2 h3 h4 h5 h6 h7 h8 h9 i1 i3 i4 i5 = some (r1, r2, r3, r4, r5, r6, r7, r8, r9, D4, D5, D6, D7, D8)) ∧ Aside0 (kq ≤ kj2) ∧ Aside0 (Kd.R (Kd.int .i64) 3 wc w.heap.size (fun k_ => (w.heap.size ≤ k_)) q6 h1) ∧ Aside0 (Kd.R k80 80 wc w.heap.size (fun k_ => (w.heap.size ≤ k_)) q7 h6) ∧ Aside0 (Kd.S k31 31 wc w.heap.size (fun k_ => (w.heap.size ≤ k_) ∧ some k_ ≠ (q6 : Value).ownBlock ∧ some k_ ≠ (q7 : Value).ownBlock) s9 i4) ∧ Aside0 (Kd.S k60 60 wc w.heap.size (fun k_ => (w.heap.size ≤ k_)) t0 i5) ∧ Aside0 (wc.heap[f6]? = some (.cells #[(.slice t9 j5.length u0), .int .i64 l9, .int .i64 m0, .int .i64 m1, .int .i64 m2, (.slice u1 j9.length u2), .int .i64 m3, .int .i64 m4, .int .i64 m5, .int .i64 m6, .int .i64 i6, (.slice s2 g4.length s3), (.slice s4 g5.length s5)] 35 (0, 0))) ∧ Aside0 (wc.heap[g2]? = some (.cells #[.string g3, .int .i64 q8] 40 (0, 0))) ∧ Aside0 (wc.heap[d1]? = some (.cells #[(.slice none 0 0), .int .i64 0, .int .i64 0, .int .i64 0, .int .i64 0, (.slice none 0 0), .int .i64 0, .int .i64 0, .int .i64 0, .int .i64 0, .int .i64 0, (.slice none 0 0), (.slice none 0 0)] 35 (0, 0))) ∧ Aside0 (wc.heap[a8]? = some (.cells #[q6, .int .i64 h2, .int .i64 h3, .int .i64 h4, .int .i64 h5, q7, .int .i64 h7, .int .i64 h8, .int .i64 h9, .int .i64 i1, .int .i64 i3, s9, t0] 35 (0, 0))) ∧ Aside0 (Below w.heap.size w wc))
    case first =>
     have H := E0.out
     clear E0
     by_cases G2 : g3.toList = ([] : List UInt8)
     ·rw [if_pos G2] at H
      obtain ⟨s8, B8⟩ := eqT G2
      clear G2
      (first | rw [s8] | (simp only [i64_w, i32_w]; rw [s8]) | skip)
      replace H := bN H
      obtain ⟨⟨E1, I4⟩, A52, H⟩ := H
      have H' := aM H
      clear H
      have hnb53 := nP e0 d6
      have hnb54 := nP e1 e2
      have hnb55 := nP e3 f8
      have hz56 := cz2 d2
      have hnb57 := nP e4 e5
      have hnb58 := nP f7 g8
      have U8 := cg0 d0
      go_wp2_with (first | ((with_reducible refine gC 58 ?_); refine cM (some 37) Try.func58 (spec_PushNumber.calls kj2 _ _ j5 q8 E1 I4 _ (Kd.C_below n1.out bS) n2.out A52.out) ?_; rintro e w60 ⟨af2, rfl, n0, hb⟩; refine ⟨_, rfl, ?_⟩; have C0 := aM (Kd.R_lower (Kd.R_new' (Kd.R_newM (M := fun k_ => (w.heap.size ≤ k_)) n0 (below_size bS) (fun k_ h_ => h_)) (Kd.R_lt (by exact rG j6 a6))) (below_size bS)); replace j6 := aM (Kd.R_elder' (by exact rG j6 a6) (Kd.R_base n0) hb); replace k0 := aM (Kd.R_below (by exact rG k0 a6) hb); replace k1 := aM (Kd.S_elder' (by exact sG k1 a6) (Kd.R_base n0) hb); replace k2 := aM (Kd.S_below (by exact sG k2 a6) hb); replace d0 := kB_ f6 hb; replace d2 := kB_ g2 hb; replace b7 := kB_ d1 hb; replace a6 := kB_ a8 hb; replace HB := hB hb; (try clear hb hk n0); obtain ⟨Y5, Y6, Y7⟩ := Kd.R_slice C0.out; subst Y7; have hnb62 := nP g9 f9; have U9 := cg0 a6; have V0 := blk_frozen a6.out 0))
      go_meet
      case rel => exact ⟨_, (I4), (E1), (l4), (l5), (l6), (l7), (d3), (o7), (o8), (o9), (q0), (q3), (b0), (e8), (.slice Y5 E1.length Y6), (.slice e9 d3.length f5), (.slice m9 b0.length h0), (.slice k3 e8.length k4), fS, H', ⟨by have := HJ2.out; first | omega | exact Nat.le_refl _⟩, ⟨rW [a8] C0 a6⟩, ⟨rW [a8] k0 a6⟩, ⟨sW [a8] k1 a6⟩, ⟨sW [a8] k2 a6⟩, ⟨kS⟩, ⟨kS⟩, ⟨kS⟩, ⟨kS⟩, ⟨bS⟩⟩
     ·rw [if_neg G2] at H
      obtain ⟨s8, B8⟩ := eqF G2
      (first | rw [s8] | (simp only [i64_w, i32_w]; rw [s8]) | skip)
      replace H := bN H
      obtain ⟨Y8, Y9, H⟩ := H
      by_cases Z0 : Y8 = true
      ·subst Z0
       rw [if_pos rfl] at H
       exact absurd H (by simp)
      ·obtain rfl := Bool.eq_false_iff.mpr Z0
       rw [if_neg nF] at H
       by_cases C2 : u5 ≥ 0
       ·rw [if_pos C2] at H
        have v8 : decide (0 ≤ u5) = true := decide_eq_true C2
        clear C2
        replace H := bN H
        obtain ⟨⟨b9, b8, Z1⟩, A67, H⟩ := H
        by_cases V1 : Z1 = true
        ·subst V1
         rw [if_pos rfl] at H
         have E2 := aM H
         clear H
         have hnb70 := nP e0 d6
         have hnb71 := nP e1 e2
         have hnb72 := nP e3 f8
         have hz73 := cz2 d2
         go_upto_if 79 with (first | ((with_reducible refine gC 59 ?_); refine cM (some 45) Try.func59 (spec_IsStackOp.calls g3 _ _ Y9.out) ?_; rintro e w' ⟨rfl, ⟨nd, rfl⟩⟩; refine ⟨_, rfl, ?_⟩; have hnb74 := nP e4 e5; have hnb75 := nP f7 g8; have V2 := cg0 d0) | ((with_reducible refine gC 61 ?_); refine cM (some 65) Try.func61 (spec_TakeNumbers.calls kj2 _ _ j5 u5 b9 b8 _ _ (Kd.C_below n1.out bS) n2.out A67.out) ?_; rintro e w77 ⟨Z2, x7, rfl, n0, o1, hb⟩; refine ⟨_, rfl, ?_⟩; have t2 := aM (Kd.R_lower (Kd.R_new' (Kd.R_newM (M := fun k_ => (w.heap.size ≤ k_)) n0 (below_size bS) (fun k_ h_ => h_)) (Kd.R_lt (by exact rG j6 a6))) (below_size bS)); have C3 := aM (Kd.R_lower (Kd.R_new' (Kd.R_newM (M := fun k_ => (w.heap.size ≤ k_)) o1 (below_size bS) (fun k_ h_ => h_)) (Kd.R_lt (by exact rG j6 a6))) (below_size bS)); replace j6 := aM (Kd.R_mono (Kd.R_told (Kd.R_told (Kd.R_old (by exact rG j6 a6) hb) (Kd.R_base n0)) (Kd.R_base o1)) (fun _ h_ => h_.1)); replace k0 := aM (Kd.R_below (by exact rG k0 a6) hb); replace k1 := aM (Kd.S_mono (Kd.S_told (Kd.S_told (Kd.S_old (by exact sG k1 a6) hb) (Kd.R_base n0)) (Kd.R_base o1)) (fun _ h_ => h_.1)); replace k2 := aM (Kd.S_below (by exact sG k2 a6) hb); replace d0 := kB_ f6 hb; replace d2 := kB_ g2 hb; replace b7 := kB_ d1 hb; replace a6 := kB_ a8 hb; replace HB := hB hb; (try clear hb hk n0 o1); obtain ⟨d4, d5, Z3⟩ := Kd.R_slice t2.out; subst Z3; have hnb79 := nP g9 f9; have V3 := cg0 a6; have V4 := blk_frozen a6.out 0; have hz81 := cz2 d2))
         (try simp only [Act.put, List.setIfInBounds_toArray, List.set_cons_zero, List.set_cons_succ])
         go_cut [79] (fun v79 wc => ∃ (kq : Nat) (t1 : Bool), v79 = .bool t1 ∧ Aside0 (spec_ExecToken.j1 kq b8 t1 j5 l9 m0 m1 m2 j9 m3 m4 m5 m6 i6 g4 g5 g3 q8 b9 l4 l5 l6 l7 d3 o7 o8 o9 q0 q3 b0 e8 = some (r1, r2, r3, r4, r5, r6, r7, r8, r9, D4, D5, D6, D7, D8)) ∧ Aside0 (kq ≤ kj2) ∧ Aside0 (Kd.R (Kd.int .i64) 3 wc w.heap.size (fun k_ => (w.heap.size ≤ k_) ∧ some k_ ≠ ((.slice d4 b9.length d5) : Value).ownBlock) x7 b8) ∧ Aside0 (Kd.R (Kd.int .i64) 3 wc w.heap.size (fun k_ => (w.heap.size ≤ k_) ∧ some k_ ≠ (x7 : Value).ownBlock) (.slice d4 b9.length d5) b9) ∧ Aside0 (Kd.R k80 80 wc w.heap.size (fun k_ => (w.heap.size ≤ k_)) (.slice e9 d3.length f5) d3) ∧ Aside0 (Kd.S k31 31 wc w.heap.size (fun k_ => (w.heap.size ≤ k_) ∧ some k_ ≠ (x7 : Value).ownBlock ∧ some k_ ≠ ((.slice d4 b9.length d5) : Value).ownBlock ∧ some k_ ≠ ((.slice e9 d3.length f5) : Value).ownBlock) (.slice m9 b0.length h0) b0) ∧ Aside0 (Kd.S k60 60 wc w.heap.size (fun k_ => (w.heap.size ≤ k_) ∧ some k_ ≠ ((.slice e9 d3.length f5) : Value).ownBlock) (.slice k3 e8.length k4) e8) ∧ Aside0 (wc.heap[f6]? = some (.cells #[(.slice t9 j5.length u0), .int .i64 l9, .int .i64 m0, .int .i64 m1, .int .i64 m2, (.slice u1 j9.length u2), .int .i64 m3, .int .i64 m4, .int .i64 m5, .int .i64 m6, .int .i64 i6, (.slice s2 g4.length s3), (.slice s4 g5.length s5)] 35 (0, 0))) ∧ Aside0 (wc.heap[g2]? = some (.cells #[.string g3, .int .i64 q8] 40 (0, 0))) ∧ Aside0 (wc.heap[d1]? = some (.cells #[(.slice none 0 0), .int .i64 0, .int .i64 0, .int .i64 0, .int .i64 0, (.slice none 0 0), .int .i64 0, .int .i64 0, .int .i64 0, .int .i64 0, .int .i64 0, (.slice none 0 0), (.slice none 0 0)] 35 (0, 0))) ∧ Aside0 (wc.heap[a8]? = some (.cells #[(.slice d4 b9.length d5), .int .i64 l4, .int .i64 l5, .int .i64 l6, .int .i64 l7, (.slice e9 d3.length f5), .int .i64 o7, .int .i64 o8, .int .i64 o9, .int .i64 q0, .int .i64 q3, (.slice m9 b0.length h0), (.slice k3 e8.length k4)] 35 (0, 0))) ∧ Aside0 (Below w.heap.size w wc))
         case first =>
          have H := E2.out
          clear E2
          by_cases V5 : g3.toList = ([110, 101, 119] : List UInt8)
          ·exact absurd (by rw [V5]; decide) hA_.out
          ·rw [if_neg V5] at H
           obtain ⟨v9, I5⟩ := eqF V5
           (first | rw [v9] | (simp only [i64_w, i32_w]; rw [v9]) | skip)
           by_cases V6 : g3.toList = ([109, 111, 118, 101, 116, 111] : List UInt8)
           ·exact absurd (by rw [V6]; decide) hA_.out
           ·rw [if_neg V6] at H
            obtain ⟨I6, I7⟩ := eqF V6
            by_cases V7 : g3.toList = ([108, 105, 110, 101, 116, 111] : List UInt8)
            ·exact absurd (by rw [V7]; decide) hA_.out
            ·rw [if_neg V7] at H
             obtain ⟨I8, I9⟩ := eqF V7
             by_cases V8 : g3.toList = ([114, 101, 99, 116] : List UInt8)
             ·exact absurd (by rw [V8]; decide) hA_.out
             ·rw [if_neg V8] at H
              obtain ⟨J0, J1⟩ := eqF V8
              by_cases V9 : g3.toList = ([102, 105, 108, 108] : List UInt8)
              ·exact absurd (by rw [V9]; decide) hA_.out
              ·rw [if_neg V9] at H
               obtain ⟨J2, J3⟩ := eqF V9
               have H' := aM H
               clear H
               go_wp2
               go_meet
               case rel => exact ⟨_, ((g3.toList == ([99, 108, 105, 112] : List UInt8))), fS, H', ⟨by have := HJ2.out; first | omega | exact Nat.le_refl _⟩, ⟨rW [a8] C3 a6⟩, ⟨rW [a8] t2 a6⟩, ⟨rW [a8] k0 a6⟩, ⟨sW [a8] k1 a6⟩, ⟨sW [a8] k2 a6⟩, ⟨kS⟩, ⟨kS⟩, ⟨kS⟩, ⟨kS⟩, ⟨bS⟩⟩
         case rest =>
          clear E2
          try clear c1
          try clear c2
          try clear p2
          try clear c3
          try clear c4
          try clear c5
          try clear c6
          try clear c7
          try clear c8
          try clear c10
          try clear c11
          try clear c14
          try clear c17
          try clear c18
          try clear W6
          try clear c23
          try clear c24
          try clear c28
          try clear c36
          try clear c37
          try clear c42
          try clear c43
          try clear c44
          try clear c49
          try clear G2
          try clear s8
          try clear B8
          try clear c53
          try clear c54
          try clear c55
          try clear c56
          try clear c57
          try clear c58
          try clear c59
          try clear c61
          try clear c62
          try clear Z0
          try clear C2
          try clear v8
          try clear V1
          try clear c70
          try clear c71
          try clear c72
          try clear c74
          try clear c75
          try clear c79
          try clear V5
          try clear v9
          try clear I5
          try clear V6
          try clear I6
          try clear I7
          try clear V7
          try clear I8
          try clear I9
          try clear V8
          try clear J0
          try clear J1
          try clear V9
          try clear J2
          try clear J3
          try clear p2
          obtain ⟨kq, t1, rfl, HA, HJ68, b6, a5, a3, a2, a7, d0, d2, b7, a6, HB⟩ := hcut
          cases kq with
          | zero => exact absurd HA.out (by simp [spec_ExecToken.j1])
          | succ kj68 =>
           have H := HA.out
           clear HA
           simp only [spec_ExecToken.j1] at H
           by_cases c87 : t1 = true
           ·subst c87
            rw [if_pos rfl] at H
            have J4 := aM H
            clear H
            have hnb89 := nP e0 d6
            have hnb90 := nP e1 e2
            have hnb91 := nP e3 f8
            have hz92 := cz2 d2
            go_wp2_with (fail)
            have H := J4.out
            clear J4
            obtain ⟨L93, hF_, hM303_, hM304_, hM305_⟩ := FrI_pack3 d0.out d2.out b7.out f7.out e3.out f9.out [35, 40] (by decide) (by decide) (by decide)
            have HLM303 := aM hM303_
            have HLM304 := aM hM304_
            have HLM305 := aM hM305_
            have ac1 := aM hF_
            clear hF_ hM303_ hM304_ hM305_ d0 d2 b7
            by_cases Z4 : g3.toList = ([110, 101, 119] : List UInt8)
            ·exact absurd (by rw [Z4]; decide) hA_.out
            ·rw [if_neg Z4] at H
             obtain ⟨ac2, ac3⟩ := eqF Z4
             by_cases E3 : g3.toList = ([109, 111, 118, 101, 116, 111] : List UInt8)
             ·exact absurd (by rw [E3]; decide) hA_.out
             ·rw [if_neg E3] at H
              obtain ⟨Z5, Z6⟩ := eqF E3
              by_cases E4 : g3.toList = ([108, 105, 110, 101, 116, 111] : List UInt8)
              ·exact absurd (by rw [E4]; decide) hA_.out
              ·rw [if_neg E4] at H
               obtain ⟨Z7, Z8⟩ := eqF E4
               by_cases E5 : g3.toList = ([114, 101, 99, 116] : List UInt8)
               ·exact absurd (by rw [E5]; decide) hA_.out
               ·rw [if_neg E5] at H
                obtain ⟨Z9, aa0⟩ := eqF E5
                by_cases E6 : g3.toList = ([102, 105, 108, 108] : List UInt8)
                ·exact absurd (by rw [E6]; decide) hA_.out
                ·rw [if_neg E6] at H
                 obtain ⟨aa1, aa2⟩ := eqF E6
                 by_cases J5 : g3.toList = ([99, 108, 105, 112] : List UInt8)
                 ·exact absurd (by rw [J5]; decide) hA_.out
                 ·rw [if_neg J5] at H
                  exact absurd H (by simp)
           ·obtain rfl := Bool.eq_false_iff.mpr c87
            rw [if_neg nF] at H
            have C4 := aM H
            clear H
            have hnb192 := nP e0 d6
            have hnb193 := nP e1 e2
            have hnb194 := nP e3 f8
            have hz195 := cz2 d2
            go_wp2_with (fail)
            have H := C4.out
            clear C4
            obtain ⟨L196, hF_, hM303_, hM304_, hM305_⟩ := FrI_pack3 d0.out d2.out b7.out f7.out e3.out f9.out [35, 40] (by decide) (by decide) (by decide)
            have HLM303 := aM hM303_
            have HLM304 := aM hM304_
            have HLM305 := aM hM305_
            have a9 := aM hF_
            clear hF_ hM303_ hM304_ hM305_ d0 d2 b7
            replace H := bN H
            obtain ⟨⟨k5, k6, q9, r0⟩, x8, H⟩ := H
            by_cases E7 : g3.toList = ([103, 114, 97, 121] : List UInt8)
            ·exact absurd (by rw [E7]; decide) hA_.out
            ·rw [if_neg E7] at H
             obtain ⟨aa3, aa4⟩ := eqF E7
             by_cases E8 : g3.toList = ([115, 97, 118, 101] : List UInt8)
             ·exact absurd (by rw [E8]; decide) hA_.out
             ·rw [if_neg E8] at H
              obtain ⟨aa5, aa6⟩ := eqF E8
              by_cases u6 : g3.toList = ([114, 101, 115, 116, 111, 114, 101] : List UInt8)
              ·rw [if_pos u6] at H
               obtain ⟨w8, w9⟩ := eqT u6
               clear u6
               by_cases t3 : (b0.length : Int) = 0
               ·rw [if_pos t3] at H
                have E9 : ((b0.length : Int) == 0) = true := beq_iff_eq.mpr t3
                have F2 : ((b0.length : Int) != 0) = false := bne_eq_false_iff_eq.mpr t3
                clear t3
                have H' := aM H
                clear H
                obtain ⟨ac4, ac5, J6⟩ := Kd.R_slice b6.out
                subst J6
                go_at_call 63
                go_enter Try.func63, Try.ntmps63
                try go_wp2_with (first | ((with_reducible refine gC 52 ?_); refine cM (some 12) Try.func52 (spec_Identity.calls  k5 k6 q9 r0 _ x8.out) ?_; rintro e af9 ⟨rfl, hb⟩; refine ⟨_, rfl, ?_⟩; replace b6 := rB b6 hb; replace a5 := rB a5 hb; replace a3 := rB a3 hb; replace a2 := sB a2 hb; replace a7 := sB a7 hb; replace a6 := kB_ a8 hb; replace a9 := aM (FrI_belowS hb a9.out (FrN0 a9.out)); replace HB := hB hb; (try clear hb)) | ((with_reducible refine gD 7 ?_); refine bxE #[.int .i64 0, .int .i64 0, .int .i64 0, .int .i64 0] 26 ?_; intro b1 hg ag0 b2 hb; have GE430 := gE hg; have k7 := nL_ a8 hg; have k9 := nG_ a8 hg; replace b6 := rB b6 hb; replace a5 := rB a5 hb; replace a3 := rB a3 hb; replace a2 := sB a2 hb; replace a7 := sB a7 hb; replace a6 := kB_ a8 hb; replace a9 := aM (FrI_belowS hb a9.out (FrN0 a9.out)); replace HB := hB hb; clear hb hg; have hnb227 := nP k9 k7; have hz228 := cz4 b2; have G3 := cg11 a6))
                (try (go_ret; (try simp only [])))
                (try (refine ⟨_, rfl, ?_⟩))
                have d0 := aM (FrI_get a9.out HLM303.out)
                have d2 := aM (FrI_get a9.out HLM304.out)
                have b7 := aM (FrI_get a9.out HLM305.out)
                have ne303_430 := aM (blk_neT d0.out b2.out (by decide))
                have en303_430 := aM (Ne.symm ne303_430.out)
                have ne304_430 := aM (blk_neT d2.out b2.out (by decide))
                have en304_430 := aM (Ne.symm ne304_430.out)
                have ne305_430 := aM (blk_neT b7.out b2.out (by decide))
                have en305_430 := aM (Ne.symm ne305_430.out)
                clear a9
                try go_wp2
                go_meet
                case rel => exact ⟨_, (false), (b9), (l4), (l5), (l6), (l7), (d3), (o7), (o8), (o9), (q0), (q3), (b0), (e8), (.slice d4 b9.length d5), (.slice e9 d3.length f5), (.slice m9 b0.length h0), (.slice k3 e8.length k4), fS, H', ⟨by have := HJ2.out; have := HJ68.out; first | omega | exact Nat.le_refl _⟩, ⟨rW [b1] a5 b2⟩, ⟨rW [b1] a3 b2⟩, ⟨sW [b1] a2 b2⟩, ⟨sW [b1] a7 b2⟩, ⟨kS⟩, ⟨kS⟩, ⟨kS⟩, ⟨kS⟩, ⟨bS⟩⟩
               ·rw [if_neg t3] at H
                have E9 : ((b0.length : Int) == 0) = false := beq_eq_false_iff_ne.mpr t3
                have F2 : ((b0.length : Int) != 0) = true := bne_iff_ne.mpr t3
                have aa7 : ¬ (b0 = []) := fun h_ => t3 (by rw [h_]; rfl)
                obtain ⟨ji230, hji230⟩ : ∃ j_ : Int, (wrap64 ((b0.length : Int) - 1)) = j_ := ⟨_, rfl⟩
                replace H : (if 0 ≤ (ji230) then (if (ji230) < (b0.length : Int) then (if (ji230) ≤ (b0.length : Int) then (spec_ExecToken.j4 kj68 true j5 l9 m0 m1 m2 j9 m3 m4 m5 m6 i6 g4 g5 b9 ((rd_T31 b0 (ji230)).f1.f0) ((rd_T31 b0 (ji230)).f1.f1) ((rd_T31 b0 (ji230)).f1.f2) ((rd_T31 b0 (ji230)).f1.f3) ((rd_T31 b0 (ji230)).f2) ((rd_T31 b0 (ji230)).f3) ((rd_T31 b0 (ji230)).f4.f0) ((rd_T31 b0 (ji230)).f4.f1) ((rd_T31 b0 (ji230)).f4.f2) ((rd_T31 b0 (ji230)).f4.f3) (b0.take ((ji230) : Int).toNat) e8) else (none)) else (none)) else (none)) = some (r1, r2, r3, r4, r5, r6, r7, r8, r9, D4, D5, D6, D7, D8) := by first | (rw [hji230] at H; exact H) | (simp only [hji230] at H ⊢; exact H)
                (try rw [hji230] at x8)
                have hji230w : (IntKind.i64.wrap ((b0.length : Int) - 1)) = ji230 := (i64_w _).trans hji230
                obtain ⟨aa8, H⟩ := iT H
                obtain ⟨F3, H⟩ := iT H
                obtain ⟨F4, F5, H⟩ := iF H
                obtain ⟨x9, hy_⟩ : ∃ y_ : List (S31), y_ = (b0.take ((ji230) : Int).toNat) := ⟨_, rfl⟩
                replace H : (spec_ExecToken.j4 kj68 true j5 l9 m0 m1 m2 j9 m3 m4 m5 m6 i6 g4 g5 b9 ((rd_T31 b0 (ji230)).f1.f0) ((rd_T31 b0 (ji230)).f1.f1) ((rd_T31 b0 (ji230)).f1.f2) ((rd_T31 b0 (ji230)).f1.f3) ((rd_T31 b0 (ji230)).f2) ((rd_T31 b0 (ji230)).f3) ((rd_T31 b0 (ji230)).f4.f0) ((rd_T31 b0 (ji230)).f4.f1) ((rd_T31 b0 (ji230)).f4.f2) ((rd_T31 b0 (ji230)).f4.f3) x9 e8) = some (r1, r2, r3, r4, r5, r6, r7, r8, r9, D4, D5, D6, D7, D8) := yS
                have Ny451 := aM hy_
                clear hy_
                have H' := aM H
                clear H
                obtain ⟨j7, j8, J7⟩ := Kd.R_slice b6.out
                subst J7
                go_at_call 63
                go_enter Try.func63, Try.ntmps63
                try go_wp2_with (first | ((with_reducible refine gC 52 ?_); refine cM (some 12) Try.func52 (spec_Identity.calls  k5 k6 q9 r0 _ x8.out) ?_; rintro e ag1 ⟨rfl, hb⟩; refine ⟨_, rfl, ?_⟩; replace b6 := rB b6 hb; replace a5 := rB a5 hb; replace a3 := rB a3 hb; replace a2 := sB a2 hb; replace a7 := sB a7 hb; replace a6 := kB_ a8 hb; replace a9 := aM (FrI_belowS hb a9.out (FrN0 a9.out)); replace HB := hB hb; (try clear hb)) | ((with_reducible refine gD 7 ?_); refine bxE #[.int .i64 0, .int .i64 0, .int .i64 0, .int .i64 0] 26 ?_; intro b1 hg aa9 b2 hb; have GE430 := gE hg; have k7 := nL_ a8 hg; have k9 := nG_ a8 hg; replace b6 := rB b6 hb; replace a5 := rB a5 hb; replace a3 := rB a3 hb; replace a2 := sB a2 hb; replace a7 := sB a7 hb; replace a6 := kB_ a8 hb; replace a9 := aM (FrI_belowS hb a9.out (FrN0 a9.out)); replace HB := hB hb; clear hb hg; have hnb237 := nP k9 k7; have hz238 := cz4 b2) | ((with_reducible refine gate_store (t := 26) (p := 7) rfl ?_); refine store_event (t := 26) (p := 7) (v := ?vo_w239) (w1 := ((((aa9.setCell ⟨b1, 0, none⟩ (.int .i64 k5)).setCell ⟨b1, 1, none⟩ (.int .i64 k6)).setCell ⟨b1, 2, none⟩ (.int .i64 q9)).setCell ⟨b1, 3, none⟩ (.int .i64 r0))) ?hg ?ho ?hn ?hr ?_; (case ho => rfl); (case hg => rfl); (case hn => rfl); (case hr => first | (go_simp; done) | (go_simp; rfl)); intro s0 hw; replace b6 : Aside0 (Kd.R (Kd.int .i64) 3 s0 w.heap.size (fun k_ => (w.heap.size ≤ k_) ∧ some k_ ≠ (.slice d4 b9.length d5 : Value).ownBlock) (.slice j7 b8.length j8) b8) := ⟨(by rw [hw]; exact (by exact Kd.R_mono (R_on (g := b1) (Kd.R_types b6.out b2.out (by decide)) (fun _ hk => hk.2)) (fun _ hk => ⟨hk.1.1, hk.1.2⟩)))⟩; replace a5 : Aside0 (Kd.R (Kd.int .i64) 3 s0 w.heap.size (fun k_ => (w.heap.size ≤ k_) ∧ some k_ ≠ (.slice j7 b8.length j8 : Value).ownBlock) (.slice d4 b9.length d5) b9) := ⟨(by rw [hw]; exact (by exact Kd.R_mono (R_on (g := b1) (Kd.R_types a5.out b2.out (by decide)) (fun _ hk => hk.2)) (fun _ hk => ⟨hk.1.1, hk.1.2⟩)))⟩; replace a3 : Aside0 (Kd.R k80 80 s0 w.heap.size (fun k_ => (w.heap.size ≤ k_)) (.slice e9 d3.length f5) d3) := ⟨(by rw [hw]; exact (by exact Kd.R_mono (R_on (g := b1) (Kd.R_types a3.out b2.out (by decide)) (fun _ hk => hk.2)) (fun _ hk => hk.1)))⟩; replace a2 : Aside0 (Kd.S k31 31 s0 w.heap.size (fun k_ => (w.heap.size ≤ k_) ∧ some k_ ≠ (.slice j7 b8.length j8 : Value).ownBlock ∧ some k_ ≠ (.slice d4 b9.length d5 : Value).ownBlock ∧ some k_ ≠ (.slice e9 d3.length f5 : Value).ownBlock) (.slice m9 b0.length h0) b0) := ⟨(by rw [hw]; exact (by exact Kd.S_mono (S_on (g := b1) (Kd.S_types a2.out b2.out (by decide)) (fun _ hk => hk.2)) (fun _ hk => ⟨hk.1.1, ⟨hk.1.2.1, ⟨hk.1.2.2.1, hk.1.2.2.2⟩⟩⟩)))⟩; replace a7 : Aside0 (Kd.S k60 60 s0 w.heap.size (fun k_ => (w.heap.size ≤ k_) ∧ some k_ ≠ (.slice e9 d3.length f5 : Value).ownBlock) (.slice k3 e8.length k4) e8) := ⟨(by rw [hw]; exact (by exact Kd.S_mono (S_on (g := b1) (Kd.S_types a7.out b2.out (by decide)) (fun _ hk => hk.2)) (fun _ hk => ⟨hk.1.1, hk.1.2⟩)))⟩; replace a6 : Aside0 (s0.heap[a8]? = some (.cells #[.slice d4 b9.length d5, .int .i64 l4, .int .i64 l5, .int .i64 l6, .int .i64 l7, .slice e9 d3.length f5, .int .i64 o7, .int .i64 o8, .int .i64 o9, .int .i64 q0, .int .i64 q3, .slice m9 b0.length h0, .slice k3 e8.length k4] 35 (0, 0))) := ⟨(by rw [hw]; exact kS)⟩; replace a9 : Aside0 (FrI L196 a8 [35, 40] s0) := ⟨(by rw [hw]; exact (by exact FrI_self a9.out (FrN1 a9.out (FrN0 a9.out) b2.out (by decide))))⟩; replace b2 : Aside0 (s0.heap[b1]? = some (.cells #[.int .i64 k5, .int .i64 k6, .int .i64 q9, .int .i64 r0] 26 (0, 0))) := ⟨(by rw [hw]; exact kS)⟩; replace HB : Aside0 (Below w.heap.size w s0) := ⟨(by rw [hw]; exact bS)⟩; clear hw; have hz240 := cz13 a6; have x0 : 0 ≤ ((ji230) : Int) := dA; have x1 : (ji230) < (b0.length : Int) := dA; obtain ⟨l3, o4, o5, m7, m8, ab0, t6, y0, y1, y2, y3, t7, y4, y5, y6, y7, x2, hl450_0, hi450_0, hl450_5, hi450_5⟩ := at_T31 (Kd.S_reads' a2.out).2.2 (ji230) x0 x1; cases ab0; obtain ⟨ce450, hce450, oj450, hoj450, hMe450, hcc450, hsp450⟩ := S_split a2.out z31 (ji230) x0 (by first | exact x1 | exact dA | (have e_ := (Kd.S_reads' a2.out).1; omega)); obtain ⟨ve450_0, ve450_5, rfl, ge450_0, ge450_5⟩ := k31_openM hMe450; have hv450_0 := hcc450 0 _ rfl; rw [Nat.add_zero] at hv450_0; replace hv450_0 := Option.some.inj (hv450_0.symm.trans t6); rw [hv450_0] at ge450_0; have HL450_0 := aM (show Kd.R (Kd.int .i64) 3 _ _ _ _ ((rd_T31 b0 (ji230)).f0) from Kd.R_mono ge450_0 hoj450); replace hsp450 := S_spl hsp450 ge450_0; clear hv450_0 ge450_0; have hv450_5 := hcc450 5 _ rfl; rw [add_field _ _ 5 (by omega)] at hv450_5; replace hv450_5 := Option.some.inj (hv450_5.symm.trans t7); rw [hv450_5] at ge450_5; have HL450_5 := aM (show Kd.R k80 80 _ _ _ _ ((rd_T31 b0 (ji230)).f2) from Kd.R_mono ge450_5 hoj450); replace hsp450 := S_spl hsp450 ge450_5; clear hv450_5 ge450_5; clear hcc450 hce450; have HSP450 := aM (S_spd hsp450); clear hsp450 hoj450; have W0 := aM hi450_0; have W1 := aM hl450_0; clear hi450_0 hl450_0; have W2 := aM hi450_5; have W3 := aM hl450_5; clear hi450_5 hl450_5; replace x0 := eq_true x0; replace x1 := eq_true x1) | ((with_reducible refine gate_store (t := 31) (p := 63) rfl ?_); refine store_event (t := 31) (p := 63) (v := ?vo_w241) (w1 := (((((((((((s0.setCell ⟨a8, 0, none⟩ (.slice o4 ((rd_T31 b0 (ji230)).f0).length o5)).setCell ⟨a8, 1, none⟩ (.int .i64 ((rd_T31 b0 (ji230)).f1.f0))).setCell ⟨a8, 2, none⟩ (.int .i64 ((rd_T31 b0 (ji230)).f1.f1))).setCell ⟨a8, 3, none⟩ (.int .i64 ((rd_T31 b0 (ji230)).f1.f2))).setCell ⟨a8, 4, none⟩ (.int .i64 ((rd_T31 b0 (ji230)).f1.f3))).setCell ⟨a8, 5, none⟩ (.slice m7 ((rd_T31 b0 (ji230)).f2).length m8)).setCell ⟨a8, 6, none⟩ (.int .i64 ((rd_T31 b0 (ji230)).f3))).setCell ⟨a8, 7, none⟩ (.int .i64 ((rd_T31 b0 (ji230)).f4.f0))).setCell ⟨a8, 8, none⟩ (.int .i64 ((rd_T31 b0 (ji230)).f4.f1))).setCell ⟨a8, 9, none⟩ (.int .i64 ((rd_T31 b0 (ji230)).f4.f2))).setCell ⟨a8, 10, none⟩ (.int .i64 ((rd_T31 b0 (ji230)).f4.f3)))) ?hg ?ho ?hn ?hr ?_; (case ho => rfl); (case hg => rfl); (case hn => rfl); (case hr => first | (go_simp; done) | (go_simp; rfl)); intro o6 hw; replace b6 : Aside0 (Kd.R (Kd.int .i64) 3 o6 w.heap.size (fun k_ => (w.heap.size ≤ k_) ∧ some k_ ≠ (.slice d4 b9.length d5 : Value).ownBlock) (.slice j7 b8.length j8) b8) := ⟨(by rw [hw]; exact (by exact Kd.R_mono (R_on (g := a8) (Kd.R_types b6.out a6.out (by decide)) (fun _ hk => hk.2)) (fun _ hk => ⟨hk.1.1, hk.1.2⟩)))⟩; replace a5 : Aside0 (Kd.R (Kd.int .i64) 3 o6 w.heap.size (fun k_ => (w.heap.size ≤ k_) ∧ some k_ ≠ (.slice j7 b8.length j8 : Value).ownBlock) (.slice d4 b9.length d5) b9) := ⟨(by rw [hw]; exact (by exact Kd.R_mono (R_on (g := a8) (Kd.R_types a5.out a6.out (by decide)) (fun _ hk => hk.2)) (fun _ hk => ⟨hk.1.1, hk.1.2⟩)))⟩; replace a3 : Aside0 (Kd.R k80 80 o6 w.heap.size (fun k_ => (w.heap.size ≤ k_)) (.slice e9 d3.length f5) d3) := ⟨(by rw [hw]; exact (by exact Kd.R_mono (R_on (g := a8) (Kd.R_types a3.out a6.out (by decide)) (fun _ hk => hk.2)) (fun _ hk => hk.1)))⟩; replace a2 : Aside0 (Kd.S k31 31 o6 w.heap.size (fun k_ => (w.heap.size ≤ k_) ∧ some k_ ≠ (.slice j7 b8.length j8 : Value).ownBlock ∧ some k_ ≠ (.slice d4 b9.length d5 : Value).ownBlock ∧ some k_ ≠ (.slice e9 d3.length f5 : Value).ownBlock) (.slice (some l3) b0.length h0) b0) := ⟨(by rw [hw]; exact (by exact Kd.S_mono (S_on (g := a8) (Kd.S_types a2.out a6.out (by decide)) (fun _ hk => hk.2)) (fun _ hk => ⟨hk.1.1, ⟨hk.1.2.1, ⟨hk.1.2.2.1, hk.1.2.2.2⟩⟩⟩)))⟩; replace a7 : Aside0 (Kd.S k60 60 o6 w.heap.size (fun k_ => (w.heap.size ≤ k_) ∧ some k_ ≠ (.slice e9 d3.length f5 : Value).ownBlock) (.slice k3 e8.length k4) e8) := ⟨(by rw [hw]; exact (by exact Kd.S_mono (S_on (g := a8) (Kd.S_types a7.out a6.out (by decide)) (fun _ hk => hk.2)) (fun _ hk => ⟨hk.1.1, hk.1.2⟩)))⟩; replace HL450_0 : Aside0 (Kd.R (Kd.int .i64) 3 o6 w.heap.size (fun k_ => (w.heap.size ≤ k_) ∧ some k_ ≠ (.slice j7 b8.length j8 : Value).ownBlock ∧ some k_ ≠ (.slice d4 b9.length d5 : Value).ownBlock ∧ some k_ ≠ (.slice e9 d3.length f5 : Value).ownBlock ∧ some k_ ≠ (.slice (some l3) b0.length h0 : Value).ownBlock) (.slice o4 ((rd_T31 b0 (ji230)).f0).length o5) ((rd_T31 b0 (ji230)).f0)) := ⟨(by rw [hw]; exact (by exact Kd.R_mono (R_on (g := a8) (Kd.R_types HL450_0.out a6.out (by decide)) (fun _ hk => hk.2)) (fun _ hk => ⟨hk.1.1.1, ⟨hk.1.1.2.1, ⟨hk.1.1.2.2.1, ⟨hk.1.1.2.2.2, hk.1.2⟩⟩⟩⟩)))⟩; replace HL450_5 : Aside0 (Kd.R k80 80 o6 w.heap.size (fun k_ => (w.heap.size ≤ k_) ∧ some k_ ≠ (.slice j7 b8.length j8 : Value).ownBlock ∧ some k_ ≠ (.slice d4 b9.length d5 : Value).ownBlock ∧ some k_ ≠ (.slice e9 d3.length f5 : Value).ownBlock ∧ some k_ ≠ (.slice (some l3) b0.length h0 : Value).ownBlock) (.slice m7 ((rd_T31 b0 (ji230)).f2).length m8) ((rd_T31 b0 (ji230)).f2)) := ⟨(by rw [hw]; exact (by exact Kd.R_mono (R_on (g := a8) (Kd.R_types HL450_5.out a6.out (by decide)) (fun _ hk => hk.2)) (fun _ hk => ⟨hk.1.1.1, ⟨hk.1.1.2.1, ⟨hk.1.1.2.2.1, ⟨hk.1.1.2.2.2, hk.1.2⟩⟩⟩⟩)))⟩; replace HSP450 : Aside0 (Kd.S k31 31 o6 w.heap.size (fun k_ => (w.heap.size ≤ k_) ∧ some k_ ≠ (.slice j7 b8.length j8 : Value).ownBlock ∧ some k_ ≠ (.slice d4 b9.length d5 : Value).ownBlock ∧ some k_ ≠ (.slice e9 d3.length f5 : Value).ownBlock ∧ some k_ ≠ (.slice o4 ((rd_T31 b0 (ji230)).f0).length o5 : Value).ownBlock ∧ some k_ ≠ (.slice m7 ((rd_T31 b0 (ji230)).f2).length m8 : Value).ownBlock) (.slice (some l3) ((ji230) : Int).toNat h0) (b0.take ((ji230) : Int).toNat)) := ⟨(by rw [hw]; exact (by exact Kd.S_mono (S_on (g := a8) (Kd.S_types HSP450.out a6.out (by decide)) (fun _ hk => hk.2)) (fun _ hk => ⟨hk.1.1.1.1, ⟨hk.1.1.1.2.1, ⟨hk.1.1.1.2.2.1, ⟨hk.1.1.1.2.2.2, ⟨hk.1.1.2, hk.1.2⟩⟩⟩⟩⟩)))⟩; replace a6 : Aside0 (o6.heap[a8]? = some (.cells #[.slice o4 ((rd_T31 b0 (ji230)).f0).length o5, .int .i64 ((rd_T31 b0 (ji230)).f1.f0), .int .i64 ((rd_T31 b0 (ji230)).f1.f1), .int .i64 ((rd_T31 b0 (ji230)).f1.f2), .int .i64 ((rd_T31 b0 (ji230)).f1.f3), .slice m7 ((rd_T31 b0 (ji230)).f2).length m8, .int .i64 ((rd_T31 b0 (ji230)).f3), .int .i64 ((rd_T31 b0 (ji230)).f4.f0), .int .i64 ((rd_T31 b0 (ji230)).f4.f1), .int .i64 ((rd_T31 b0 (ji230)).f4.f2), .int .i64 ((rd_T31 b0 (ji230)).f4.f3), .slice (some l3) b0.length h0, .slice k3 e8.length k4] 35 (0, 0))) := ⟨(by rw [hw]; exact (kQ a6))⟩; replace a9 : Aside0 (FrI L196 a8 [35, 40] o6) := ⟨(by rw [hw]; exact (by exact FrI_self a9.out (FrN1 a9.out (FrN0 a9.out) b2.out (by decide))))⟩; replace b2 : Aside0 (o6.heap[b1]? = some (.cells #[.int .i64 k5, .int .i64 k6, .int .i64 q9, .int .i64 r0] 26 (0, 0))) := ⟨(by rw [hw]; exact kS)⟩; replace HB : Aside0 (Below w.heap.size w o6) := ⟨(by rw [hw]; exact bS)⟩; clear hw; have J8 := cg0 a6; have G4 := cg11 a6; have J9 := blk_frozen a6.out 0; have G5 := blk_frozen a6.out 11) | ((with_reducible refine gate_store (t := 24) (p := 68) rfl ?_); refine store_event (t := 24) (p := 68) (v := ?vo_w243) (w1 := (o6.setCell ⟨a8, 0, none⟩ (.slice d4 b9.length d5))) ?hg ?ho ?hn ?hr ?_; (case ho => rfl); (case hg => rfl); (case hn => rfl); (case hr => first | (go_simp; done) | (go_simp; rfl)); intro q5 hw; replace b6 : Aside0 (Kd.R (Kd.int .i64) 3 q5 w.heap.size (fun k_ => (w.heap.size ≤ k_) ∧ some k_ ≠ (.slice d4 b9.length d5 : Value).ownBlock) (.slice j7 b8.length j8) b8) := ⟨(by rw [hw]; exact (by exact rT (Kd.R_mono (Kd.R_far (p := ⟨a8, 0, none⟩) (Kd.R_types b6.out a6.out (by decide)) (fun _ hk => hk.2) (.slice d4 b9.length d5)) (fun _ hk => ⟨hk.1.1, hk.1.2⟩))))⟩; replace a5 : Aside0 (Kd.R (Kd.int .i64) 3 q5 w.heap.size (fun k_ => (w.heap.size ≤ k_) ∧ some k_ ≠ (.slice j7 b8.length j8 : Value).ownBlock) (.slice d4 b9.length d5) b9) := ⟨(by rw [hw]; exact (by exact rT (Kd.R_mono (Kd.R_far (p := ⟨a8, 0, none⟩) (Kd.R_types a5.out a6.out (by decide)) (fun _ hk => hk.2) (.slice d4 b9.length d5)) (fun _ hk => ⟨hk.1.1, hk.1.2⟩))))⟩; replace a3 : Aside0 (Kd.R k80 80 q5 w.heap.size (fun k_ => (w.heap.size ≤ k_)) (.slice e9 d3.length f5) d3) := ⟨(by rw [hw]; exact (by exact rT (Kd.R_mono (Kd.R_far (p := ⟨a8, 0, none⟩) (Kd.R_types a3.out a6.out (by decide)) (fun _ hk => hk.2) (.slice d4 b9.length d5)) (fun _ hk => hk.1))))⟩; replace a2 : Aside0 (Kd.S k31 31 q5 w.heap.size (fun k_ => (w.heap.size ≤ k_) ∧ some k_ ≠ (.slice j7 b8.length j8 : Value).ownBlock ∧ some k_ ≠ (.slice d4 b9.length d5 : Value).ownBlock ∧ some k_ ≠ (.slice e9 d3.length f5 : Value).ownBlock) (.slice (some l3) b0.length h0) b0) := ⟨(by rw [hw]; exact (by exact sT (Kd.S_mono (Kd.S_far (p := ⟨a8, 0, none⟩) (Kd.S_types a2.out a6.out (by decide)) (fun _ hk => hk.2) (.slice d4 b9.length d5)) (fun _ hk => ⟨hk.1.1, ⟨hk.1.2.1, ⟨hk.1.2.2.1, hk.1.2.2.2⟩⟩⟩))))⟩; replace a7 : Aside0 (Kd.S k60 60 q5 w.heap.size (fun k_ => (w.heap.size ≤ k_) ∧ some k_ ≠ (.slice e9 d3.length f5 : Value).ownBlock) (.slice k3 e8.length k4) e8) := ⟨(by rw [hw]; exact (by exact sT (Kd.S_mono (Kd.S_far (p := ⟨a8, 0, none⟩) (Kd.S_types a7.out a6.out (by decide)) (fun _ hk => hk.2) (.slice d4 b9.length d5)) (fun _ hk => ⟨hk.1.1, hk.1.2⟩))))⟩; replace HL450_0 : Aside0 (Kd.R (Kd.int .i64) 3 q5 w.heap.size (fun k_ => (w.heap.size ≤ k_) ∧ some k_ ≠ (.slice j7 b8.length j8 : Value).ownBlock ∧ some k_ ≠ (.slice d4 b9.length d5 : Value).ownBlock ∧ some k_ ≠ (.slice e9 d3.length f5 : Value).ownBlock ∧ some k_ ≠ (.slice (some l3) b0.length h0 : Value).ownBlock) (.slice o4 ((rd_T31 b0 (ji230)).f0).length o5) ((rd_T31 b0 (ji230)).f0)) := ⟨(by rw [hw]; exact (by exact rT (Kd.R_mono (Kd.R_far (p := ⟨a8, 0, none⟩) (Kd.R_types HL450_0.out a6.out (by decide)) (fun _ hk => hk.2) (.slice d4 b9.length d5)) (fun _ hk => ⟨hk.1.1, ⟨hk.1.2.1, ⟨hk.1.2.2.1, ⟨hk.1.2.2.2.1, hk.1.2.2.2.2⟩⟩⟩⟩))))⟩; replace HL450_5 : Aside0 (Kd.R k80 80 q5 w.heap.size (fun k_ => (w.heap.size ≤ k_) ∧ some k_ ≠ (.slice j7 b8.length j8 : Value).ownBlock ∧ some k_ ≠ (.slice d4 b9.length d5 : Value).ownBlock ∧ some k_ ≠ (.slice e9 d3.length f5 : Value).ownBlock ∧ some k_ ≠ (.slice (some l3) b0.length h0 : Value).ownBlock) (.slice m7 ((rd_T31 b0 (ji230)).f2).length m8) ((rd_T31 b0 (ji230)).f2)) := ⟨(by rw [hw]; exact (by exact rT (Kd.R_mono (Kd.R_far (p := ⟨a8, 0, none⟩) (Kd.R_types HL450_5.out a6.out (by decide)) (fun _ hk => hk.2) (.slice d4 b9.length d5)) (fun _ hk => ⟨hk.1.1, ⟨hk.1.2.1, ⟨hk.1.2.2.1, ⟨hk.1.2.2.2.1, hk.1.2.2.2.2⟩⟩⟩⟩))))⟩; replace HSP450 : Aside0 (Kd.S k31 31 q5 w.heap.size (fun k_ => (w.heap.size ≤ k_) ∧ some k_ ≠ (.slice j7 b8.length j8 : Value).ownBlock ∧ some k_ ≠ (.slice d4 b9.length d5 : Value).ownBlock ∧ some k_ ≠ (.slice e9 d3.length f5 : Value).ownBlock ∧ some k_ ≠ (.slice o4 ((rd_T31 b0 (ji230)).f0).length o5 : Value).ownBlock ∧ some k_ ≠ (.slice m7 ((rd_T31 b0 (ji230)).f2).length m8 : Value).ownBlock) (.slice (some l3) ((ji230) : Int).toNat h0) (b0.take ((ji230) : Int).toNat)) := ⟨(by rw [hw]; exact (by exact sT (Kd.S_mono (Kd.S_far (p := ⟨a8, 0, none⟩) (Kd.S_types HSP450.out a6.out (by decide)) (fun _ hk => hk.2) (.slice d4 b9.length d5)) (fun _ hk => ⟨hk.1.1, ⟨hk.1.2.1, ⟨hk.1.2.2.1, ⟨hk.1.2.2.2.1, ⟨hk.1.2.2.2.2.1, hk.1.2.2.2.2.2⟩⟩⟩⟩⟩))))⟩; replace a6 : Aside0 (q5.heap[a8]? = some (.cells #[.slice d4 b9.length d5, .int .i64 ((rd_T31 b0 (ji230)).f1.f0), .int .i64 ((rd_T31 b0 (ji230)).f1.f1), .int .i64 ((rd_T31 b0 (ji230)).f1.f2), .int .i64 ((rd_T31 b0 (ji230)).f1.f3), .slice m7 ((rd_T31 b0 (ji230)).f2).length m8, .int .i64 ((rd_T31 b0 (ji230)).f3), .int .i64 ((rd_T31 b0 (ji230)).f4.f0), .int .i64 ((rd_T31 b0 (ji230)).f4.f1), .int .i64 ((rd_T31 b0 (ji230)).f4.f2), .int .i64 ((rd_T31 b0 (ji230)).f4.f3), .slice (some l3) b0.length h0, .slice k3 e8.length k4] 35 (0, 0))) := ⟨(by rw [hw]; exact kS)⟩; replace a9 : Aside0 (FrI L196 a8 [35, 40] q5) := ⟨(by rw [hw]; exact (by exact FrI_self a9.out (FrN1 a9.out (FrN0 a9.out) b2.out (by decide))))⟩; replace b2 : Aside0 (q5.heap[b1]? = some (.cells #[.int .i64 k5, .int .i64 k6, .int .i64 q9, .int .i64 r0] 26 (0, 0))) := ⟨(by rw [hw]; exact kS)⟩; replace HB : Aside0 (Below w.heap.size w q5) := ⟨(by rw [hw]; exact bS)⟩; clear hw; have G6 := cg11 a6; have G7 := blk_frozen a6.out 11; have x3 : ((ji230) : Int) ≤ ((b0.length : Int) : Int) := dA; obtain ⟨i0245, hi0245, _, hsz245, _⟩ := info_parts info31; have hcut245 := cut_to (P := Try.prog) 32 31 .i64 Try.underlying32 hi0245 (some l3) b0.length h0 (ji230) (dA) x3 (Kd.S_reads' a2.out).2.1; have t8 := HSP450.out; have hy245 : x9.length = ((ji230) : Int).toNat := (by rw [Ny451.out, List.length_take]; omega); rw [← Ny451.out] at t8; rw [← hy245] at t8 hcut245; clear hy245 hi0245 hsz245 a2; have K0 := aM t8; clear t8; replace x3 := eq_true x3; clear HSP450))
                (try (go_ret; (try simp only [])))
                (try (refine ⟨_, rfl, ?_⟩))
                have d0 := aM (FrI_get a9.out HLM303.out)
                have d2 := aM (FrI_get a9.out HLM304.out)
                have b7 := aM (FrI_get a9.out HLM305.out)
                have ne303_430 := aM (blk_neT d0.out b2.out (by decide))
                have en303_430 := aM (Ne.symm ne303_430.out)
                have ne304_430 := aM (blk_neT d2.out b2.out (by decide))
                have en304_430 := aM (Ne.symm ne304_430.out)
                have ne305_430 := aM (blk_neT b7.out b2.out (by decide))
                have en305_430 := aM (Ne.symm ne305_430.out)
                clear a9
                try go_wp2
                go_meet
                case rel => exact ⟨_, (true), (b9), ((rd_T31 b0 (ji230)).f1.f0), ((rd_T31 b0 (ji230)).f1.f1), ((rd_T31 b0 (ji230)).f1.f2), ((rd_T31 b0 (ji230)).f1.f3), ((rd_T31 b0 (ji230)).f2), ((rd_T31 b0 (ji230)).f3), ((rd_T31 b0 (ji230)).f4.f0), ((rd_T31 b0 (ji230)).f4.f1), ((rd_T31 b0 (ji230)).f4.f2), ((rd_T31 b0 (ji230)).f4.f3), (x9), (e8), (.slice d4 b9.length d5), (.slice m7 ((rd_T31 b0 (ji230)).f2).length m8), (.slice (some l3) x9.length h0), (.slice k3 e8.length k4), fS, H', ⟨by have := HJ2.out; have := HJ68.out; first | omega | exact Nat.le_refl _⟩, ⟨rW [a8] a5 a6⟩, ⟨rW [a8] HL450_5 a6⟩, ⟨sW [a8] K0 a6⟩, ⟨sW [a8] a7 a6⟩, ⟨kS⟩, ⟨kS⟩, ⟨kS⟩, ⟨kS⟩, ⟨bS⟩⟩
              ·rw [if_neg u6] at H
               obtain ⟨w8, w9⟩ := eqF u6
               by_cases x4 : g3.toList = ([115, 104, 105, 102, 116] : List UInt8)
               ·rw [if_pos x4] at H
                obtain ⟨F6, F7⟩ := eqT x4
                clear x4
                by_cases x5 : 0 < (b8.length : Int)
                ·rw [if_pos x5] at H
                 have F8 : decide (0 < (b8.length : Int)) = true := decide_eq_true x5
                 have F9 : decide (0 < b8.length) = true := decide_eq_true (by omega)
                 clear x5
                 by_cases x6 : 1 < (b8.length : Int)
                 ·rw [if_pos x6] at H
                  have G0 : decide (1 < (b8.length : Int)) = true := decide_eq_true x6
                  have G1 : decide (1 < b8.length) = true := decide_eq_true (by omega)
                  clear x6
                  replace H := bN H
                  obtain ⟨⟨u7, u9, v0, v1, v2⟩, K1, H⟩ := H
                  have H' := aM H
                  clear H
                  obtain ⟨ac6, n5, K2⟩ := Kd.R_slice b6.out
                  subst K2
                  go_at_call 63
                  go_enter Try.func63, Try.ntmps63
                  try go_wp2_with (first | ((with_reducible refine gC 52 ?_); refine cM (some 12) Try.func52 (spec_Identity.calls  k5 k6 q9 r0 _ x8.out) ?_; rintro e ag2 ⟨rfl, hb⟩; refine ⟨_, rfl, ?_⟩; replace b6 := rB b6 hb; replace a5 := rB a5 hb; replace a3 := rB a3 hb; replace a2 := sB a2 hb; replace a7 := sB a7 hb; replace a6 := kB_ a8 hb; replace a9 := aM (FrI_belowS hb a9.out (FrN0 a9.out)); replace HB := hB hb; (try clear hb)) | ((with_reducible refine gD 7 ?_); refine bxE #[.int .i64 0, .int .i64 0, .int .i64 0, .int .i64 0] 26 ?_; intro b1 hg ab1 b2 hb; have GE430 := gE hg; have k7 := nL_ a8 hg; have k9 := nG_ a8 hg; replace b6 := rB b6 hb; replace a5 := rB a5 hb; replace a3 := rB a3 hb; replace a2 := sB a2 hb; replace a7 := sB a7 hb; replace a6 := kB_ a8 hb; replace a9 := aM (FrI_belowS hb a9.out (FrN0 a9.out)); replace HB := hB hb; clear hb hg; have hnb253 := nP k9 k7; have hz254 := cz4 b2; have y8 : 0 ≤ (0 : Int) := (by omega); have y9 : 0 < (b8.length : Int) := dA; obtain ⟨g6, ab2, g7⟩ := Kd.at_int (Kd.R_reads' b6.out).2.2 0 y8 y9; cases ab2; have qi454 : (0 < b8.length) = True := eq_true (by omega); (try rw [show ((0 : Int)).toNat = 0 from rfl] at g7); (try rw [Addr.add_zero'] at g7); have hn454_0 : g6.block ≠ b1 := Kd.own_blk (Kd.R_ne b6.out b2.out (by decide)); have hn454_1 : g6.block ≠ b1 := Kd.own_blk (Kd.R_ne b6.out b2.out (by decide)); have hn454_2 : g6.block ≠ b1 := Kd.own_blk (Kd.R_ne b6.out b2.out (by decide)); have hn454_3 : g6.block ≠ b1 := Kd.own_blk (Kd.R_ne b6.out b2.out (by decide)); replace g7 := (cell_far (p := ⟨b1, 0, none⟩) (by first | (rw [add_block]; exact hn454_0) | (show (Addr.add _ _).block ≠ _; rw [add_block]; exact hn454_0) | exact hn454_0) (.int .i64 k5)).trans g7; replace g7 := (cell_far (p := ⟨b1, 1, none⟩) (by first | (rw [add_block]; exact hn454_1) | (show (Addr.add _ _).block ≠ _; rw [add_block]; exact hn454_1) | exact hn454_1) (.int .i64 k6)).trans g7; replace g7 := (cell_far (p := ⟨b1, 2, none⟩) (by first | (rw [add_block]; exact hn454_2) | (show (Addr.add _ _).block ≠ _; rw [add_block]; exact hn454_2) | exact hn454_2) (.int .i64 q9)).trans g7; replace g7 := (cell_far (p := ⟨b1, 3, none⟩) (by first | (rw [add_block]; exact hn454_3) | (show (Addr.add _ _).block ≠ _; rw [add_block]; exact hn454_3) | exact hn454_3) (.int .i64 r0)).trans g7; clear hn454_0; clear hn454_1; clear hn454_2; clear hn454_3; replace y8 := eq_true y8; replace y9 := eq_true y9; have A0 : 0 ≤ (1 : Int) := (by omega); have A1 : 1 < (b8.length : Int) := dA; obtain ⟨K3, ab3, g0⟩ := Kd.at_int (Kd.R_reads' b6.out).2.2 1 A0 A1; obtain rfl : g6 = K3 := (by injection ab3); (try simp only [show (1 : Int).toNat = 1 from rfl, Nat.reduceMul, Nat.reduceEqDiff, Go.Addr.add, ↓reduceIte] at g0); have qi455 : (1 < b8.length) = True := eq_true (by omega); (try rw [show ((1 : Int)).toNat = 1 from rfl] at g0); have hn455_0 : g6.block ≠ b1 := Kd.own_blk (Kd.R_ne b6.out b2.out (by decide)); have hn455_1 : g6.block ≠ b1 := Kd.own_blk (Kd.R_ne b6.out b2.out (by decide)); have hn455_2 : g6.block ≠ b1 := Kd.own_blk (Kd.R_ne b6.out b2.out (by decide)); have hn455_3 : g6.block ≠ b1 := Kd.own_blk (Kd.R_ne b6.out b2.out (by decide)); have hn455_4 : g6.block ≠ b1 := Kd.own_blk (Kd.R_ne b6.out b2.out (by decide)); replace g0 := (cell_far (p := ⟨b1, 0, none⟩) (by first | (rw [add_block]; exact hn455_0) | (show (Addr.add _ _).block ≠ _; rw [add_block]; exact hn455_0) | exact hn455_0) (.int .i64 k5)).trans g0; replace g0 := (cell_far (p := ⟨b1, 1, none⟩) (by first | (rw [add_block]; exact hn455_1) | (show (Addr.add _ _).block ≠ _; rw [add_block]; exact hn455_1) | exact hn455_1) (.int .i64 k6)).trans g0; replace g0 := (cell_far (p := ⟨b1, 2, none⟩) (by first | (rw [add_block]; exact hn455_2) | (show (Addr.add _ _).block ≠ _; rw [add_block]; exact hn455_2) | exact hn455_2) (.int .i64 q9)).trans g0; replace g0 := (cell_far (p := ⟨b1, 3, none⟩) (by first | (rw [add_block]; exact hn455_3) | (show (Addr.add _ _).block ≠ _; rw [add_block]; exact hn455_3) | exact hn455_3) (.int .i64 r0)).trans g0; replace g0 := (cell_far (p := ⟨b1, 2, none⟩) (by first | (rw [add_block]; exact hn455_4) | (show (Addr.add _ _).block ≠ _; rw [add_block]; exact hn455_4) | exact hn455_4) (.int .i64 (rd b8 0))).trans g0; clear hn455_0; clear hn455_1; clear hn455_2; clear hn455_3; clear hn455_4; replace A0 := eq_true A0; replace A1 := eq_true A1))
                  obtain ⟨s1, hw_⟩ : ∃ w_ : World, w_ = ((((((ab1.setCell ⟨b1, 0, none⟩ (.int .i64 k5)).setCell ⟨b1, 1, none⟩ (.int .i64 k6)).setCell ⟨b1, 2, none⟩ (.int .i64 q9)).setCell ⟨b1, 3, none⟩ (.int .i64 r0)).setCell ⟨b1, 2, none⟩ (.int .i64 (rd b8 0))).setCell ⟨b1, 3, none⟩ (.int .i64 (rd b8 1))) := ⟨_, rfl⟩
                  have n0_ : Aside0 (Kd.R (Kd.int .i64) 3 s1 w.heap.size (fun k_ => (w.heap.size ≤ k_) ∧ some k_ ≠ (.slice d4 b9.length d5 : Value).ownBlock) (.slice (some g6) b8.length n5) b8) := ⟨by rw [hw_]; exact (by exact Kd.R_mono (R_on (g := b1) (Kd.R_types b6.out b2.out (by decide)) (fun _ hk => hk.2)) (fun _ hk => ⟨hk.1.1, hk.1.2⟩))⟩
                  have n1_ : Aside0 (Kd.R (Kd.int .i64) 3 s1 w.heap.size (fun k_ => (w.heap.size ≤ k_) ∧ some k_ ≠ (.slice (some g6) b8.length n5 : Value).ownBlock) (.slice d4 b9.length d5) b9) := ⟨by rw [hw_]; exact (by exact Kd.R_mono (R_on (g := b1) (Kd.R_types a5.out b2.out (by decide)) (fun _ hk => hk.2)) (fun _ hk => ⟨hk.1.1, hk.1.2⟩))⟩
                  have n2_ : Aside0 (Kd.R k80 80 s1 w.heap.size (fun k_ => (w.heap.size ≤ k_)) (.slice e9 d3.length f5) d3) := ⟨by rw [hw_]; exact (by exact Kd.R_mono (R_on (g := b1) (Kd.R_types a3.out b2.out (by decide)) (fun _ hk => hk.2)) (fun _ hk => hk.1))⟩
                  have n3_ : Aside0 (Kd.S k31 31 s1 w.heap.size (fun k_ => (w.heap.size ≤ k_) ∧ some k_ ≠ (.slice (some g6) b8.length n5 : Value).ownBlock ∧ some k_ ≠ (.slice d4 b9.length d5 : Value).ownBlock ∧ some k_ ≠ (.slice e9 d3.length f5 : Value).ownBlock) (.slice m9 b0.length h0) b0) := ⟨by rw [hw_]; exact (by exact Kd.S_mono (S_on (g := b1) (Kd.S_types a2.out b2.out (by decide)) (fun _ hk => hk.2)) (fun _ hk => ⟨hk.1.1, ⟨hk.1.2.1, ⟨hk.1.2.2.1, hk.1.2.2.2⟩⟩⟩))⟩
                  have n4_ : Aside0 (Kd.S k60 60 s1 w.heap.size (fun k_ => (w.heap.size ≤ k_) ∧ some k_ ≠ (.slice e9 d3.length f5 : Value).ownBlock) (.slice k3 e8.length k4) e8) := ⟨by rw [hw_]; exact (by exact Kd.S_mono (S_on (g := b1) (Kd.S_types a7.out b2.out (by decide)) (fun _ hk => hk.2)) (fun _ hk => ⟨hk.1.1, hk.1.2⟩))⟩
                  have n5_ : Aside0 (s1.heap[a8]? = some (.cells #[.slice d4 b9.length d5, .int .i64 l4, .int .i64 l5, .int .i64 l6, .int .i64 l7, .slice e9 d3.length f5, .int .i64 o7, .int .i64 o8, .int .i64 o9, .int .i64 q0, .int .i64 q3, .slice m9 b0.length h0, .slice k3 e8.length k4] 35 (0, 0))) := ⟨by rw [hw_]; exact kS⟩
                  have n6_ : Aside0 (s1.heap[b1]? = some (.cells #[.int .i64 k5, .int .i64 k6, .int .i64 (rd b8 0), .int .i64 (rd b8 1)] 26 (0, 0))) := ⟨by rw [hw_]; exact kS⟩
                  have n7_ : Aside0 (FrI L196 a8 [35, 40] s1) := ⟨by rw [hw_]; exact (by exact FrI_self a9.out (FrN1 a9.out (FrN0 a9.out) b2.out (by decide)))⟩
                  have n8_ : Aside0 (Below w.heap.size w s1) := ⟨by rw [hw_]; exact bS⟩
                  rw [← hw_]
                  clear hw_ b6 a5 a3 a2 a7 a6 b2 a9 HB
                  have b6 := n0_
                  have a5 := n1_
                  have a3 := n2_
                  have a2 := n3_
                  have a7 := n4_
                  have a6 := n5_
                  have b2 := n6_
                  have a9 := n7_
                  have HB := n8_
                  clear n0_ n1_ n2_ n3_ n4_ n5_ n6_ n7_ n8_
                  replace b6 := rD b6
                  replace a5 := rD a5
                  replace a3 := rD a3
                  replace a2 := sD a2
                  replace a7 := sD a7
                  replace a6 := bD a6
                  replace b2 := bD b2
                  replace a9 := aM (FrI_drew a9.out)
                  replace HB := hD HB
                  refine start_ (n := 13) (S := fun w' => w'.cell? ⟨b1, 0, none⟩ = some (.int .i64 k5) ∧ w'.cell? ⟨b1, 1, none⟩ = some (.int .i64 k6) ∧ w'.cell? ⟨b1, 2, none⟩ = some (.int .i64 (rd b8 0)) ∧ w'.cell? ⟨b1, 3, none⟩ = some (.int .i64 (rd b8 1)) ∧ w'.cell? ⟨a8, 1, none⟩ = some (.int .i64 l4) ∧ w'.cell? ⟨a8, 2, none⟩ = some (.int .i64 l5) ∧ w'.cell? ⟨a8, 3, none⟩ = some (.int .i64 l6) ∧ w'.cell? ⟨a8, 4, none⟩ = some (.int .i64 l7)) (ds := []) (mB 13 0) (by kernel_rfl) rfl rfl (cx4 b2 ⟨(blk_cell a6.out 1).trans rfl, ⟨(blk_cell a6.out 2).trans rfl, ⟨(blk_cell a6.out 3).trans rfl, (blk_cell a6.out 4).trans rfl⟩⟩⟩) (fun hHeld => ?_); refine with_tabW spec_ExecToken.i63.tab25 spec_ExecToken.i63.bits25 (fun HT_ HW_ => ?_)
                  generalize s1.drew = ag3 at b6 a5 a3 a2 a7 a6 b2 a9 HB hHeld ⊢
                  refine pU 1 (some 103) (mB 13 2) ?_
                  refine pU 2 (some 104) (mB 13 6) ?_
                  refine pU 3 (some 105) (mB 13 14) ?_
                  refine pU 4 (some 106) (mB 13 30) ?_
                  refine tK 0 (some 102) (mB 13 31) ?_
                  refine tK 5 (some 107) (mB 13 63) ?_
                  refine join_ (σ := Nat) 2 (mB 13 2047) (fun s_ => [(108, .tuple #[.agg #[.int .i64 u7, .int .i64 u9, .int .i64 v0, .int .i64 v1], .bool v2]), (10, .pointer (some ⟨s_, 0, none⟩)), (101, .tuple #[.agg #[.int .i64 u7, .int .i64 u9, .int .i64 v0, .int .i64 v1], .bool v2]), (109, .agg #[.int .i64 u7, .int .i64 u9, .int .i64 v0, .int .i64 v1]), (110, .bool v2)]) (fun s_ w' => (w'.cell? ⟨b1, 0, none⟩ = some (.int .i64 k5) ∧ w'.cell? ⟨b1, 1, none⟩ = some (.int .i64 k6) ∧ w'.cell? ⟨b1, 2, none⟩ = some (.int .i64 (rd b8 0)) ∧ w'.cell? ⟨b1, 3, none⟩ = some (.int .i64 (rd b8 1)) ∧ w'.cell? ⟨a8, 1, none⟩ = some (.int .i64 l4) ∧ w'.cell? ⟨a8, 2, none⟩ = some (.int .i64 l5) ∧ w'.cell? ⟨a8, 3, none⟩ = some (.int .i64 l6) ∧ w'.cell? ⟨a8, 4, none⟩ = some (.int .i64 l7)) ∧ (Kd.R (Kd.int .i64) 3 w' w.heap.size (fun k_ => (w.heap.size ≤ k_) ∧ some k_ ≠ (.slice d4 b9.length d5 : Value).ownBlock) (.slice (some g6) b8.length n5) b8) ∧ (Kd.R (Kd.int .i64) 3 w' w.heap.size (fun k_ => (w.heap.size ≤ k_) ∧ some k_ ≠ (.slice (some g6) b8.length n5 : Value).ownBlock) (.slice d4 b9.length d5) b9) ∧ (Kd.R k80 80 w' w.heap.size (fun k_ => (w.heap.size ≤ k_)) (.slice e9 d3.length f5) d3) ∧ (Kd.S k31 31 w' w.heap.size (fun k_ => (w.heap.size ≤ k_) ∧ some k_ ≠ (.slice (some g6) b8.length n5 : Value).ownBlock ∧ some k_ ≠ (.slice d4 b9.length d5 : Value).ownBlock ∧ some k_ ≠ (.slice e9 d3.length f5 : Value).ownBlock) (.slice m9 b0.length h0) b0) ∧ (Kd.S k60 60 w' w.heap.size (fun k_ => (w.heap.size ≤ k_) ∧ some k_ ≠ (.slice e9 d3.length f5 : Value).ownBlock) (.slice k3 e8.length k4) e8) ∧ (w'.heap[a8]? = some (.cells #[.slice d4 b9.length d5, .int .i64 l4, .int .i64 l5, .int .i64 l6, .int .i64 l7, .slice e9 d3.length f5, .int .i64 o7, .int .i64 o8, .int .i64 o9, .int .i64 q0, .int .i64 q3, .slice m9 b0.length h0, .slice k3 e8.length k4] 35 (0, 0))) ∧ (w'.heap[b1]? = some (.cells #[.int .i64 k5, .int .i64 k6, .int .i64 (rd b8 0), .int .i64 (rd b8 1)] 26 (0, 0))) ∧ (w'.heap[s_]? = some (.cells #[.int .i64 0, .int .i64 0, .int .i64 0, .int .i64 0] 26 (0, 0))) ∧ (w.heap.size ≤ s_) ∧ (w.heap.size ≤ s_) ∧ (a8 ≠ s_) ∧ (s_ ≠ a8) ∧ (b1 ≠ s_) ∧ (s_ ≠ b1) ∧ (FrI L196 a8 [35, 40] w') ∧ (Below w.heap.size w w')) ?_ ?_
                  rotate_left
                  ·intro hCont
                   refine two_ (i := 6) (j := 10) (Ni := some 108) (Nj := some 10) (mB 13 127) (mB 13 1087) rfl rfl rfl rfl (two_of HT_.out (by kernel_rfl)) (by decide) (by decide) (fun K hK => ?_) (fun K hK => ?_)
                   ·skip
                    refine goes_ Try.func77 (by kernel_rfl) rfl #[.agg #[.int .i64 k5, .int .i64 k6, .int .i64 (rd b8 0), .int .i64 (rd b8 1)], .agg #[.int .i64 l4, .int .i64 l5, .int .i64 l6, .int .i64 l7]] (by rfl) rfl rfl mA ?_
                    with_reducible refine (spec_JoinTurns.calls kj68 k5 k6 (rd b8 0) (rd b8 1) l4 l5 l6 l7 u7 u9 v0 v1 v2 _ K1.out).mono ?_
                    rintro e ab4 ⟨rfl, hb⟩
                    refine ⟨_, rfl, ?_⟩
                    replace b6 := rB b6 hb
                    replace a5 := rB a5 hb
                    replace a3 := rB a3 hb
                    replace a2 := sB a2 hb
                    replace a7 := sB a7 hb
                    replace a6 := kB_ a8 hb
                    replace a9 := aM (FrI_belowS hb a9.out (FrN1 a9.out (FrN0 a9.out) b2.out (by decide)))
                    replace b2 := kB_ b1 hb
                    replace HB := hB hb
                    (try clear hb)
                    (try clear hb2)
                    (try clear hk)
                    (try clear hi)
                    refine hK.out _ _ (cx4 b2 ⟨(blk_cell a6.out 1).trans rfl, ⟨(blk_cell a6.out 2).trans rfl, ⟨(blk_cell a6.out 3).trans rfl, (blk_cell a6.out 4).trans rfl⟩⟩⟩) (fun hHeld => ?_)
                    clear hK K
                    refine norm_ (a' := ?_) ?_ ?_
                    rotate_left
                    ·show Act.put _ (some 108) _ = _
                     simp only [Act.put, List.setIfInBounds_toArray, List.set_cons_zero, List.set_cons_succ, i64_w, i32_w]
                     rfl
                    refine pU 7 (some 101) (mB 13 255) ?_
                    refine pU 8 (some 109) (mB 13 511) ?_
                    refine pU 9 (some 110) (mB 13 1023) ?_
                    refine one_ (i := 10) (N := some 10) (mB 13 2047) rfl rfl (one_of HT_.out (by kernel_rfl)) (by decide) (fun K hK => ?_)
                    refine box_step ?hg (N := 10) ?hd (cs := #[.int .i64 0, .int .i64 0, .int .i64 0, .int .i64 0]) (t := 26) ?hr ?_; (case hd => rfl); (case hg => rfl); (case hr => first | (go_simp; done) | (go_simp; rfl))
                    intro i7 hg ab5 hbox hb
                    have g1 := aM (hbox)
                    have GW461 := gE hg
                    have GE461 := gE hg
                    have e6 := nL_ a8 hg
                    have i8 := nG_ a8 hg
                    have e7 := nL_ b1 hg
                    have i9 := nG_ b1 hg
                    replace b6 := rB b6 hb
                    replace a5 := rB a5 hb
                    replace a3 := rB a3 hb
                    replace a2 := sB a2 hb
                    replace a7 := sB a7 hb
                    replace a6 := kB_ a8 hb
                    replace a9 := aM (FrI_belowS hb a9.out (FrN1 a9.out (FrN0 a9.out) b2.out (by decide)))
                    replace b2 := kB_ b1 hb
                    replace HB := hB hb
                    clear hb hg
                    refine hK.out _ _ (cx4 b2 ⟨(blk_cell a6.out 1).trans rfl, ⟨(blk_cell a6.out 2).trans rfl, ⟨(blk_cell a6.out 3).trans rfl, (blk_cell a6.out 4).trans rfl⟩⟩⟩) (fun hHeld => ?_)
                    clear hK K
                    refine norm_ (a' := ?_) ?_ ?_
                    rotate_left
                    ·show Act.put _ (some 10) _ = _
                     simp only [Act.put, List.setIfInBounds_toArray, List.set_cons_zero, List.set_cons_succ, i64_w, i32_w]
                     rfl
                    exact norm_ (by simp only [putAll, Act.put, List.setIfInBounds_toArray, List.set_cons_zero, List.set_cons_succ]) (hCont (i7) _ ⟨hHeld, (rS b6), (rS a5), (rS a3), (sS a2), (sS a7), kS, kS, kS, GW461.out, GE461.out, e6.out, i8.out, e7.out, i9.out, (by exact FrI_self a9.out (FrN1 a9.out (FrN1 a9.out (FrN0 a9.out) b2.out (by decide)) g1.out (by decide))), bS⟩)
                   ·skip
                    refine box_step ?hg (N := 10) ?hd (cs := #[.int .i64 0, .int .i64 0, .int .i64 0, .int .i64 0]) (t := 26) ?hr ?_; (case hd => rfl); (case hg => rfl); (case hr => first | (go_simp; done) | (go_simp; rfl))
                    intro i7 hg ab4 hbox hb
                    have g1 := aM (hbox)
                    have GW461 := gE hg
                    have GE461 := gE hg
                    have e6 := nL_ a8 hg
                    have i8 := nG_ a8 hg
                    have e7 := nL_ b1 hg
                    have i9 := nG_ b1 hg
                    replace b6 := rB b6 hb
                    replace a5 := rB a5 hb
                    replace a3 := rB a3 hb
                    replace a2 := sB a2 hb
                    replace a7 := sB a7 hb
                    replace a6 := kB_ a8 hb
                    replace a9 := aM (FrI_belowS hb a9.out (FrN1 a9.out (FrN0 a9.out) b2.out (by decide)))
                    replace b2 := kB_ b1 hb
                    replace HB := hB hb
                    clear hb hg
                    refine hK.out _ _ (cx4 b2 ⟨(blk_cell a6.out 1).trans rfl, ⟨(blk_cell a6.out 2).trans rfl, ⟨(blk_cell a6.out 3).trans rfl, (blk_cell a6.out 4).trans rfl⟩⟩⟩) (fun hHeld => ?_)
                    clear hK K
                    refine norm_ (a' := ?_) ?_ ?_
                    rotate_left
                    ·show Act.put _ (some 10) _ = _
                     simp only [Act.put, List.setIfInBounds_toArray, List.set_cons_zero, List.set_cons_succ, i64_w, i32_w]
                     rfl
                    refine one_ (i := 6) (N := some 108) (mB 13 1151) rfl rfl (one_of HT_.out (by kernel_rfl)) (by decide) (fun K hK => ?_)
                    refine goes_ Try.func77 (by kernel_rfl) rfl #[.agg #[.int .i64 k5, .int .i64 k6, .int .i64 (rd b8 0), .int .i64 (rd b8 1)], .agg #[.int .i64 l4, .int .i64 l5, .int .i64 l6, .int .i64 l7]] (by rfl) rfl rfl mA ?_
                    with_reducible refine (spec_JoinTurns.calls kj68 k5 k6 (rd b8 0) (rd b8 1) l4 l5 l6 l7 u7 u9 v0 v1 v2 _ K1.out).mono ?_
                    rintro e ab5 ⟨rfl, hb⟩
                    refine ⟨_, rfl, ?_⟩
                    replace b6 := rB b6 hb
                    replace a5 := rB a5 hb
                    replace a3 := rB a3 hb
                    replace a2 := sB a2 hb
                    replace a7 := sB a7 hb
                    replace a6 := kB_ a8 hb
                    replace a9 := aM (FrI_belowS hb a9.out (FrN1 a9.out (FrN1 a9.out (FrN0 a9.out) b2.out (by decide)) g1.out (by decide)))
                    replace b2 := kB_ b1 hb
                    replace g1 := kB_ i7 hb
                    replace HB := hB hb
                    (try clear hb)
                    (try clear hb2)
                    (try clear hk)
                    (try clear hi)
                    refine hK.out _ _ (cx4 b2 ⟨(blk_cell a6.out 1).trans rfl, ⟨(blk_cell a6.out 2).trans rfl, ⟨(blk_cell a6.out 3).trans rfl, (blk_cell a6.out 4).trans rfl⟩⟩⟩) (fun hHeld => ?_)
                    clear hK K
                    refine norm_ (a' := ?_) ?_ ?_
                    rotate_left
                    ·show Act.put _ (some 108) _ = _
                     simp only [Act.put, List.setIfInBounds_toArray, List.set_cons_zero, List.set_cons_succ, i64_w, i32_w]
                     rfl
                    refine pU 7 (some 101) (mB 13 1279) ?_
                    refine pU 8 (some 109) (mB 13 1535) ?_
                    refine pU 9 (some 110) (mB 13 2047) ?_
                    exact norm_ (by simp only [putAll, Act.put, List.setIfInBounds_toArray, List.set_cons_zero, List.set_cons_succ]) (hCont (i7) _ ⟨hHeld, (rS b6), (rS a5), (rS a3), (sS a2), (sS a7), kS, kS, kS, GW461.out, GE461.out, e6.out, i8.out, e7.out, i9.out, (by exact FrI_self a9.out (FrN1 a9.out (FrN1 a9.out (FrN0 a9.out) b2.out (by decide)) g1.out (by decide))), bS⟩)
                  rintro i7 l8 ⟨hS_, h0_, h1_, h2_, h3_, h4_, h5_, h6_, h7_, h8_, h9_, h10_, h11_, h12_, h13_, h14_, h15_⟩
                  have g1 : Aside0 (l8.heap[i7]? = some (.cells #[.int .i64 0, .int .i64 0, .int .i64 0, .int .i64 0] 26 (0, 0))) := ⟨h7_⟩
                  have GW461 : Aside0 (w.heap.size ≤ i7) := ⟨h8_⟩
                  have GE461 : Aside0 (w.heap.size ≤ i7) := ⟨h9_⟩
                  have e6 : Aside0 (a8 ≠ i7) := ⟨h10_⟩
                  have i8 : Aside0 (i7 ≠ a8) := ⟨h11_⟩
                  have e7 : Aside0 (b1 ≠ i7) := ⟨h12_⟩
                  have i9 : Aside0 (i7 ≠ b1) := ⟨h13_⟩
                  replace b6 : Aside0 (Kd.R (Kd.int .i64) 3 l8 w.heap.size (fun k_ => (w.heap.size ≤ k_) ∧ some k_ ≠ (.slice d4 b9.length d5 : Value).ownBlock) (.slice (some g6) b8.length n5) b8) := ⟨h0_⟩
                  replace a5 : Aside0 (Kd.R (Kd.int .i64) 3 l8 w.heap.size (fun k_ => (w.heap.size ≤ k_) ∧ some k_ ≠ (.slice (some g6) b8.length n5 : Value).ownBlock) (.slice d4 b9.length d5) b9) := ⟨h1_⟩
                  replace a3 : Aside0 (Kd.R k80 80 l8 w.heap.size (fun k_ => (w.heap.size ≤ k_)) (.slice e9 d3.length f5) d3) := ⟨h2_⟩
                  replace a2 : Aside0 (Kd.S k31 31 l8 w.heap.size (fun k_ => (w.heap.size ≤ k_) ∧ some k_ ≠ (.slice (some g6) b8.length n5 : Value).ownBlock ∧ some k_ ≠ (.slice d4 b9.length d5 : Value).ownBlock ∧ some k_ ≠ (.slice e9 d3.length f5 : Value).ownBlock) (.slice m9 b0.length h0) b0) := ⟨h3_⟩
                  replace a7 : Aside0 (Kd.S k60 60 l8 w.heap.size (fun k_ => (w.heap.size ≤ k_) ∧ some k_ ≠ (.slice e9 d3.length f5 : Value).ownBlock) (.slice k3 e8.length k4) e8) := ⟨h4_⟩
                  replace a6 : Aside0 (l8.heap[a8]? = some (.cells #[.slice d4 b9.length d5, .int .i64 l4, .int .i64 l5, .int .i64 l6, .int .i64 l7, .slice e9 d3.length f5, .int .i64 o7, .int .i64 o8, .int .i64 o9, .int .i64 q0, .int .i64 q3, .slice m9 b0.length h0, .slice k3 e8.length k4] 35 (0, 0))) := ⟨h5_⟩
                  replace b2 : Aside0 (l8.heap[b1]? = some (.cells #[.int .i64 k5, .int .i64 k6, .int .i64 (rd b8 0), .int .i64 (rd b8 1)] 26 (0, 0))) := ⟨h6_⟩
                  replace a9 : Aside0 (FrI L196 a8 [35, 40] l8) := ⟨h14_⟩
                  replace HB : Aside0 (Below w.heap.size w l8) := ⟨h15_⟩
                  clear h0_ h1_ h2_ h3_ h4_ h5_ h6_ h7_ h8_ h9_ h10_ h11_ h12_ h13_ h14_ h15_
                  have hHeld : l8.cell? ⟨b1, 0, none⟩ = some (.int .i64 k5) ∧ l8.cell? ⟨b1, 1, none⟩ = some (.int .i64 k6) ∧ l8.cell? ⟨b1, 2, none⟩ = some (.int .i64 (rd b8 0)) ∧ l8.cell? ⟨b1, 3, none⟩ = some (.int .i64 (rd b8 1)) ∧ l8.cell? ⟨a8, 1, none⟩ = some (.int .i64 l4) ∧ l8.cell? ⟨a8, 2, none⟩ = some (.int .i64 l5) ∧ l8.cell? ⟨a8, 3, none⟩ = some (.int .i64 l6) ∧ l8.cell? ⟨a8, 4, none⟩ = some (.int .i64 l7) := hS_
                  refine norm_ (a' := ?_) ?_ ?_
                  rotate_left
                  ·simp only [putAll, Act.put, List.setIfInBounds_toArray, List.set_cons_zero, List.set_cons_succ]
                   rfl
                  refine one_ (i := 11) (N := none) (mB 13 4095) rfl rfl (one_of HT_.out (by kernel_rfl)) (by decide) (fun K hK => ?_)
                  have hs260 := cg0 g1
                  have hfs260 := blk_frozen g1.out 0
                  have hns260_0 := nP e6 e7
                  have hms260_0 := i8.out
                  have hms260_1 := i9.out
                  have hs261 := cg1 g1
                  have hfs261 := blk_frozen g1.out 1
                  have hs262 := cg2 g1
                  have hfs262 := blk_frozen g1.out 2
                  have hs263 := cg3 g1
                  have hfs263 := blk_frozen g1.out 3
                  refine skip_ (w1 := ?_) (by rfl) rfl ?_ ?_
                  rotate_left
                  ·go_simp
                   rfl
                  refine hK.out _ _ (onW (g := i7) (fun on_ => ⟨(cO e7 on_ hHeld.1), (cO e7 on_ hHeld.2.1), (cO e7 on_ hHeld.2.2.1), (cO e7 on_ hHeld.2.2.2.1), (cO e6 on_ hHeld.2.2.2.2.1), (cO e6 on_ hHeld.2.2.2.2.2.1), (cO e6 on_ hHeld.2.2.2.2.2.2.1), (cO e6 on_ hHeld.2.2.2.2.2.2.2)⟩)) (fun hHeld => ?_)
                  clear hK K
                  refine pU 12 (some 11) (mB 13 8191) ?_
                  refine done_ (done_of HT_.out (by kernel_rfl)) ?_
                  have hnb264 := nP i8 e6
                  have hnb265 := nP i9 e7
                  have hz266 := cz4 g1
                  have K4 := cg1 a6
                  have K5 := cg2 a6
                  have K6 := cg3 a6
                  have K7 := cg4 a6
                  have K8 := blk_frozen a6.out 1
                  have K9 := blk_frozen a6.out 2
                  have L0 := blk_frozen a6.out 3
                  have L1 := blk_frozen a6.out 4
                  try go_wp2
                  (try (go_ret; (try simp only [])))
                  (try (refine ⟨_, rfl, ?_⟩))
                  have d0 := aM (FrI_get a9.out HLM303.out)
                  have d2 := aM (FrI_get a9.out HLM304.out)
                  have b7 := aM (FrI_get a9.out HLM305.out)
                  have ne303_430 := aM (blk_neT d0.out b2.out (by decide))
                  have en303_430 := aM (Ne.symm ne303_430.out)
                  have ne303_461 := aM (blk_neT d0.out g1.out (by decide))
                  have en303_461 := aM (Ne.symm ne303_461.out)
                  have ne304_430 := aM (blk_neT d2.out b2.out (by decide))
                  have en304_430 := aM (Ne.symm ne304_430.out)
                  have ne304_461 := aM (blk_neT d2.out g1.out (by decide))
                  have en304_461 := aM (Ne.symm ne304_461.out)
                  have ne305_430 := aM (blk_neT b7.out b2.out (by decide))
                  have en305_430 := aM (Ne.symm ne305_430.out)
                  have ne305_461 := aM (blk_neT b7.out g1.out (by decide))
                  have en305_461 := aM (Ne.symm ne305_461.out)
                  clear a9
                  try go_wp2
                  go_meet
                  case rel => exact ⟨_, (v2), (b9), (u7), (u9), (v0), (v1), (d3), (o7), (o8), (o9), (q0), (q3), (b0), (e8), (.slice d4 b9.length d5), (.slice e9 d3.length f5), (.slice m9 b0.length h0), (.slice k3 e8.length k4), fS, H', ⟨by have := HJ2.out; have := HJ68.out; first | omega | exact Nat.le_refl _⟩, ⟨rX [i7, a8] a5 g1 a6⟩, ⟨rX [i7, a8] a3 g1 a6⟩, ⟨sX [i7, a8] a2 g1 a6⟩, ⟨sX [i7, a8] a7 g1 a6⟩, ⟨kS⟩, ⟨kS⟩, ⟨kS⟩, ⟨kS⟩, ⟨bS⟩⟩
                 ·rw [if_neg x6] at H
                  exact absurd H (by simp)
                ·rw [if_neg x5] at H
                 exact absurd H (by simp)
               ·rw [if_neg x4] at H
                exact absurd H (by simp)
        ·obtain rfl := Bool.eq_false_iff.mpr V1
         rw [if_neg nF] at H
         have H' := aM H
         clear H
         have hnb268 := nP e0 d6
         have hnb269 := nP e1 e2
         have hnb270 := nP e3 f8
         have hz271 := cz2 d2
         go_wp2_with (first | ((with_reducible refine gC 59 ?_); refine cM (some 45) Try.func59 (spec_IsStackOp.calls g3 _ _ Y9.out) ?_; rintro e w' ⟨rfl, ⟨nd, rfl⟩⟩; refine ⟨_, rfl, ?_⟩; have hnb272 := nP e4 e5; have hnb273 := nP f7 g8; have L2 := cg0 d0) | ((with_reducible refine gC 61 ?_); refine cM (some 65) Try.func61 (spec_TakeNumbers.calls kj2 _ _ j5 u5 b9 b8 _ _ (Kd.C_below n1.out bS) n2.out A67.out) ?_; rintro e ag5 ⟨Z2, x7, rfl, n0, o1, hb⟩; refine ⟨_, rfl, ?_⟩; have t2 := aM (Kd.R_lower (Kd.R_new' (Kd.R_newM (M := fun k_ => (w.heap.size ≤ k_)) n0 (below_size bS) (fun k_ h_ => h_)) (Kd.R_lt (by exact rG j6 a6))) (below_size bS)); have C3 := aM (Kd.R_lower (Kd.R_new' (Kd.R_newM (M := fun k_ => (w.heap.size ≤ k_)) o1 (below_size bS) (fun k_ h_ => h_)) (Kd.R_lt (by exact rG j6 a6))) (below_size bS)); replace j6 := aM (Kd.R_mono (Kd.R_told (Kd.R_told (Kd.R_old (by exact rG j6 a6) hb) (Kd.R_base n0)) (Kd.R_base o1)) (fun _ h_ => h_.1)); replace k0 := aM (Kd.R_below (by exact rG k0 a6) hb); replace k1 := aM (Kd.S_mono (Kd.S_told (Kd.S_told (Kd.S_old (by exact sG k1 a6) hb) (Kd.R_base n0)) (Kd.R_base o1)) (fun _ h_ => h_.1)); replace k2 := aM (Kd.S_below (by exact sG k2 a6) hb); replace d0 := kB_ f6 hb; replace d2 := kB_ g2 hb; replace b7 := kB_ d1 hb; replace a6 := kB_ a8 hb; replace HB := hB hb; (try clear hb hk n0 o1); obtain ⟨L6, L8, L9⟩ := Kd.R_slice t2.out; subst L9; have hnb277 := nP g9 f9; have M1 := cg0 a6; have M3 := blk_frozen a6.out 0))
         go_meet
         case rel => exact ⟨_, (false), (b9), (l4), (l5), (l6), (l7), (d3), (o7), (o8), (o9), (q0), (q3), (b0), (e8), (.slice L6 b9.length L8), (.slice e9 d3.length f5), (.slice m9 b0.length h0), (.slice k3 e8.length k4), fS, H', ⟨by have := HJ2.out; first | omega | exact Nat.le_refl _⟩, ⟨rW [a8] t2 a6⟩, ⟨rW [a8] k0 a6⟩, ⟨sW [a8] k1 a6⟩, ⟨sW [a8] k2 a6⟩, ⟨kS⟩, ⟨kS⟩, ⟨kS⟩, ⟨kS⟩, ⟨bS⟩⟩
       ·rw [if_neg C2] at H
        have v8 : decide (0 ≤ u5) = false := decide_eq_false C2
        clear C2
        have H' := aM H
        clear H
        have hnb279 := nP e0 d6
        have hnb280 := nP e1 e2
        have hnb281 := nP e3 f8
        have hz282 := cz2 d2
        go_wp2_with (first | ((with_reducible refine gC 59 ?_); refine cM (some 45) Try.func59 (spec_IsStackOp.calls g3 _ _ Y9.out) ?_; rintro e w' ⟨rfl, ⟨nd, rfl⟩⟩; refine ⟨_, rfl, ?_⟩))
        go_meet
        case rel => exact ⟨_, (false), (D9), (l4), (l5), (l6), (l7), (d3), (o7), (o8), (o9), (q0), (q3), (b0), (e8), (.slice X9 D9.length Y0), (.slice e9 d3.length f5), (.slice m9 b0.length h0), (.slice k3 e8.length k4), fS, H', ⟨by have := HJ2.out; first | omega | exact Nat.le_refl _⟩, ⟨rW [a8] j6 a6⟩, ⟨rW [a8] k0 a6⟩, ⟨sW [a8] k1 a6⟩, ⟨sW [a8] k2 a6⟩, ⟨kS⟩, ⟨kS⟩, ⟨kS⟩, ⟨kS⟩, ⟨bS⟩⟩
    case rest =>
     clear E0
     try clear c2
     try clear p2
     try clear q2
     try clear c4
     try clear p4
     try clear q4
     try clear hx4
     try clear qi4
     try clear c5
     try clear c6
     try clear c7
     try clear c22
     try clear c23
     try clear c24
     try clear q24
     try clear c25
     try clear c26
     try clear c27
     try clear c28
     try clear c45
     try clear p45
     try clear q45
     try clear ag6
     try clear qi45
     try clear c52
     try clear c59
     try clear c61
     try clear c63
     try clear C2
     try clear v8
     try clear V1
     try clear c77
     try clear u6
     try clear w8
     try clear w9
     try clear ag7
     try clear ag8
     try clear F3
     try clear ag9
     try clear F4
     try clear F5
     try clear ah0
     try clear x3
     try clear x4
     try clear F6
     try clear F7
     try clear x5
     try clear F8
     try clear F9
     try clear x6
     try clear G0
     try clear G1
     try clear ah1
     try clear ah2
     try clear ah3
     try clear ah4
     try clear ah5
     try clear ah6
     try clear ah7
     try clear ah8
     try clear ah9
     try clear ai0
     try clear ai1
     try clear ai2
     try clear t6
     try clear y0
     try clear x2
     try clear y1
     try clear y2
     try clear y3
     try clear t7
     try clear y4
     try clear y5
     try clear y6
     try clear y7
     try clear g7
     try clear g0
     try clear x0
     try clear y8
     try clear A0
     try clear x3
     try clear x1
     try clear y9
     try clear A1
     obtain ⟨kq, t5, h1, h2, h3, h4, h5, h6, h7, h8, h9, i1, i3, i4, i5, q6, q7, s9, t0, rfl, HA, HJ34, a5, a3, a2, a7, d0, d2, b7, a6, HB⟩ := hcut
     cases kq with
     | zero => exact absurd HA.out (by simp [spec_ExecToken.j4])
     | succ kj34 =>
      have H := HA.out
      clear HA
      simp only [spec_ExecToken.j4] at H
      by_cases M4 : t5 = true
      ·subst M4
       rw [if_pos rfl] at H
       replace H := bN H
       obtain ⟨ab6, M5, H⟩ := H
       by_cases M6 : ab6 = true
       ·subst M6
        rw [if_pos rfl] at H
        simp only [Option.some.injEq, Prod.mk.injEq] at H
        obtain ⟨rfl, rfl, rfl, rfl, rfl, rfl, rfl, rfl, rfl, rfl, rfl, rfl, rfl, rfl⟩ := H
        have hnb286 := nP g8 f7
        have hnb287 := nP f8 e3
        have hnb288 := nP g9 f9
        have hz289 := cz13 a6
        obtain ⟨M7, M8, M9⟩ := Kd.R_slice a5.out
        subst M9
        obtain ⟨N1, N2, N3⟩ := Kd.R_slice a3.out
        subst N3
        obtain ⟨N4, N5, N6⟩ := Kd.S_slice a2.out
        subst N6
        obtain ⟨N7, N8, N9⟩ := Kd.S_slice a7.out
        subst N9
        go_wp2_with (first | (go_at_call 54; (with_reducible refine (spec_PageOk.calls kj34 _ _ h1 h2 h3 h4 h5 _ _ h6 h7 h8 h9 i1 i3 _ _ i4 _ _ i5 _ _ (cS (Kd.R_reads' a5.out).2.2) ((Kd.R_reads' a5.out).2.1) (cS (Kd.R_reads' a3.out).2.2) ((Kd.R_reads' a3.out).2.1) (cS (Kd.S_reads' a2.out).2.2) ((Kd.S_reads' a2.out).2.1) (cS (Kd.S_reads' a7.out).2.2) ((Kd.S_reads' a7.out).2.1) M5.out).mono ?_); rintro e ai3 ⟨rfl, hb⟩; replace a5 := rB a5 hb; replace a3 := rB a3 hb; replace a2 := sB a2 hb; replace a7 := sB a7 hb; replace d0 := kB_ f6 hb; replace d2 := kB_ g2 hb; replace b7 := kB_ d1 hb; replace a6 := kB_ a8 hb; replace HB := hB hb; (try clear hb); have hz295 := cz13 a6; have hnb296 := nP e5 e4; have hnb297 := nP e2 e1; have hz298 := cz13 b7))
        refine bodyPost_ret (results_ct rfl _ _ d1 35 #[.slice M7 h1.length M8, .int .i64 h2, .int .i64 h3, .int .i64 h4, .int .i64 h5, .slice N1 h6.length N2, .int .i64 h7, .int .i64 h8, .int .i64 h9, .int .i64 i1, .int .i64 i3, .slice N4 i4.length N5, .slice N7 i5.length N8] (0, 0) _ rfl kS Try.underlying35 rfl (by kernel_rfl)) rfl ?_
        exact ⟨_, _, _, _, eS, Kd.R_V (by exact Kd.R_mono (R_on (g := d1) (Kd.R_types a5.out b7.out (by decide)) (fun _ hk => hk.2)) (fun _ hk => hk.1)), Kd.R_V (by exact Kd.R_mono (R_on (g := d1) (Kd.R_types a3.out b7.out (by decide)) (fun _ hk => hk.2)) (fun _ hk => hk.1)), Kd.S_V (by exact Kd.S_mono (S_on (g := d1) (Kd.S_types a2.out b7.out (by decide)) (fun _ hk => hk.2)) (fun _ hk => hk.1.1)), Kd.S_V (by exact Kd.S_mono (S_on (g := d1) (Kd.S_types a7.out b7.out (by decide)) (fun _ hk => hk.2)) (fun _ hk => hk.1)), bS⟩
       ·obtain rfl := Bool.eq_false_iff.mpr M6
        rw [if_neg nF] at H
        replace H := bN H
        obtain ⟨⟨O0, O1, O2, O3, O4, O5, O6, O7, O8, O9, P0, P1, P2⟩, ab7, H⟩ := H
        simp only [Option.some.injEq, Prod.mk.injEq] at H
        obtain ⟨rfl, rfl, rfl, rfl, rfl, rfl, rfl, rfl, rfl, rfl, rfl, rfl, rfl, rfl⟩ := H
        have hnb300 := nP g8 f7
        have hnb301 := nP f8 e3
        have hnb302 := nP g9 f9
        have hz303 := cz13 a6
        obtain ⟨ac7, ac8, P3⟩ := Kd.R_slice a5.out
        subst P3
        obtain ⟨ac9, ad0, P4⟩ := Kd.R_slice a3.out
        subst P4
        obtain ⟨ad1, ad2, P5⟩ := Kd.S_slice a2.out
        subst P5
        obtain ⟨ad3, ad4, P6⟩ := Kd.S_slice a7.out
        subst P6
        go_wp2_with (first | (go_at_call 54; (with_reducible refine (spec_PageOk.calls kj34 _ _ h1 h2 h3 h4 h5 _ _ h6 h7 h8 h9 i1 i3 _ _ i4 _ _ i5 _ _ (cS (Kd.R_reads' a5.out).2.2) ((Kd.R_reads' a5.out).2.1) (cS (Kd.R_reads' a3.out).2.2) ((Kd.R_reads' a3.out).2.1) (cS (Kd.S_reads' a2.out).2.2) ((Kd.S_reads' a2.out).2.1) (cS (Kd.S_reads' a7.out).2.2) ((Kd.S_reads' a7.out).2.1) M5.out).mono ?_); rintro e ai4 ⟨rfl, hb⟩; replace a5 := rB a5 hb; replace a3 := rB a3 hb; replace a2 := sB a2 hb; replace a7 := sB a7 hb; replace d0 := kB_ f6 hb; replace d2 := kB_ g2 hb; replace b7 := kB_ d1 hb; replace a6 := kB_ a8 hb; replace HB := hB hb; (try clear hb); have hnb309 := nP d6 e0; have hnb310 := nP e4 e5; have hz311 := cz13 d0) | ((with_reducible refine gC 56 ?_); refine cM (some 98) Try.func56 (spec_l07Copy.calls kj34 _ _ j5 l9 m0 m1 m2 _ _ j9 m3 m4 m5 m6 i6 _ _ g4 _ _ g5 O0 O1 O2 O3 O4 O5 O6 O7 O8 O9 P0 P1 P2 _ (cC n1 HB) n2.out (cC s6 HB) s7.out (cC n6 HB) n7.out (cC n8 HB) o0.out ab7.out) ?_; rintro e ai5 ⟨ai6, ai7, ai8, ai9, rfl, n0, o1, u3, u4, hb⟩; refine ⟨_, rfl, ?_⟩; have C5 := aM (Kd.R_lower (Kd.R_new' (Kd.R_newM (M := fun k_ => (w.heap.size ≤ k_)) n0 (below_size bS) (fun k_ h_ => h_)) (Kd.R_lt (rS a5))) (below_size bS)); have C6 := aM (Kd.R_lower (Kd.R_new' (Kd.R_newM (M := fun k_ => (w.heap.size ≤ k_)) o1 (below_size bS) (fun k_ h_ => h_)) (Kd.R_lt (rS a3))) (below_size bS)); have C7 := aM (Kd.S_lower (Kd.S_new' (Kd.S_new' (Kd.S_new' (Kd.S_newM (M := fun k_ => (w.heap.size ≤ k_)) u3 (below_size bS) (fun k_ h_ => h_)) (Kd.R_lt (rS a5))) (Kd.R_lt (rS a3))) (Kd.S_lt (sS a2))) (below_size bS)); have C9 := aM (Kd.S_lower (Kd.S_new' (Kd.S_new' (Kd.S_newM (M := fun k_ => (w.heap.size ≤ k_)) u4 (below_size bS) (fun k_ h_ => h_)) (Kd.R_lt (rS a3))) (Kd.S_lt (sS a7))) (below_size bS)); replace a5 := aM (Kd.R_elder' (rS a5) (Kd.R_base n0) hb); replace a3 := aM (Kd.R_elder' (rS a3) (Kd.R_base o1) hb); replace a2 := aM (Kd.S_mono (Kd.S_told (Kd.S_told (Kd.S_told (Kd.S_old (sS a2) hb) (Kd.R_base n0)) (Kd.R_base o1)) (Kd.S_base u3)) (fun _ h_ => h_.1)); replace a7 := aM (Kd.S_mono (Kd.S_told (Kd.S_told (Kd.S_old (sS a7) hb) (Kd.R_base o1)) (Kd.S_base u4)) (fun _ h_ => h_.1)); replace d0 := kB_ f6 hb; replace d2 := kB_ g2 hb; replace b7 := kB_ d1 hb; replace a6 := kB_ a8 hb; replace HB := hB hb; (try clear hb n0 o1 u3 u4); obtain ⟨P7, P8, P9⟩ := Kd.R_slice C5.out; subst P9; have hnb314 := nP e2 e1; have hz315 := cz13 b7; obtain ⟨Q0, Q1, Q2⟩ := Kd.R_slice C6.out; subst Q2; obtain ⟨Q3, Q4, Q5⟩ := Kd.S_slice C7.out; subst Q5; obtain ⟨Q6, Q7, Q8⟩ := Kd.S_slice C9.out; subst Q8))
        refine bodyPost_ret (results_ct rfl _ _ d1 35 #[.slice P7 O0.length P8, .int .i64 O1, .int .i64 O2, .int .i64 O3, .int .i64 O4, .slice Q0 O5.length Q1, .int .i64 O6, .int .i64 O7, .int .i64 O8, .int .i64 O9, .int .i64 P0, .slice Q3 P1.length Q4, .slice Q6 P2.length Q7] (0, 0) _ rfl kS Try.underlying35 rfl (by kernel_rfl)) rfl ?_
        exact ⟨_, _, _, _, eS, Kd.R_V (by exact Kd.R_mono (R_on (g := d1) (Kd.R_types C5.out b7.out (by decide)) (fun _ hk => hk.2)) (fun _ hk => hk.1.1.1)), Kd.R_V (by exact Kd.R_mono (R_on (g := d1) (Kd.R_types C6.out b7.out (by decide)) (fun _ hk => hk.2)) (fun _ hk => hk.1.1.1)), Kd.S_V (by exact Kd.S_mono (S_on (g := d1) (Kd.S_types C7.out b7.out (by decide)) (fun _ hk => hk.2)) (fun _ hk => hk.1.1.1.1.1)), Kd.S_V (by exact Kd.S_mono (S_on (g := d1) (Kd.S_types C9.out b7.out (by decide)) (fun _ hk => hk.2)) (fun _ hk => hk.1.1.1.1)), bS⟩
      ·obtain rfl := Bool.eq_false_iff.mpr M4
       rw [if_neg nF] at H
       replace H := bN H
       obtain ⟨⟨Q9, R1, R2, R7, R9, S0, S1, S2, S3, S4, S5, S6, S7⟩, ab8, H⟩ := H
       simp only [Option.some.injEq, Prod.mk.injEq] at H
       obtain ⟨rfl, rfl, rfl, rfl, rfl, rfl, rfl, rfl, rfl, rfl, rfl, rfl, rfl, rfl⟩ := H
       have hnb320 := nP d6 e0
       have hnb321 := nP e4 e5
       have hnb322 := nP f7 g8
       have hz323 := cz13 d0
       go_wp2_with (first | ((with_reducible refine gC 56 ?_); refine cM (some 98) Try.func56 (spec_l07Copy.calls kj34 _ _ j5 l9 m0 m1 m2 _ _ j9 m3 m4 m5 m6 i6 _ _ g4 _ _ g5 Q9 R1 R2 R7 R9 S0 S1 S2 S3 S4 S5 S6 S7 _ (cC n1 HB) n2.out (cC s6 HB) s7.out (cC n6 HB) n7.out (cC n8 HB) o0.out ab8.out) ?_; rintro e aj0 ⟨aj1, aj2, aj3, aj6, rfl, n0, o1, u3, u4, hb⟩; refine ⟨_, rfl, ?_⟩; have D0 := aM (Kd.R_lower (Kd.R_new' (Kd.R_newM (M := fun k_ => (w.heap.size ≤ k_)) n0 (below_size bS) (fun k_ h_ => h_)) (Kd.R_lt (rS a5))) (below_size bS)); have D1 := aM (Kd.R_lower (Kd.R_new' (Kd.R_newM (M := fun k_ => (w.heap.size ≤ k_)) o1 (below_size bS) (fun k_ h_ => h_)) (Kd.R_lt (rS a3))) (below_size bS)); have D2 := aM (Kd.S_lower (Kd.S_new' (Kd.S_new' (Kd.S_new' (Kd.S_newM (M := fun k_ => (w.heap.size ≤ k_)) u3 (below_size bS) (fun k_ h_ => h_)) (Kd.R_lt (rS a5))) (Kd.R_lt (rS a3))) (Kd.S_lt (sS a2))) (below_size bS)); have D3 := aM (Kd.S_lower (Kd.S_new' (Kd.S_new' (Kd.S_newM (M := fun k_ => (w.heap.size ≤ k_)) u4 (below_size bS) (fun k_ h_ => h_)) (Kd.R_lt (rS a3))) (Kd.S_lt (sS a7))) (below_size bS)); replace a5 := aM (Kd.R_elder' (rS a5) (Kd.R_base n0) hb); replace a3 := aM (Kd.R_elder' (rS a3) (Kd.R_base o1) hb); replace a2 := aM (Kd.S_mono (Kd.S_told (Kd.S_told (Kd.S_told (Kd.S_old (sS a2) hb) (Kd.R_base n0)) (Kd.R_base o1)) (Kd.S_base u3)) (fun _ h_ => h_.1)); replace a7 := aM (Kd.S_mono (Kd.S_told (Kd.S_told (Kd.S_old (sS a7) hb) (Kd.R_base o1)) (Kd.S_base u4)) (fun _ h_ => h_.1)); replace d0 := kB_ f6 hb; replace d2 := kB_ g2 hb; replace b7 := kB_ d1 hb; replace a6 := kB_ a8 hb; replace HB := hB hb; (try clear hb n0 o1 u3 u4); obtain ⟨S8, S9, T0⟩ := Kd.R_slice D0.out; subst T0; have hnb326 := nP e2 e1; have hnb327 := nP f9 g9; have hz328 := cz13 b7; obtain ⟨T8, U0, U1⟩ := Kd.R_slice D1.out; subst U1; obtain ⟨U2, U3, U4⟩ := Kd.S_slice D2.out; subst U4; obtain ⟨U5, U6, U7⟩ := Kd.S_slice D3.out; subst U7))
       refine bodyPost_ret (results_ct rfl _ _ d1 35 #[.slice S8 Q9.length S9, .int .i64 R1, .int .i64 R2, .int .i64 R7, .int .i64 R9, .slice T8 S0.length U0, .int .i64 S1, .int .i64 S2, .int .i64 S3, .int .i64 S4, .int .i64 S5, .slice U2 S6.length U3, .slice U5 S7.length U6] (0, 0) _ rfl kS Try.underlying35 rfl (by kernel_rfl)) rfl ?_
       exact ⟨_, _, _, _, eS, Kd.R_V (by exact Kd.R_mono (R_on (g := d1) (Kd.R_types D0.out b7.out (by decide)) (fun _ hk => hk.2)) (fun _ hk => hk.1.1.1)), Kd.R_V (by exact Kd.R_mono (R_on (g := d1) (Kd.R_types D1.out b7.out (by decide)) (fun _ hk => hk.2)) (fun _ hk => hk.1.1.1)), Kd.S_V (by exact Kd.S_mono (S_on (g := d1) (Kd.S_types D2.out b7.out (by decide)) (fun _ hk => hk.2)) (fun _ hk => hk.1.1.1.1.1)), Kd.S_V (by exact Kd.S_mono (S_on (g := d1) (Kd.S_types D3.out b7.out (by decide)) (fun _ hk => hk.2)) (fun _ hk => hk.1.1.1.1)), bS⟩

end Go.Proofs.Ytjodcfjaedhpeaa.QFnPages
