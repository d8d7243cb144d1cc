-- Made out of the translation by a program of this session (a changed copy of the print). Not trusted: Lean checks it.
import Derived.Test.YtjodcfjaedhpeaaQFnPagesx90
namespace Go.Proofs.Ytjodcfjaedhpeaa.QFnPages
open Go.RowKit Go.Proofs.YtjodcfjaedhpeaaW.PrintWords Go.Proofs.YtjodcfjaedhpeaaW.PrintLast Go.Proofs.YtjodcfjaedhpeaaW.PrintMore
attribute [local go_sem] max2_int min2_int max_two min_two max_three min_three max_four min_four   -- for this text's walks alone
set_option linter.unusedVariables false
set_option linter.unusedSimpArgs false
set_option maxHeartbeats 64000000
set_option maxRecDepth 100000

theorem spec_ExecToken.calls2 (k : Nat) (q8 : Option Addr) (q9 : Nat) (h7 : List Int) (i9 : Int) (j5 : Int) (j6 : Int) (j7 : Int) (r0 : Option Addr) (s0 : Nat) (i4 : List (S80)) (j8 : Int) (j9 : Int) (k0 : Int) (k1 : Int) (f5 : Int) (n2 : Option Addr) (n5 : Nat) (e5 : List (S31)) (n6 : Option Addr) (n7 : Nat) (e6 : List (S60)) (e7 : ByteArray) (o4 : Int) (r1 : List Int) (r2 : Int) (r3 : Int) (r4 : Int) (r5 : Int) (r6 : List (S80)) (r7 : Int) (r8 : Int) (r9 : Int) (v3 : Int) (v4 : Int) (v5 : List (S31)) (v6 : List (S60)) (v8 : Bool) (w : World) (x5 : Kd.C (Kd.int .i64) w q8 h7.length h7) (x6 : h7.length ≤ q9) (x7 : Kd.C k80 w r0 i4.length i4) (x8 : i4.length ≤ s0) (s7 : Kd.C k31 w n2 e5.length e5) (s8 : e5.length ≤ n5) (s9 : Kd.C k60 w n6 e6.length e6) (t0 : e6.length ≤ n7) (h : spec_ExecToken.f k h7 i9 j5 j6 j7 i4 j8 j9 k0 k1 f5 e5 e6 e7 o4 = some (r1, r2, r3, r4, r5, r6, r7, r8, r9, v3, v4, v5, v6, v8)) (hA_ : Aside0 (e7.toList ∈ ([[102, 105, 108, 108], [99, 108, 105, 112], [103, 114, 97, 121], [115, 97, 118, 101]] : List (List UInt8)))) :
  Calls Try.prog 43 #[.agg #[.slice q8 h7.length q9, .int .i64 i9, .int .i64 j5, .int .i64 j6, .int .i64 j7, .slice r0 i4.length s0, .int .i64 j8, .int .i64 j9, .int .i64 k0, .int .i64 k1, .int .i64 f5, .slice n2 e5.length n5, .slice n6 e6.length n7], .agg #[.string e7, .int .i64 o4]] w fun e w' => ∃ v0_ v5_ v11_ v12_ : Value, e = .returned (.tuple #[.agg #[v0_, .int .i64 r2, .int .i64 r3, .int .i64 r4, .int .i64 r5, v5_, .int .i64 r7, .int .i64 r8, .int .i64 r9, .int .i64 v3, .int .i64 v4, v11_, v12_], .bool v8]) ∧ Kd.V (Kd.int .i64) 3 w' w.heap.size (fun k_ => (w.heap.size ≤ k_)) v0_ r1 ∧ Kd.V k80 80 w' w.heap.size (fun k_ => (w.heap.size ≤ k_)) v5_ r6 ∧ Kd.V k31 31 w' w.heap.size (fun k_ => (w.heap.size ≤ k_)) v11_ v5 ∧ Kd.V k60 60 w' w.heap.size (fun k_ => (w.heap.size ≤ k_)) v12_ v6 ∧ Below w.heap.size w w' := by
 have hu35 := Try.underlying35
 have hu40 := Try.underlying40
 have hu26 := Try.underlying26
 have hu80 := Try.underlying80
 have hu29 := Try.underlying29
 have hu60 := Try.underlying60
 have hu31 := Try.underlying31
 have m3 := aM x5
 have m4 := aM x6
 clear x5 x6
 have n8 := aM x7
 have o0 := aM x8
 clear x7 x8
 have l9 := aM s7
 have m0 := aM s8
 clear s7 s8
 have m1 := aM s9
 have m2 := aM t0
 clear s9 t0
 have HB := aM (Below.refl w.heap.size w)
 have H := h
 clear h
 unfold spec_ExecToken.f at H
 have W8 := aM H
 clear H
 go_enter Try.func43, Try.ntmps43
 go_upto_region 1 with (first | ((with_reducible refine gD 2 ?_); refine bxE #[.slice q8 h7.length q9, .int .i64 i9, .int .i64 j5, .int .i64 j6, .int .i64 j7, .slice r0 i4.length s0, .int .i64 j8, .int .i64 j9, .int .i64 k0, .int .i64 k1, .int .i64 f5, .slice n2 e5.length n5, .slice n6 e6.length n7] 35 ?_; intro e1 hg w4 b2 hb; have GE303 := gE hg; replace HB := hB hb; clear hb hg) | ((with_reducible refine gD 3 ?_); refine bxE #[.string e7, .int .i64 o4] 40 ?_; intro e9 hg w5 b9 hb; have GE304 := gE hg; have d1 := nL_ e1 hg; have d2 := nG_ e1 hg; replace b2 := kB_ e1 hb; replace HB := hB hb; clear hb hg) | ((with_reducible refine gD 4 ?_); refine bxE #[.slice none 0 0, .int .i64 0, .int .i64 0, .int .i64 0, .int .i64 0, .slice none 0 0, .int .i64 0, .int .i64 0, .int .i64 0, .int .i64 0, .int .i64 0, .slice none 0 0, .slice none 0 0] 35 ?_; intro b6 hg w6 b1 hb; have GE305 := gE hg; have e3 := nL_ e1 hg; have e4 := nG_ e1 hg; have d3 := nL_ e9 hg; have d4 := nG_ e9 hg; replace b2 := kB_ e1 hb; replace b9 := kB_ e9 hb; replace HB := hB hb; clear hb hg))
 (try simp only [Act.put, List.setIfInBounds_toArray, List.set_cons_zero, List.set_cons_succ])
 go_cut [19] (fun v19 wc => ∃ (kq : Nat) (o9 : Bool), v19 = .bool o9 ∧ Aside0 (spec_ExecToken.j0 kq o9 h7 i9 j5 j6 j7 i4 j8 j9 k0 k1 f5 e5 e6 e7 o4 = some (r1, r2, r3, r4, r5, r6, r7, r8, r9, v3, v4, v5, v6, v8)) ∧ Aside0 (kq ≤ k) ∧ Aside0 (wc.heap[e1]? = some (.cells #[(.slice q8 h7.length q9), .int .i64 i9, .int .i64 j5, .int .i64 j6, .int .i64 j7, (.slice r0 i4.length s0), .int .i64 j8, .int .i64 j9, .int .i64 k0, .int .i64 k1, .int .i64 f5, (.slice n2 e5.length n5), (.slice n6 e6.length n7)] 35 (0, 0))) ∧ Aside0 (wc.heap[e9]? = some (.cells #[.string e7, .int .i64 o4] 40 (0, 0))) ∧ Aside0 (wc.heap[b6]? = some (.cells #[(.slice none 0 0), .int .i64 0, .int .i64 0, .int .i64 0, .int .i64 0, (.slice none 0 0), .int .i64 0, .int .i64 0, .int .i64 0, .int .i64 0, .int .i64 0, (.slice none 0 0), (.slice none 0 0)] 35 (0, 0))) ∧ Aside0 (Below w.heap.size w wc))
 case first =>
  have H := W8.out
  clear W8
  replace H := bN H
  obtain ⟨W9, A7, H⟩ := H
  by_cases c8 : W9 = true
  ·subst c8
   rw [if_pos rfl] at H
   replace H := bN H
   obtain ⟨G0, A9, H⟩ := H
   have H' := aM H
   clear H
   have hnb10 := nP d1 d2
   have hnb11 := nP e3 e4
   have hz12 := cz13 b2
   go_wp2_with (first | ((with_reducible refine gC 54 ?_); refine cM (some 13) Try.func54 (spec_PageOk.calls k _ _ h7 i9 j5 j6 j7 _ _ i4 j8 j9 k0 k1 f5 _ _ e5 _ _ e6 _ _ (cC m3 HB) m4.out (cC n8 HB) o0.out (cC l9 HB) m0.out (cC m1 HB) m2.out A7.out) ?_; rintro e w13 ⟨rfl, hb⟩; refine ⟨_, rfl, ?_⟩; replace b2 := kB_ e1 hb; replace b9 := kB_ e9 hb; replace b1 := kB_ b6 hb; replace HB := hB hb; (try clear hb); have hnb14 := nP d3 d4; have hz15 := cz2 b9) | (go_at_call 55; (with_reducible refine (spec_TokenOk.calls k e7 o4 G0 _ A9.out).mono ?_); rintro e w16 ⟨rfl, hb⟩; replace b2 := kB_ e1 hb; replace b9 := kB_ e9 hb; replace b1 := kB_ b6 hb; replace HB := hB hb; (try clear hb)))
   go_meet
   case rel => exact ⟨_, (!G0), fS, H', ⟨by first | omega | exact Nat.le_refl _⟩, ⟨kS⟩, ⟨kS⟩, ⟨kS⟩, ⟨bS⟩⟩
  ·obtain rfl := Bool.eq_false_iff.mpr c8
   rw [if_neg nF] at H
   have H' := aM H
   clear H
   have hnb17 := nP d1 d2
   have hnb18 := nP e3 e4
   have hz19 := cz13 b2
   go_wp2_with (first | ((with_reducible refine gC 54 ?_); refine cM (some 13) Try.func54 (spec_PageOk.calls k _ _ h7 i9 j5 j6 j7 _ _ i4 j8 j9 k0 k1 f5 _ _ e5 _ _ e6 _ _ (cC m3 HB) m4.out (cC n8 HB) o0.out (cC l9 HB) m0.out (cC m1 HB) m2.out A7.out) ?_; rintro e w20 ⟨rfl, hb⟩; refine ⟨_, rfl, ?_⟩; replace b2 := kB_ e1 hb; replace b9 := kB_ e9 hb; replace b1 := kB_ b6 hb; replace HB := hB hb; (try clear hb)))
   go_meet
   case rel => exact ⟨_, (true), fS, H', ⟨by first | omega | exact Nat.le_refl _⟩, ⟨kS⟩, ⟨kS⟩, ⟨kS⟩, ⟨bS⟩⟩
 case rest =>
  clear W8
  try clear c1
  try clear p2
  try clear c4
  try clear c5
  try clear c8
  try clear c10
  try clear c11
  try clear c14
  try clear c17
  try clear c18
  obtain ⟨kq, o9, rfl, HA, HJ2, b2, b9, b1, HB⟩ := hcut
  cases kq with
  | zero => exact absurd HA.out (by simp [spec_ExecToken.j0])
  | succ kj2 =>
   have H := HA.out
   clear HA
   simp only [spec_ExecToken.j0] at H
   by_cases X0 : o9 = true
   ·subst X0
    rw [if_pos rfl] at H
    replace H := bN H
    obtain ⟨⟨G1, G2, G3, G4, G5, G6, G7, G8, G9, H2, H3, H4, H5⟩, A22, H⟩ := H
    simp only [Option.some.injEq, Prod.mk.injEq] at H
    obtain ⟨rfl, rfl, rfl, rfl, rfl, rfl, rfl, rfl, rfl, rfl, rfl, rfl, rfl, rfl⟩ := H
    have hnb23 := nP d1 d2
    have hnb24 := nP e3 e4
    have hz25 := cz13 b2
    go_wp2_with (first | ((with_reducible refine gC 56 ?_); refine cM (some 21) Try.func56 (spec_l07Copy.calls kj2 _ _ h7 i9 j5 j6 j7 _ _ i4 j8 j9 k0 k1 f5 _ _ e5 _ _ e6 G1 G2 G3 G4 G5 G6 G7 G8 G9 H2 H3 H4 H5 _ (cC m3 HB) m4.out (cC n8 HB) o0.out (cC l9 HB) m0.out (cC m1 HB) m2.out A22.out) ?_; rintro e w26 ⟨af5, af6, af7, af8, rfl, l8, l5, s1, s2, hb⟩; refine ⟨_, rfl, ?_⟩; have x9 := aM (Kd.R_lower (Kd.R_newM (M := fun k_ => (w.heap.size ≤ k_)) l8 (below_size bS) (fun k_ h_ => h_)) (below_size bS)); have y0 := aM (Kd.R_lower (Kd.R_newM (M := fun k_ => (w.heap.size ≤ k_)) l5 (below_size bS) (fun k_ h_ => h_)) (below_size bS)); have y1 := aM (Kd.S_lower (Kd.S_newM (M := fun k_ => (w.heap.size ≤ k_)) s1 (below_size bS) (fun k_ h_ => h_)) (below_size bS)); have y2 := aM (Kd.S_lower (Kd.S_newM (M := fun k_ => (w.heap.size ≤ k_)) s2 (below_size bS) (fun k_ h_ => h_)) (below_size bS)); replace b2 := kB_ e1 hb; replace b9 := kB_ e9 hb; replace b1 := kB_ b6 hb; replace HB := hB hb; (try clear hb l8 l5 s1 s2); obtain ⟨X1, X2, X3⟩ := Kd.R_slice x9.out; subst X3; have hnb28 := nP d4 d3; have hz29 := cz13 b1; obtain ⟨X4, X5, X6⟩ := Kd.R_slice y0.out; subst X6; obtain ⟨X7, X8, X9⟩ := Kd.S_slice y1.out; subst X9; obtain ⟨Y0, Y1, Y2⟩ := Kd.S_slice y2.out; subst Y2))
    refine bodyPost_ret (results_ct rfl _ _ b6 35 #[.slice X1 G1.length X2, .int .i64 G2, .int .i64 G3, .int .i64 G4, .int .i64 G5, .slice X4 G6.length X5, .int .i64 G7, .int .i64 G8, .int .i64 G9, .int .i64 H2, .int .i64 H3, .slice X7 H4.length X8, .slice Y0 H5.length Y1] (0, 0) _ rfl kS Try.underlying35 rfl (by kernel_rfl)) rfl ?_
    exact ⟨_, _, _, _, eS, Kd.R_V (by exact Kd.R_mono (R_on (g := b6) (Kd.R_types x9.out b1.out (by decide)) (fun _ hk => hk.2)) (fun _ hk => hk.1.1)), Kd.R_V (by exact Kd.R_mono (R_on (g := b6) (Kd.R_types y0.out b1.out (by decide)) (fun _ hk => hk.2)) (fun _ hk => hk.1.1)), Kd.S_V (by exact Kd.S_mono (S_on (g := b6) (Kd.S_types y1.out b1.out (by decide)) (fun _ hk => hk.2)) (fun _ hk => hk.1.1)), Kd.S_V (by exact Kd.S_mono (S_on (g := b6) (Kd.S_types y2.out b1.out (by decide)) (fun _ hk => hk.2)) (fun _ hk => hk.1.1)), bS⟩
   ·obtain rfl := Bool.eq_false_iff.mpr X0
    rw [if_neg nF] at H
    replace H := bN H
    obtain ⟨⟨C9, i5, i6, i7, i8, b8, h6, h2, h3, h4, h5, e2, e8⟩, A33, H⟩ := H
    replace H := bN H
    obtain ⟨s3, A34, H⟩ := H
    have D0 := aM H
    clear H
    have hnb36 := nP d1 d2
    have hnb37 := nP e3 e4
    have hz38 := cz13 b2
    go_upto_block 0 with (first | ((with_reducible refine gC 56 ?_); refine cM (some 23) Try.func56 (spec_l07Copy.calls kj2 _ _ h7 i9 j5 j6 j7 _ _ i4 j8 j9 k0 k1 f5 _ _ e5 _ _ e6 C9 i5 i6 i7 i8 b8 h6 h2 h3 h4 h5 e2 e8 _ (cC m3 HB) m4.out (cC n8 HB) o0.out (cC l9 HB) m0.out (cC m1 HB) m2.out A33.out) ?_; rintro e w39 ⟨ag1, ag2, ag3, ag4, rfl, l8, l5, s1, s2, hb⟩; refine ⟨_, rfl, ?_⟩; have k5 := aM (Kd.R_lower (Kd.R_newM (M := fun k_ => (w.heap.size ≤ k_)) l8 (below_size bS) (fun k_ h_ => h_)) (below_size bS)); have k6 := aM (Kd.R_lower (Kd.R_newM (M := fun k_ => (w.heap.size ≤ k_)) l5 (below_size bS) (fun k_ h_ => h_)) (below_size bS)); have k7 := aM (Kd.S_lower (Kd.S_newM (M := fun k_ => (w.heap.size ≤ k_)) s1 (below_size bS) (fun k_ h_ => h_)) (below_size bS)); have k9 := aM (Kd.S_lower (Kd.S_newM (M := fun k_ => (w.heap.size ≤ k_)) s2 (below_size bS) (fun k_ h_ => h_)) (below_size bS)); replace b2 := kB_ e1 hb; replace b9 := kB_ e9 hb; replace b1 := kB_ b6 hb; replace HB := hB hb; (try clear hb l8 l5 s1 s2)) | ((with_reducible refine gD 6 ?_); refine bxE #[.slice none 0 0, .int .i64 0, .int .i64 0, .int .i64 0, .int .i64 0, .slice none 0 0, .int .i64 0, .int .i64 0, .int .i64 0, .int .i64 0, .int .i64 0, .slice none 0 0, .slice none 0 0] 35 ?_; intro a8 hg w40 a2 hb; have GE350 := gE hg; have f0 := nL_ e1 hg; have h8 := nG_ e1 hg; have e0 := nL_ e9 hg; have f3 := nG_ e9 hg; have f4 := nL_ b6 hg; have h9 := nG_ b6 hg; replace k5 := rB k5 hb; replace k6 := rB k6 hb; replace k7 := sB k7 hb; replace k9 := sB k9 hb; replace b2 := kB_ e1 hb; replace b9 := kB_ e9 hb; replace b1 := kB_ b6 hb; replace HB := hB hb; clear hb hg; obtain ⟨Y3, Y4, Y5⟩ := Kd.R_slice k5.out; subst Y5; have hnb42 := nP h8 f0; have hnb43 := nP f3 e0; have hnb44 := nP h9 f4; have hz45 := cz13 a2; obtain ⟨f6, f7, Y6⟩ := Kd.R_slice k6.out; subst Y6; obtain ⟨k2, k3, Y7⟩ := Kd.S_slice k7.out; subst Y7; obtain ⟨l6, l7, Y8⟩ := Kd.S_slice k9.out; subst Y8; have hnb49 := nP d3 d4; have hz50 := cz2 b9) | ((with_reducible refine gC 57 ?_); refine cM (some 26) Try.func57 (spec_l07Takes.calls kj2 e7 s3 _ A34.out) ?_; rintro e w' ⟨rfl, ⟨nd, rfl⟩⟩; refine ⟨_, rfl, ?_⟩))
    (try simp only [Act.put, List.setIfInBounds_toArray, List.set_cons_zero, List.set_cons_succ])
    go_cut [7] (fun v7 wc => ∃ (kq : Nat) (q0 : Bool) (f8 : List Int) (f9 : Int) (g0 : Int) (g1 : Int) (g2 : Int) (g3 : List (S80)) (g4 : Int) (g5 : Int) (g6 : Int) (g7 : Int) (g8 : Int) (g9 : List (S31)) (h0 : List (S60)) (m8 : Value) (m9 : Value) (o5 : Value) (o6 : Value), v7 = .bool q0 ∧ Aside0 (spec_ExecToken.j4 kq q0 h7 i9 j5 j6 j7 i4 j8 j9 k0 k1 f5 e5 e6 f8 f9 g0 g1 g2 g3 g4 g5 g6 g7 g8 g9 h0 = some (r1, r2, r3, r4, r5, r6, r7, r8, r9, v3, v4, v5, v6, v8)) ∧ Aside0 (kq ≤ kj2) ∧ Aside0 (Kd.R (Kd.int .i64) 3 wc w.heap.size (fun k_ => (w.heap.size ≤ k_)) m8 f8) ∧ Aside0 (Kd.R k80 80 wc w.heap.size (fun k_ => (w.heap.size ≤ k_)) m9 g3) ∧ Aside0 (Kd.S k31 31 wc w.heap.size (fun k_ => (w.heap.size ≤ k_) ∧ some k_ ≠ (m8 : Value).ownBlock ∧ some k_ ≠ (m9 : Value).ownBlock) o5 g9) ∧ Aside0 (Kd.S k60 60 wc w.heap.size (fun k_ => (w.heap.size ≤ k_)) o6 h0) ∧ Aside0 (wc.heap[e1]? = some (.cells #[(.slice q8 h7.length q9), .int .i64 i9, .int .i64 j5, .int .i64 j6, .int .i64 j7, (.slice r0 i4.length s0), .int .i64 j8, .int .i64 j9, .int .i64 k0, .int .i64 k1, .int .i64 f5, (.slice n2 e5.length n5), (.slice n6 e6.length n7)] 35 (0, 0))) ∧ Aside0 (wc.heap[e9]? = some (.cells #[.string e7, .int .i64 o4] 40 (0, 0))) ∧ Aside0 (wc.heap[b6]? = some (.cells #[(.slice none 0 0), .int .i64 0, .int .i64 0, .int .i64 0, .int .i64 0, (.slice none 0 0), .int .i64 0, .int .i64 0, .int .i64 0, .int .i64 0, .int .i64 0, (.slice none 0 0), (.slice none 0 0)] 35 (0, 0))) ∧ Aside0 (wc.heap[a8]? = some (.cells #[m8, .int .i64 f9, .int .i64 g0, .int .i64 g1, .int .i64 g2, m9, .int .i64 g4, .int .i64 g5, .int .i64 g6, .int .i64 g7, .int .i64 g8, o5, o6] 35 (0, 0))) ∧ Aside0 (Below w.heap.size w wc))
    case first =>
     have H := D0.out
     clear D0
     by_cases U7 : e7.toList = ([] : List UInt8)
     ·exact absurd hA_.out (by rw [U7]; decide)
     ·rw [if_neg U7] at H
      obtain ⟨t1, H6⟩ := eqF U7
      (first | rw [t1] | (simp only [i64_w, i32_w]; rw [t1]) | skip)
      replace H := bN H
      obtain ⟨Y9, Z0, H⟩ := H
      by_cases Z1 : Y9 = true
      ·subst Z1
       rw [if_pos rfl] at H
       exact absurd H (by simp)
      ·obtain rfl := Bool.eq_false_iff.mpr Z1
       rw [if_neg nF] at H
       by_cases y3 : s3 ≥ 0
       ·rw [if_pos y3] at H
        have t2 : decide (0 ≤ s3) = true := decide_eq_true y3
        clear y3
        replace H := bN H
        obtain ⟨⟨d5, k4, Z2⟩, A67, H⟩ := H
        by_cases U8 : Z2 = true
        ·subst U8
         rw [if_pos rfl] at H
         have D1 := aM H
         clear H
         have hnb70 := nP d2 d1
         have hnb71 := nP d3 d4
         have hnb72 := nP e0 f3
         have hz73 := cz2 b9
         go_upto_if 79 with (first | ((with_reducible refine gC 59 ?_); refine cM (some 45) Try.func59 (spec_IsStackOp.calls e7 _ _ Z0.out) ?_; rintro e w' ⟨rfl, ⟨nd, rfl⟩⟩; refine ⟨_, rfl, ?_⟩; have hnb74 := nP e3 e4; have hnb75 := nP f0 h8; have U9 := cg0 b2) | ((with_reducible refine gC 61 ?_); refine cM (some 65) Try.func61 (spec_TakeNumbers.calls kj2 _ _ h7 s3 d5 k4 _ _ (Kd.C_below m3.out bS) m4.out A67.out) ?_; rintro e w77 ⟨Z3, v9, rfl, l8, l5, hb⟩; refine ⟨_, rfl, ?_⟩; have o1 := aM (Kd.R_lower (Kd.R_new' (Kd.R_newM (M := fun k_ => (w.heap.size ≤ k_)) l8 (below_size bS) (fun k_ h_ => h_)) (Kd.R_lt (by exact rG k5 a2))) (below_size bS)); have t3 := aM (Kd.R_lower (Kd.R_new' (Kd.R_newM (M := fun k_ => (w.heap.size ≤ k_)) l5 (below_size bS) (fun k_ h_ => h_)) (Kd.R_lt (by exact rG k5 a2))) (below_size bS)); replace k5 := aM (Kd.R_mono (Kd.R_told (Kd.R_told (Kd.R_old (by exact rG k5 a2) hb) (Kd.R_base l8)) (Kd.R_base l5)) (fun _ h_ => h_.1)); replace k6 := aM (Kd.R_below (by exact rG k6 a2) hb); replace k7 := aM (Kd.S_mono (Kd.S_told (Kd.S_told (Kd.S_old (by exact sG k7 a2) hb) (Kd.R_base l8)) (Kd.R_base l5)) (fun _ h_ => h_.1)); replace k9 := aM (Kd.S_below (by exact sG k9 a2) hb); replace b2 := kB_ e1 hb; replace b9 := kB_ e9 hb; replace b1 := kB_ b6 hb; replace a2 := kB_ a8 hb; replace HB := hB hb; (try clear hb hk l8 l5); obtain ⟨i1, i3, Z4⟩ := Kd.R_slice o1.out; subst Z4; have hnb79 := nP h9 f4; have V0 := cg0 a2; have V1 := blk_frozen a2.out 0; have hz81 := cz2 b9))
         (try simp only [Act.put, List.setIfInBounds_toArray, List.set_cons_zero, List.set_cons_succ])
         go_cut [79] (fun v79 wc => ∃ (kq : Nat) (o7 : Bool), v79 = .bool o7 ∧ Aside0 (spec_ExecToken.j1 kq k4 o7 h7 i9 j5 j6 j7 i4 j8 j9 k0 k1 f5 e5 e6 e7 o4 d5 i5 i6 i7 i8 b8 h6 h2 h3 h4 h5 e2 e8 = some (r1, r2, r3, r4, r5, r6, r7, r8, r9, v3, v4, v5, v6, v8)) ∧ Aside0 (kq ≤ kj2) ∧ Aside0 (Kd.R (Kd.int .i64) 3 wc w.heap.size (fun k_ => (w.heap.size ≤ k_) ∧ some k_ ≠ ((.slice i1 d5.length i3) : Value).ownBlock) v9 k4) ∧ Aside0 (Kd.R (Kd.int .i64) 3 wc w.heap.size (fun k_ => (w.heap.size ≤ k_) ∧ some k_ ≠ (v9 : Value).ownBlock) (.slice i1 d5.length i3) d5) ∧ Aside0 (Kd.R k80 80 wc w.heap.size (fun k_ => (w.heap.size ≤ k_)) (.slice f6 b8.length f7) b8) ∧ Aside0 (Kd.S k31 31 wc w.heap.size (fun k_ => (w.heap.size ≤ k_) ∧ some k_ ≠ (v9 : Value).ownBlock ∧ some k_ ≠ ((.slice i1 d5.length i3) : Value).ownBlock ∧ some k_ ≠ ((.slice f6 b8.length f7) : Value).ownBlock) (.slice k2 e2.length k3) e2) ∧ Aside0 (Kd.S k60 60 wc w.heap.size (fun k_ => (w.heap.size ≤ k_) ∧ some k_ ≠ ((.slice f6 b8.length f7) : Value).ownBlock) (.slice l6 e8.length l7) e8) ∧ Aside0 (wc.heap[e1]? = some (.cells #[(.slice q8 h7.length q9), .int .i64 i9, .int .i64 j5, .int .i64 j6, .int .i64 j7, (.slice r0 i4.length s0), .int .i64 j8, .int .i64 j9, .int .i64 k0, .int .i64 k1, .int .i64 f5, (.slice n2 e5.length n5), (.slice n6 e6.length n7)] 35 (0, 0))) ∧ Aside0 (wc.heap[e9]? = some (.cells #[.string e7, .int .i64 o4] 40 (0, 0))) ∧ Aside0 (wc.heap[b6]? = some (.cells #[(.slice none 0 0), .int .i64 0, .int .i64 0, .int .i64 0, .int .i64 0, (.slice none 0 0), .int .i64 0, .int .i64 0, .int .i64 0, .int .i64 0, .int .i64 0, (.slice none 0 0), (.slice none 0 0)] 35 (0, 0))) ∧ Aside0 (wc.heap[a8]? = some (.cells #[(.slice i1 d5.length i3), .int .i64 i5, .int .i64 i6, .int .i64 i7, .int .i64 i8, (.slice f6 b8.length f7), .int .i64 h6, .int .i64 h2, .int .i64 h3, .int .i64 h4, .int .i64 h5, (.slice k2 e2.length k3), (.slice l6 e8.length l7)] 35 (0, 0))) ∧ Aside0 (Below w.heap.size w wc))
         case first =>
          have H := D1.out
          clear D1
          by_cases V2 : e7.toList = ([110, 101, 119] : List UInt8)
          ·exact absurd hA_.out (by rw [V2]; decide)
          ·rw [if_neg V2] at H
           obtain ⟨t4, H7⟩ := eqF V2
           (first | rw [t4] | (simp only [i64_w, i32_w]; rw [t4]) | skip)
           by_cases V3 : e7.toList = ([109, 111, 118, 101, 116, 111] : List UInt8)
           ·exact absurd hA_.out (by rw [V3]; decide)
           ·rw [if_neg V3] at H
            obtain ⟨H8, H9⟩ := eqF V3
            by_cases V4 : e7.toList = ([108, 105, 110, 101, 116, 111] : List UInt8)
            ·exact absurd hA_.out (by rw [V4]; decide)
            ·rw [if_neg V4] at H
             obtain ⟨I0, I1⟩ := eqF V4
             by_cases V5 : e7.toList = ([114, 101, 99, 116] : List UInt8)
             ·exact absurd hA_.out (by rw [V5]; decide)
             ·rw [if_neg V5] at H
              obtain ⟨I2, I3⟩ := eqF V5
              by_cases F9 : e7.toList = ([102, 105, 108, 108] : List UInt8)
              ·rw [if_pos F9] at H
               obtain ⟨y4, y5⟩ := eqT F9
               clear F9
               have H' := aM H
               clear H
               go_wp2
               go_meet
               case rel => exact ⟨_, ((e7.toList == ([102, 105, 108, 108] : List UInt8))), fS, H', ⟨by have := HJ2.out; first | omega | exact Nat.le_refl _⟩, ⟨rW [a8] t3 a2⟩, ⟨rW [a8] o1 a2⟩, ⟨rW [a8] k6 a2⟩, ⟨sW [a8] k7 a2⟩, ⟨sW [a8] k9 a2⟩, ⟨kS⟩, ⟨kS⟩, ⟨kS⟩, ⟨kS⟩, ⟨bS⟩⟩
              ·rw [if_neg F9] at H
               obtain ⟨y4, y5⟩ := eqF F9
               have H' := aM H
               clear H
               go_wp2
               go_meet
               case rel => exact ⟨_, ((e7.toList == ([99, 108, 105, 112] : List UInt8))), fS, H', ⟨by have := HJ2.out; first | omega | exact Nat.le_refl _⟩, ⟨rW [a8] t3 a2⟩, ⟨rW [a8] o1 a2⟩, ⟨rW [a8] k6 a2⟩, ⟨sW [a8] k7 a2⟩, ⟨sW [a8] k9 a2⟩, ⟨kS⟩, ⟨kS⟩, ⟨kS⟩, ⟨kS⟩, ⟨bS⟩⟩
         case rest =>
          clear D1
          try clear c1
          try clear c2
          try clear p2
          try clear c3
          try clear c4
          try clear c5
          try clear c6
          try clear c7
          try clear c8
          try clear c10
          try clear c11
          try clear c14
          try clear c17
          try clear c18
          try clear X0
          try clear c23
          try clear c24
          try clear c28
          try clear c36
          try clear c37
          try clear c42
          try clear c43
          try clear c44
          try clear c49
          try clear U7
          try clear t1
          try clear H6
          try clear c53
          try clear c54
          try clear c55
          try clear c56
          try clear c57
          try clear c58
          try clear c59
          try clear c61
          try clear c62
          try clear Z1
          try clear y3
          try clear t2
          try clear U8
          try clear c70
          try clear c71
          try clear c72
          try clear c74
          try clear c75
          try clear c79
          try clear V2
          try clear t4
          try clear H7
          try clear V3
          try clear H8
          try clear H9
          try clear V4
          try clear I0
          try clear I1
          try clear V5
          try clear I2
          try clear I3
          try clear F9
          try clear y4
          try clear y5
          try clear p2
          obtain ⟨kq, o7, rfl, HA, HJ68, a9, a6, a3, a5, a7, b2, b9, b1, a2, HB⟩ := hcut
          cases kq with
          | zero => exact absurd HA.out (by simp [spec_ExecToken.j1])
          | succ kj68 =>
           have H := HA.out
           clear HA
           simp only [spec_ExecToken.j1] at H
           by_cases c87 : o7 = true
           ·subst c87
            rw [if_pos rfl] at H
            have I4 := aM H
            clear H
            have hnb89 := nP d2 d1
            have hnb90 := nP d3 d4
            have hnb91 := nP e0 f3
            have hz92 := cz2 b9
            go_wp2_with (fail)
            have H := I4.out
            clear I4
            obtain ⟨L93, hF_, hM303_, hM304_, hM305_⟩ := FrI_pack3 b2.out b9.out b1.out f0.out e0.out f4.out [35, 40] (by decide) (by decide) (by decide)
            have HLM303 := aM hM303_
            have HLM304 := aM hM304_
            have HLM305 := aM hM305_
            have b7 := aM hF_
            clear hF_ hM303_ hM304_ hM305_ b2 b9 b1
            by_cases Z5 : e7.toList = ([110, 101, 119] : List UInt8)
            ·exact absurd hA_.out (by rw [Z5]; decide)
            ·rw [if_neg Z5] at H
             obtain ⟨ac7, ac8⟩ := eqF Z5
             by_cases D2 : e7.toList = ([109, 111, 118, 101, 116, 111] : List UInt8)
             ·exact absurd hA_.out (by rw [D2]; decide)
             ·rw [if_neg D2] at H
              obtain ⟨Z6, Z7⟩ := eqF D2
              by_cases D3 : e7.toList = ([108, 105, 110, 101, 116, 111] : List UInt8)
              ·exact absurd hA_.out (by rw [D3]; decide)
              ·rw [if_neg D3] at H
               obtain ⟨Z8, Z9⟩ := eqF D3
               by_cases D4 : e7.toList = ([114, 101, 99, 116] : List UInt8)
               ·exact absurd hA_.out (by rw [D4]; decide)
               ·rw [if_neg D4] at H
                obtain ⟨aa0, aa1⟩ := eqF D4
                by_cases t5 : e7.toList = ([102, 105, 108, 108] : List UInt8)
                ·rw [if_pos t5] at H
                 obtain ⟨D5, D6⟩ := eqT t5
                 clear t5
                 by_cases s4 : (b8.length : Int) < 3
                 ·rw [if_pos s4] at H
                  have D7 : decide ((b8.length : Int) < 3) = true := decide_eq_true s4
                  have D8 : decide (b8.length < 3) = true := decide_eq_true (by omega)
                  clear s4
                  have H' := aM H
                  clear H
                  obtain ⟨ac9, ad0, I5⟩ := Kd.R_slice a9.out
                  subst I5
                  go_at_call 62
                  go_enter Try.func62, Try.ntmps62
                  have I6 := cg5 a2
                  try go_wp2
                  (try (go_ret; (try simp only [])))
                  (try (refine ⟨_, rfl, ?_⟩))
                  have b2 := aM (FrI_get b7.out HLM303.out)
                  have b9 := aM (FrI_get b7.out HLM304.out)
                  have b1 := aM (FrI_get b7.out HLM305.out)
                  clear b7
                  try go_wp2
                  go_meet
                  case rel => exact ⟨_, (false), (d5), (i5), (i6), (i7), (i8), (b8), (h6), (h2), (h3), (h4), (h5), (e2), (e8), (.slice i1 d5.length i3), (.slice f6 b8.length f7), (.slice k2 e2.length k3), (.slice l6 e8.length l7), fS, H', ⟨by have := HJ2.out; have := HJ68.out; first | omega | exact Nat.le_refl _⟩, ⟨by exact rT (Kd.R_mono a6.out (fun _ hk => hk.1))⟩, ⟨rS a3⟩, ⟨by exact sT (Kd.S_mono a5.out (fun _ hk => ⟨hk.1, ⟨hk.2.2.1, hk.2.2.2⟩⟩))⟩, ⟨by exact sT (Kd.S_mono a7.out (fun _ hk => hk.1))⟩, ⟨kS⟩, ⟨kS⟩, ⟨kS⟩, ⟨kS⟩, ⟨bS⟩⟩
                 ·rw [if_neg s4] at H
                  have D7 : decide ((b8.length : Int) < 3) = false := decide_eq_false s4
                  have D8 : decide (b8.length < 3) = false := decide_eq_false (by omega)
                  clear s4
                  obtain ⟨LMc161, H⟩ := iL H
                  obtain ⟨t6, hy_⟩ : ∃ y_ : List (S60), y_ = (e8 ++ [(⟨b8, h6, (⟨h2, h3, h4, h5⟩ : S29)⟩ : S60)]) := ⟨_, rfl⟩
                  replace H : (spec_ExecToken.j4 kj68 true h7 i9 j5 j6 j7 i4 j8 j9 k0 k1 f5 e5 e6 d5 i5 i6 i7 i8 (([] : List (S80))) h6 h2 h3 h4 h5 e2 t6) = some (r1, r2, r3, r4, r5, r6, r7, r8, r9, v3, v4, v5, v6, v8) := yS
                  have Ny409 := aM hy_
                  clear hy_
                  obtain ⟨D9, hy_⟩ : ∃ y_ : List (S80), y_ = (([] : List (S80))) := ⟨_, rfl⟩
                  replace H : (spec_ExecToken.j4 kj68 true h7 i9 j5 j6 j7 i4 j8 j9 k0 k1 f5 e5 e6 d5 i5 i6 i7 i8 D9 h6 h2 h3 h4 h5 e2 t6) = some (r1, r2, r3, r4, r5, r6, r7, r8, r9, v3, v4, v5, v6, v8) := yS
                  have Ny412 := aM hy_
                  clear hy_
                  have H' := aM H
                  clear H
                  obtain ⟨ad1, ad2, I7⟩ := Kd.R_slice a9.out
                  subst I7
                  go_at_call 62
                  go_enter Try.func62, Try.ntmps62
                  have I8 := cg5 a2
                  try go_wp2
                  replace a9 := rD a9
                  replace a6 := rD a6
                  replace a3 := rD a3
                  replace a5 := sD a5
                  replace a7 := sD a7
                  replace a2 := bD a2
                  replace b7 := aM (FrI_drew b7.out)
                  replace HB := hD HB
                  refine start_ (n := 23) (S := fun w' => w'.cell? ⟨a8, 5, none⟩ = some (.slice f6 b8.length f7) ∧ w'.cell? ⟨a8, 6, none⟩ = some (.int .i64 h6) ∧ w'.cell? ⟨a8, 7, none⟩ = some (.int .i64 h2) ∧ w'.cell? ⟨a8, 8, none⟩ = some (.int .i64 h3) ∧ w'.cell? ⟨a8, 9, none⟩ = some (.int .i64 h4) ∧ w'.cell? ⟨a8, 10, none⟩ = some (.int .i64 h5) ∧ w'.cell? ⟨a8, 12, none⟩ = some (.slice l6 e8.length l7)) (ds := [22]) (mB 23 0) (by kernel_rfl) rfl rfl ⟨(blk_cell a2.out 5).trans rfl, (blk_cell a2.out 6).trans rfl, (blk_cell a2.out 7).trans rfl, (blk_cell a2.out 8).trans rfl, (blk_cell a2.out 9).trans rfl, (blk_cell a2.out 10).trans rfl, (blk_cell a2.out 12).trans rfl⟩ (fun hHeld => ?_); refine with_tabW spec_ExecToken.i62.tab23 spec_ExecToken.i62.bits23 (fun HT_ HW_ => ?_)
                  generalize wc.drew = ah0 at a9 a6 a3 a5 a7 a2 b7 HB hHeld ⊢
                  refine pU 0 (some 160) (mB 23 1) ?_
                  refine pU 1 (some 161) (mB 23 3) ?_
                  refine pU 2 (some 162) (mB 23 7) ?_
                  refine pU 3 (some 163) (mB 23 15) ?_
                  refine pU 5 (some 165) (mB 23 47) ?_
                  refine pU 6 (some 166) (mB 23 111) ?_
                  refine pU 7 (some 167) (mB 23 239) ?_
                  refine pU 9 (some 169) (mB 23 751) ?_
                  refine pU 10 (some 170) (mB 23 1775) ?_
                  refine pU 11 (some 171) (mB 23 3823) ?_
                  refine pU 13 (some 173) (mB 23 12015) ?_
                  refine pU 14 (some 174) (mB 23 28399) ?_
                  refine pU 15 (some 175) (mB 23 61167) ?_
                  refine tK 4 (some 164) (mB 23 61183) ?_
                  refine tK 8 (some 168) (mB 23 61439) ?_
                  refine tK 12 (some 172) (mB 23 65535) ?_
                  refine tK 16 (some 176) (mB 23 131071) ?_
                  refine pU 17 (some 177) (mB 23 262143) ?_
                  refine one_ (i := 18) (N := some 178) (mB 23 524287) rfl rfl (one_of HT_.out (by kernel_rfl)) (by decide) (fun K hK => ?_)
                  refine value_ (w1 := ?_) (v := ?_) (by rfl) rfl ?_ ?_
                  rotate_left 2
                  ·go_simp
                   constructor
                   ·rfl
                   ·rfl
                  refine hK.out _ _ ⟨(blk_cell (blk_alloc a2.out _) 5).trans rfl, (blk_cell (blk_alloc a2.out _) 6).trans rfl, (blk_cell (blk_alloc a2.out _) 7).trans rfl, (blk_cell (blk_alloc a2.out _) 8).trans rfl, (blk_cell (blk_alloc a2.out _) 9).trans rfl, (blk_cell (blk_alloc a2.out _) 10).trans rfl, (blk_cell (blk_alloc a2.out _) 12).trans rfl⟩ (fun hHeld => ?_)
                  clear hK K
                  refine norm_ (a' := ?_) ?_ ?_
                  rotate_left
                  ·show Act.put _ (some 178) _ = _
                   simp only [Act.put, List.setIfInBounds_toArray, List.set_cons_zero, List.set_cons_succ, i64_w, i32_w]
                   rfl
                  refine one_ (i := 19) (N := some 179) (mB 23 1048575) rfl rfl (one_of HT_.out (by kernel_rfl)) (by decide) (fun K hK => ?_)
                  refine Kd.S_append_step k60 (w0 := w) w.heap.size (by rfl) (.tmp 164) (.tmp 178) 33 60 (.agg #[(.slice none 0 0), (.int .i64 0), (.int .i64 0), (.int .i64 0), (.int .i64 0), (.int .i64 0)]) 64 rfl Try.underlying33 info60 rfl (by decide) (by omega) (.slice l6 e8.length l7) e8 (⟨b8, h6, (⟨h2, h3, h4, h5⟩ : S29)⟩ : S60) [.slice f6 b8.length f7, .int .i64 h6, .int .i64 h2, .int .i64 h3, .int .i64 h4, .int .i64 h5] (fun k_ => (w.heap.size ≤ k_)) (fun k_ => some k_ = (.slice f6 b8.length f7 : Value).ownBlock) rfl rfl ?aP (fun k_ hk_ => ((Kd.R_mono (ok' := fun k_ => ((fun k_ => (w.heap.size ≤ k_))) k_ ∧ some k_ ≠ (.slice l6 e8.length l7 : Value).ownBlock) (Kd.R_apart' (a3.out) (Kd.S_typed a7.out) (by decide)) (fun k_ hk => ⟨hk.1, hk.2⟩))).1 k_ hk_.symm) ?aF ?aO ?aB ?aS ?aL ?_
                  (case aP => exact k60_mkM _ _ _ (⟨b8, h6, (⟨h2, h3, h4, h5⟩ : S29)⟩ : S60) (Kd.R_mono (Kd.R_tight rfl (Kd.R_mono (ok' := fun k_ => ((fun k_ => (w.heap.size ≤ k_))) k_ ∧ some k_ ≠ (.slice l6 e8.length l7 : Value).ownBlock) (Kd.R_apart' (a3.out) (Kd.S_typed a7.out) (by decide)) (fun k_ hk => ⟨hk.1, hk.2⟩))) (fun _ h_ => h_)))
                  (case aB => exact bS)
                  (case aF => exact (fun k_ hk => (Nat.le_trans (below_size bS) hk)))
                  (case aO => exact (by exact sT (Kd.S_mono a7.out (fun k_ hk => ⟨hk.1, fun e_ => hk.2 e_⟩))))
                  (case aS => exact (below_size bS))
                  (case aL => have := LMc161.out; (try dsimp only at this); omega)
                  intro ah1 ah2 ho hb hg hat
                  rw [← Ny409.out] at ho
                  have q3 := aM (ho)
                  replace a9 := aM (Kd.R_over' (rS a9) (Kd.S_typed (sS a7)) (by decide) hg)
                  replace a6 := aM (Kd.R_over' (rS a6) (Kd.S_typed (sS a7)) (by decide) hg)
                  replace a5 := aM (Kd.S_over' (sS a5) (Kd.S_typed (sS a7)) (by decide) hg)
                  replace a2 := aM (blk_grown (g := a8) kS hg (Kd.S_ne a7.out a2.out (by decide)))
                  replace b7 := aM (FrI_grownS hg (Kd.S_typed (sS a7)) (by decide) b7.out (FrN0 b7.out))
                  replace HB := aM (hb)
                  clear a7 a3
                  clear ho hb hg hat
                  obtain ⟨y6, y7, y8⟩ := Kd.S_slice q3.out
                  (first | subst y8 | obtain ⟨rfl, rfl⟩ := slE y8)
                  refine hK.out _ _ ⟨(blk_cell a2.out 5).trans rfl, (blk_cell a2.out 6).trans rfl, (blk_cell a2.out 7).trans rfl, (blk_cell a2.out 8).trans rfl, (blk_cell a2.out 9).trans rfl, (blk_cell a2.out 10).trans rfl, (blk_cell a2.out 12).trans rfl⟩ (fun hHeld => ?_)
                  clear hK K
                  refine norm_ (a' := ?_) ?_ ?_
                  rotate_left
                  ·show Act.put _ (some 179) _ = _
                   simp only [Act.put, List.setIfInBounds_toArray, List.set_cons_zero, List.set_cons_succ, i64_w, i32_w]
                   rfl
                  refine pU 20 (some 180) (mB 23 2097151) ?_
                  refine pU 21 (some 181) (mB 23 4194303) ?_
                  refine last_ (i := 22) (N := none) (mB 23 8388607) rfl rfl (one_of HT_.out (by kernel_rfl)) (by decide) (fun K hK => ?_)
                  have hs167 := cg12 a2
                  have hfs167 := blk_frozen a2.out 12
                  refine skip_ (w1 := ?_) (by rfl) rfl ?_ ?_
                  rotate_left
                  ·go_simp
                   rfl
                  refine hK.out _ _ ?_
                  clear hK K
                  refine done_ (done_of HT_.out (by kernel_rfl)) ?_
                  try go_wp2_with (first | ((with_reducible refine gate_dst (N := 183) rfl ?_); refine Kd.R_lit k80 _ 80 ?hg (N := 183) ?hd (xs := ([] : List (S80))) (inner := []) (ok := fun _ => True) (okp := fun _ => True) ?hr ?hp (fun _ hk => hk) trivial (Below.refl _ _) (Nat.le_refl _) (by simp) ?_; (case hd => rfl); (case hg => rfl); (case hr => first | (go_simp; done) | (go_simp; rfl)); (case hp => exact (Reps.none _ _)); intro ah3 ah4 n0 hb hg_ hnew_; clear hg_ hnew_; (first | rw [← Ny412.out] at n0 | (simp only [Int.reduceToNat] at n0; rw [← Ny412.out] at n0)); have y9 := aM (Kd.R_lower (Kd.R_newM (M := fun k_ => (w.heap.size ≤ k_)) n0 (below_size bS) (fun k_ h_ => h_)) (below_size bS)); replace a9 := aM (Kd.R_below (by exact rG a9 a2) hb); replace a6 := aM (Kd.R_below (by exact rG a6 a2) hb); replace a5 := aM (Kd.S_elder' (by exact sG a5 a2) (Kd.R_base n0) hb); replace q3 := aM (Kd.S_elder' (by exact sG q3 a2) (Kd.R_base n0) hb); replace a2 := kO a8 #[.slice i1 d5.length i3, .int .i64 i5, .int .i64 i6, .int .i64 i7, .int .i64 i8, .slice f6 b8.length f7, .int .i64 h6, .int .i64 h2, .int .i64 h3, .int .i64 h4, .int .i64 h5, .slice k2 e2.length k3, .slice y6 t6.length y7] 35 hb; replace b7 := aM (FrI_belowS hb b7.out (FrN0 b7.out)); replace HB := hB hb; clear hb n0; obtain ⟨I9, J0, J1⟩ := Kd.R_slice y9.out; subst J1; have J2 := cg5 a2; have J3 := blk_frozen a2.out 5))
                  (try (go_ret; (try simp only [])))
                  (try (refine ⟨_, rfl, ?_⟩))
                  have b2 := aM (FrI_get b7.out HLM303.out)
                  have b9 := aM (FrI_get b7.out HLM304.out)
                  have b1 := aM (FrI_get b7.out HLM305.out)
                  clear b7
                  try go_wp2
                  go_meet
                  case rel => exact ⟨_, (true), (d5), (i5), (i6), (i7), (i8), (D9), (h6), (h2), (h3), (h4), (h5), (e2), (t6), (.slice i1 d5.length i3), (.slice I9 D9.length J0), (.slice k2 e2.length k3), (.slice y6 t6.length y7), fS, H', ⟨by have := HJ2.out; have := HJ68.out; first | omega | exact Nat.le_refl _⟩, ⟨rW [a8] a6 a2⟩, ⟨rW [a8] y9 a2⟩, ⟨sW [a8] a5 a2⟩, ⟨sW [a8] q3 a2⟩, ⟨kS⟩, ⟨kS⟩, ⟨kS⟩, ⟨kS⟩, ⟨bS⟩⟩
                ·rw [if_neg t5] at H
                 obtain ⟨D5, D6⟩ := eqF t5
                 by_cases w8 : e7.toList = ([99, 108, 105, 112] : List UInt8)
                 ·rw [if_pos w8] at H
                  obtain ⟨aa2, aa3⟩ := eqT w8
                  clear w8
                  by_cases o8 : (b8.length : Int) = 0
                  ·rw [if_pos o8] at H
                   have E0 : ((b8.length : Int) == 0) = true := beq_iff_eq.mpr o8
                   have E1 : ((b8.length : Int) != 0) = false := bne_eq_false_iff_eq.mpr o8
                   clear o8
                   have H' := aM H
                   clear H
                   obtain ⟨ad3, ad4, J4⟩ := Kd.R_slice a9.out
                   subst J4
                   go_at_call 62
                   go_enter Try.func62, Try.ntmps62
                   have J5 := cg5 a2
                   try go_wp2
                   (try (go_ret; (try simp only [])))
                   (try (refine ⟨_, rfl, ?_⟩))
                   have b2 := aM (FrI_get b7.out HLM303.out)
                   have b9 := aM (FrI_get b7.out HLM304.out)
                   have b1 := aM (FrI_get b7.out HLM305.out)
                   clear b7
                   try go_wp2
                   go_meet
                   case rel => exact ⟨_, (false), (d5), (i5), (i6), (i7), (i8), (b8), (h6), (h2), (h3), (h4), (h5), (e2), (e8), (.slice i1 d5.length i3), (.slice f6 b8.length f7), (.slice k2 e2.length k3), (.slice l6 e8.length l7), fS, H', ⟨by have := HJ2.out; have := HJ68.out; first | omega | exact Nat.le_refl _⟩, ⟨by exact rT (Kd.R_mono a6.out (fun _ hk => hk.1))⟩, ⟨rS a3⟩, ⟨by exact sT (Kd.S_mono a5.out (fun _ hk => ⟨hk.1, ⟨hk.2.2.1, hk.2.2.2⟩⟩))⟩, ⟨by exact sT (Kd.S_mono a7.out (fun _ hk => hk.1))⟩, ⟨kS⟩, ⟨kS⟩, ⟨kS⟩, ⟨kS⟩, ⟨bS⟩⟩
                  ·rw [if_neg o8] at H
                   have E0 : ((b8.length : Int) == 0) = false := beq_eq_false_iff_ne.mpr o8
                   have E1 : ((b8.length : Int) != 0) = true := bne_iff_ne.mpr o8
                   have aa4 : ¬ (b8 = []) := fun h_ => o8 (by rw [h_]; rfl)
                   replace H := bN H
                   obtain ⟨⟨E2, E3, E4, E5⟩, aa5, H⟩ := H
                   replace H := bN H
                   obtain ⟨⟨w9, x0, x1, x2⟩, aa6, H⟩ := H
                   obtain ⟨E6, hy_⟩ : ∃ y_ : List (S80), y_ = (([] : List (S80))) := ⟨_, rfl⟩
                   replace H : (spec_ExecToken.j4 kj68 true h7 i9 j5 j6 j7 i4 j8 j9 k0 k1 f5 e5 e6 d5 i5 i6 i7 i8 E6 h6 w9 x0 x1 x2 e2 e8) = some (r1, r2, r3, r4, r5, r6, r7, r8, r9, v3, v4, v5, v6, v8) := yS
                   have Ny423 := aM hy_
                   clear hy_
                   have H' := aM H
                   clear H
                   obtain ⟨ad5, ad6, J6⟩ := Kd.R_slice a9.out
                   subst J6
                   go_at_call 62
                   go_enter Try.func62, Try.ntmps62
                   have J7 := cg5 a2
                   try go_wp2
                   replace a9 := rD a9
                   replace a6 := rD a6
                   replace a3 := rD a3
                   replace a5 := sD a5
                   replace a7 := sD a7
                   replace a2 := bD a2
                   replace b7 := aM (FrI_drew b7.out)
                   replace HB := hD HB
                   refine start_ (n := 14) (S := fun w' => w'.cell? ⟨a8, 5, none⟩ = some (.slice f6 b8.length f7) ∧ w'.cell? ⟨a8, 7, none⟩ = some (.int .i64 h2) ∧ w'.cell? ⟨a8, 8, none⟩ = some (.int .i64 h3) ∧ w'.cell? ⟨a8, 9, none⟩ = some (.int .i64 h4) ∧ w'.cell? ⟨a8, 10, none⟩ = some (.int .i64 h5)) (ds := [13]) (mB 14 0) (by kernel_rfl) rfl rfl ⟨(blk_cell a2.out 5).trans rfl, (blk_cell a2.out 7).trans rfl, (blk_cell a2.out 8).trans rfl, (blk_cell a2.out 9).trans rfl, (blk_cell a2.out 10).trans rfl⟩ (fun hHeld => ?_); refine with_tabW spec_ExecToken.i62.tab28 spec_ExecToken.i62.bits28 (fun HT_ HW_ => ?_)
                   generalize wc.drew = ah5 at a9 a6 a3 a5 a7 a2 b7 HB hHeld ⊢
                   refine pU 0 (some 194) (mB 14 1) ?_
                   refine pU 1 (some 195) (mB 14 3) ?_
                   refine pU 2 (some 196) (mB 14 7) ?_
                   refine pU 3 (some 197) (mB 14 15) ?_
                   refine pU 5 (some 199) (mB 14 47) ?_
                   refine pU 6 (some 200) (mB 14 111) ?_
                   refine pU 7 (some 201) (mB 14 239) ?_
                   refine tK 4 (some 198) (mB 14 255) ?_
                   refine tK 8 (some 202) (mB 14 511) ?_
                   refine one_ (i := 9) (N := some 203) (mB 14 1023) rfl rfl (one_of HT_.out (by kernel_rfl)) (by decide) (fun K hK => ?_)
                   refine goes_ Try.func76 (by kernel_rfl) rfl #[.slice f6 b8.length f7] (by rfl) rfl rfl mA ?_
                   with_reducible refine (spec_BoxOf.calls kj68 _ _ b8 E2 E3 E4 E5 _ ?side1 ?side2 aa5.out).mono ?_
                   (case side1 => exact cS (Kd.R_reads' a3.out).2.2)
                   (case side2 => exact (Kd.R_reads' a3.out).2.1)
                   rintro e ah6 ⟨rfl, hb⟩
                   refine ⟨_, rfl, ?_⟩
                   replace a9 := rB a9 hb
                   replace a6 := rB a6 hb
                   replace a3 := rB a3 hb
                   replace a5 := sB a5 hb
                   replace a7 := sB a7 hb
                   replace a2 := kB_ a8 hb
                   replace b7 := aM (FrI_belowS hb b7.out (FrN0 b7.out))
                   replace HB := hB hb
                   (try clear hb)
                   (try clear hb2)
                   (try clear hk)
                   (try clear hi)
                   refine hK.out _ _ ⟨(blk_cell a2.out 5).trans rfl, (blk_cell a2.out 7).trans rfl, (blk_cell a2.out 8).trans rfl, (blk_cell a2.out 9).trans rfl, (blk_cell a2.out 10).trans rfl⟩ (fun hHeld => ?_)
                   clear hK K
                   refine norm_ (a' := ?_) ?_ ?_
                   rotate_left
                   ·show Act.put _ (some 203) _ = _
                    simp only [Act.put, List.setIfInBounds_toArray, List.set_cons_zero, List.set_cons_succ, i64_w, i32_w]
                    rfl
                   refine one_ (i := 10) (N := some 204) (mB 14 2047) rfl rfl (one_of HT_.out (by kernel_rfl)) (by decide) (fun K hK => ?_)
                   refine goes_ Try.func75 (by kernel_rfl) rfl #[.agg #[.int .i64 h2, .int .i64 h3, .int .i64 h4, .int .i64 h5], .agg #[.int .i64 E2, .int .i64 E3, .int .i64 E4, .int .i64 E5]] (by rfl) rfl rfl mA ?_
                   with_reducible refine (spec_MeetBox.calls h2 h3 h4 h5 E2 E3 E4 E5 w9 x0 x1 x2 _ aa6.out).mono ?_
                   rintro e ah7 ⟨rfl, hb⟩
                   refine ⟨_, rfl, ?_⟩
                   replace a9 := rB a9 hb
                   replace a6 := rB a6 hb
                   replace a3 := rB a3 hb
                   replace a5 := sB a5 hb
                   replace a7 := sB a7 hb
                   replace a2 := kB_ a8 hb
                   replace b7 := aM (FrI_belowS hb b7.out (FrN0 b7.out))
                   replace HB := hB hb
                   (try clear hb)
                   (try clear hb2)
                   (try clear hk)
                   (try clear hi)
                   refine hK.out _ _ ⟨(blk_cell a2.out 5).trans rfl, (blk_cell a2.out 7).trans rfl, (blk_cell a2.out 8).trans rfl, (blk_cell a2.out 9).trans rfl, (blk_cell a2.out 10).trans rfl⟩ (fun hHeld => ?_)
                   clear hK K
                   refine norm_ (a' := ?_) ?_ ?_
                   rotate_left
                   ·show Act.put _ (some 204) _ = _
                    simp only [Act.put, List.setIfInBounds_toArray, List.set_cons_zero, List.set_cons_succ, i64_w, i32_w]
                    rfl
                   refine pU 11 (some 205) (mB 14 4095) ?_
                   refine pU 12 (some 206) (mB 14 8191) ?_
                   refine last_ (i := 13) (N := none) (mB 14 16383) rfl rfl (one_of HT_.out (by kernel_rfl)) (by decide) (fun K hK => ?_)
                   have hs183 := cg7 a2
                   have hfs183 := blk_frozen a2.out 7
                   have hs184 := cg8 a2
                   have hfs184 := blk_frozen a2.out 8
                   have hs185 := cg9 a2
                   have hfs185 := blk_frozen a2.out 9
                   have hs186 := cg10 a2
                   have hfs186 := blk_frozen a2.out 10
                   refine skip_ (w1 := ?_) (by rfl) rfl ?_ ?_
                   rotate_left
                   ·go_simp
                    rfl
                   refine hK.out _ _ ?_
                   clear hK K
                   refine done_ (done_of HT_.out (by kernel_rfl)) ?_
                   try go_wp2_with (first | ((with_reducible refine gate_dst (N := 208) rfl ?_); refine Kd.R_lit k80 _ 80 ?hg (N := 208) ?hd (xs := ([] : List (S80))) (inner := []) (ok := fun _ => True) (okp := fun _ => True) ?hr ?hp (fun _ hk => hk) trivial (Below.refl _ _) (Nat.le_refl _) (by simp) ?_; (case hd => rfl); (case hg => rfl); (case hr => first | (go_simp; done) | (go_simp; rfl)); (case hp => exact (Reps.none _ _)); intro ah8 ah9 m5 hb hg_ hnew_; clear hg_ hnew_; (first | rw [← Ny423.out] at m5 | (simp only [Int.reduceToNat] at m5; rw [← Ny423.out] at m5)); have A0 := aM (Kd.R_lower (Kd.R_new' (Kd.R_newM (M := fun k_ => (w.heap.size ≤ k_)) m5 (below_size bS) (fun k_ h_ => h_)) (Kd.R_lt (by exact rG a3 a2))) (below_size bS)); replace a9 := aM (Kd.R_below (by exact rG a9 a2) hb); replace a6 := aM (Kd.R_below (by exact rG a6 a2) hb); replace a3 := aM (Kd.R_elder' (by exact rG a3 a2) (Kd.R_base m5) hb); replace a5 := aM (Kd.S_elder' (by exact sG a5 a2) (Kd.R_base m5) hb); replace a7 := aM (Kd.S_elder' (by exact sG a7 a2) (Kd.R_base m5) hb); replace a2 := kO a8 #[.slice i1 d5.length i3, .int .i64 i5, .int .i64 i6, .int .i64 i7, .int .i64 i8, .slice f6 b8.length f7, .int .i64 h6, .int .i64 w9, .int .i64 x0, .int .i64 x1, .int .i64 x2, .slice k2 e2.length k3, .slice l6 e8.length l7] 35 hb; replace b7 := aM (FrI_belowS hb b7.out (FrN0 b7.out)); replace HB := hB hb; clear hb m5; obtain ⟨J8, J9, K0⟩ := Kd.R_slice A0.out; subst K0; have K1 := cg5 a2; have K2 := blk_frozen a2.out 5))
                   (try (go_ret; (try simp only [])))
                   (try (refine ⟨_, rfl, ?_⟩))
                   have b2 := aM (FrI_get b7.out HLM303.out)
                   have b9 := aM (FrI_get b7.out HLM304.out)
                   have b1 := aM (FrI_get b7.out HLM305.out)
                   clear b7
                   try go_wp2
                   go_meet
                   case rel => exact ⟨_, (true), (d5), (i5), (i6), (i7), (i8), (E6), (h6), (w9), (x0), (x1), (x2), (e2), (e8), (.slice i1 d5.length i3), (.slice J8 E6.length J9), (.slice k2 e2.length k3), (.slice l6 e8.length l7), fS, H', ⟨by have := HJ2.out; have := HJ68.out; first | omega | exact Nat.le_refl _⟩, ⟨rW [a8] a6 a2⟩, ⟨rW [a8] A0 a2⟩, ⟨sW [a8] a5 a2⟩, ⟨sW [a8] a7 a2⟩, ⟨kS⟩, ⟨kS⟩, ⟨kS⟩, ⟨kS⟩, ⟨bS⟩⟩
                 ·rw [if_neg w8] at H
                  exact absurd H (by simp)
           ·obtain rfl := Bool.eq_false_iff.mpr c87
            rw [if_neg nF] at H
            have A1 := aM H
            clear H
            have hnb192 := nP d2 d1
            have hnb193 := nP d3 d4
            have hnb194 := nP e0 f3
            have hz195 := cz2 b9
            go_wp2_with (fail)
            have H := A1.out
            clear A1
            obtain ⟨L196, hF_, hM303_, hM304_, hM305_⟩ := FrI_pack3 b2.out b9.out b1.out f0.out e0.out f4.out [35, 40] (by decide) (by decide) (by decide)
            have HLM303 := aM hM303_
            have HLM304 := aM hM304_
            have HLM305 := aM hM305_
            have b0 := aM hF_
            clear hF_ hM303_ hM304_ hM305_ b2 b9 b1
            replace H := bN H
            obtain ⟨⟨t7, t8, t9, u0⟩, K3, H⟩ := H
            by_cases u1 : e7.toList = ([103, 114, 97, 121] : List UInt8)
            ·rw [if_pos u1] at H
             obtain ⟨E7, E8⟩ := eqT u1
             clear u1
             by_cases x3 : 0 < (k4.length : Int)
             ·rw [if_pos x3] at H
              have aa7 : decide (0 < (k4.length : Int)) = true := decide_eq_true x3
              have aa8 : decide (0 < k4.length) = true := decide_eq_true (by omega)
              clear x3
              have H' := aM H
              clear H
              obtain ⟨ad8, ad9, K4⟩ := Kd.R_slice a9.out
              subst K4
              go_at_call 63
              go_enter Try.func63, Try.ntmps63
              try go_wp2_with (first | ((with_reducible refine gC 52 ?_); refine cM (some 12) Try.func52 (spec_Identity.calls  t7 t8 t9 u0 _ K3.out) ?_; rintro e ai0 ⟨rfl, hb⟩; refine ⟨_, rfl, ?_⟩; replace a9 := rB a9 hb; replace a6 := rB a6 hb; replace a3 := rB a3 hb; replace a5 := sB a5 hb; replace a7 := sB a7 hb; replace a2 := kB_ a8 hb; replace b0 := aM (FrI_belowS hb b0.out (FrN0 b0.out)); replace HB := hB hb; (try clear hb)) | ((with_reducible refine gD 7 ?_); refine bxE #[.int .i64 0, .int .i64 0, .int .i64 0, .int .i64 0] 26 ?_; intro d6 hg ai1 d0 hb; have GE430 := gE hg; have l3 := nL_ a8 hg; have l4 := nG_ a8 hg; replace a9 := rB a9 hb; replace a6 := rB a6 hb; replace a3 := rB a3 hb; replace a5 := sB a5 hb; replace a7 := sB a7 hb; replace a2 := kB_ a8 hb; replace b0 := aM (FrI_belowS hb b0.out (FrN0 b0.out)); replace HB := hB hb; clear hb hg; have hnb203 := nP l4 l3; have hz204 := cz4 d0; have E9 : 0 ≤ (0 : Int) := (by omega); have F2 : 0 < (k4.length : Int) := dA; obtain ⟨q5, aa9, h1⟩ := Kd.at_int (Kd.R_reads' a9.out).2.2 0 E9 F2; cases aa9; have qi431 : (0 < k4.length) = True := eq_true (by omega); (try rw [show ((0 : Int)).toNat = 0 from rfl] at h1); (try rw [Addr.add_zero'] at h1); have hn431_0 : q5.block ≠ d6 := Kd.own_blk (Kd.R_ne a9.out d0.out (by decide)); have hn431_1 : q5.block ≠ d6 := Kd.own_blk (Kd.R_ne a9.out d0.out (by decide)); have hn431_2 : q5.block ≠ d6 := Kd.own_blk (Kd.R_ne a9.out d0.out (by decide)); have hn431_3 : q5.block ≠ d6 := Kd.own_blk (Kd.R_ne a9.out d0.out (by decide)); replace h1 := (cell_far (p := ⟨d6, 0, none⟩) (by first | (rw [add_block]; exact hn431_0) | (show (Addr.add _ _).block ≠ _; rw [add_block]; exact hn431_0) | exact hn431_0) (.int .i64 t7)).trans h1; replace h1 := (cell_far (p := ⟨d6, 1, none⟩) (by first | (rw [add_block]; exact hn431_1) | (show (Addr.add _ _).block ≠ _; rw [add_block]; exact hn431_1) | exact hn431_1) (.int .i64 t8)).trans h1; replace h1 := (cell_far (p := ⟨d6, 2, none⟩) (by first | (rw [add_block]; exact hn431_2) | (show (Addr.add _ _).block ≠ _; rw [add_block]; exact hn431_2) | exact hn431_2) (.int .i64 t9)).trans h1; replace h1 := (cell_far (p := ⟨d6, 3, none⟩) (by first | (rw [add_block]; exact hn431_3) | (show (Addr.add _ _).block ≠ _; rw [add_block]; exact hn431_3) | exact hn431_3) (.int .i64 u0)).trans h1; clear hn431_0; clear hn431_1; clear hn431_2; clear hn431_3; replace E9 := eq_true E9; replace F2 := eq_true F2; have K5 := cg6 a2; have K6 := blk_frozen a2.out 6))
              (try (go_ret; (try simp only [])))
              (try (refine ⟨_, rfl, ?_⟩))
              have b2 := aM (FrI_get b0.out HLM303.out)
              have b9 := aM (FrI_get b0.out HLM304.out)
              have b1 := aM (FrI_get b0.out HLM305.out)
              have ne303_430 := aM (blk_neT b2.out d0.out (by decide))
              have en303_430 := aM (Ne.symm ne303_430.out)
              have ne304_430 := aM (blk_neT b9.out d0.out (by decide))
              have en304_430 := aM (Ne.symm ne304_430.out)
              have ne305_430 := aM (blk_neT b1.out d0.out (by decide))
              have en305_430 := aM (Ne.symm ne305_430.out)
              clear b0
              try go_wp2
              go_meet
              case rel => exact ⟨_, (true), (d5), (i5), (i6), (i7), (i8), (b8), (rd k4 0), (h2), (h3), (h4), (h5), (e2), (e8), (.slice i1 d5.length i3), (.slice f6 b8.length f7), (.slice k2 e2.length k3), (.slice l6 e8.length l7), fS, H', ⟨by have := HJ2.out; have := HJ68.out; first | omega | exact Nat.le_refl _⟩, ⟨rX [d6, a8] a6 d0 a2⟩, ⟨rX [d6, a8] a3 d0 a2⟩, ⟨sX [d6, a8] a5 d0 a2⟩, ⟨sX [d6, a8] a7 d0 a2⟩, ⟨kS⟩, ⟨kS⟩, ⟨kS⟩, ⟨kS⟩, ⟨bS⟩⟩
             ·rw [if_neg x3] at H
              exact absurd H (by simp)
            ·rw [if_neg u1] at H
             obtain ⟨E7, E8⟩ := eqF u1
             by_cases u2 : e7.toList = ([115, 97, 118, 101] : List UInt8)
             ·rw [if_pos u2] at H
              obtain ⟨F3, F4⟩ := eqT u2
              clear u2
              replace H := bN H
              obtain ⟨⟨s5, u3, u4, u5, u6, s6, u7, u9, v0, v1, v2⟩, ab0, H⟩ := H
              obtain ⟨LMc208, H⟩ := iL H
              obtain ⟨F5, hy_⟩ : ∃ y_ : List (S31), y_ = (e2 ++ [(⟨s5, (⟨u3, u4, u5, u6⟩ : S26), s6, u7, (⟨u9, v0, v1, v2⟩ : S29)⟩ : S31)]) := ⟨_, rfl⟩
              replace H : (spec_ExecToken.j4 kj68 true h7 i9 j5 j6 j7 i4 j8 j9 k0 k1 f5 e5 e6 d5 i5 i6 i7 i8 b8 h6 h2 h3 h4 h5 F5 e8) = some (r1, r2, r3, r4, r5, r6, r7, r8, r9, v3, v4, v5, v6, v8) := yS
              have Ny447 := aM hy_
              clear hy_
              have H' := aM H
              clear H
              obtain ⟨m6, m7, K7⟩ := Kd.R_slice a9.out
              subst K7
              go_at_call 63
              go_enter Try.func63, Try.ntmps63
              try go_wp2_with (first | ((with_reducible refine gC 52 ?_); refine cM (some 12) Try.func52 (spec_Identity.calls  t7 t8 t9 u0 _ K3.out) ?_; rintro e ai2 ⟨rfl, hb⟩; refine ⟨_, rfl, ?_⟩; replace a9 := rB a9 hb; replace a6 := rB a6 hb; replace a3 := rB a3 hb; replace a5 := sB a5 hb; replace a7 := sB a7 hb; replace a2 := kB_ a8 hb; replace b0 := aM (FrI_belowS hb b0.out (FrN0 b0.out)); replace HB := hB hb; (try clear hb)) | ((with_reducible refine gD 7 ?_); refine bxE #[.int .i64 0, .int .i64 0, .int .i64 0, .int .i64 0] 26 ?_; intro d6 hg ab1 d0 hb; have GE430 := gE hg; have l3 := nL_ a8 hg; have l4 := nG_ a8 hg; replace a9 := rB a9 hb; replace a6 := rB a6 hb; replace a3 := rB a3 hb; replace a5 := sB a5 hb; replace a7 := sB a7 hb; replace a2 := kB_ a8 hb; replace b0 := aM (FrI_belowS hb b0.out (FrN0 b0.out)); replace HB := hB hb; clear hb hg; have hnb212 := nP l4 l3; have hz213 := cz4 d0))
              obtain ⟨n1, hw_⟩ : ∃ w_ : World, w_ = ((((ab1.setCell ⟨d6, 0, none⟩ (.int .i64 t7)).setCell ⟨d6, 1, none⟩ (.int .i64 t8)).setCell ⟨d6, 2, none⟩ (.int .i64 t9)).setCell ⟨d6, 3, none⟩ (.int .i64 u0)) := ⟨_, rfl⟩
              have n0_ : Aside0 (Kd.R (Kd.int .i64) 3 n1 w.heap.size (fun k_ => (w.heap.size ≤ k_) ∧ some k_ ≠ (.slice i1 d5.length i3 : Value).ownBlock) (.slice m6 k4.length m7) k4) := ⟨by rw [hw_]; exact (by exact Kd.R_mono (R_on (g := d6) (Kd.R_types a9.out d0.out (by decide)) (fun _ hk => hk.2)) (fun _ hk => ⟨hk.1.1, hk.1.2⟩))⟩
              have n1_ : Aside0 (Kd.R (Kd.int .i64) 3 n1 w.heap.size (fun k_ => (w.heap.size ≤ k_) ∧ some k_ ≠ (.slice m6 k4.length m7 : Value).ownBlock) (.slice i1 d5.length i3) d5) := ⟨by rw [hw_]; exact (by exact Kd.R_mono (R_on (g := d6) (Kd.R_types a6.out d0.out (by decide)) (fun _ hk => hk.2)) (fun _ hk => ⟨hk.1.1, hk.1.2⟩))⟩
              have n2_ : Aside0 (Kd.R k80 80 n1 w.heap.size (fun k_ => (w.heap.size ≤ k_)) (.slice f6 b8.length f7) b8) := ⟨by rw [hw_]; exact (by exact Kd.R_mono (R_on (g := d6) (Kd.R_types a3.out d0.out (by decide)) (fun _ hk => hk.2)) (fun _ hk => hk.1))⟩
              have n3_ : Aside0 (Kd.S k31 31 n1 w.heap.size (fun k_ => (w.heap.size ≤ k_) ∧ some k_ ≠ (.slice m6 k4.length m7 : Value).ownBlock ∧ some k_ ≠ (.slice i1 d5.length i3 : Value).ownBlock ∧ some k_ ≠ (.slice f6 b8.length f7 : Value).ownBlock) (.slice k2 e2.length k3) e2) := ⟨by rw [hw_]; exact (by exact Kd.S_mono (S_on (g := d6) (Kd.S_types a5.out d0.out (by decide)) (fun _ hk => hk.2)) (fun _ hk => ⟨hk.1.1, ⟨hk.1.2.1, ⟨hk.1.2.2.1, hk.1.2.2.2⟩⟩⟩))⟩
              have n4_ : Aside0 (Kd.S k60 60 n1 w.heap.size (fun k_ => (w.heap.size ≤ k_) ∧ some k_ ≠ (.slice f6 b8.length f7 : Value).ownBlock) (.slice l6 e8.length l7) e8) := ⟨by rw [hw_]; exact (by exact Kd.S_mono (S_on (g := d6) (Kd.S_types a7.out d0.out (by decide)) (fun _ hk => hk.2)) (fun _ hk => ⟨hk.1.1, hk.1.2⟩))⟩
              have n5_ : Aside0 (n1.heap[a8]? = some (.cells #[.slice i1 d5.length i3, .int .i64 i5, .int .i64 i6, .int .i64 i7, .int .i64 i8, .slice f6 b8.length f7, .int .i64 h6, .int .i64 h2, .int .i64 h3, .int .i64 h4, .int .i64 h5, .slice k2 e2.length k3, .slice l6 e8.length l7] 35 (0, 0))) := ⟨by rw [hw_]; exact kS⟩
              have n6_ : Aside0 (n1.heap[d6]? = some (.cells #[.int .i64 t7, .int .i64 t8, .int .i64 t9, .int .i64 u0] 26 (0, 0))) := ⟨by rw [hw_]; exact kS⟩
              have n7_ : Aside0 (FrI L196 a8 [35, 40] n1) := ⟨by rw [hw_]; exact (by exact FrI_self b0.out (FrN1 b0.out (FrN0 b0.out) d0.out (by decide)))⟩
              have n8_ : Aside0 (Below w.heap.size w n1) := ⟨by rw [hw_]; exact bS⟩
              rw [← hw_]
              clear hw_ a9 a6 a3 a5 a7 a2 d0 b0 HB
              have a9 := n0_
              have a6 := n1_
              have a3 := n2_
              have a5 := n3_
              have a7 := n4_
              have a2 := n5_
              have d0 := n6_
              have b0 := n7_
              have HB := n8_
              clear n0_ n1_ n2_ n3_ n4_ n5_ n6_ n7_ n8_
              replace a9 := rD a9
              replace a6 := rD a6
              replace a3 := rD a3
              replace a5 := sD a5
              replace a7 := sD a7
              replace a2 := bD a2
              replace d0 := bD d0
              replace b0 := aM (FrI_drew b0.out)
              replace HB := hD HB
              refine start_ (n := 15) (S := fun w' => w'.cell? ⟨a8, 0, none⟩ = some (.slice i1 d5.length i3) ∧ w'.cell? ⟨a8, 1, none⟩ = some (.int .i64 i5) ∧ w'.cell? ⟨a8, 2, none⟩ = some (.int .i64 i6) ∧ w'.cell? ⟨a8, 3, none⟩ = some (.int .i64 i7) ∧ w'.cell? ⟨a8, 4, none⟩ = some (.int .i64 i8) ∧ w'.cell? ⟨a8, 5, none⟩ = some (.slice f6 b8.length f7) ∧ w'.cell? ⟨a8, 6, none⟩ = some (.int .i64 h6) ∧ w'.cell? ⟨a8, 7, none⟩ = some (.int .i64 h2) ∧ w'.cell? ⟨a8, 8, none⟩ = some (.int .i64 h3) ∧ w'.cell? ⟨a8, 9, none⟩ = some (.int .i64 h4) ∧ w'.cell? ⟨a8, 10, none⟩ = some (.int .i64 h5) ∧ w'.cell? ⟨a8, 11, none⟩ = some (.slice k2 e2.length k3)) (ds := [14]) (mB 15 0) (by kernel_rfl) rfl rfl ⟨(blk_cell a2.out 0).trans rfl, (blk_cell a2.out 1).trans rfl, (blk_cell a2.out 2).trans rfl, (blk_cell a2.out 3).trans rfl, (blk_cell a2.out 4).trans rfl, (blk_cell a2.out 5).trans rfl, (blk_cell a2.out 6).trans rfl, (blk_cell a2.out 7).trans rfl, (blk_cell a2.out 8).trans rfl, (blk_cell a2.out 9).trans rfl, (blk_cell a2.out 10).trans rfl, (blk_cell a2.out 11).trans rfl⟩ (fun hHeld => ?_); refine with_tabW spec_ExecToken.i63.tab7 spec_ExecToken.i63.bits7 (fun HT_ HW_ => ?_)
              generalize n1.drew = ai3 at a9 a6 a3 a5 a7 a2 d0 b0 HB hHeld ⊢
              refine pU 0 (some 25) (mB 15 1) ?_
              refine pU 1 (some 26) (mB 15 3) ?_
              refine pU 2 (some 27) (mB 15 7) ?_
              refine pU 3 (some 28) (mB 15 15) ?_
              refine pU 5 (some 30) (mB 15 47) ?_
              refine pU 6 (some 31) (mB 15 111) ?_
              refine pU 7 (some 32) (mB 15 239) ?_
              refine tK 4 (some 29) (mB 15 255) ?_
              refine tK 8 (some 33) (mB 15 511) ?_
              refine one_ (i := 9) (N := some 34) (mB 15 1023) rfl rfl (one_of HT_.out (by kernel_rfl)) (by decide) (fun K hK => ?_)
              refine goes_ Try.func70 (by kernel_rfl) rfl #[.agg #[.slice i1 d5.length i3, .int .i64 i5, .int .i64 i6, .int .i64 i7, .int .i64 i8, .slice f6 b8.length f7, .int .i64 h6, .int .i64 h2, .int .i64 h3, .int .i64 h4, .int .i64 h5]] (by rfl) rfl rfl mA ?_
              with_reducible refine (spec_l07Graphics.calls _ _ d5 i5 i6 i7 i8 _ _ b8 h6 h2 h3 h4 h5 s5 u3 u4 u5 u6 s6 u7 u9 v0 v1 v2 _ ?side1 ?side2 ?side3 ?side4 ab0.out).mono ?_
              (case side1 => exact cS (Kd.R_reads' a6.out).2.2)
              (case side2 => exact (Kd.R_reads' a6.out).2.1)
              (case side3 => exact cS (Kd.R_reads' a3.out).2.2)
              (case side4 => exact (Kd.R_reads' a3.out).2.1)
              rintro e ai4 ⟨ai5, ai6, rfl, l8, l5, hb⟩
              refine ⟨_, rfl, ?_⟩
              have q6 := aM (Kd.R_lower (Kd.R_new' (Kd.R_new' (Kd.R_newM (M := fun k_ => (w.heap.size ≤ k_)) l8 (below_size bS) (fun k_ h_ => h_)) (Kd.R_lt (rS a9))) (Kd.R_lt (rS a6))) (below_size bS))
              have q7 := aM (Kd.R_lower (Kd.R_new' (Kd.R_newM (M := fun k_ => (w.heap.size ≤ k_)) l5 (below_size bS) (fun k_ h_ => h_)) (Kd.R_lt (rS a3))) (below_size bS))
              replace a9 := aM (Kd.R_elder' (rS a9) (Kd.R_base l8) hb)
              replace a6 := aM (Kd.R_elder' (rS a6) (Kd.R_base l8) hb)
              replace a3 := aM (Kd.R_elder' (rS a3) (Kd.R_base l5) hb)
              replace a5 := aM (Kd.S_mono (Kd.S_told (Kd.S_told (Kd.S_old (sS a5) hb) (Kd.R_base l8)) (Kd.R_base l5)) (fun _ h_ => h_.1))
              replace a7 := aM (Kd.S_elder' (sS a7) (Kd.R_base l5) hb)
              replace a2 := kB_ a8 hb
              replace b0 := aM (FrI_belowS hb b0.out (FrN1 b0.out (FrN0 b0.out) d0.out (by decide)))
              replace d0 := kB_ d6 hb
              replace HB := hB hb
              (try clear hb)
              (try clear hb2)
              (try clear hk)
              (try clear hi)
              (try clear l8)
              (try clear l5)
              obtain ⟨A2, A3, A4⟩ := Kd.R_slice q6.out
              (first | subst A4 | obtain ⟨rfl, rfl⟩ := slE A4)
              obtain ⟨A5, A6, A8⟩ := Kd.R_slice q7.out
              (first | subst A8 | obtain ⟨rfl, rfl⟩ := slE A8)
              refine hK.out _ _ ⟨(blk_cell a2.out 0).trans rfl, (blk_cell a2.out 1).trans rfl, (blk_cell a2.out 2).trans rfl, (blk_cell a2.out 3).trans rfl, (blk_cell a2.out 4).trans rfl, (blk_cell a2.out 5).trans rfl, (blk_cell a2.out 6).trans rfl, (blk_cell a2.out 7).trans rfl, (blk_cell a2.out 8).trans rfl, (blk_cell a2.out 9).trans rfl, (blk_cell a2.out 10).trans rfl, (blk_cell a2.out 11).trans rfl⟩ (fun hHeld => ?_)
              clear hK K
              refine norm_ (a' := ?_) ?_ ?_
              rotate_left
              ·show Act.put _ (some 34) _ = _
               simp only [Act.put, List.setIfInBounds_toArray, List.set_cons_zero, List.set_cons_succ, i64_w, i32_w]
               rfl
              refine one_ (i := 10) (N := some 35) (mB 15 2047) rfl rfl (one_of HT_.out (by kernel_rfl)) (by decide) (fun K hK => ?_)
              refine value_ (w1 := ?_) (v := ?_) (by rfl) rfl ?_ ?_
              rotate_left 2
              ·go_simp
               constructor
               ·rfl
               ·rfl
              refine hK.out _ _ ⟨(blk_cell (blk_alloc a2.out _) 0).trans rfl, (blk_cell (blk_alloc a2.out _) 1).trans rfl, (blk_cell (blk_alloc a2.out _) 2).trans rfl, (blk_cell (blk_alloc a2.out _) 3).trans rfl, (blk_cell (blk_alloc a2.out _) 4).trans rfl, (blk_cell (blk_alloc a2.out _) 5).trans rfl, (blk_cell (blk_alloc a2.out _) 6).trans rfl, (blk_cell (blk_alloc a2.out _) 7).trans rfl, (blk_cell (blk_alloc a2.out _) 8).trans rfl, (blk_cell (blk_alloc a2.out _) 9).trans rfl, (blk_cell (blk_alloc a2.out _) 10).trans rfl, (blk_cell (blk_alloc a2.out _) 11).trans rfl⟩ (fun hHeld => ?_)
              clear hK K
              refine norm_ (a' := ?_) ?_ ?_
              rotate_left
              ·show Act.put _ (some 35) _ = _
               simp only [Act.put, List.setIfInBounds_toArray, List.set_cons_zero, List.set_cons_succ, i64_w, i32_w]
               rfl
              refine one_ (i := 11) (N := some 36) (mB 15 4095) rfl rfl (one_of HT_.out (by kernel_rfl)) (by decide) (fun K hK => ?_)
              refine Kd.S_append_step k31 (w0 := w) w.heap.size (by rfl) (.tmp 29) (.tmp 35) 32 31 (.agg #[(.slice none 0 0), (.int .i64 0), (.int .i64 0), (.int .i64 0), (.int .i64 0), (.slice none 0 0), (.int .i64 0), (.int .i64 0), (.int .i64 0), (.int .i64 0), (.int .i64 0)]) 120 rfl Try.underlying32 info31 rfl (by decide) (by omega) (.slice k2 e2.length k3) e2 (⟨s5, (⟨u3, u4, u5, u6⟩ : S26), s6, u7, (⟨u9, v0, v1, v2⟩ : S29)⟩ : S31) [.slice A2 s5.length A3, .int .i64 u3, .int .i64 u4, .int .i64 u5, .int .i64 u6, .slice A5 s6.length A6, .int .i64 u7, .int .i64 u9, .int .i64 v0, .int .i64 v1, .int .i64 v2] (fun k_ => (w.heap.size ≤ k_) ∧ some k_ ≠ (.slice m6 k4.length m7 : Value).ownBlock ∧ some k_ ≠ (.slice i1 d5.length i3 : Value).ownBlock ∧ some k_ ≠ (.slice f6 b8.length f7 : Value).ownBlock) (fun k_ => some k_ = (.slice A2 s5.length A3 : Value).ownBlock ∨ some k_ = (.slice A5 s6.length A6 : Value).ownBlock) rfl rfl ?aP (fun k_ hk_ => hk_.elim (fun h_ => ((Kd.R_mono (ok' := fun k_ => ((fun k_ => (w.heap.size ≤ k_) ∧ some k_ ≠ (.slice m6 k4.length m7 : Value).ownBlock ∧ some k_ ≠ (.slice i1 d5.length i3 : Value).ownBlock ∧ some k_ ≠ (.slice f6 b8.length f7 : Value).ownBlock)) k_ ∧ some k_ ≠ (.slice k2 e2.length k3 : Value).ownBlock) (Kd.R_apart' (Kd.R_apart' (q6.out) (Kd.R_typed a3.out) (by decide)) (Kd.S_typed a5.out) (by decide)) (fun k_ hk => ⟨⟨hk.1.1.1.1.1, ⟨hk.1.1.1.2, ⟨hk.1.1.2, hk.1.2⟩⟩⟩, hk.2⟩))).1 k_ h_.symm) (fun h_ => ((Kd.R_mono (ok' := fun k_ => ((fun k_ => (w.heap.size ≤ k_) ∧ some k_ ≠ (.slice m6 k4.length m7 : Value).ownBlock ∧ some k_ ≠ (.slice i1 d5.length i3 : Value).ownBlock ∧ some k_ ≠ (.slice f6 b8.length f7 : Value).ownBlock)) k_ ∧ some k_ ≠ (.slice k2 e2.length k3 : Value).ownBlock) (Kd.R_apart' (Kd.R_apart' (Kd.R_apart' (q7.out) (Kd.R_typed a9.out) (by decide)) (Kd.R_typed a6.out) (by decide)) (Kd.S_typed a5.out) (by decide)) (fun k_ hk => ⟨⟨hk.1.1.1.1.1, ⟨hk.1.1.2, ⟨hk.1.2, hk.1.1.1.2⟩⟩⟩, hk.2⟩))).1 k_ h_.symm)) ?aF ?aO ?aB ?aS ?aL ?_
              (case aP => exact k31_mkM _ _ _ (⟨s5, (⟨u3, u4, u5, u6⟩ : S26), s6, u7, (⟨u9, v0, v1, v2⟩ : S29)⟩ : S31) (Kd.R_mono (Kd.R_tight rfl (Kd.R_mono (ok' := fun k_ => ((fun k_ => (w.heap.size ≤ k_) ∧ some k_ ≠ (.slice m6 k4.length m7 : Value).ownBlock ∧ some k_ ≠ (.slice i1 d5.length i3 : Value).ownBlock ∧ some k_ ≠ (.slice f6 b8.length f7 : Value).ownBlock)) k_ ∧ some k_ ≠ (.slice k2 e2.length k3 : Value).ownBlock) (Kd.R_apart' (Kd.R_apart' (q6.out) (Kd.R_typed a3.out) (by decide)) (Kd.S_typed a5.out) (by decide)) (fun k_ hk => ⟨⟨hk.1.1.1.1.1, ⟨hk.1.1.1.2, ⟨hk.1.1.2, hk.1.2⟩⟩⟩, hk.2⟩))) (fun _ h_ => Or.inl h_)) (Kd.R_mono (Kd.R_tight rfl (Kd.R_mono (ok' := fun k_ => ((fun k_ => (w.heap.size ≤ k_) ∧ some k_ ≠ (.slice m6 k4.length m7 : Value).ownBlock ∧ some k_ ≠ (.slice i1 d5.length i3 : Value).ownBlock ∧ some k_ ≠ (.slice f6 b8.length f7 : Value).ownBlock)) k_ ∧ some k_ ≠ (.slice k2 e2.length k3 : Value).ownBlock) (Kd.R_apart' (Kd.R_apart' (Kd.R_apart' (q7.out) (Kd.R_typed a9.out) (by decide)) (Kd.R_typed a6.out) (by decide)) (Kd.S_typed a5.out) (by decide)) (fun k_ hk => ⟨⟨hk.1.1.1.1.1, ⟨hk.1.1.2, ⟨hk.1.2, hk.1.1.1.2⟩⟩⟩, hk.2⟩))) (fun _ h_ => Or.inr (h_))))
              (case aB => exact bS)
              (case aF => exact (fun k_ hk => ⟨(Nat.le_trans (below_size bS) hk), Kd.fresh' (Kd.R_lt (rS a9)) k_ hk, Kd.fresh' (Kd.R_lt (rS a6)) k_ hk, Kd.fresh' (Kd.R_lt (rS a3)) k_ hk⟩))
              (case aO => exact (by exact sT (Kd.S_mono a5.out (fun k_ hk => ⟨⟨hk.1.1.1, ⟨hk.1.1.2.1, ⟨hk.1.1.2.2.1, hk.1.1.2.2.2⟩⟩⟩, fun e_ => e_.elim (fun h_ => hk.1.2 h_) (fun h_ => hk.2 h_)⟩))))
              (case aS => exact (below_size bS))
              (case aL => have := LMc208.out; (try dsimp only at this); omega)
              intro ai7 ai8 ho hb hg hat
              rw [← Ny447.out] at ho
              have B0 := aM (ho)
              replace a9 := aM (Kd.R_over' (rS a9) (Kd.S_typed (sS a5)) (by decide) hg)
              replace a6 := aM (Kd.R_over' (rS a6) (Kd.S_typed (sS a5)) (by decide) hg)
              replace a3 := aM (Kd.R_over' (rS a3) (Kd.S_typed (sS a5)) (by decide) hg)
              replace a7 := aM (Kd.S_over' (sS a7) (Kd.S_typed (sS a5)) (by decide) hg)
              replace a2 := aM (blk_grown (g := a8) kS hg (Kd.S_ne a5.out a2.out (by decide)))
              replace b0 := aM (FrI_grownS hg (Kd.S_typed (sS a5)) (by decide) b0.out (FrN1 b0.out (FrN0 b0.out) d0.out (by decide)))
              replace d0 := aM (blk_grown (g := d6) kS hg (Kd.S_ne a5.out d0.out (by decide)))
              replace HB := aM (hb)
              clear a5 q6 q7
              clear ho hb hg hat
              obtain ⟨K8, K9, B2⟩ := Kd.S_slice B0.out
              (first | subst B2 | obtain ⟨rfl, rfl⟩ := slE B2)
              refine hK.out _ _ ⟨(blk_cell a2.out 0).trans rfl, (blk_cell a2.out 1).trans rfl, (blk_cell a2.out 2).trans rfl, (blk_cell a2.out 3).trans rfl, (blk_cell a2.out 4).trans rfl, (blk_cell a2.out 5).trans rfl, (blk_cell a2.out 6).trans rfl, (blk_cell a2.out 7).trans rfl, (blk_cell a2.out 8).trans rfl, (blk_cell a2.out 9).trans rfl, (blk_cell a2.out 10).trans rfl, (blk_cell a2.out 11).trans rfl⟩ (fun hHeld => ?_)
              clear hK K
              refine norm_ (a' := ?_) ?_ ?_
              rotate_left
              ·show Act.put _ (some 36) _ = _
               simp only [Act.put, List.setIfInBounds_toArray, List.set_cons_zero, List.set_cons_succ, i64_w, i32_w]
               rfl
              refine pU 12 (some 37) (mB 15 8191) ?_
              refine pU 13 (some 38) (mB 15 16383) ?_
              refine last_ (i := 14) (N := none) (mB 15 32767) rfl rfl (one_of HT_.out (by kernel_rfl)) (by decide) (fun K hK => ?_)
              have hs221 := cg11 a2
              have hfs221 := blk_frozen a2.out 11
              have hns221_1 := nP l4 l3
              refine skip_ (w1 := ?_) (by rfl) rfl ?_ ?_
              rotate_left
              ·go_simp
               rfl
              refine hK.out _ _ ?_
              clear hK K
              refine done_ (done_of HT_.out (by kernel_rfl)) ?_
              try go_wp2
              (try (go_ret; (try simp only [])))
              (try (refine ⟨_, rfl, ?_⟩))
              have b2 := aM (FrI_get b0.out HLM303.out)
              have b9 := aM (FrI_get b0.out HLM304.out)
              have b1 := aM (FrI_get b0.out HLM305.out)
              have ne303_430 := aM (blk_neT b2.out d0.out (by decide))
              have en303_430 := aM (Ne.symm ne303_430.out)
              have ne304_430 := aM (blk_neT b9.out d0.out (by decide))
              have en304_430 := aM (Ne.symm ne304_430.out)
              have ne305_430 := aM (blk_neT b1.out d0.out (by decide))
              have en305_430 := aM (Ne.symm ne305_430.out)
              clear b0
              try go_wp2
              go_meet
              case rel => exact ⟨_, (true), (d5), (i5), (i6), (i7), (i8), (b8), (h6), (h2), (h3), (h4), (h5), (F5), (e8), (.slice i1 d5.length i3), (.slice f6 b8.length f7), (.slice K8 F5.length K9), (.slice l6 e8.length l7), fS, H', ⟨by have := HJ2.out; have := HJ68.out; first | omega | exact Nat.le_refl _⟩, ⟨rW [a8] a6 a2⟩, ⟨rW [a8] a3 a2⟩, ⟨sW [a8] B0 a2⟩, ⟨sW [a8] a7 a2⟩, ⟨kS⟩, ⟨kS⟩, ⟨kS⟩, ⟨kS⟩, ⟨bS⟩⟩
             ·rw [if_neg u2] at H
              obtain ⟨F3, F4⟩ := eqF u2
              by_cases x4 : e7.toList = ([114, 101, 115, 116, 111, 114, 101] : List UInt8)
              ·exact absurd hA_.out (by rw [x4]; decide)
              ·rw [if_neg x4] at H
               obtain ⟨F6, F7⟩ := eqF x4
               by_cases F8 : e7.toList = ([115, 104, 105, 102, 116] : List UInt8)
               ·exact absurd hA_.out (by rw [F8]; decide)
               ·rw [if_neg F8] at H
                exact absurd H (by simp)
        ·obtain rfl := Bool.eq_false_iff.mpr U8
         rw [if_neg nF] at H
         have H' := aM H
         clear H
         have hnb268 := nP d2 d1
         have hnb269 := nP d3 d4
         have hnb270 := nP e0 f3
         have hz271 := cz2 b9
         go_wp2_with (first | ((with_reducible refine gC 59 ?_); refine cM (some 45) Try.func59 (spec_IsStackOp.calls e7 _ _ Z0.out) ?_; rintro e w' ⟨rfl, ⟨nd, rfl⟩⟩; refine ⟨_, rfl, ?_⟩; have hnb272 := nP e3 e4; have hnb273 := nP f0 h8; have L0 := cg0 b2) | ((with_reducible refine gC 61 ?_); refine cM (some 65) Try.func61 (spec_TakeNumbers.calls kj2 _ _ h7 s3 d5 k4 _ _ (Kd.C_below m3.out bS) m4.out A67.out) ?_; rintro e ai9 ⟨Z3, v9, rfl, l8, l5, hb⟩; refine ⟨_, rfl, ?_⟩; have o1 := aM (Kd.R_lower (Kd.R_new' (Kd.R_newM (M := fun k_ => (w.heap.size ≤ k_)) l8 (below_size bS) (fun k_ h_ => h_)) (Kd.R_lt (by exact rG k5 a2))) (below_size bS)); have t3 := aM (Kd.R_lower (Kd.R_new' (Kd.R_newM (M := fun k_ => (w.heap.size ≤ k_)) l5 (below_size bS) (fun k_ h_ => h_)) (Kd.R_lt (by exact rG k5 a2))) (below_size bS)); replace k5 := aM (Kd.R_mono (Kd.R_told (Kd.R_told (Kd.R_old (by exact rG k5 a2) hb) (Kd.R_base l8)) (Kd.R_base l5)) (fun _ h_ => h_.1)); replace k6 := aM (Kd.R_below (by exact rG k6 a2) hb); replace k7 := aM (Kd.S_mono (Kd.S_told (Kd.S_told (Kd.S_old (by exact sG k7 a2) hb) (Kd.R_base l8)) (Kd.R_base l5)) (fun _ h_ => h_.1)); replace k9 := aM (Kd.S_below (by exact sG k9 a2) hb); replace b2 := kB_ e1 hb; replace b9 := kB_ e9 hb; replace b1 := kB_ b6 hb; replace a2 := kB_ a8 hb; replace HB := hB hb; (try clear hb hk l8 l5); obtain ⟨L1, L2, L6⟩ := Kd.R_slice o1.out; subst L6; have hnb277 := nP h9 f4; have L8 := cg0 a2; have L9 := blk_frozen a2.out 0))
         go_meet
         case rel => exact ⟨_, (false), (d5), (i5), (i6), (i7), (i8), (b8), (h6), (h2), (h3), (h4), (h5), (e2), (e8), (.slice L1 d5.length L2), (.slice f6 b8.length f7), (.slice k2 e2.length k3), (.slice l6 e8.length l7), fS, H', ⟨by have := HJ2.out; first | omega | exact Nat.le_refl _⟩, ⟨rW [a8] o1 a2⟩, ⟨rW [a8] k6 a2⟩, ⟨sW [a8] k7 a2⟩, ⟨sW [a8] k9 a2⟩, ⟨kS⟩, ⟨kS⟩, ⟨kS⟩, ⟨kS⟩, ⟨bS⟩⟩
       ·rw [if_neg y3] at H
        have t2 : decide (0 ≤ s3) = false := decide_eq_false y3
        clear y3
        have H' := aM H
        clear H
        have hnb279 := nP d2 d1
        have hnb280 := nP d3 d4
        have hnb281 := nP e0 f3
        have hz282 := cz2 b9
        go_wp2_with (first | ((with_reducible refine gC 59 ?_); refine cM (some 45) Try.func59 (spec_IsStackOp.calls e7 _ _ Z0.out) ?_; rintro e w' ⟨rfl, ⟨nd, rfl⟩⟩; refine ⟨_, rfl, ?_⟩))
        go_meet
        case rel => exact ⟨_, (false), (C9), (i5), (i6), (i7), (i8), (b8), (h6), (h2), (h3), (h4), (h5), (e2), (e8), (.slice Y3 C9.length Y4), (.slice f6 b8.length f7), (.slice k2 e2.length k3), (.slice l6 e8.length l7), fS, H', ⟨by have := HJ2.out; first | omega | exact Nat.le_refl _⟩, ⟨rW [a8] k5 a2⟩, ⟨rW [a8] k6 a2⟩, ⟨sW [a8] k7 a2⟩, ⟨sW [a8] k9 a2⟩, ⟨kS⟩, ⟨kS⟩, ⟨kS⟩, ⟨kS⟩, ⟨bS⟩⟩
    case rest =>
     clear D0
     try clear c2
     try clear p2
     try clear q2
     try clear c4
     try clear p4
     try clear q4
     try clear hx4
     try clear qi4
     try clear c5
     try clear c6
     try clear c7
     try clear c22
     try clear c23
     try clear c24
     try clear q24
     try clear c25
     try clear c26
     try clear c27
     try clear c28
     try clear c45
     try clear p45
     try clear q45
     try clear aj0
     try clear qi45
     try clear c52
     try clear c59
     try clear c61
     try clear c63
     try clear y3
     try clear t2
     try clear U8
     try clear c77
     try clear x4
     try clear F6
     try clear F7
     try clear aj1
     try clear aj2
     try clear ab2
     try clear aj3
     try clear ab3
     try clear ab4
     try clear aj6
     try clear ab5
     try clear F8
     try clear ab6
     try clear ab7
     try clear aj7
     try clear ab8
     try clear ab9
     try clear aj8
     try clear ac0
     try clear ac1
     try clear aj9
     try clear ak0
     try clear ak1
     try clear ak2
     try clear ak3
     try clear ak4
     try clear ak5
     try clear ak6
     try clear ak7
     try clear ak8
     try clear ak9
     try clear al0
     try clear V6
     try clear V7
     try clear M1
     try clear V8
     try clear V9
     try clear W0
     try clear W1
     try clear W2
     try clear W3
     try clear W4
     try clear W5
     try clear W6
     try clear W7
     try clear al1
     try clear al2
     try clear al3
     try clear ab5
     try clear al4
     try clear al5
     try clear al6
     obtain ⟨kq, q0, f8, f9, g0, g1, g2, g3, g4, g5, g6, g7, g8, g9, h0, m8, m9, o5, o6, rfl, HA, HJ34, a6, a3, a5, a7, b2, b9, b1, a2, HB⟩ := hcut
     cases kq with
     | zero => exact absurd HA.out (by simp [spec_ExecToken.j4])
     | succ kj34 =>
      have H := HA.out
      clear HA
      simp only [spec_ExecToken.j4] at H
      by_cases M3 : q0 = true
      ·subst M3
       rw [if_pos rfl] at H
       replace H := bN H
       obtain ⟨ac2, M4, H⟩ := H
       by_cases M5 : ac2 = true
       ·subst M5
        rw [if_pos rfl] at H
        simp only [Option.some.injEq, Prod.mk.injEq] at H
        obtain ⟨rfl, rfl, rfl, rfl, rfl, rfl, rfl, rfl, rfl, rfl, rfl, rfl, rfl, rfl⟩ := H
        have hnb286 := nP h8 f0
        have hnb287 := nP f3 e0
        have hnb288 := nP h9 f4
        have hz289 := cz13 a2
        obtain ⟨M6, M7, M8⟩ := Kd.R_slice a6.out
        subst M8
        obtain ⟨M9, N1, N2⟩ := Kd.R_slice a3.out
        subst N2
        obtain ⟨N3, N4, N5⟩ := Kd.S_slice a5.out
        subst N5
        obtain ⟨N6, N7, N8⟩ := Kd.S_slice a7.out
        subst N8
        go_wp2_with (first | (go_at_call 54; (with_reducible refine (spec_PageOk.calls kj34 _ _ f8 f9 g0 g1 g2 _ _ g3 g4 g5 g6 g7 g8 _ _ g9 _ _ h0 _ _ (cS (Kd.R_reads' a6.out).2.2) ((Kd.R_reads' a6.out).2.1) (cS (Kd.R_reads' a3.out).2.2) ((Kd.R_reads' a3.out).2.1) (cS (Kd.S_reads' a5.out).2.2) ((Kd.S_reads' a5.out).2.1) (cS (Kd.S_reads' a7.out).2.2) ((Kd.S_reads' a7.out).2.1) M4.out).mono ?_); rintro e al7 ⟨rfl, hb⟩; replace a6 := rB a6 hb; replace a3 := rB a3 hb; replace a5 := sB a5 hb; replace a7 := sB a7 hb; replace b2 := kB_ e1 hb; replace b9 := kB_ e9 hb; replace b1 := kB_ b6 hb; replace a2 := kB_ a8 hb; replace HB := hB hb; (try clear hb); have hz295 := cz13 a2; have hnb296 := nP e4 e3; have hnb297 := nP d4 d3; have hz298 := cz13 b1))
        refine bodyPost_ret (results_ct rfl _ _ b6 35 #[.slice M6 f8.length M7, .int .i64 f9, .int .i64 g0, .int .i64 g1, .int .i64 g2, .slice M9 g3.length N1, .int .i64 g4, .int .i64 g5, .int .i64 g6, .int .i64 g7, .int .i64 g8, .slice N3 g9.length N4, .slice N6 h0.length N7] (0, 0) _ rfl kS Try.underlying35 rfl (by kernel_rfl)) rfl ?_
        exact ⟨_, _, _, _, eS, Kd.R_V (by exact Kd.R_mono (R_on (g := b6) (Kd.R_types a6.out b1.out (by decide)) (fun _ hk => hk.2)) (fun _ hk => hk.1)), Kd.R_V (by exact Kd.R_mono (R_on (g := b6) (Kd.R_types a3.out b1.out (by decide)) (fun _ hk => hk.2)) (fun _ hk => hk.1)), Kd.S_V (by exact Kd.S_mono (S_on (g := b6) (Kd.S_types a5.out b1.out (by decide)) (fun _ hk => hk.2)) (fun _ hk => hk.1.1)), Kd.S_V (by exact Kd.S_mono (S_on (g := b6) (Kd.S_types a7.out b1.out (by decide)) (fun _ hk => hk.2)) (fun _ hk => hk.1)), bS⟩
       ·obtain rfl := Bool.eq_false_iff.mpr M5
        rw [if_neg nF] at H
        replace H := bN H
        obtain ⟨⟨N9, O0, O1, O2, O3, O4, O5, O6, O7, O8, O9, P0, P1⟩, ac3, H⟩ := H
        simp only [Option.some.injEq, Prod.mk.injEq] at H
        obtain ⟨rfl, rfl, rfl, rfl, rfl, rfl, rfl, rfl, rfl, rfl, rfl, rfl, rfl, rfl⟩ := H
        have hnb300 := nP h8 f0
        have hnb301 := nP f3 e0
        have hnb302 := nP h9 f4
        have hz303 := cz13 a2
        obtain ⟨ae0, ae1, P2⟩ := Kd.R_slice a6.out
        subst P2
        obtain ⟨ae2, ae3, P3⟩ := Kd.R_slice a3.out
        subst P3
        obtain ⟨ae4, ae5, P4⟩ := Kd.S_slice a5.out
        subst P4
        obtain ⟨ae6, ae7, P5⟩ := Kd.S_slice a7.out
        subst P5
        go_wp2_with (first | (go_at_call 54; (with_reducible refine (spec_PageOk.calls kj34 _ _ f8 f9 g0 g1 g2 _ _ g3 g4 g5 g6 g7 g8 _ _ g9 _ _ h0 _ _ (cS (Kd.R_reads' a6.out).2.2) ((Kd.R_reads' a6.out).2.1) (cS (Kd.R_reads' a3.out).2.2) ((Kd.R_reads' a3.out).2.1) (cS (Kd.S_reads' a5.out).2.2) ((Kd.S_reads' a5.out).2.1) (cS (Kd.S_reads' a7.out).2.2) ((Kd.S_reads' a7.out).2.1) M4.out).mono ?_); rintro e al8 ⟨rfl, hb⟩; replace a6 := rB a6 hb; replace a3 := rB a3 hb; replace a5 := sB a5 hb; replace a7 := sB a7 hb; replace b2 := kB_ e1 hb; replace b9 := kB_ e9 hb; replace b1 := kB_ b6 hb; replace a2 := kB_ a8 hb; replace HB := hB hb; (try clear hb); have hnb309 := nP d1 d2; have hnb310 := nP e3 e4; have hz311 := cz13 b2) | ((with_reducible refine gC 56 ?_); refine cM (some 98) Try.func56 (spec_l07Copy.calls kj34 _ _ h7 i9 j5 j6 j7 _ _ i4 j8 j9 k0 k1 f5 _ _ e5 _ _ e6 N9 O0 O1 O2 O3 O4 O5 O6 O7 O8 O9 P0 P1 _ (cC m3 HB) m4.out (cC n8 HB) o0.out (cC l9 HB) m0.out (cC m1 HB) m2.out ac3.out) ?_; rintro e al9 ⟨am0, am1, am2, am3, rfl, l8, l5, s1, s2, hb⟩; refine ⟨_, rfl, ?_⟩; have B8 := aM (Kd.R_lower (Kd.R_new' (Kd.R_newM (M := fun k_ => (w.heap.size ≤ k_)) l8 (below_size bS) (fun k_ h_ => h_)) (Kd.R_lt (rS a6))) (below_size bS)); have C0 := aM (Kd.R_lower (Kd.R_new' (Kd.R_newM (M := fun k_ => (w.heap.size ≤ k_)) l5 (below_size bS) (fun k_ h_ => h_)) (Kd.R_lt (rS a3))) (below_size bS)); have C2 := aM (Kd.S_lower (Kd.S_new' (Kd.S_new' (Kd.S_new' (Kd.S_newM (M := fun k_ => (w.heap.size ≤ k_)) s1 (below_size bS) (fun k_ h_ => h_)) (Kd.R_lt (rS a6))) (Kd.R_lt (rS a3))) (Kd.S_lt (sS a5))) (below_size bS)); have C3 := aM (Kd.S_lower (Kd.S_new' (Kd.S_new' (Kd.S_newM (M := fun k_ => (w.heap.size ≤ k_)) s2 (below_size bS) (fun k_ h_ => h_)) (Kd.R_lt (rS a3))) (Kd.S_lt (sS a7))) (below_size bS)); replace a6 := aM (Kd.R_elder' (rS a6) (Kd.R_base l8) hb); replace a3 := aM (Kd.R_elder' (rS a3) (Kd.R_base l5) hb); replace a5 := aM (Kd.S_mono (Kd.S_told (Kd.S_told (Kd.S_told (Kd.S_old (sS a5) hb) (Kd.R_base l8)) (Kd.R_base l5)) (Kd.S_base s1)) (fun _ h_ => h_.1)); replace a7 := aM (Kd.S_mono (Kd.S_told (Kd.S_told (Kd.S_old (sS a7) hb) (Kd.R_base l5)) (Kd.S_base s2)) (fun _ h_ => h_.1)); replace b2 := kB_ e1 hb; replace b9 := kB_ e9 hb; replace b1 := kB_ b6 hb; replace a2 := kB_ a8 hb; replace HB := hB hb; (try clear hb l8 l5 s1 s2); obtain ⟨P6, P7, P8⟩ := Kd.R_slice B8.out; subst P8; have hnb314 := nP d4 d3; have hz315 := cz13 b1; obtain ⟨P9, Q0, Q1⟩ := Kd.R_slice C0.out; subst Q1; obtain ⟨Q2, Q3, Q4⟩ := Kd.S_slice C2.out; subst Q4; obtain ⟨Q5, Q6, Q7⟩ := Kd.S_slice C3.out; subst Q7))
        refine bodyPost_ret (results_ct rfl _ _ b6 35 #[.slice P6 N9.length P7, .int .i64 O0, .int .i64 O1, .int .i64 O2, .int .i64 O3, .slice P9 O4.length Q0, .int .i64 O5, .int .i64 O6, .int .i64 O7, .int .i64 O8, .int .i64 O9, .slice Q2 P0.length Q3, .slice Q5 P1.length Q6] (0, 0) _ rfl kS Try.underlying35 rfl (by kernel_rfl)) rfl ?_
        exact ⟨_, _, _, _, eS, Kd.R_V (by exact Kd.R_mono (R_on (g := b6) (Kd.R_types B8.out b1.out (by decide)) (fun _ hk => hk.2)) (fun _ hk => hk.1.1.1)), Kd.R_V (by exact Kd.R_mono (R_on (g := b6) (Kd.R_types C0.out b1.out (by decide)) (fun _ hk => hk.2)) (fun _ hk => hk.1.1.1)), Kd.S_V (by exact Kd.S_mono (S_on (g := b6) (Kd.S_types C2.out b1.out (by decide)) (fun _ hk => hk.2)) (fun _ hk => hk.1.1.1.1.1)), Kd.S_V (by exact Kd.S_mono (S_on (g := b6) (Kd.S_types C3.out b1.out (by decide)) (fun _ hk => hk.2)) (fun _ hk => hk.1.1.1.1)), bS⟩
      ·obtain rfl := Bool.eq_false_iff.mpr M3
       rw [if_neg nF] at H
       replace H := bN H
       obtain ⟨⟨Q8, Q9, R1, R2, R7, R9, S0, S1, S2, S3, S4, S5, S6⟩, ac4, H⟩ := H
       simp only [Option.some.injEq, Prod.mk.injEq] at H
       obtain ⟨rfl, rfl, rfl, rfl, rfl, rfl, rfl, rfl, rfl, rfl, rfl, rfl, rfl, rfl⟩ := H
       have hnb320 := nP d1 d2
       have hnb321 := nP e3 e4
       have hnb322 := nP f0 h8
       have hz323 := cz13 b2
       go_wp2_with (first | ((with_reducible refine gC 56 ?_); refine cM (some 98) Try.func56 (spec_l07Copy.calls kj34 _ _ h7 i9 j5 j6 j7 _ _ i4 j8 j9 k0 k1 f5 _ _ e5 _ _ e6 Q8 Q9 R1 R2 R7 R9 S0 S1 S2 S3 S4 S5 S6 _ (cC m3 HB) m4.out (cC n8 HB) o0.out (cC l9 HB) m0.out (cC m1 HB) m2.out ac4.out) ?_; rintro e am4 ⟨am5, am6, am7, am8, rfl, l8, l5, s1, s2, hb⟩; refine ⟨_, rfl, ?_⟩; have C4 := aM (Kd.R_lower (Kd.R_new' (Kd.R_newM (M := fun k_ => (w.heap.size ≤ k_)) l8 (below_size bS) (fun k_ h_ => h_)) (Kd.R_lt (rS a6))) (below_size bS)); have C5 := aM (Kd.R_lower (Kd.R_new' (Kd.R_newM (M := fun k_ => (w.heap.size ≤ k_)) l5 (below_size bS) (fun k_ h_ => h_)) (Kd.R_lt (rS a3))) (below_size bS)); have C6 := aM (Kd.S_lower (Kd.S_new' (Kd.S_new' (Kd.S_new' (Kd.S_newM (M := fun k_ => (w.heap.size ≤ k_)) s1 (below_size bS) (fun k_ h_ => h_)) (Kd.R_lt (rS a6))) (Kd.R_lt (rS a3))) (Kd.S_lt (sS a5))) (below_size bS)); have C7 := aM (Kd.S_lower (Kd.S_new' (Kd.S_new' (Kd.S_newM (M := fun k_ => (w.heap.size ≤ k_)) s2 (below_size bS) (fun k_ h_ => h_)) (Kd.R_lt (rS a3))) (Kd.S_lt (sS a7))) (below_size bS)); replace a6 := aM (Kd.R_elder' (rS a6) (Kd.R_base l8) hb); replace a3 := aM (Kd.R_elder' (rS a3) (Kd.R_base l5) hb); replace a5 := aM (Kd.S_mono (Kd.S_told (Kd.S_told (Kd.S_told (Kd.S_old (sS a5) hb) (Kd.R_base l8)) (Kd.R_base l5)) (Kd.S_base s1)) (fun _ h_ => h_.1)); replace a7 := aM (Kd.S_mono (Kd.S_told (Kd.S_told (Kd.S_old (sS a7) hb) (Kd.R_base l5)) (Kd.S_base s2)) (fun _ h_ => h_.1)); replace b2 := kB_ e1 hb; replace b9 := kB_ e9 hb; replace b1 := kB_ b6 hb; replace a2 := kB_ a8 hb; replace HB := hB hb; (try clear hb l8 l5 s1 s2); obtain ⟨S7, S8, S9⟩ := Kd.R_slice C4.out; subst S9; have hnb326 := nP d4 d3; have hnb327 := nP f4 h9; have hz328 := cz13 b1; obtain ⟨T0, T8, U0⟩ := Kd.R_slice C5.out; subst U0; obtain ⟨U1, U2, U3⟩ := Kd.S_slice C6.out; subst U3; obtain ⟨U4, U5, U6⟩ := Kd.S_slice C7.out; subst U6))
       refine bodyPost_ret (results_ct rfl _ _ b6 35 #[.slice S7 Q8.length S8, .int .i64 Q9, .int .i64 R1, .int .i64 R2, .int .i64 R7, .slice T0 R9.length T8, .int .i64 S0, .int .i64 S1, .int .i64 S2, .int .i64 S3, .int .i64 S4, .slice U1 S5.length U2, .slice U4 S6.length U5] (0, 0) _ rfl kS Try.underlying35 rfl (by kernel_rfl)) rfl ?_
       exact ⟨_, _, _, _, eS, Kd.R_V (by exact Kd.R_mono (R_on (g := b6) (Kd.R_types C4.out b1.out (by decide)) (fun _ hk => hk.2)) (fun _ hk => hk.1.1.1)), Kd.R_V (by exact Kd.R_mono (R_on (g := b6) (Kd.R_types C5.out b1.out (by decide)) (fun _ hk => hk.2)) (fun _ hk => hk.1.1.1)), Kd.S_V (by exact Kd.S_mono (S_on (g := b6) (Kd.S_types C6.out b1.out (by decide)) (fun _ hk => hk.2)) (fun _ hk => hk.1.1.1.1.1)), Kd.S_V (by exact Kd.S_mono (S_on (g := b6) (Kd.S_types C7.out b1.out (by decide)) (fun _ hk => hk.2)) (fun _ hk => hk.1.1.1.1)), bS⟩

end Go.Proofs.Ytjodcfjaedhpeaa.QFnPages
