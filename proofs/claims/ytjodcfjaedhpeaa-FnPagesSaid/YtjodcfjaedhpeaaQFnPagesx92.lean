-- Made out of the translation by a program of this session (a changed copy of the print). Not trusted: Lean checks it.
import Derived.Test.YtjodcfjaedhpeaaQFnPagesx90
namespace Go.Proofs.Ytjodcfjaedhpeaa.QFnPages
open Go.RowKit Go.Proofs.YtjodcfjaedhpeaaW.PrintWords Go.Proofs.YtjodcfjaedhpeaaW.PrintLast Go.Proofs.YtjodcfjaedhpeaaW.PrintMore
attribute [local go_sem] max2_int min2_int max_two min_two max_three min_three max_four min_four   -- for this text's walks alone
set_option linter.unusedVariables false
set_option linter.unusedSimpArgs false
set_option maxHeartbeats 64000000
set_option maxRecDepth 100000

theorem spec_ExecToken.calls1 (k : Nat) (v0 : Option Addr) (v1 : Nat) (g1 : List Int) (h9 : Int) (i1 : Int) (i3 : Int) (i4 : Int) (v2 : Option Addr) (v3 : Nat) (h5 : List (S80)) (i5 : Int) (i6 : Int) (i7 : Int) (i8 : Int) (e2 : Int) (r0 : Option Addr) (s0 : Nat) (d5 : List (S31)) (s1 : Option Addr) (s2 : Nat) (d6 : List (S60)) (e8 : ByteArray) (s7 : Int) (r1 : List Int) (r2 : Int) (r3 : Int) (r4 : Int) (r5 : Int) (r6 : List (S80)) (r7 : Int) (r8 : Int) (r9 : Int) (v4 : Int) (v5 : Int) (v6 : List (S31)) (v8 : List (S60)) (w8 : Bool) (w : World) (F9 : Kd.C (Kd.int .i64) w v0 g1.length g1) (G0 : g1.length ≤ v1) (G1 : Kd.C k80 w v2 h5.length h5) (G2 : h5.length ≤ v3) (x2 : Kd.C k31 w r0 d5.length d5) (x3 : d5.length ≤ s0) (x4 : Kd.C k60 w s1 d6.length d6) (x5 : d6.length ≤ s2) (h : spec_ExecToken.f k g1 h9 i1 i3 i4 h5 i5 i6 i7 i8 e2 d5 d6 e8 s7 = some (r1, r2, r3, r4, r5, r6, r7, r8, r9, v4, v5, v6, v8, w8)) (hA_ : Aside0 (e8.toList ∈ ([[110, 101, 119], [109, 111, 118, 101, 116, 111], [108, 105, 110, 101, 116, 111], [114, 101, 99, 116]] : List (List UInt8)))) :
  Calls Try.prog 43 #[.agg #[.slice v0 g1.length v1, .int .i64 h9, .int .i64 i1, .int .i64 i3, .int .i64 i4, .slice v2 h5.length v3, .int .i64 i5, .int .i64 i6, .int .i64 i7, .int .i64 i8, .int .i64 e2, .slice r0 d5.length s0, .slice s1 d6.length s2], .agg #[.string e8, .int .i64 s7]] w fun e w' => ∃ v0_ v5_ v11_ v12_ : Value, e = .returned (.tuple #[.agg #[v0_, .int .i64 r2, .int .i64 r3, .int .i64 r4, .int .i64 r5, v5_, .int .i64 r7, .int .i64 r8, .int .i64 r9, .int .i64 v4, .int .i64 v5, v11_, v12_], .bool w8]) ∧ Kd.V (Kd.int .i64) 3 w' w.heap.size (fun k_ => (w.heap.size ≤ k_)) v0_ r1 ∧ Kd.V k80 80 w' w.heap.size (fun k_ => (w.heap.size ≤ k_)) v5_ r6 ∧ Kd.V k31 31 w' w.heap.size (fun k_ => (w.heap.size ≤ k_)) v11_ v6 ∧ Kd.V k60 60 w' w.heap.size (fun k_ => (w.heap.size ≤ k_)) v12_ v8 ∧ Below w.heap.size w w' := by
 have hu35 := Try.underlying35
 have hu40 := Try.underlying40
 have hu26 := Try.underlying26
 have hu80 := Try.underlying80
 have hu29 := Try.underlying29
 have hu60 := Try.underlying60
 have hu31 := Try.underlying31
 have o5 := aM F9
 have o6 := aM G0
 clear F9 G0
 have s3 := aM G1
 have s4 := aM G2
 clear G1 G2
 have n7 := aM x2
 have n8 := aM x3
 clear x2 x3
 have o0 := aM x4
 have o1 := aM x5
 clear x4 x5
 have HB := aM (Below.refl w.heap.size w)
 have H := h
 clear h
 unfold spec_ExecToken.f at H
 have HC3 := aM H
 clear H
 go_enter Try.func43, Try.ntmps43
 go_upto_region 1 with (first | ((with_reducible refine gD 2 ?_); refine bxE #[.slice v0 g1.length v1, .int .i64 h9, .int .i64 i1, .int .i64 i3, .int .i64 i4, .slice v2 h5.length v3, .int .i64 i5, .int .i64 i6, .int .i64 i7, .int .i64 i8, .int .i64 e2, .slice r0 d5.length s0, .slice s1 d6.length s2] 35 ?_; intro e3 hg w4 b6 hb; have GE303 := gE hg; replace HB := hB hb; clear hb hg) | ((with_reducible refine gD 3 ?_); refine bxE #[.string e8, .int .i64 s7] 40 ?_; intro f3 hg w5 b7 hb; have GE304 := gE hg; have d0 := nL_ e3 hg; have d1 := nG_ e3 hg; replace b6 := kB_ e3 hb; replace HB := hB hb; clear hb hg) | ((with_reducible refine gD 4 ?_); refine bxE #[.slice none 0 0, .int .i64 0, .int .i64 0, .int .i64 0, .int .i64 0, .slice none 0 0, .int .i64 0, .int .i64 0, .int .i64 0, .int .i64 0, .int .i64 0, .slice none 0 0, .slice none 0 0] 35 ?_; intro b2 hg w6 b1 hb; have GE305 := gE hg; have e6 := nL_ e3 hg; have e7 := nG_ e3 hg; have d2 := nL_ f3 hg; have d3 := nG_ f3 hg; replace b6 := kB_ e3 hb; replace b7 := kB_ f3 hb; replace HB := hB hb; clear hb hg))
 (try simp only [Act.put, List.setIfInBounds_toArray, List.set_cons_zero, List.set_cons_succ])
 go_cut [19] (fun v19 wc => ∃ (kq : Nat) (u3 : Bool), v19 = .bool u3 ∧ Aside0 (spec_ExecToken.j0 kq u3 g1 h9 i1 i3 i4 h5 i5 i6 i7 i8 e2 d5 d6 e8 s7 = some (r1, r2, r3, r4, r5, r6, r7, r8, r9, v4, v5, v6, v8, w8)) ∧ Aside0 (kq ≤ k) ∧ Aside0 (wc.heap[e3]? = some (.cells #[(.slice v0 g1.length v1), .int .i64 h9, .int .i64 i1, .int .i64 i3, .int .i64 i4, (.slice v2 h5.length v3), .int .i64 i5, .int .i64 i6, .int .i64 i7, .int .i64 i8, .int .i64 e2, (.slice r0 d5.length s0), (.slice s1 d6.length s2)] 35 (0, 0))) ∧ Aside0 (wc.heap[f3]? = some (.cells #[.string e8, .int .i64 s7] 40 (0, 0))) ∧ Aside0 (wc.heap[b2]? = some (.cells #[(.slice none 0 0), .int .i64 0, .int .i64 0, .int .i64 0, .int .i64 0, (.slice none 0 0), .int .i64 0, .int .i64 0, .int .i64 0, .int .i64 0, .int .i64 0, (.slice none 0 0), (.slice none 0 0)] 35 (0, 0))) ∧ Aside0 (Below w.heap.size w wc))
 case first =>
  have H := HC3.out
  clear HC3
  replace H := bN H
  obtain ⟨af1, A7, H⟩ := H
  by_cases c8 : af1 = true
  ·subst c8
   rw [if_pos rfl] at H
   replace H := bN H
   obtain ⟨O6, A9, H⟩ := H
   have H' := aM H
   clear H
   have hnb10 := nP d0 d1
   have hnb11 := nP e6 e7
   have hz12 := cz13 b6
   go_wp2_with (first | ((with_reducible refine gC 54 ?_); refine cM (some 13) Try.func54 (spec_PageOk.calls k _ _ g1 h9 i1 i3 i4 _ _ h5 i5 i6 i7 i8 e2 _ _ d5 _ _ d6 _ _ (cC o5 HB) o6.out (cC s3 HB) s4.out (cC n7 HB) n8.out (cC o0 HB) o1.out A7.out) ?_; rintro e w13 ⟨rfl, hb⟩; refine ⟨_, rfl, ?_⟩; replace b6 := kB_ e3 hb; replace b7 := kB_ f3 hb; replace b1 := kB_ b2 hb; replace HB := hB hb; (try clear hb); have hnb14 := nP d2 d3; have hz15 := cz2 b7) | (go_at_call 55; (with_reducible refine (spec_TokenOk.calls k e8 s7 O6 _ A9.out).mono ?_); rintro e w16 ⟨rfl, hb⟩; replace b6 := kB_ e3 hb; replace b7 := kB_ f3 hb; replace b1 := kB_ b2 hb; replace HB := hB hb; (try clear hb)))
   go_meet
   case rel => exact ⟨_, (!O6), fS, H', ⟨by first | omega | exact Nat.le_refl _⟩, ⟨kS⟩, ⟨kS⟩, ⟨kS⟩, ⟨bS⟩⟩
  ·obtain rfl := Bool.eq_false_iff.mpr c8
   rw [if_neg nF] at H
   have H' := aM H
   clear H
   have hnb17 := nP d0 d1
   have hnb18 := nP e6 e7
   have hz19 := cz13 b6
   go_wp2_with (first | ((with_reducible refine gC 54 ?_); refine cM (some 13) Try.func54 (spec_PageOk.calls k _ _ g1 h9 i1 i3 i4 _ _ h5 i5 i6 i7 i8 e2 _ _ d5 _ _ d6 _ _ (cC o5 HB) o6.out (cC s3 HB) s4.out (cC n7 HB) n8.out (cC o0 HB) o1.out A7.out) ?_; rintro e w20 ⟨rfl, hb⟩; refine ⟨_, rfl, ?_⟩; replace b6 := kB_ e3 hb; replace b7 := kB_ f3 hb; replace b1 := kB_ b2 hb; replace HB := hB hb; (try clear hb)))
   go_meet
   case rel => exact ⟨_, (true), fS, H', ⟨by first | omega | exact Nat.le_refl _⟩, ⟨kS⟩, ⟨kS⟩, ⟨kS⟩, ⟨bS⟩⟩
 case rest =>
  clear HC3
  try clear c1
  try clear p2
  try clear c4
  try clear c5
  try clear c8
  try clear c10
  try clear c11
  try clear c14
  try clear c17
  try clear c18
  obtain ⟨kq, u3, rfl, HA, HJ2, b6, b7, b1, HB⟩ := hcut
  cases kq with
  | zero => exact absurd HA.out (by simp [spec_ExecToken.j0])
  | succ kj2 =>
   have H := HA.out
   clear HA
   simp only [spec_ExecToken.j0] at H
   by_cases c21 : u3 = true
   ·subst c21
    rw [if_pos rfl] at H
    replace H := bN H
    obtain ⟨⟨O7, O8, O9, P0, P1, P2, P3, P4, P5, P6, P7, P8, P9⟩, A22, H⟩ := H
    simp only [Option.some.injEq, Prod.mk.injEq] at H
    obtain ⟨rfl, rfl, rfl, rfl, rfl, rfl, rfl, rfl, rfl, rfl, rfl, rfl, rfl, rfl⟩ := H
    have hnb23 := nP d0 d1
    have hnb24 := nP e6 e7
    have hz25 := cz13 b6
    go_wp2_with (first | ((with_reducible refine gC 56 ?_); refine cM (some 21) Try.func56 (spec_l07Copy.calls kj2 _ _ g1 h9 i1 i3 i4 _ _ h5 i5 i6 i7 i8 e2 _ _ d5 _ _ d6 O7 O8 O9 P0 P1 P2 P3 P4 P5 P6 P7 P8 P9 _ (cC o5 HB) o6.out (cC s3 HB) s4.out (cC n7 HB) n8.out (cC o0 HB) o1.out A22.out) ?_; rintro e w26 ⟨ap8, ap9, aq0, aq1, rfl, q0, o4, w9, x0, hb⟩; refine ⟨_, rfl, ?_⟩; have G3 := aM (Kd.R_lower (Kd.R_newM (M := fun k_ => (w.heap.size ≤ k_)) q0 (below_size bS) (fun k_ h_ => h_)) (below_size bS)); have G4 := aM (Kd.R_lower (Kd.R_newM (M := fun k_ => (w.heap.size ≤ k_)) o4 (below_size bS) (fun k_ h_ => h_)) (below_size bS)); have G5 := aM (Kd.S_lower (Kd.S_newM (M := fun k_ => (w.heap.size ≤ k_)) w9 (below_size bS) (fun k_ h_ => h_)) (below_size bS)); have G6 := aM (Kd.S_lower (Kd.S_newM (M := fun k_ => (w.heap.size ≤ k_)) x0 (below_size bS) (fun k_ h_ => h_)) (below_size bS)); replace b6 := kB_ e3 hb; replace b7 := kB_ f3 hb; replace b1 := kB_ b2 hb; replace HB := hB hb; (try clear hb q0 o4 w9 x0); obtain ⟨af4, af5, af6⟩ := Kd.R_slice G3.out; subst af6; have hnb28 := nP d3 d2; have hz29 := cz13 b1; obtain ⟨af7, af8, af9⟩ := Kd.R_slice G4.out; subst af9; obtain ⟨ag0, ag1, ag2⟩ := Kd.S_slice G5.out; subst ag2; obtain ⟨ag3, ag4, ag5⟩ := Kd.S_slice G6.out; subst ag5))
    refine bodyPost_ret (results_ct rfl _ _ b2 35 #[.slice af4 O7.length af5, .int .i64 O8, .int .i64 O9, .int .i64 P0, .int .i64 P1, .slice af7 P2.length af8, .int .i64 P3, .int .i64 P4, .int .i64 P5, .int .i64 P6, .int .i64 P7, .slice ag0 P8.length ag1, .slice ag3 P9.length ag4] (0, 0) _ rfl kS Try.underlying35 rfl (by kernel_rfl)) rfl ?_
    exact ⟨_, _, _, _, eS, Kd.R_V (by exact Kd.R_mono (R_on (g := b2) (Kd.R_types G3.out b1.out (by decide)) (fun _ hk => hk.2)) (fun _ hk => hk.1.1)), Kd.R_V (by exact Kd.R_mono (R_on (g := b2) (Kd.R_types G4.out b1.out (by decide)) (fun _ hk => hk.2)) (fun _ hk => hk.1.1)), Kd.S_V (by exact Kd.S_mono (S_on (g := b2) (Kd.S_types G5.out b1.out (by decide)) (fun _ hk => hk.2)) (fun _ hk => hk.1.1)), Kd.S_V (by exact Kd.S_mono (S_on (g := b2) (Kd.S_types G6.out b1.out (by decide)) (fun _ hk => hk.2)) (fun _ hk => hk.1.1)), bS⟩
   ·obtain rfl := Bool.eq_false_iff.mpr c21
    rw [if_neg nF] at H
    replace H := bN H
    obtain ⟨⟨J4, f7, f8, f9, g0, e9, i9, j5, j6, j7, j8, e4, e5⟩, A33, H⟩ := H
    replace H := bN H
    obtain ⟨x1, A34, H⟩ := H
    have J5 := aM H
    clear H
    have hnb36 := nP d0 d1
    have hnb37 := nP e6 e7
    have hz38 := cz13 b6
    go_upto_block 0 with (first | ((with_reducible refine gC 56 ?_); refine cM (some 23) Try.func56 (spec_l07Copy.calls kj2 _ _ g1 h9 i1 i3 i4 _ _ h5 i5 i6 i7 i8 e2 _ _ d5 _ _ d6 J4 f7 f8 f9 g0 e9 i9 j5 j6 j7 j8 e4 e5 _ (cC o5 HB) o6.out (cC s3 HB) s4.out (cC n7 HB) n8.out (cC o0 HB) o1.out A33.out) ?_; rintro e w39 ⟨aq4, aq5, aq6, aq7, rfl, q0, o4, w9, x0, hb⟩; refine ⟨_, rfl, ?_⟩; have k6 := aM (Kd.R_lower (Kd.R_newM (M := fun k_ => (w.heap.size ≤ k_)) q0 (below_size bS) (fun k_ h_ => h_)) (below_size bS)); have j9 := aM (Kd.R_lower (Kd.R_newM (M := fun k_ => (w.heap.size ≤ k_)) o4 (below_size bS) (fun k_ h_ => h_)) (below_size bS)); have k0 := aM (Kd.S_lower (Kd.S_newM (M := fun k_ => (w.heap.size ≤ k_)) w9 (below_size bS) (fun k_ h_ => h_)) (below_size bS)); have k1 := aM (Kd.S_lower (Kd.S_newM (M := fun k_ => (w.heap.size ≤ k_)) x0 (below_size bS) (fun k_ h_ => h_)) (below_size bS)); replace b6 := kB_ e3 hb; replace b7 := kB_ f3 hb; replace b1 := kB_ b2 hb; replace HB := hB hb; (try clear hb q0 o4 w9 x0)) | ((with_reducible refine gD 6 ?_); refine bxE #[.slice none 0 0, .int .i64 0, .int .i64 0, .int .i64 0, .int .i64 0, .slice none 0 0, .int .i64 0, .int .i64 0, .int .i64 0, .int .i64 0, .int .i64 0, .slice none 0 0, .slice none 0 0] 35 ?_; intro a9 hg w40 a3 hb; have GE350 := gE hg; have f4 := nL_ e3 hg; have h6 := nG_ e3 hg; have e0 := nL_ f3 hg; have f5 := nG_ f3 hg; have f6 := nL_ b2 hg; have h7 := nG_ b2 hg; replace k6 := rB k6 hb; replace j9 := rB j9 hb; replace k0 := sB k0 hb; replace k1 := sB k1 hb; replace b6 := kB_ e3 hb; replace b7 := kB_ f3 hb; replace b1 := kB_ b2 hb; replace HB := hB hb; clear hb hg; obtain ⟨ag6, ag7, ag8⟩ := Kd.R_slice k6.out; subst ag8; have hnb42 := nP h6 f4; have hnb43 := nP f5 e0; have hnb44 := nP h7 f6; have hz45 := cz13 a3; obtain ⟨l4, l5, ag9⟩ := Kd.R_slice j9.out; subst ag9; obtain ⟨l6, l7, ah0⟩ := Kd.S_slice k0.out; subst ah0; obtain ⟨l8, l9, ah1⟩ := Kd.S_slice k1.out; subst ah1; have hnb49 := nP d2 d3; have hz50 := cz2 b7) | ((with_reducible refine gC 57 ?_); refine cM (some 26) Try.func57 (spec_l07Takes.calls kj2 e8 x1 _ A34.out) ?_; rintro e w' ⟨rfl, ⟨nd, rfl⟩⟩; refine ⟨_, rfl, ?_⟩))
    (try simp only [Act.put, List.setIfInBounds_toArray, List.set_cons_zero, List.set_cons_succ])
    go_cut [7] (fun v7 wc => ∃ (kq : Nat) (u4 : Bool) (g2 : List Int) (g3 : Int) (g4 : Int) (g5 : Int) (g6 : Int) (g7 : List (S80)) (g8 : Int) (g9 : Int) (h0 : Int) (h1 : Int) (h2 : Int) (h3 : List (S31)) (h4 : List (S60)) (q5 : Value) (e1 : Value) (s8 : Value) (s9 : Value), v7 = .bool u4 ∧ Aside0 (spec_ExecToken.j4 kq u4 g1 h9 i1 i3 i4 h5 i5 i6 i7 i8 e2 d5 d6 g2 g3 g4 g5 g6 g7 g8 g9 h0 h1 h2 h3 h4 = some (r1, r2, r3, r4, r5, r6, r7, r8, r9, v4, v5, v6, v8, w8)) ∧ Aside0 (kq ≤ kj2) ∧ Aside0 (Kd.R (Kd.int .i64) 3 wc w.heap.size (fun k_ => (w.heap.size ≤ k_)) q5 g2) ∧ Aside0 (Kd.R k80 80 wc w.heap.size (fun k_ => (w.heap.size ≤ k_)) e1 g7) ∧ Aside0 (Kd.S k31 31 wc w.heap.size (fun k_ => (w.heap.size ≤ k_) ∧ some k_ ≠ (q5 : Value).ownBlock ∧ some k_ ≠ (e1 : Value).ownBlock) s8 h3) ∧ Aside0 (Kd.S k60 60 wc w.heap.size (fun k_ => (w.heap.size ≤ k_)) s9 h4) ∧ Aside0 (wc.heap[e3]? = some (.cells #[(.slice v0 g1.length v1), .int .i64 h9, .int .i64 i1, .int .i64 i3, .int .i64 i4, (.slice v2 h5.length v3), .int .i64 i5, .int .i64 i6, .int .i64 i7, .int .i64 i8, .int .i64 e2, (.slice r0 d5.length s0), (.slice s1 d6.length s2)] 35 (0, 0))) ∧ Aside0 (wc.heap[f3]? = some (.cells #[.string e8, .int .i64 s7] 40 (0, 0))) ∧ Aside0 (wc.heap[b2]? = some (.cells #[(.slice none 0 0), .int .i64 0, .int .i64 0, .int .i64 0, .int .i64 0, (.slice none 0 0), .int .i64 0, .int .i64 0, .int .i64 0, .int .i64 0, .int .i64 0, (.slice none 0 0), (.slice none 0 0)] 35 (0, 0))) ∧ Aside0 (wc.heap[a9]? = some (.cells #[q5, .int .i64 g3, .int .i64 g4, .int .i64 g5, .int .i64 g6, e1, .int .i64 g8, .int .i64 g9, .int .i64 h0, .int .i64 h1, .int .i64 h2, s8, s9] 35 (0, 0))) ∧ Aside0 (Below w.heap.size w wc))
    case first =>
     have H := J5.out
     clear J5
     by_cases c51 : e8.toList = ([] : List UInt8)
     ·exact absurd hA_.out (by rw [c51]; decide)
     ·rw [if_neg c51] at H
      obtain ⟨x6, Q0⟩ := eqF c51
      (first | rw [x6] | (simp only [i64_w, i32_w]; rw [x6]) | skip)
      replace H := bN H
      obtain ⟨ah2, A64, H⟩ := H
      by_cases c65 : ah2 = true
      ·subst c65
       rw [if_pos rfl] at H
       exact absurd H (by simp)
      ·obtain rfl := Bool.eq_false_iff.mpr c65
       rw [if_neg nF] at H
       by_cases G7 : x1 ≥ 0
       ·rw [if_pos G7] at H
        have x7 : decide (0 ≤ x1) = true := decide_eq_true G7
        clear G7
        replace H := bN H
        obtain ⟨⟨d4, a8, ah5⟩, A67, H⟩ := H
        by_cases c68 : ah5 = true
        ·subst c68
         rw [if_pos rfl] at H
         have J6 := aM H
         clear H
         have hnb70 := nP d1 d0
         have hnb71 := nP d2 d3
         have hnb72 := nP e0 f5
         have hz73 := cz2 b7
         go_upto_if 79 with (first | ((with_reducible refine gC 59 ?_); refine cM (some 45) Try.func59 (spec_IsStackOp.calls e8 _ _ A64.out) ?_; rintro e w' ⟨rfl, ⟨nd, rfl⟩⟩; refine ⟨_, rfl, ?_⟩; have hnb74 := nP e6 e7; have hnb75 := nP f4 h6; have ad3 := cg0 b6) | ((with_reducible refine gC 61 ?_); refine cM (some 65) Try.func61 (spec_TakeNumbers.calls kj2 _ _ g1 x1 d4 a8 _ _ (Kd.C_below o5.out bS) o6.out A67.out) ?_; rintro e w77 ⟨ah6, C3, rfl, q0, o4, hb⟩; refine ⟨_, rfl, ?_⟩; have o7 := aM (Kd.R_lower (Kd.R_new' (Kd.R_newM (M := fun k_ => (w.heap.size ≤ k_)) q0 (below_size bS) (fun k_ h_ => h_)) (Kd.R_lt (by exact rG k6 a3))) (below_size bS)); have t3 := aM (Kd.R_lower (Kd.R_new' (Kd.R_newM (M := fun k_ => (w.heap.size ≤ k_)) o4 (below_size bS) (fun k_ h_ => h_)) (Kd.R_lt (by exact rG k6 a3))) (below_size bS)); replace k6 := aM (Kd.R_mono (Kd.R_told (Kd.R_told (Kd.R_old (by exact rG k6 a3) hb) (Kd.R_base q0)) (Kd.R_base o4)) (fun _ h_ => h_.1)); replace j9 := aM (Kd.R_below (by exact rG j9 a3) hb); replace k0 := aM (Kd.S_mono (Kd.S_told (Kd.S_told (Kd.S_old (by exact sG k0 a3) hb) (Kd.R_base q0)) (Kd.R_base o4)) (fun _ h_ => h_.1)); replace k1 := aM (Kd.S_below (by exact sG k1 a3) hb); replace b6 := kB_ e3 hb; replace b7 := kB_ f3 hb; replace b1 := kB_ b2 hb; replace a3 := kB_ a9 hb; replace HB := hB hb; (try clear hb hk q0 o4); obtain ⟨k2, k3, ah7⟩ := Kd.R_slice o7.out; subst ah7; have hnb79 := nP h7 f6; have ad4 := cg0 a3; have ad5 := blk_frozen a3.out 0; have hz81 := cz2 b7))
         (try simp only [Act.put, List.setIfInBounds_toArray, List.set_cons_zero, List.set_cons_succ])
         go_cut [79] (fun v79 wc => ∃ (kq : Nat) (t0 : Bool), v79 = .bool t0 ∧ Aside0 (spec_ExecToken.j1 kq a8 t0 g1 h9 i1 i3 i4 h5 i5 i6 i7 i8 e2 d5 d6 e8 s7 d4 f7 f8 f9 g0 e9 i9 j5 j6 j7 j8 e4 e5 = some (r1, r2, r3, r4, r5, r6, r7, r8, r9, v4, v5, v6, v8, w8)) ∧ Aside0 (kq ≤ kj2) ∧ Aside0 (Kd.R (Kd.int .i64) 3 wc w.heap.size (fun k_ => (w.heap.size ≤ k_) ∧ some k_ ≠ ((.slice k2 d4.length k3) : Value).ownBlock) C3 a8) ∧ Aside0 (Kd.R (Kd.int .i64) 3 wc w.heap.size (fun k_ => (w.heap.size ≤ k_) ∧ some k_ ≠ (C3 : Value).ownBlock) (.slice k2 d4.length k3) d4) ∧ Aside0 (Kd.R k80 80 wc w.heap.size (fun k_ => (w.heap.size ≤ k_)) (.slice l4 e9.length l5) e9) ∧ Aside0 (Kd.S k31 31 wc w.heap.size (fun k_ => (w.heap.size ≤ k_) ∧ some k_ ≠ (C3 : Value).ownBlock ∧ some k_ ≠ ((.slice k2 d4.length k3) : Value).ownBlock ∧ some k_ ≠ ((.slice l4 e9.length l5) : Value).ownBlock) (.slice l6 e4.length l7) e4) ∧ Aside0 (Kd.S k60 60 wc w.heap.size (fun k_ => (w.heap.size ≤ k_) ∧ some k_ ≠ ((.slice l4 e9.length l5) : Value).ownBlock) (.slice l8 e5.length l9) e5) ∧ Aside0 (wc.heap[e3]? = some (.cells #[(.slice v0 g1.length v1), .int .i64 h9, .int .i64 i1, .int .i64 i3, .int .i64 i4, (.slice v2 h5.length v3), .int .i64 i5, .int .i64 i6, .int .i64 i7, .int .i64 i8, .int .i64 e2, (.slice r0 d5.length s0), (.slice s1 d6.length s2)] 35 (0, 0))) ∧ Aside0 (wc.heap[f3]? = some (.cells #[.string e8, .int .i64 s7] 40 (0, 0))) ∧ Aside0 (wc.heap[b2]? = some (.cells #[(.slice none 0 0), .int .i64 0, .int .i64 0, .int .i64 0, .int .i64 0, (.slice none 0 0), .int .i64 0, .int .i64 0, .int .i64 0, .int .i64 0, .int .i64 0, (.slice none 0 0), (.slice none 0 0)] 35 (0, 0))) ∧ Aside0 (wc.heap[a9]? = some (.cells #[(.slice k2 d4.length k3), .int .i64 f7, .int .i64 f8, .int .i64 f9, .int .i64 g0, (.slice l4 e9.length l5), .int .i64 i9, .int .i64 j5, .int .i64 j6, .int .i64 j7, .int .i64 j8, (.slice l6 e4.length l7), (.slice l8 e5.length l9)] 35 (0, 0))) ∧ Aside0 (Below w.heap.size w wc))
         case first =>
          have H := J6.out
          clear J6
          by_cases J7 : e8.toList = ([110, 101, 119] : List UInt8)
          ·rw [if_pos J7] at H
           obtain ⟨s5, G8⟩ := eqT J7
           clear J7
           (first | rw [s5] | (simp only [i64_w, i32_w]; rw [s5]) | skip)
           have H' := aM H
           clear H
           go_wp2
           go_meet
           case rel => exact ⟨_, ((e8.toList == ([110, 101, 119] : List UInt8))), fS, H', ⟨by have := HJ2.out; first | omega | exact Nat.le_refl _⟩, ⟨rW [a9] t3 a3⟩, ⟨rW [a9] o7 a3⟩, ⟨rW [a9] j9 a3⟩, ⟨sW [a9] k0 a3⟩, ⟨sW [a9] k1 a3⟩, ⟨kS⟩, ⟨kS⟩, ⟨kS⟩, ⟨kS⟩, ⟨bS⟩⟩
          ·rw [if_neg J7] at H
           obtain ⟨s5, G8⟩ := eqF J7
           (first | rw [s5] | (simp only [i64_w, i32_w]; rw [s5]) | skip)
           by_cases J8 : e8.toList = ([109, 111, 118, 101, 116, 111] : List UInt8)
           ·rw [if_pos J8] at H
            obtain ⟨G9, H2⟩ := eqT J8
            clear J8
            have H' := aM H
            clear H
            go_wp2
            go_meet
            case rel => exact ⟨_, ((e8.toList == ([109, 111, 118, 101, 116, 111] : List UInt8))), fS, H', ⟨by have := HJ2.out; first | omega | exact Nat.le_refl _⟩, ⟨rW [a9] t3 a3⟩, ⟨rW [a9] o7 a3⟩, ⟨rW [a9] j9 a3⟩, ⟨sW [a9] k0 a3⟩, ⟨sW [a9] k1 a3⟩, ⟨kS⟩, ⟨kS⟩, ⟨kS⟩, ⟨kS⟩, ⟨bS⟩⟩
           ·rw [if_neg J8] at H
            obtain ⟨G9, H2⟩ := eqF J8
            by_cases J9 : e8.toList = ([108, 105, 110, 101, 116, 111] : List UInt8)
            ·rw [if_pos J9] at H
             obtain ⟨H3, H4⟩ := eqT J9
             clear J9
             have H' := aM H
             clear H
             go_wp2
             go_meet
             case rel => exact ⟨_, ((e8.toList == ([108, 105, 110, 101, 116, 111] : List UInt8))), fS, H', ⟨by have := HJ2.out; first | omega | exact Nat.le_refl _⟩, ⟨rW [a9] t3 a3⟩, ⟨rW [a9] o7 a3⟩, ⟨rW [a9] j9 a3⟩, ⟨sW [a9] k0 a3⟩, ⟨sW [a9] k1 a3⟩, ⟨kS⟩, ⟨kS⟩, ⟨kS⟩, ⟨kS⟩, ⟨bS⟩⟩
            ·rw [if_neg J9] at H
             obtain ⟨H3, H4⟩ := eqF J9
             by_cases Q1 : e8.toList = ([114, 101, 99, 116] : List UInt8)
             ·rw [if_pos Q1] at H
              obtain ⟨Q2, Q3⟩ := eqT Q1
              clear Q1
              have H' := aM H
              clear H
              go_wp2
              go_meet
              case rel => exact ⟨_, ((e8.toList == ([114, 101, 99, 116] : List UInt8))), fS, H', ⟨by have := HJ2.out; first | omega | exact Nat.le_refl _⟩, ⟨rW [a9] t3 a3⟩, ⟨rW [a9] o7 a3⟩, ⟨rW [a9] j9 a3⟩, ⟨sW [a9] k0 a3⟩, ⟨sW [a9] k1 a3⟩, ⟨kS⟩, ⟨kS⟩, ⟨kS⟩, ⟨kS⟩, ⟨bS⟩⟩
             ·exact absurd hA_.out (by simp only [List.mem_cons, List.not_mem_nil, or_false, not_or]; exact ⟨J7, J8, J9, Q1⟩)
         case rest =>
          clear J6
          try clear c1
          try clear c2
          try clear p2
          try clear c3
          try clear c4
          try clear c5
          try clear c6
          try clear c7
          try clear c8
          try clear c10
          try clear c11
          try clear c14
          try clear c17
          try clear c18
          try clear c21
          try clear c23
          try clear c24
          try clear c28
          try clear c36
          try clear c37
          try clear c42
          try clear c43
          try clear c44
          try clear c49
          try clear c51
          try clear x6
          try clear Q0
          try clear c53
          try clear c54
          try clear c55
          try clear c56
          try clear c57
          try clear c58
          try clear c59
          try clear c61
          try clear c62
          try clear c65
          try clear G7
          try clear x7
          try clear c68
          try clear c70
          try clear c71
          try clear c72
          try clear c74
          try clear c75
          try clear c79
          try clear J7
          try clear s5
          try clear G8
          try clear J8
          try clear G9
          try clear H2
          try clear J9
          try clear H3
          try clear H4
          try clear Q1
          try clear Q2
          try clear Q3
          try clear c86
          try clear an5
          try clear an6
          try clear p2
          obtain ⟨kq, t0, rfl, HA, HJ68, b9, a5, a2, a6, a7, b6, b7, b1, a3, HB⟩ := hcut
          cases kq with
          | zero => exact absurd HA.out (by simp [spec_ExecToken.j1])
          | succ kj68 =>
           have H := HA.out
           clear HA
           simp only [spec_ExecToken.j1] at H
           by_cases c87 : t0 = true
           ·subst c87
            rw [if_pos rfl] at H
            have Q4 := aM H
            clear H
            have hnb89 := nP d1 d0
            have hnb90 := nP d2 d3
            have hnb91 := nP e0 f5
            have hz92 := cz2 b7
            go_wp2_with (fail)
            have H := Q4.out
            clear Q4
            obtain ⟨L93, hF_, hM303_, hM304_, hM305_⟩ := FrI_pack3 b6.out b7.out b1.out f4.out e0.out f6.out [35, 40] (by decide) (by decide) (by decide)
            have HLM303 := aM hM303_
            have HLM304 := aM hM304_
            have HLM305 := aM hM305_
            have b0 := aM hF_
            clear hF_ hM303_ hM304_ hM305_ b6 b7 b1
            by_cases O5 : e8.toList = ([110, 101, 119] : List UInt8)
            ·rw [if_pos O5] at H
             obtain ⟨Q5, Q6⟩ := eqT O5
             clear O5
             obtain ⟨K0, hy_⟩ : ∃ y_ : List (S80), y_ = (([] : List (S80))) := ⟨_, rfl⟩
             replace H : (spec_ExecToken.j4 kj68 true g1 h9 i1 i3 i4 h5 i5 i6 i7 i8 e2 d5 d6 d4 f7 f8 f9 g0 K0 i9 j5 j6 j7 j8 e4 e5) = some (r1, r2, r3, r4, r5, r6, r7, r8, r9, v4, v5, v6, v8, w8) := yS
             have Ny364 := aM hy_
             clear hy_
             have H' := aM H
             clear H
             obtain ⟨ar6, ar7, ah8⟩ := Kd.R_slice b9.out
             subst ah8
             go_at_call 62
             go_enter Try.func62, Try.ntmps62
             try go_wp2_with (first | ((with_reducible refine gate_dst (N := 17) rfl ?_); refine Kd.R_lit k80 _ 80 ?hg (N := 17) ?hd (xs := ([] : List (S80))) (inner := []) (ok := fun _ => True) (okp := fun _ => True) ?hr ?hp (fun _ hk => hk) trivial (Below.refl _ _) (Nat.le_refl _) (by simp) ?_; (case hd => rfl); (case hg => rfl); (case hr => first | (go_simp; done) | (go_simp; rfl)); (case hp => exact (Reps.none _ _)); intro ar8 w96 t4 hb hg_ hnew_; clear hg_ hnew_; (first | rw [← Ny364.out] at t4 | (simp only [Int.reduceToNat] at t4; rw [← Ny364.out] at t4)); have H5 := aM (Kd.R_lower (Kd.R_new' (Kd.R_newM (M := fun k_ => (w.heap.size ≤ k_)) t4 (below_size bS) (fun k_ h_ => h_)) (Kd.R_lt (rS a2))) (below_size bS)); replace b9 := rB b9 hb; replace a5 := rB a5 hb; replace a2 := aM (Kd.R_elder' (rS a2) (Kd.R_base t4) hb); replace a6 := aM (Kd.S_elder' (sS a6) (Kd.R_base t4) hb); replace a7 := aM (Kd.S_elder' (sS a7) (Kd.R_base t4) hb); replace a3 := kB_ a9 hb; replace b0 := aM (FrI_belowS hb b0.out (FrN0 b0.out)); replace HB := hB hb; clear hb t4; obtain ⟨ah9, ai0, ai1⟩ := Kd.R_slice H5.out; subst ai1; have ad6 := cg5 a3; have ad7 := blk_frozen a3.out 5))
             (try (go_ret; (try simp only [])))
             (try (refine ⟨_, rfl, ?_⟩))
             have b6 := aM (FrI_get b0.out HLM303.out)
             have b7 := aM (FrI_get b0.out HLM304.out)
             have b1 := aM (FrI_get b0.out HLM305.out)
             clear b0
             try go_wp2
             go_meet
             case rel => exact ⟨_, (true), (d4), (f7), (f8), (f9), (g0), (K0), (i9), (j5), (j6), (j7), (j8), (e4), (e5), (.slice k2 d4.length k3), (.slice ah9 K0.length ai0), (.slice l6 e4.length l7), (.slice l8 e5.length l9), fS, H', ⟨by have := HJ2.out; have := HJ68.out; first | omega | exact Nat.le_refl _⟩, ⟨rW [a9] a5 a3⟩, ⟨rW [a9] H5 a3⟩, ⟨sW [a9] a6 a3⟩, ⟨sW [a9] a7 a3⟩, ⟨kS⟩, ⟨kS⟩, ⟨kS⟩, ⟨kS⟩, ⟨bS⟩⟩
            ·rw [if_neg O5] at H
             obtain ⟨Q5, Q6⟩ := eqF O5
             by_cases t8 : e8.toList = ([109, 111, 118, 101, 116, 111] : List UInt8)
             ·rw [if_pos t8] at H
              obtain ⟨x8, x9⟩ := eqT t8
              clear t8
              by_cases y0 : 0 < (a8.length : Int)
              ·rw [if_pos y0] at H
               have ai2 : decide (0 < (a8.length : Int)) = true := decide_eq_true y0
               have ai3 : decide (0 < a8.length) = true := decide_eq_true (by omega)
               clear y0
               by_cases y1 : 1 < (a8.length : Int)
               ·rw [if_pos y1] at H
                have ai4 : decide (1 < (a8.length : Int)) = true := decide_eq_true y1
                have ai5 : decide (1 < a8.length) = true := decide_eq_true (by omega)
                clear y1
                replace H := bN H
                obtain ⟨⟨t9, u0⟩, ai6, H⟩ := H
                obtain ⟨K1, hy_⟩ : ∃ y_ : List (S80), y_ = (([(⟨t9, u0⟩ : S80)] : List (S80))) := ⟨_, rfl⟩
                replace H : (spec_ExecToken.j4 kj68 true g1 h9 i1 i3 i4 h5 i5 i6 i7 i8 e2 d5 d6 d4 f7 f8 f9 g0 K1 i9 j5 j6 j7 j8 e4 e5) = some (r1, r2, r3, r4, r5, r6, r7, r8, r9, v4, v5, v6, v8, w8) := yS
                have Ny371 := aM hy_
                clear hy_
                have H' := aM H
                clear H
                obtain ⟨an8, an9, Q7⟩ := Kd.R_slice b9.out
                subst Q7
                go_at_call 62
                go_enter Try.func62, Try.ntmps62
                try go_wp2
                replace b9 := rD b9
                replace a5 := rD a5
                replace a2 := rD a2
                replace a6 := sD a6
                replace a7 := sD a7
                replace a3 := bD a3
                replace b0 := aM (FrI_drew b0.out)
                replace HB := hD HB
                have K2 : 0 ≤ (0 : Int) := (by omega)
                have K3 : 0 < (a8.length : Int) := dA
                obtain ⟨u5, ai7, q6⟩ := Kd.at_int (Kd.R_reads' b9.out).2.2 0 K2 K3
                cases ai7
                have qi367 : (0 < a8.length) = True := eq_true (by omega)
                (try rw [show ((0 : Int)).toNat = 0 from rfl] at q6)
                (try rw [Addr.add_zero'] at q6)
                replace K2 := eq_true K2
                replace K3 := eq_true K3
                have K4 : 0 ≤ (1 : Int) := (by omega)
                have K5 : 1 < (a8.length : Int) := dA
                obtain ⟨Q8, ai8, q7⟩ := Kd.at_int (Kd.R_reads' b9.out).2.2 1 K4 K5
                obtain rfl : u5 = Q8 := (by injection ai8)
                (try simp only [show (1 : Int).toNat = 1 from rfl, Nat.reduceMul, Nat.reduceEqDiff, Go.Addr.add, ↓reduceIte] at q7)
                have qi368 : (1 < a8.length) = True := eq_true (by omega)
                (try rw [show ((1 : Int)).toNat = 1 from rfl] at q7)
                replace K4 := eq_true K4
                replace K5 := eq_true K5
                refine start_ (n := 17) (S := fun w' => w'.cell? ⟨a9, 1, none⟩ = some (.int .i64 f7) ∧ w'.cell? ⟨a9, 2, none⟩ = some (.int .i64 f8) ∧ w'.cell? ⟨a9, 3, none⟩ = some (.int .i64 f9) ∧ w'.cell? ⟨a9, 4, none⟩ = some (.int .i64 g0) ∧ w'.cell? u5 = some (.int .i64 (rd a8 0)) ∧ w'.cell? ⟨u5.block, u5.off + 1, none⟩ = some (.int .i64 (rd a8 1))) (ds := [16]) (mB 17 0) (by kernel_rfl) rfl rfl ⟨(blk_cell a3.out 1).trans rfl, (blk_cell a3.out 2).trans rfl, (blk_cell a3.out 3).trans rfl, (blk_cell a3.out 4).trans rfl, q6, q7⟩ (fun hHeld => ?_); refine with_tabW spec_ExecToken.i62.tab6 spec_ExecToken.i62.bits6 (fun HT_ HW_ => ?_)
                generalize wc.drew = ar9 at b9 a5 a2 a6 a7 a3 b0 HB q6 q7 hHeld ⊢
                refine pU 0 (some 22) (mB 17 1) ?_
                refine pU 1 (some 23) (mB 17 3) ?_
                refine pU 2 (some 24) (mB 17 7) ?_
                refine pU 3 (some 25) (mB 17 15) ?_
                refine pU 5 (some 27) (mB 17 47) ?_
                refine pU 6 (some 28) (mB 17 111) ?_
                refine pU 8 (some 30) (mB 17 367) ?_
                refine pU 9 (some 31) (mB 17 879) ?_
                refine tK 4 (some 26) (mB 17 895) ?_
                refine tK 7 (some 29) (mB 17 1023) ?_
                refine tK 10 (some 32) (mB 17 2047) ?_
                refine pU 11 (some 33) (mB 17 4095) ?_
                refine one_ (i := 12) (N := some 34) (mB 17 8191) rfl rfl (one_of HT_.out (by kernel_rfl)) (by decide) (fun K hK => ?_)
                refine goes_ Try.func74 (by kernel_rfl) rfl #[.agg #[.int .i64 f7, .int .i64 f8, .int .i64 f9, .int .i64 g0], .agg #[.int .i64 (rd a8 0), .int .i64 (rd a8 1)]] (by rfl) rfl rfl mA ?_
                with_reducible refine (spec_l03Raw.calls kj68 f7 f8 f9 g0 (rd a8 0) (rd a8 1) t9 u0 _ ai6.out).mono ?_
                rintro e as0 ⟨rfl, hb⟩
                have HS4_ := (hb.cell (World.block_lt_of_cell? _ _ (hHeld.2.2.2.2.1))).trans (hHeld.2.2.2.2.1)
                have HS5_ := (hb.cell (World.block_lt_of_cell? _ _ (hHeld.2.2.2.2.2))).trans (hHeld.2.2.2.2.2)
                refine ⟨_, rfl, ?_⟩
                replace b9 := rB b9 hb
                replace a5 := rB a5 hb
                replace a2 := rB a2 hb
                replace a6 := sB a6 hb
                replace a7 := sB a7 hb
                replace a3 := kB_ a9 hb
                replace b0 := aM (FrI_belowS hb b0.out (FrN0 b0.out))
                replace HB := hB hb
                (try clear hb)
                (try clear hb2)
                (try clear hk)
                (try clear hi)
                refine hK.out _ _ ⟨(blk_cell a3.out 1).trans rfl, (blk_cell a3.out 2).trans rfl, (blk_cell a3.out 3).trans rfl, (blk_cell a3.out 4).trans rfl, HS4_, HS5_⟩ (fun hHeld => ?_)
                clear hK K
                refine norm_ (a' := ?_) ?_ ?_
                rotate_left
                ·show Act.put _ (some 34) _ = _
                 simp only [Act.put, List.setIfInBounds_toArray, List.set_cons_zero, List.set_cons_succ, i64_w, i32_w]
                 rfl
                refine one_ (i := 13) (N := some 35) (mB 17 16383) rfl rfl (one_of HT_.out (by kernel_rfl)) (by decide) (fun K hK => ?_)
                refine Kd.R_lit_step k80 _ 80 ?hg (N := 35) ?hd (xs := ([(⟨t9, u0⟩ : S80)] : List (S80))) (inner := [.int .i64 t9, .int .i64 u0]) (ok := fun _ => True) (okp := fun _ => True) ?hr ?hp (fun _ hk => hk) trivial (Below.refl _ _) (Nat.le_refl _) (by simp) ?_; (case hd => rfl); (case hg => rfl); (case hr => first | (go_simp; done) | (go_simp; rfl)); (case hp => exact (Reps.c2 (show Kd.M k80 _ _ _ (⟨t9, u0⟩ : S80) [.int .i64 t9, .int .i64 u0] from (k80_mkM _ _ _ (⟨t9, u0⟩ : S80) )) (Reps.none _ _)))
                intro as1 as2 o8 hb hg_ hnew_
                have HS4_ := (hb.cell (World.block_lt_of_cell? _ _ (hHeld.2.2.2.2.1))).trans (hHeld.2.2.2.2.1)
                have HS5_ := (hb.cell (World.block_lt_of_cell? _ _ (hHeld.2.2.2.2.2))).trans (hHeld.2.2.2.2.2)
                clear hg_ hnew_
                (first | rw [← Ny371.out] at o8 | (simp only [Int.reduceToNat] at o8; rw [← Ny371.out] at o8))
                have H6 := aM (Kd.R_lower (Kd.R_new' (Kd.R_newM (M := fun k_ => (w.heap.size ≤ k_)) o8 (below_size bS) (fun k_ h_ => h_)) (Kd.R_lt (rS a2))) (below_size bS))
                replace b9 := rB b9 hb
                replace a5 := rB a5 hb
                replace a2 := aM (Kd.R_elder' (rS a2) (Kd.R_base o8) hb)
                replace a6 := aM (Kd.S_elder' (sS a6) (Kd.R_base o8) hb)
                replace a7 := aM (Kd.S_elder' (sS a7) (Kd.R_base o8) hb)
                replace a3 := kB_ a9 hb
                replace b0 := aM (FrI_belowS hb b0.out (FrN0 b0.out))
                replace HB := hB hb
                clear hb o8
                obtain ⟨Q9, R1, H7⟩ := Kd.R_slice H6.out
                (first | subst H7 | obtain ⟨rfl, rfl⟩ := slE H7)
                refine hK.out _ _ ⟨(blk_cell a3.out 1).trans rfl, (blk_cell a3.out 2).trans rfl, (blk_cell a3.out 3).trans rfl, (blk_cell a3.out 4).trans rfl, HS4_, HS5_⟩ (fun hHeld => ?_)
                clear hK K
                refine norm_ (a' := ?_) ?_ ?_
                rotate_left
                ·show Act.put _ (some 35) _ = _
                 simp only [Act.put, List.setIfInBounds_toArray, List.set_cons_zero, List.set_cons_succ, i64_w, i32_w]
                 rfl
                refine pU 14 (some 36) (mB 17 32767) ?_
                refine pU 15 (some 37) (mB 17 65535) ?_
                refine last_ (i := 16) (N := none) (mB 17 131071) rfl rfl (one_of HT_.out (by kernel_rfl)) (by decide) (fun K hK => ?_)
                have hs110 := cg5 a3
                have hfs110 := blk_frozen a3.out 5
                refine skip_ (w1 := ?_) (by rfl) rfl ?_ ?_
                rotate_left
                ·go_simp
                 rfl
                refine hK.out _ _ ?_
                clear hK K
                refine done_ (done_of HT_.out (by kernel_rfl)) ?_
                try go_wp2
                (try (go_ret; (try simp only [])))
                (try (refine ⟨_, rfl, ?_⟩))
                have b6 := aM (FrI_get b0.out HLM303.out)
                have b7 := aM (FrI_get b0.out HLM304.out)
                have b1 := aM (FrI_get b0.out HLM305.out)
                clear b0
                try go_wp2
                go_meet
                case rel => exact ⟨_, (true), (d4), (f7), (f8), (f9), (g0), (K1), (i9), (j5), (j6), (j7), (j8), (e4), (e5), (.slice k2 d4.length k3), (.slice Q9 K1.length R1), (.slice l6 e4.length l7), (.slice l8 e5.length l9), fS, H', ⟨by have := HJ2.out; have := HJ68.out; first | omega | exact Nat.le_refl _⟩, ⟨rW [a9] a5 a3⟩, ⟨rW [a9] H6 a3⟩, ⟨sW [a9] a6 a3⟩, ⟨sW [a9] a7 a3⟩, ⟨kS⟩, ⟨kS⟩, ⟨kS⟩, ⟨kS⟩, ⟨bS⟩⟩
               ·rw [if_neg y1] at H
                exact absurd H (by simp)
              ·rw [if_neg y0] at H
               exact absurd H (by simp)
             ·rw [if_neg t8] at H
              obtain ⟨x8, x9⟩ := eqF t8
              by_cases u1 : e8.toList = ([108, 105, 110, 101, 116, 111] : List UInt8)
              ·rw [if_pos u1] at H
               obtain ⟨y2, y3⟩ := eqT u1
               clear u1
               by_cases t1 : (e9.length : Int) = 0
               ·rw [if_pos t1] at H
                have y4 : ((e9.length : Int) == 0) = true := beq_iff_eq.mpr t1
                have y5 : ((e9.length : Int) != 0) = false := bne_eq_false_iff_eq.mpr t1
                clear t1
                have H' := aM H
                clear H
                obtain ⟨ao1, ao2, R2⟩ := Kd.R_slice b9.out
                subst R2
                go_at_call 62
                go_enter Try.func62, Try.ntmps62
                have R7 := cg5 a3
                try go_wp2
                (try (go_ret; (try simp only [])))
                (try (refine ⟨_, rfl, ?_⟩))
                have b6 := aM (FrI_get b0.out HLM303.out)
                have b7 := aM (FrI_get b0.out HLM304.out)
                have b1 := aM (FrI_get b0.out HLM305.out)
                clear b0
                try go_wp2
                go_meet
                case rel => exact ⟨_, (false), (d4), (f7), (f8), (f9), (g0), (e9), (i9), (j5), (j6), (j7), (j8), (e4), (e5), (.slice k2 d4.length k3), (.slice l4 e9.length l5), (.slice l6 e4.length l7), (.slice l8 e5.length l9), fS, H', ⟨by have := HJ2.out; have := HJ68.out; first | omega | exact Nat.le_refl _⟩, ⟨by exact rT (Kd.R_mono a5.out (fun _ hk => hk.1))⟩, ⟨rS a2⟩, ⟨by exact sT (Kd.S_mono a6.out (fun _ hk => ⟨hk.1, ⟨hk.2.2.1, hk.2.2.2⟩⟩))⟩, ⟨by exact sT (Kd.S_mono a7.out (fun _ hk => hk.1))⟩, ⟨kS⟩, ⟨kS⟩, ⟨kS⟩, ⟨kS⟩, ⟨bS⟩⟩
               ·rw [if_neg t1] at H
                have y4 : ((e9.length : Int) == 0) = false := beq_eq_false_iff_ne.mpr t1
                have y5 : ((e9.length : Int) != 0) = true := bne_iff_ne.mpr t1
                have K6 : ¬ (e9 = []) := fun h_ => t1 (by rw [h_]; rfl)
                by_cases y6 : 0 < (a8.length : Int)
                ·rw [if_pos y6] at H
                 have K7 : decide (0 < (a8.length : Int)) = true := decide_eq_true y6
                 have K8 : decide (0 < a8.length) = true := decide_eq_true (by omega)
                 clear y6
                 by_cases y7 : 1 < (a8.length : Int)
                 ·rw [if_pos y7] at H
                  have K9 : decide (1 < (a8.length : Int)) = true := decide_eq_true y7
                  have L0 : decide (1 < a8.length) = true := decide_eq_true (by omega)
                  clear y7
                  replace H := bN H
                  obtain ⟨⟨y8, y9⟩, ai9, H⟩ := H
                  obtain ⟨LMc118, H⟩ := iL H
                  obtain ⟨L1, hy_⟩ : ∃ y_ : List (S80), y_ = (e9 ++ [(⟨y8, y9⟩ : S80)]) := ⟨_, rfl⟩
                  replace H : (spec_ExecToken.j4 kj68 true g1 h9 i1 i3 i4 h5 i5 i6 i7 i8 e2 d5 d6 d4 f7 f8 f9 g0 L1 i9 j5 j6 j7 j8 e4 e5) = some (r1, r2, r3, r4, r5, r6, r7, r8, r9, v4, v5, v6, v8, w8) := yS
                  have Ny378 := aM hy_
                  clear hy_
                  have H' := aM H
                  clear H
                  obtain ⟨ao3, R9, S0⟩ := Kd.R_slice b9.out
                  subst S0
                  go_at_call 62
                  go_enter Try.func62, Try.ntmps62
                  have S1 := cg5 a3
                  try go_wp2
                  replace b9 := rD b9
                  replace a5 := rD a5
                  replace a2 := rD a2
                  replace a6 := sD a6
                  replace a7 := sD a7
                  replace a3 := bD a3
                  replace b0 := aM (FrI_drew b0.out)
                  replace HB := hD HB
                  have C4 : 0 ≤ (0 : Int) := (by omega)
                  have C5 : 0 < (a8.length : Int) := dA
                  obtain ⟨t5, aj0, m0⟩ := Kd.at_int (Kd.R_reads' b9.out).2.2 0 C4 C5
                  cases aj0
                  have qi374 : (0 < a8.length) = True := eq_true (by omega)
                  (try rw [show ((0 : Int)).toNat = 0 from rfl] at m0)
                  (try rw [Addr.add_zero'] at m0)
                  replace C4 := eq_true C4
                  replace C5 := eq_true C5
                  have C6 : 0 ≤ (1 : Int) := (by omega)
                  have C7 : 1 < (a8.length : Int) := dA
                  obtain ⟨S2, aj1, m1⟩ := Kd.at_int (Kd.R_reads' b9.out).2.2 1 C6 C7
                  obtain rfl : t5 = S2 := (by injection aj1)
                  (try simp only [show (1 : Int).toNat = 1 from rfl, Nat.reduceMul, Nat.reduceEqDiff, Go.Addr.add, ↓reduceIte] at m1)
                  have qi375 : (1 < a8.length) = True := eq_true (by omega)
                  (try rw [show ((1 : Int)).toNat = 1 from rfl] at m1)
                  replace C6 := eq_true C6
                  replace C7 := eq_true C7
                  refine start_ (n := 22) (S := fun w' => w'.cell? ⟨a9, 1, none⟩ = some (.int .i64 f7) ∧ w'.cell? ⟨a9, 2, none⟩ = some (.int .i64 f8) ∧ w'.cell? ⟨a9, 3, none⟩ = some (.int .i64 f9) ∧ w'.cell? ⟨a9, 4, none⟩ = some (.int .i64 g0) ∧ w'.cell? ⟨a9, 5, none⟩ = some (.slice l4 e9.length l5) ∧ w'.cell? t5 = some (.int .i64 (rd a8 0)) ∧ w'.cell? ⟨t5.block, t5.off + 1, none⟩ = some (.int .i64 (rd a8 1))) (ds := [18, 21]) (mB 22 0) (by kernel_rfl) rfl rfl ⟨(blk_cell a3.out 1).trans rfl, (blk_cell a3.out 2).trans rfl, (blk_cell a3.out 3).trans rfl, (blk_cell a3.out 4).trans rfl, (blk_cell a3.out 5).trans rfl, m0, m1⟩ (fun hHeld => ?_); refine with_tabW spec_ExecToken.i62.tab10 spec_ExecToken.i62.bits10 (fun HT_ HW_ => ?_)
                  generalize wc.drew = as3 at b9 a5 a2 a6 a7 a3 b0 HB m0 m1 hHeld ⊢
                  refine pU 0 (some 46) (mB 22 1) ?_
                  refine pU 1 (some 47) (mB 22 3) ?_
                  refine pU 2 (some 48) (mB 22 7) ?_
                  refine pU 3 (some 49) (mB 22 15) ?_
                  refine pU 5 (some 51) (mB 22 47) ?_
                  refine pU 6 (some 52) (mB 22 111) ?_
                  refine pU 7 (some 53) (mB 22 239) ?_
                  refine pU 9 (some 55) (mB 22 751) ?_
                  refine pU 10 (some 56) (mB 22 1775) ?_
                  refine pU 12 (some 58) (mB 22 5871) ?_
                  refine pU 13 (some 59) (mB 22 14063) ?_
                  refine tK 4 (some 50) (mB 22 14079) ?_
                  refine tK 8 (some 54) (mB 22 14335) ?_
                  refine tK 11 (some 57) (mB 22 16383) ?_
                  refine tK 14 (some 60) (mB 22 32767) ?_
                  refine pU 15 (some 61) (mB 22 65535) ?_
                  refine one_ (i := 16) (N := some 62) (mB 22 131071) rfl rfl (one_of HT_.out (by kernel_rfl)) (by decide) (fun K hK => ?_)
                  refine goes_ Try.func74 (by kernel_rfl) rfl #[.agg #[.int .i64 f7, .int .i64 f8, .int .i64 f9, .int .i64 g0], .agg #[.int .i64 (rd a8 0), .int .i64 (rd a8 1)]] (by rfl) rfl rfl mA ?_
                  with_reducible refine (spec_l03Raw.calls kj68 f7 f8 f9 g0 (rd a8 0) (rd a8 1) y8 y9 _ ai9.out).mono ?_
                  rintro e as4 ⟨rfl, hb⟩
                  have HS5_ := (hb.cell (World.block_lt_of_cell? _ _ (hHeld.2.2.2.2.2.1))).trans (hHeld.2.2.2.2.2.1)
                  have HS6_ := (hb.cell (World.block_lt_of_cell? _ _ (hHeld.2.2.2.2.2.2))).trans (hHeld.2.2.2.2.2.2)
                  refine ⟨_, rfl, ?_⟩
                  replace b9 := rB b9 hb
                  replace a5 := rB a5 hb
                  replace a2 := rB a2 hb
                  replace a6 := sB a6 hb
                  replace a7 := sB a7 hb
                  replace a3 := kB_ a9 hb
                  replace b0 := aM (FrI_belowS hb b0.out (FrN0 b0.out))
                  replace HB := hB hb
                  (try clear hb)
                  (try clear hb2)
                  (try clear hk)
                  (try clear hi)
                  refine hK.out _ _ ⟨(blk_cell a3.out 1).trans rfl, (blk_cell a3.out 2).trans rfl, (blk_cell a3.out 3).trans rfl, (blk_cell a3.out 4).trans rfl, (blk_cell a3.out 5).trans rfl, HS5_, HS6_⟩ (fun hHeld => ?_)
                  clear hK K
                  refine norm_ (a' := ?_) ?_ ?_
                  rotate_left
                  ·show Act.put _ (some 62) _ = _
                   simp only [Act.put, List.setIfInBounds_toArray, List.set_cons_zero, List.set_cons_succ, i64_w, i32_w]
                   rfl
                  refine one_ (i := 17) (N := some 63) (mB 22 262143) rfl rfl (one_of HT_.out (by kernel_rfl)) (by decide) (fun K hK => ?_)
                  refine value_ (w1 := ?_) (v := ?_) (by rfl) rfl ?_ ?_
                  rotate_left 2
                  ·go_simp
                   constructor
                   ·rfl
                   ·rfl
                  refine hK.out _ _ ⟨(blk_cell (blk_alloc a3.out _) 1).trans rfl, (blk_cell (blk_alloc a3.out _) 2).trans rfl, (blk_cell (blk_alloc a3.out _) 3).trans rfl, (blk_cell (blk_alloc a3.out _) 4).trans rfl, (blk_cell (blk_alloc a3.out _) 5).trans rfl, (World.cell?_alloc_lt _ _ _ (World.block_lt_of_cell? _ _ (hHeld.2.2.2.2.2.1))).trans (hHeld.2.2.2.2.2.1), (World.cell?_alloc_lt _ _ _ (World.block_lt_of_cell? _ _ (hHeld.2.2.2.2.2.2))).trans (hHeld.2.2.2.2.2.2)⟩ (fun hHeld => ?_)
                  clear hK K
                  refine norm_ (a' := ?_) ?_ ?_
                  rotate_left
                  ·show Act.put _ (some 63) _ = _
                   simp only [Act.put, List.setIfInBounds_toArray, List.set_cons_zero, List.set_cons_succ, i64_w, i32_w]
                   rfl
                  refine last_ (i := 18) (N := some 64) (mB 22 524287) rfl rfl (one_of HT_.out (by kernel_rfl)) (by decide) (fun K hK => ?_)
                  refine Kd.R_append_step k80 (w0 := w) w.heap.size (by rfl) (.tmp 50) (.tmp 63) 27 80 (.agg #[(.int .i64 0), (.int .i64 0)]) 16 rfl Try.underlying27 info80 rfl (by decide) (by omega) (.slice l4 e9.length l5) e9 (⟨y8, y9⟩ : S80) [.int .i64 y8, .int .i64 y9] (fun k_ => (w.heap.size ≤ k_)) (fun _ => False) rfl rfl ?aP (fun _ hk => hk.elim) ?aF ?aO ?aB ?aS ?aL ?_
                  (case aP => exact k80_mkM _ _ _ (⟨y8, y9⟩ : S80))
                  (case aB => exact bS)
                  (case aF => exact (fun k_ hk => (Nat.le_trans (below_size bS) hk)))
                  (case aO => exact (rS a2))
                  (case aS => exact (below_size bS))
                  (case aL => have := LMc118.out; (try dsimp only at this); omega)
                  intro as5 as6 ho hb hg hat
                  rw [← Ny378.out] at ho
                  have H8 := aM (ho)
                  replace b9 := aM (Kd.R_over' (rS b9) (Kd.R_typed (rS a2)) (by decide) hg)
                  replace a5 := aM (Kd.R_over' (rS a5) (Kd.R_typed (rS a2)) (by decide) hg)
                  replace a6 := aM (Kd.S_after (ok := (fun k_ => (w.heap.size ≤ k_) ∧ some k_ ≠ (.slice (some t5) a8.length R9 : Value).ownBlock ∧ some k_ ≠ (.slice k2 d4.length k3 : Value).ownBlock)) (by exact sM a6) hg hat)
                  replace a7 := aM (Kd.S_after (ok := (fun k_ => (w.heap.size ≤ k_))) (sS a7) hg hat)
                  replace a3 := aM (blk_grown (g := a9) kS hg (Kd.R_ne a2.out a3.out (by decide)))
                  replace b0 := aM (FrI_grownS hg (Kd.R_typed (rS a2)) (by decide) b0.out (FrN0 b0.out))
                  replace HB := aM (hb)
                  clear a2
                  clear ho hb hg hat
                  obtain ⟨S3, S4, H9⟩ := Kd.R_slice H8.out
                  (first | subst H9 | obtain ⟨rfl, rfl⟩ := slE H9)
                  refine hK.out _ _ ?_
                  clear hK K
                  refine norm_ (a' := ?_) ?_ ?_
                  rotate_left
                  ·show Act.put _ (some 64) _ = _
                   simp only [Act.put, List.setIfInBounds_toArray, List.set_cons_zero, List.set_cons_succ, i64_w, i32_w]
                   rfl
                  refine pU 19 (some 65) (mB 22 1048575) ?_
                  refine pU 20 (some 66) (mB 22 2097151) ?_
                  refine last_ (i := 21) (N := none) (mB 22 4194303) rfl rfl (one_of HT_.out (by kernel_rfl)) (by decide) (fun K hK => ?_)
                  have hs125 := cg5 a3
                  have hfs125 := blk_frozen a3.out 5
                  refine skip_ (w1 := ?_) (by rfl) rfl ?_ ?_
                  rotate_left
                  ·go_simp
                   rfl
                  refine hK.out _ _ ?_
                  clear hK K
                  refine done_ (done_of HT_.out (by kernel_rfl)) ?_
                  try go_wp2
                  (try (go_ret; (try simp only [])))
                  (try (refine ⟨_, rfl, ?_⟩))
                  have b6 := aM (FrI_get b0.out HLM303.out)
                  have b7 := aM (FrI_get b0.out HLM304.out)
                  have b1 := aM (FrI_get b0.out HLM305.out)
                  clear b0
                  try go_wp2
                  go_meet
                  case rel => exact ⟨_, (true), (d4), (f7), (f8), (f9), (g0), (L1), (i9), (j5), (j6), (j7), (j8), (e4), (e5), (.slice k2 d4.length k3), (.slice S3 L1.length S4), (.slice l6 e4.length l7), (.slice l8 e5.length l9), fS, H', ⟨by have := HJ2.out; have := HJ68.out; first | omega | exact Nat.le_refl _⟩, ⟨rW [a9] a5 a3⟩, ⟨rW [a9] H8 a3⟩, ⟨sW [a9] a6 a3⟩, ⟨sW [a9] a7 a3⟩, ⟨kS⟩, ⟨kS⟩, ⟨kS⟩, ⟨kS⟩, ⟨bS⟩⟩
                 ·rw [if_neg y7] at H
                  exact absurd H (by simp)
                ·rw [if_neg y6] at H
                 exact absurd H (by simp)
              ·rw [if_neg u1] at H
               obtain ⟨y2, y3⟩ := eqF u1
               by_cases A0 : e8.toList = ([114, 101, 99, 116] : List UInt8)
               ·rw [if_pos A0] at H
                obtain ⟨L2, L6⟩ := eqT A0
                clear A0
                have A1 := aM H
                clear H
                obtain ⟨A2, A3, S5⟩ := Kd.R_slice b9.out
                subst S5
                go_at_call 62
                go_enter Try.func62, Try.ntmps62
                go_upto_region 12 with (fail)
                go_cut [80] from 1 to 0 (fun v80 wc => ∃ (kq : Nat) (q8 : Bool), v80 = .bool q8 ∧ Aside0 (spec_ExecToken.j2 kq a8 q8 g1 h9 i1 i3 i4 h5 i5 i6 i7 i8 e2 d5 d6 d4 f7 f8 f9 g0 e9 i9 j5 j6 j7 j8 e4 e5 = some (r1, r2, r3, r4, r5, r6, r7, r8, r9, v4, v5, v6, v8, w8)) ∧ Aside0 (kq ≤ kj68) ∧ Aside0 (Kd.R (Kd.int .i64) 3 wc w.heap.size (fun k_ => (w.heap.size ≤ k_) ∧ some k_ ≠ ((.slice k2 d4.length k3) : Value).ownBlock) (.slice A2 a8.length A3) a8) ∧ Aside0 (Kd.R (Kd.int .i64) 3 wc w.heap.size (fun k_ => (w.heap.size ≤ k_) ∧ some k_ ≠ ((.slice A2 a8.length A3) : Value).ownBlock) (.slice k2 d4.length k3) d4) ∧ Aside0 (Kd.R k80 80 wc w.heap.size (fun k_ => (w.heap.size ≤ k_)) (.slice l4 e9.length l5) e9) ∧ Aside0 (Kd.S k31 31 wc w.heap.size (fun k_ => (w.heap.size ≤ k_) ∧ some k_ ≠ ((.slice A2 a8.length A3) : Value).ownBlock ∧ some k_ ≠ ((.slice k2 d4.length k3) : Value).ownBlock ∧ some k_ ≠ ((.slice l4 e9.length l5) : Value).ownBlock) (.slice l6 e4.length l7) e4) ∧ Aside0 (Kd.S k60 60 wc w.heap.size (fun k_ => (w.heap.size ≤ k_) ∧ some k_ ≠ ((.slice l4 e9.length l5) : Value).ownBlock) (.slice l8 e5.length l9) e5) ∧ Aside0 (wc.heap[a9]? = some (.cells #[(.slice k2 d4.length k3), .int .i64 f7, .int .i64 f8, .int .i64 f9, .int .i64 g0, (.slice l4 e9.length l5), .int .i64 i9, .int .i64 j5, .int .i64 j6, .int .i64 j7, .int .i64 j8, (.slice l6 e4.length l7), (.slice l8 e5.length l9)] 35 (0, 0))) ∧ Aside0 (FrI L93 a9 [35, 40] wc) ∧ Aside0 (Below w.heap.size w wc))
                case first =>
                 have H := A1.out
                 clear A1
                 by_cases A4 : 2 < (a8.length : Int)
                 ·rw [if_pos A4] at H
                  have u2 : decide (2 < (a8.length : Int)) = true := decide_eq_true A4
                  have L8 : decide (2 < a8.length) = true := decide_eq_true (by omega)
                  clear A4
                  (first | rw [u2] | (simp only [i64_w, i32_w]; rw [u2]) | skip)
                  replace H := bN H
                  obtain ⟨aj2, S6, H⟩ := H
                  by_cases L9 : aj2 = true
                  ·subst L9
                   rw [if_pos rfl] at H
                   by_cases A5 : 3 < (a8.length : Int)
                   ·rw [if_pos A5] at H
                    have M1 : decide (3 < (a8.length : Int)) = true := decide_eq_true A5
                    have M3 : decide (3 < a8.length) = true := decide_eq_true (by omega)
                    clear A5
                    replace H := bN H
                    obtain ⟨S7, aj3, H⟩ := H
                    have H' := aM H
                    clear H
                    have t6 : 0 ≤ (2 : Int) := (by omega)
                    have t7 : 2 < (a8.length : Int) := dA
                    obtain ⟨I0, M4, k9⟩ := Kd.at_int (Kd.R_reads' b9.out).2.2 2 t6 t7
                    cases M4
                    (try simp only [show (2 : Int).toNat = 2 from rfl, Nat.reduceMul, Nat.reduceEqDiff, Go.Addr.add, ↓reduceIte] at k9)
                    have qi381 : (2 < a8.length) = True := eq_true (by omega)
                    (try rw [show ((2 : Int)).toNat = 2 from rfl] at k9)
                    replace t6 := eq_true t6
                    replace t7 := eq_true t7
                    go_wp2_with (first | ((with_reducible refine gC 50 ?_); refine cM (some 72) Try.func50 (spec_l01In.calls (rd a8 2) 0 200 _ _ S6.out) ?_; rintro e w' ⟨rfl, ⟨nd, rfl⟩⟩; refine ⟨_, rfl, ?_⟩; have C9 : 0 ≤ (3 : Int) := (by omega); have D0 : 3 < (a8.length : Int) := dA; obtain ⟨S8, aj6, t2⟩ := Kd.at_int (Kd.R_reads' b9.out).2.2 3 C9 D0; obtain rfl : I0 = S8 := (by injection aj6); (try simp only [show (3 : Int).toNat = 3 from rfl, Nat.reduceMul, Nat.reduceEqDiff, Go.Addr.add, ↓reduceIte] at t2); have qi383 : (3 < a8.length) = True := eq_true (by omega); (try rw [show ((3 : Int)).toNat = 3 from rfl] at t2); replace C9 := eq_true C9; replace D0 := eq_true D0) | (go_at_call 50; (with_reducible refine (spec_l01In.calls (rd a8 3) 0 200 S7 _ aj3.out).mono ?_); rintro e w' ⟨rfl, ⟨nd, rfl⟩⟩))
                    go_meet
                    case rel => exact ⟨_, (!S7), fS, H', ⟨by have := HJ2.out; have := HJ68.out; first | omega | exact Nat.le_refl _⟩, ⟨rS b9⟩, ⟨rS a5⟩, ⟨rS a2⟩, ⟨sS a6⟩, ⟨sS a7⟩, ⟨kS⟩, ⟨by exact FrI_self b0.out (FrN0 b0.out)⟩, ⟨bS⟩⟩
                   ·rw [if_neg A5] at H
                    exact absurd H (by simp)
                  ·obtain rfl := Bool.eq_false_iff.mpr L9
                   rw [if_neg nF] at H
                   have H' := aM H
                   clear H
                   have t6 : 0 ≤ (2 : Int) := (by omega)
                   have t7 : 2 < (a8.length : Int) := dA
                   obtain ⟨I0, M4, k9⟩ := Kd.at_int (Kd.R_reads' b9.out).2.2 2 t6 t7
                   cases M4
                   (try simp only [show (2 : Int).toNat = 2 from rfl, Nat.reduceMul, Nat.reduceEqDiff, Go.Addr.add, ↓reduceIte] at k9)
                   have qi381 : (2 < a8.length) = True := eq_true (by omega)
                   (try rw [show ((2 : Int)).toNat = 2 from rfl] at k9)
                   replace t6 := eq_true t6
                   replace t7 := eq_true t7
                   go_wp2_with (first | ((with_reducible refine gC 50 ?_); refine cM (some 72) Try.func50 (spec_l01In.calls (rd a8 2) 0 200 _ _ S6.out) ?_; rintro e w' ⟨rfl, ⟨nd, rfl⟩⟩; refine ⟨_, rfl, ?_⟩))
                   go_meet
                   case rel => exact ⟨_, (true), fS, H', ⟨by have := HJ2.out; have := HJ68.out; first | omega | exact Nat.le_refl _⟩, ⟨rS b9⟩, ⟨rS a5⟩, ⟨rS a2⟩, ⟨sS a6⟩, ⟨sS a7⟩, ⟨kS⟩, ⟨by exact FrI_self b0.out (FrN0 b0.out)⟩, ⟨bS⟩⟩
                 ·rw [if_neg A4] at H
                  exact absurd H (by simp)
                case rest =>
                 clear A1
                 try clear c1
                 try clear c2
                 try clear p2
                 try clear p3
                 try clear q3
                 try clear hx3
                 try clear qi3
                 try clear c5
                 try clear c6
                 try clear c7
                 try clear c10
                 try clear c11
                 try clear c12
                 try clear c13
                 try clear p37
                 try clear q37
                 try clear at0
                 try clear qi37
                 try clear p38
                 try clear q38
                 try clear aj7
                 try clear qi38
                 try clear c50
                 try clear c62
                 try clear c74
                 try clear t8
                 try clear x8
                 try clear x9
                 try clear y0
                 try clear y1
                 try clear u1
                 try clear y2
                 try clear y3
                 try clear t1
                 try clear y4
                 try clear y5
                 try clear K6
                 try clear y6
                 try clear K7
                 try clear K8
                 try clear y7
                 try clear K9
                 try clear L0
                 try clear at3
                 try clear A0
                 try clear L2
                 try clear L6
                 try clear A4
                 try clear u2
                 try clear L8
                 try clear L9
                 try clear A5
                 try clear M1
                 try clear M3
                 try clear m0
                 try clear m1
                 try clear k9
                 try clear t2
                 try clear C4
                 try clear C6
                 try clear t6
                 try clear C9
                 try clear C5
                 try clear C7
                 try clear t7
                 try clear D0
                 obtain ⟨kq, q8, rfl, HA, HJ126, k5, a5, a2, a6, a7, a3, b0, HB⟩ := hcut
                 cases kq with
                 | zero => exact absurd HA.out (by simp [spec_ExecToken.j2])
                 | succ kj126 =>
                  have H := HA.out
                  clear HA
                  simp only [spec_ExecToken.j2] at H
                  by_cases M5 : q8 = true
                  ·subst M5
                   rw [if_pos rfl] at H
                   have H' := aM H
                   clear H
                   try go_wp2
                   (try (go_ret; (try simp only [])))
                   (try (refine ⟨_, rfl, ?_⟩))
                   have b6 := aM (FrI_get b0.out HLM303.out)
                   have b7 := aM (FrI_get b0.out HLM304.out)
                   have b1 := aM (FrI_get b0.out HLM305.out)
                   clear b0
                   try go_wp2
                   go_meet
                   case rel => exact ⟨_, (false), (d4), (f7), (f8), (f9), (g0), (e9), (i9), (j5), (j6), (j7), (j8), (e4), (e5), (.slice k2 d4.length k3), (.slice l4 e9.length l5), (.slice l6 e4.length l7), (.slice l8 e5.length l9), fS, H', ⟨by have := HJ2.out; have := HJ68.out; have := HJ126.out; first | omega | exact Nat.le_refl _⟩, ⟨by exact rT (Kd.R_mono a5.out (fun _ hk => hk.1))⟩, ⟨rS a2⟩, ⟨by exact sT (Kd.S_mono a6.out (fun _ hk => ⟨hk.1, ⟨hk.2.2.1, hk.2.2.2⟩⟩))⟩, ⟨by exact sT (Kd.S_mono a7.out (fun _ hk => hk.1))⟩, ⟨kS⟩, ⟨kS⟩, ⟨kS⟩, ⟨kS⟩, ⟨bS⟩⟩
                  ·obtain rfl := Bool.eq_false_iff.mpr M5
                   rw [if_neg nF] at H
                   by_cases A6 : 0 < (a8.length : Int)
                   ·rw [if_pos A6] at H
                    have M6 : decide (0 < (a8.length : Int)) = true := decide_eq_true A6
                    have M7 : decide (0 < a8.length) = true := decide_eq_true (by omega)
                    clear A6
                    by_cases A8 : 1 < (a8.length : Int)
                    ·rw [if_pos A8] at H
                     have M8 : decide (1 < (a8.length : Int)) = true := decide_eq_true A8
                     have M9 : decide (1 < a8.length) = true := decide_eq_true (by omega)
                     clear A8
                     by_cases B0 : 2 < (a8.length : Int)
                     ·rw [if_pos B0] at H
                      have N1 : decide (2 < (a8.length : Int)) = true := decide_eq_true B0
                      have N2 : decide (2 < a8.length) = true := decide_eq_true (by omega)
                      clear B0
                      by_cases B2 : 3 < (a8.length : Int)
                      ·rw [if_pos B2] at H
                       have N3 : decide (3 < (a8.length : Int)) = true := decide_eq_true B2
                       have N4 : decide (3 < a8.length) = true := decide_eq_true (by omega)
                       clear B2
                       obtain ⟨l3, hy_⟩ : ∃ y_ : List (S80), y_ = (([(⟨rd a8 0, rd a8 1⟩ : S80), (⟨wrap64 ((rd a8 0) + (rd a8 2)), rd a8 1⟩ : S80), (⟨wrap64 ((rd a8 0) + (rd a8 2)), wrap64 ((rd a8 1) + (rd a8 3))⟩ : S80), (⟨rd a8 0, wrap64 ((rd a8 1) + (rd a8 3))⟩ : S80)] : List (S80))) := ⟨_, rfl⟩
                       replace H : (spec_ExecToken.l0 kj126 l3 0 g1 h9 i1 i3 i4 h5 i5 i6 i7 i8 e2 d5 d6 d4 f7 f8 f9 g0 (([] : List (S80))) i9 j5 j6 j7 j8 e4 e5) = some (r1, r2, r3, r4, r5, r6, r7, r8, r9, v4, v5, v6, v8, w8) := yS
                       have Ny397 := aM hy_
                       clear hy_
                       obtain ⟨N5, hy_⟩ : ∃ y_ : List (S80), y_ = (([] : List (S80))) := ⟨_, rfl⟩
                       replace H : (spec_ExecToken.l0 kj126 l3 0 g1 h9 i1 i3 i4 h5 i5 i6 i7 i8 e2 d5 d6 d4 f7 f8 f9 g0 N5 i9 j5 j6 j7 j8 e4 e5) = some (r1, r2, r3, r4, r5, r6, r7, r8, r9, v4, v5, v6, v8, w8) := yS
                       have Ny400 := aM hy_
                       clear hy_
                       have H' := aM H
                       clear H
                       try go_wp2
                       replace k5 := rD k5
                       replace a5 := rD a5
                       replace a2 := rD a2
                       replace a6 := sD a6
                       replace a7 := sD a7
                       replace a3 := bD a3
                       replace b0 := aM (FrI_drew b0.out)
                       replace HB := hD HB
                       have D1 : 0 ≤ (0 : Int) := (by omega)
                       have D2 : 0 < (a8.length : Int) := dA
                       obtain ⟨b8, aj8, m2⟩ := Kd.at_int (Kd.R_reads' k5.out).2.2 0 D1 D2
                       cases aj8
                       have qi385 : (0 < a8.length) = True := eq_true (by omega)
                       (try rw [show ((0 : Int)).toNat = 0 from rfl] at m2)
                       (try rw [Addr.add_zero'] at m2)
                       replace D1 := eq_true D1
                       replace D2 := eq_true D2
                       have D3 : 0 ≤ (1 : Int) := (by omega)
                       have D4 : 1 < (a8.length : Int) := dA
                       obtain ⟨S9, aj9, m3⟩ := Kd.at_int (Kd.R_reads' k5.out).2.2 1 D3 D4
                       obtain rfl : b8 = S9 := (by injection aj9)
                       (try simp only [show (1 : Int).toNat = 1 from rfl, Nat.reduceMul, Nat.reduceEqDiff, Go.Addr.add, ↓reduceIte] at m3)
                       have qi386 : (1 < a8.length) = True := eq_true (by omega)
                       (try rw [show ((1 : Int)).toNat = 1 from rfl] at m3)
                       replace D3 := eq_true D3
                       replace D4 := eq_true D4
                       have D5 : 0 ≤ (0 : Int) := (by omega)
                       have D6 : 0 < (a8.length : Int) := dA
                       obtain ⟨T0, ak0, m4⟩ := Kd.at_int (Kd.R_reads' k5.out).2.2 0 D5 D6
                       obtain rfl : b8 = T0 := (by injection ak0)
                       have qi387 : (0 < a8.length) = True := eq_true (by omega)
                       (try rw [show ((0 : Int)).toNat = 0 from rfl] at m4)
                       (try rw [Addr.add_zero'] at m4)
                       replace D5 := eq_true D5
                       replace D6 := eq_true D6
                       have D7 : 0 ≤ (2 : Int) := (by omega)
                       have D8 : 2 < (a8.length : Int) := dA
                       obtain ⟨T8, ak1, m5⟩ := Kd.at_int (Kd.R_reads' k5.out).2.2 2 D7 D8
                       obtain rfl : b8 = T8 := (by injection ak1)
                       (try simp only [show (2 : Int).toNat = 2 from rfl, Nat.reduceMul, Nat.reduceEqDiff, Go.Addr.add, ↓reduceIte] at m5)
                       have qi388 : (2 < a8.length) = True := eq_true (by omega)
                       (try rw [show ((2 : Int)).toNat = 2 from rfl] at m5)
                       replace D7 := eq_true D7
                       replace D8 := eq_true D8
                       have D9 : 0 ≤ (1 : Int) := (by omega)
                       have E0 : 1 < (a8.length : Int) := dA
                       obtain ⟨U0, ak2, m6⟩ := Kd.at_int (Kd.R_reads' k5.out).2.2 1 D9 E0
                       obtain rfl : b8 = U0 := (by injection ak2)
                       (try simp only [show (1 : Int).toNat = 1 from rfl, Nat.reduceMul, Nat.reduceEqDiff, Go.Addr.add, ↓reduceIte] at m6)
                       have qi389 : (1 < a8.length) = True := eq_true (by omega)
                       (try rw [show ((1 : Int)).toNat = 1 from rfl] at m6)
                       replace D9 := eq_true D9
                       replace E0 := eq_true E0
                       have E1 : 0 ≤ (0 : Int) := (by omega)
                       have E2 : 0 < (a8.length : Int) := dA
                       obtain ⟨U1, ak3, m7⟩ := Kd.at_int (Kd.R_reads' k5.out).2.2 0 E1 E2
                       obtain rfl : b8 = U1 := (by injection ak3)
                       have qi390 : (0 < a8.length) = True := eq_true (by omega)
                       (try rw [show ((0 : Int)).toNat = 0 from rfl] at m7)
                       (try rw [Addr.add_zero'] at m7)
                       replace E1 := eq_true E1
                       replace E2 := eq_true E2
                       have E3 : 0 ≤ (2 : Int) := (by omega)
                       have E4 : 2 < (a8.length : Int) := dA
                       obtain ⟨U2, ak4, m8⟩ := Kd.at_int (Kd.R_reads' k5.out).2.2 2 E3 E4
                       obtain rfl : b8 = U2 := (by injection ak4)
                       (try simp only [show (2 : Int).toNat = 2 from rfl, Nat.reduceMul, Nat.reduceEqDiff, Go.Addr.add, ↓reduceIte] at m8)
                       have qi391 : (2 < a8.length) = True := eq_true (by omega)
                       (try rw [show ((2 : Int)).toNat = 2 from rfl] at m8)
                       replace E3 := eq_true E3
                       replace E4 := eq_true E4
                       have E5 : 0 ≤ (1 : Int) := (by omega)
                       have E6 : 1 < (a8.length : Int) := dA
                       obtain ⟨U3, ak5, m9⟩ := Kd.at_int (Kd.R_reads' k5.out).2.2 1 E5 E6
                       obtain rfl : b8 = U3 := (by injection ak5)
                       (try simp only [show (1 : Int).toNat = 1 from rfl, Nat.reduceMul, Nat.reduceEqDiff, Go.Addr.add, ↓reduceIte] at m9)
                       have qi392 : (1 < a8.length) = True := eq_true (by omega)
                       (try rw [show ((1 : Int)).toNat = 1 from rfl] at m9)
                       replace E5 := eq_true E5
                       replace E6 := eq_true E6
                       have E7 : 0 ≤ (3 : Int) := (by omega)
                       have E8 : 3 < (a8.length : Int) := dA
                       obtain ⟨U4, ak6, n0⟩ := Kd.at_int (Kd.R_reads' k5.out).2.2 3 E7 E8
                       obtain rfl : b8 = U4 := (by injection ak6)
                       (try simp only [show (3 : Int).toNat = 3 from rfl, Nat.reduceMul, Nat.reduceEqDiff, Go.Addr.add, ↓reduceIte] at n0)
                       have qi393 : (3 < a8.length) = True := eq_true (by omega)
                       (try rw [show ((3 : Int)).toNat = 3 from rfl] at n0)
                       replace E7 := eq_true E7
                       replace E8 := eq_true E8
                       have E9 : 0 ≤ (0 : Int) := (by omega)
                       have F2 : 0 < (a8.length : Int) := dA
                       obtain ⟨U5, ak7, n1⟩ := Kd.at_int (Kd.R_reads' k5.out).2.2 0 E9 F2
                       obtain rfl : b8 = U5 := (by injection ak7)
                       have qi394 : (0 < a8.length) = True := eq_true (by omega)
                       (try rw [show ((0 : Int)).toNat = 0 from rfl] at n1)
                       (try rw [Addr.add_zero'] at n1)
                       replace E9 := eq_true E9
                       replace F2 := eq_true F2
                       have F3 : 0 ≤ (1 : Int) := (by omega)
                       have F4 : 1 < (a8.length : Int) := dA
                       obtain ⟨U6, ak8, n2⟩ := Kd.at_int (Kd.R_reads' k5.out).2.2 1 F3 F4
                       obtain rfl : b8 = U6 := (by injection ak8)
                       (try simp only [show (1 : Int).toNat = 1 from rfl, Nat.reduceMul, Nat.reduceEqDiff, Go.Addr.add, ↓reduceIte] at n2)
                       have qi395 : (1 < a8.length) = True := eq_true (by omega)
                       (try rw [show ((1 : Int)).toNat = 1 from rfl] at n2)
                       replace F3 := eq_true F3
                       replace F4 := eq_true F4
                       have F5 : 0 ≤ (3 : Int) := (by omega)
                       have F6 : 3 < (a8.length : Int) := dA
                       obtain ⟨U7, ak9, n5⟩ := Kd.at_int (Kd.R_reads' k5.out).2.2 3 F5 F6
                       obtain rfl : b8 = U7 := (by injection ak9)
                       (try simp only [show (3 : Int).toNat = 3 from rfl, Nat.reduceMul, Nat.reduceEqDiff, Go.Addr.add, ↓reduceIte] at n5)
                       have qi396 : (3 < a8.length) = True := eq_true (by omega)
                       (try rw [show ((3 : Int)).toNat = 3 from rfl] at n5)
                       replace F5 := eq_true F5
                       replace F6 := eq_true F6
                       refine start_ (n := 46) (S := fun w' => w'.cell? b8 = some (.int .i64 (rd a8 0)) ∧ w'.cell? ⟨b8.block, b8.off + 1, none⟩ = some (.int .i64 (rd a8 1)) ∧ w'.cell? b8 = some (.int .i64 (rd a8 0)) ∧ w'.cell? ⟨b8.block, b8.off + 2, none⟩ = some (.int .i64 (rd a8 2)) ∧ w'.cell? ⟨b8.block, b8.off + 1, none⟩ = some (.int .i64 (rd a8 1)) ∧ w'.cell? b8 = some (.int .i64 (rd a8 0)) ∧ w'.cell? ⟨b8.block, b8.off + 2, none⟩ = some (.int .i64 (rd a8 2)) ∧ w'.cell? ⟨b8.block, b8.off + 1, none⟩ = some (.int .i64 (rd a8 1)) ∧ w'.cell? ⟨b8.block, b8.off + 3, none⟩ = some (.int .i64 (rd a8 3)) ∧ w'.cell? b8 = some (.int .i64 (rd a8 0)) ∧ w'.cell? ⟨b8.block, b8.off + 1, none⟩ = some (.int .i64 (rd a8 1)) ∧ w'.cell? ⟨b8.block, b8.off + 3, none⟩ = some (.int .i64 (rd a8 3))) (ds := []) (mB 46 0) (by kernel_rfl) rfl rfl ⟨m2, m3, m4, m5, m6, m7, m8, m9, n0, n1, n2, n5⟩ (fun hHeld => ?_); refine with_tabW spec_ExecToken.i62.tab14 spec_ExecToken.i62.bits14 (fun HT_ HW_ => ?_)
                       generalize wc.drew = at4 at k5 a5 a2 a6 a7 a3 b0 HB m2 m3 m4 m5 m6 m7 m8 m9 n0 n1 n2 n5 hHeld ⊢
                       refine pU 0 (some 81) (mB 46 1) ?_
                       refine pU 1 (some 82) (mB 46 3) ?_
                       refine pU 3 (some 84) (mB 46 11) ?_
                       refine pU 4 (some 85) (mB 46 27) ?_
                       refine pU 7 (some 88) (mB 46 155) ?_
                       refine pU 8 (some 89) (mB 46 411) ?_
                       refine pU 10 (some 91) (mB 46 1435) ?_
                       refine pU 11 (some 92) (mB 46 3483) ?_
                       refine pU 14 (some 95) (mB 46 19867) ?_
                       refine pU 15 (some 96) (mB 46 52635) ?_
                       refine pU 18 (some 99) (mB 46 314779) ?_
                       refine pU 19 (some 100) (mB 46 839067) ?_
                       refine pU 21 (some 102) (mB 46 2936219) ?_
                       refine pU 22 (some 103) (mB 46 7130523) ?_
                       refine pU 25 (some 106) (mB 46 40684955) ?_
                       refine pU 26 (some 107) (mB 46 107793819) ?_
                       refine pU 28 (some 109) (mB 46 376229275) ?_
                       refine pU 29 (some 110) (mB 46 913100187) ?_
                       refine pU 33 (some 114) (mB 46 9503034779) ?_
                       refine pU 34 (some 115) (mB 46 26682903963) ?_
                       refine pU 36 (some 117) (mB 46 95402380699) ?_
                       refine pU 37 (some 118) (mB 46 232841334171) ?_
                       refine pU 39 (some 120) (mB 46 782597148059) ?_
                       refine pU 40 (some 121) (mB 46 1882108775835) ?_
                       refine tK 2 (some 83) (mB 46 1882108775839) ?_
                       refine tK 5 (some 86) (mB 46 1882108775871) ?_
                       refine pU 6 (some 87) (mB 46 1882108775935) ?_
                       refine tK 9 (some 90) (mB 46 1882108776447) ?_
                       refine tK 12 (some 93) (mB 46 1882108780543) ?_
                       refine pU 13 (some 94) (mB 46 1882108788735) ?_
                       refine tK 16 (some 97) (mB 46 1882108854271) ?_
                       refine pU 17 (some 98) (mB 46 1882108985343) ?_
                       refine tK 20 (some 101) (mB 46 1882110033919) ?_
                       refine tK 23 (some 104) (mB 46 1882118422527) ?_
                       refine pU 24 (some 105) (mB 46 1882135199743) ?_
                       refine tK 27 (some 108) (mB 46 1882269417471) ?_
                       refine tK 30 (some 111) (mB 46 1883343159295) ?_
                       refine pU 31 (some 112) (mB 46 1885490642943) ?_
                       refine pU 32 (some 113) (mB 46 1889785610239) ?_
                       refine tK 35 (some 116) (mB 46 1924145348607) ?_
                       refine tK 38 (some 119) (mB 46 2199023255551) ?_
                       refine tK 41 (some 122) (mB 46 4398046511103) ?_
                       refine pU 42 (some 123) (mB 46 8796093022207) ?_
                       refine pU 43 (some 124) (mB 46 17592186044415) ?_
                       refine one_ (i := 44) (N := some 125) (mB 46 35184372088831) rfl rfl (one_of HT_.out (by kernel_rfl)) (by decide) (fun K hK => ?_)
                       refine Kd.R_lit_step k80 _ 80 ?hg (N := 125) ?hd (xs := ([(⟨rd a8 0, rd a8 1⟩ : S80), (⟨wrap64 ((rd a8 0) + (rd a8 2)), rd a8 1⟩ : S80), (⟨wrap64 ((rd a8 0) + (rd a8 2)), wrap64 ((rd a8 1) + (rd a8 3))⟩ : S80), (⟨rd a8 0, wrap64 ((rd a8 1) + (rd a8 3))⟩ : S80)] : List (S80))) (inner := [.int .i64 (rd a8 0), .int .i64 (rd a8 1), .int .i64 (wrap64 ((rd a8 0) + (rd a8 2))), .int .i64 (rd a8 1), .int .i64 (wrap64 ((rd a8 0) + (rd a8 2))), .int .i64 (wrap64 ((rd a8 1) + (rd a8 3))), .int .i64 (rd a8 0), .int .i64 (wrap64 ((rd a8 1) + (rd a8 3)))]) (ok := fun _ => True) (okp := fun _ => True) ?hr ?hp (fun _ hk => hk) trivial (Below.refl _ _) (Nat.le_refl _) (by simp) ?_; (case hd => rfl); (case hg => rfl); (case hr => first | (go_simp; done) | (go_simp; rfl)); (case hp => exact (Reps.c2 (show Kd.M k80 _ _ _ (⟨rd a8 0, rd a8 1⟩ : S80) [.int .i64 (rd a8 0), .int .i64 (rd a8 1)] from (k80_mkM _ _ _ (⟨rd a8 0, rd a8 1⟩ : S80) )) (Reps.c2 (show Kd.M k80 _ _ _ (⟨wrap64 ((rd a8 0) + (rd a8 2)), rd a8 1⟩ : S80) [.int .i64 (wrap64 ((rd a8 0) + (rd a8 2))), .int .i64 (rd a8 1)] from (k80_mkM _ _ _ (⟨wrap64 ((rd a8 0) + (rd a8 2)), rd a8 1⟩ : S80) )) (Reps.c2 (show Kd.M k80 _ _ _ (⟨wrap64 ((rd a8 0) + (rd a8 2)), wrap64 ((rd a8 1) + (rd a8 3))⟩ : S80) [.int .i64 (wrap64 ((rd a8 0) + (rd a8 2))), .int .i64 (wrap64 ((rd a8 1) + (rd a8 3)))] from (k80_mkM _ _ _ (⟨wrap64 ((rd a8 0) + (rd a8 2)), wrap64 ((rd a8 1) + (rd a8 3))⟩ : S80) )) (Reps.c2 (show Kd.M k80 _ _ _ (⟨rd a8 0, wrap64 ((rd a8 1) + (rd a8 3))⟩ : S80) [.int .i64 (rd a8 0), .int .i64 (wrap64 ((rd a8 1) + (rd a8 3)))] from (k80_mkM _ _ _ (⟨rd a8 0, wrap64 ((rd a8 1) + (rd a8 3))⟩ : S80) )) (Reps.none _ _))))))
                       intro F7 at6 o9 hb hg_ hnew_
                       have HS0_ := (hb.cell (World.block_lt_of_cell? _ _ (hHeld.1))).trans (hHeld.1)
                       have HS1_ := (hb.cell (World.block_lt_of_cell? _ _ (hHeld.2.1))).trans (hHeld.2.1)
                       have HS2_ := (hb.cell (World.block_lt_of_cell? _ _ (hHeld.2.2.1))).trans (hHeld.2.2.1)
                       have HS3_ := (hb.cell (World.block_lt_of_cell? _ _ (hHeld.2.2.2.1))).trans (hHeld.2.2.2.1)
                       have HS4_ := (hb.cell (World.block_lt_of_cell? _ _ (hHeld.2.2.2.2.1))).trans (hHeld.2.2.2.2.1)
                       have HS5_ := (hb.cell (World.block_lt_of_cell? _ _ (hHeld.2.2.2.2.2.1))).trans (hHeld.2.2.2.2.2.1)
                       have HS6_ := (hb.cell (World.block_lt_of_cell? _ _ (hHeld.2.2.2.2.2.2.1))).trans (hHeld.2.2.2.2.2.2.1)
                       have HS7_ := (hb.cell (World.block_lt_of_cell? _ _ (hHeld.2.2.2.2.2.2.2.1))).trans (hHeld.2.2.2.2.2.2.2.1)
                       have HS8_ := (hb.cell (World.block_lt_of_cell? _ _ (hHeld.2.2.2.2.2.2.2.2.1))).trans (hHeld.2.2.2.2.2.2.2.2.1)
                       have HS9_ := (hb.cell (World.block_lt_of_cell? _ _ (hHeld.2.2.2.2.2.2.2.2.2.1))).trans (hHeld.2.2.2.2.2.2.2.2.2.1)
                       have HS10_ := (hb.cell (World.block_lt_of_cell? _ _ (hHeld.2.2.2.2.2.2.2.2.2.2.1))).trans (hHeld.2.2.2.2.2.2.2.2.2.2.1)
                       have HS11_ := (hb.cell (World.block_lt_of_cell? _ _ (hHeld.2.2.2.2.2.2.2.2.2.2.2))).trans (hHeld.2.2.2.2.2.2.2.2.2.2.2)
                       clear hg_ hnew_
                       (first | rw [← Ny397.out] at o9 | (simp only [Int.reduceToNat] at o9; rw [← Ny397.out] at o9))
                       have u6 := aM (Kd.R_lower (Kd.R_new' (Kd.R_newM (M := fun k_ => (w.heap.size ≤ k_)) o9 (below_size bS) (fun k_ h_ => h_)) (Kd.R_lt (rS a2))) (below_size bS))
                       replace k5 := rB k5 hb
                       replace a5 := rB a5 hb
                       replace a2 := aM (Kd.R_elder' (rS a2) (Kd.R_base o9) hb)
                       replace a6 := aM (Kd.S_elder' (sS a6) (Kd.R_base o9) hb)
                       replace a7 := aM (Kd.S_elder' (sS a7) (Kd.R_base o9) hb)
                       replace a3 := kB_ a9 hb
                       replace b0 := aM (FrI_belowS hb b0.out (FrN0 b0.out))
                       replace HB := hB hb
                       clear hb o9
                       refine hK.out _ _ ⟨HS0_, HS1_, HS2_, HS3_, HS4_, HS5_, HS6_, HS7_, HS8_, HS9_, HS10_, HS11_⟩ (fun hHeld => ?_)
                       clear hK K
                       refine norm_ (a' := ?_) ?_ ?_
                       rotate_left
                       ·show Act.put _ (some 125) _ = _
                        simp only [Act.put, List.setIfInBounds_toArray, List.set_cons_zero, List.set_cons_succ, i64_w, i32_w]
                        rfl
                       refine pU 45 (some 8) (mB 46 70368744177663) ?_
                       refine done_ (done_of HT_.out (by kernel_rfl)) ?_
                       try go_wp2_with (first | ((with_reducible refine gate_dst (N := 127) rfl ?_); refine Kd.R_lit k80 _ 80 ?hg (N := 127) ?hd (xs := ([] : List (S80))) (inner := []) (ok := fun _ => True) (okp := fun _ => True) ?hr ?hp (fun _ hk => hk) trivial (Below.refl _ _) (Nat.le_refl _) (by simp) ?_; (case hd => rfl); (case hg => rfl); (case hr => first | (go_simp; done) | (go_simp; rfl)); (case hp => exact (Reps.none _ _)); intro at7 at8 n6 hb hg_ hnew_; clear hg_ hnew_; (first | rw [← Ny400.out] at n6 | (simp only [Int.reduceToNat] at n6; rw [← Ny400.out] at n6)); have I1 := aM (Kd.R_lower (Kd.R_new' (Kd.R_new' (Kd.R_newM (M := fun k_ => (w.heap.size ≤ k_)) n6 (below_size bS) (fun k_ h_ => h_)) (Kd.R_lt (rS a2))) (Kd.R_lt (rS u6))) (below_size bS)); replace k5 := rB k5 hb; replace a5 := rB a5 hb; replace a2 := aM (Kd.R_elder' (rS a2) (Kd.R_base n6) hb); replace a6 := aM (Kd.S_elder' (sS a6) (Kd.R_base n6) hb); replace a7 := aM (Kd.S_elder' (sS a7) (Kd.R_base n6) hb); replace u6 := aM (Kd.R_elder' (rS u6) (Kd.R_base n6) hb); replace a3 := kB_ a9 hb; replace b0 := aM (FrI_belowS hb b0.out (FrN0 b0.out)); replace HB := hB hb; clear hb n6; obtain ⟨U8, U9, V0⟩ := Kd.R_slice I1.out; subst V0; have V1 := cg5 a3; have V2 := blk_frozen a3.out 5))
                       go_loopg [9] kj126 (fun kq v9 w' => ∃ (k7 : Int) (h8 : List (S80)) (e1 : Value), v9 = .int .i64 k7 ∧ Aside0 (spec_ExecToken.l0 kq l3 k7 g1 h9 i1 i3 i4 h5 i5 i6 i7 i8 e2 d5 d6 d4 f7 f8 f9 g0 h8 i9 j5 j6 j7 j8 e4 e5 = some (r1, r2, r3, r4, r5, r6, r7, r8, r9, v4, v5, v6, v8, w8)) ∧ Aside0 (kq ≤ kj126) ∧ Aside0 (Kd.R k80 80 w' w.heap.size (fun k_ => (w.heap.size ≤ k_) ∧ some k_ ≠ (e1 : Value).ownBlock) F7 l3) ∧ Aside0 (Kd.R (Kd.int .i64) 3 w' w.heap.size (fun k_ => (w.heap.size ≤ k_)) (.slice k2 d4.length k3) d4) ∧ Aside0 (Kd.R k80 80 w' w.heap.size (fun k_ => (w.heap.size ≤ k_) ∧ some k_ ≠ (F7 : Value).ownBlock) e1 h8) ∧ Aside0 (Kd.S k31 31 w' w.heap.size (fun k_ => (w.heap.size ≤ k_) ∧ some k_ ≠ (F7 : Value).ownBlock ∧ some k_ ≠ ((.slice k2 d4.length k3) : Value).ownBlock ∧ some k_ ≠ (e1 : Value).ownBlock) (.slice l6 e4.length l7) e4) ∧ Aside0 (Kd.S k60 60 w' w.heap.size (fun k_ => (w.heap.size ≤ k_) ∧ some k_ ≠ (F7 : Value).ownBlock ∧ some k_ ≠ (e1 : Value).ownBlock) (.slice l8 e5.length l9) e5) ∧ Aside0 (w'.heap[a9]? = some (.cells #[(.slice k2 d4.length k3), .int .i64 f7, .int .i64 f8, .int .i64 f9, .int .i64 g0, e1, .int .i64 i9, .int .i64 j5, .int .i64 j6, .int .i64 j7, .int .i64 j8, (.slice l6 e4.length l7), (.slice l8 e5.length l9)] 35 (0, 0))) ∧ Aside0 (FrI L93 a9 [35, 40] w') ∧ Aside0 (Below w.heap.size w w'))
                       case atStart => exact ⟨(0), (N5), (.slice U8 N5.length U9), fS, H', ⟨Nat.le_refl _⟩, ⟨rW [a9] u6 a3⟩, ⟨rW [a9] a5 a3⟩, ⟨rW [a9] I1 a3⟩, ⟨sW [a9] a6 a3⟩, ⟨sW [a9] a7 a3⟩, ⟨kS⟩, ⟨by exact FrI_self b0.out (FrN0 b0.out)⟩, ⟨bS⟩⟩
                       case round =>
                        clear H'
                        try clear c1
                        try clear c2
                        try clear p2
                        try clear p3
                        try clear q3
                        try clear hx3
                        try clear qi3
                        try clear p6
                        try clear c13
                        try clear p38
                        try clear q38
                        try clear aj7
                        try clear qi38
                        try clear p39
                        try clear q39
                        try clear at9
                        try clear qi39
                        try clear p64
                        try clear M5
                        try clear A6
                        try clear M6
                        try clear M7
                        try clear A8
                        try clear M8
                        try clear M9
                        try clear B0
                        try clear N1
                        try clear N2
                        try clear B2
                        try clear N3
                        try clear N4
                        try clear m2
                        try clear m3
                        try clear m4
                        try clear m5
                        try clear m6
                        try clear m7
                        try clear m8
                        try clear m9
                        try clear n0
                        try clear n1
                        try clear n2
                        try clear n5
                        try clear D1
                        try clear D3
                        try clear D5
                        try clear D7
                        try clear D9
                        try clear E1
                        try clear E3
                        try clear E5
                        try clear E7
                        try clear E9
                        try clear F3
                        try clear F5
                        try clear D2
                        try clear D4
                        try clear D6
                        try clear D8
                        try clear E0
                        try clear E2
                        try clear E4
                        try clear E6
                        try clear E8
                        try clear F2
                        try clear F4
                        try clear F6
                        obtain ⟨k7, h8, e1, rfl, HA, HK4, q9, a5, a2, a6, a7, a3, b0, HB⟩ := hrel
                        cases gk with
                        | zero => exact absurd HA.out (by simp [spec_ExecToken.l0])
                        | succ k4 =>
                         have H := HA.out
                         clear HA
                         simp only [spec_ExecToken.l0] at H
                         rcases iD H with ⟨N6, H⟩ | ⟨N6, H⟩
                         ·obtain ⟨al1, H⟩ := iT H
                          obtain ⟨al2, H⟩ := iT H
                          replace H := bN H
                          obtain ⟨⟨B8, C0⟩, al3, H⟩ := H
                          obtain ⟨LMc150, H⟩ := iL H
                          obtain ⟨N7, hy_⟩ : ∃ y_ : List (S80), y_ = (h8 ++ [(⟨B8, C0⟩ : S80)]) := ⟨_, rfl⟩
                          replace H : (spec_ExecToken.l0 k4 l3 (wrap64 (k7 + 1)) g1 h9 i1 i3 i4 h5 i5 i6 i7 i8 e2 d5 d6 d4 f7 f8 f9 g0 N7 i9 j5 j6 j7 j8 e4 e5) = some (r1, r2, r3, r4, r5, r6, r7, r8, r9, v4, v5, v6, v8, w8) := yS
                          have Ny406 := aM hy_
                          clear hy_
                          have H' := aM H
                          clear H
                          try go_wp2
                          replace q9 := rD q9
                          replace a5 := rD a5
                          replace a2 := rD a2
                          replace a6 := sD a6
                          replace a7 := sD a7
                          replace a3 := bD a3
                          replace b0 := aM (FrI_drew b0.out)
                          replace HB := hD HB
                          obtain ⟨ao4, C2, I2⟩ := Kd.R_slice q9.out
                          (first | subst I2 | obtain ⟨rfl, rfl⟩ := slE I2)
                          have N8 : 0 ≤ (k7 : Int) := dA
                          have N9 : k7 < (l3.length : Int) := dA
                          obtain ⟨s6, al4, u7, u9⟩ := at_T80 (Kd.R_reads' q9.out).2.2 k7 N8 N9
                          cases al4
                          replace N8 := eq_true N8
                          replace N9 := eq_true N9
                          refine start_ (n := 19) (S := fun w' => w'.cell? ⟨a9, 1, none⟩ = some (.int .i64 f7) ∧ w'.cell? ⟨a9, 2, none⟩ = some (.int .i64 f8) ∧ w'.cell? ⟨a9, 3, none⟩ = some (.int .i64 f9) ∧ w'.cell? ⟨a9, 4, none⟩ = some (.int .i64 g0) ∧ w'.cell? ⟨a9, 5, none⟩ = some (e1) ∧ w'.cell? (s6.add ((k7).toNat * 2)) = some (.int .i64 ((rd_T80 l3 k7).f0)) ∧ w'.cell? ⟨(s6.add ((k7).toNat * 2)).block, (s6.add ((k7).toNat * 2)).off + 1, none⟩ = some (.int .i64 ((rd_T80 l3 k7).f1))) (ds := [15, 18]) (mB 19 0) (by kernel_rfl) rfl rfl ⟨(blk_cell a3.out 1).trans rfl, (blk_cell a3.out 2).trans rfl, (blk_cell a3.out 3).trans rfl, (blk_cell a3.out 4).trans rfl, (blk_cell a3.out 5).trans rfl, u7, u9⟩ (fun hHeld => ?_); refine with_tabW spec_ExecToken.i62.tab19 spec_ExecToken.i62.bits19 (fun HT_ HW_ => ?_)
                          generalize wr.drew = au0 at q9 a5 a2 a6 a7 a3 b0 HB u7 u9 hHeld ⊢
                          refine pU 0 (some 134) (mB 19 1) ?_
                          refine pU 1 (some 135) (mB 19 3) ?_
                          refine pU 2 (some 136) (mB 19 7) ?_
                          refine pU 3 (some 137) (mB 19 15) ?_
                          refine pU 5 (some 139) (mB 19 47) ?_
                          refine pU 6 (some 140) (mB 19 111) ?_
                          refine pU 7 (some 141) (mB 19 239) ?_
                          refine pU 9 (some 143) (mB 19 751) ?_
                          refine pU 10 (some 144) (mB 19 1775) ?_
                          refine pU 11 (some 145) (mB 19 3823) ?_
                          refine tK 4 (some 138) (mB 19 3839) ?_
                          refine tK 8 (some 142) (mB 19 4095) ?_
                          refine tK 12 (some 146) (mB 19 8191) ?_
                          refine one_ (i := 13) (N := some 147) (mB 19 16383) rfl rfl (one_of HT_.out (by kernel_rfl)) (by decide) (fun K hK => ?_)
                          refine goes_ Try.func74 (by kernel_rfl) rfl #[.agg #[.int .i64 f7, .int .i64 f8, .int .i64 f9, .int .i64 g0], .agg #[.int .i64 ((rd_T80 l3 k7).f0), .int .i64 ((rd_T80 l3 k7).f1)]] (by rfl) rfl rfl mA ?_
                          with_reducible refine (spec_l03Raw.calls k4 f7 f8 f9 g0 ((rd_T80 l3 k7).f0) ((rd_T80 l3 k7).f1) B8 C0 _ al3.out).mono ?_
                          rintro e au1 ⟨rfl, hb⟩
                          have HS5_ := (hb.cell (World.block_lt_of_cell? _ _ (hHeld.2.2.2.2.2.1))).trans (hHeld.2.2.2.2.2.1)
                          have HS6_ := (hb.cell (World.block_lt_of_cell? _ _ (hHeld.2.2.2.2.2.2))).trans (hHeld.2.2.2.2.2.2)
                          refine ⟨_, rfl, ?_⟩
                          replace q9 := rB q9 hb
                          replace a5 := rB a5 hb
                          replace a2 := rB a2 hb
                          replace a6 := sB a6 hb
                          replace a7 := sB a7 hb
                          replace a3 := kB_ a9 hb
                          replace b0 := aM (FrI_belowS hb b0.out (FrN0 b0.out))
                          replace HB := hB hb
                          (try clear hb)
                          (try clear hb2)
                          (try clear hk)
                          (try clear hi)
                          refine hK.out _ _ ⟨(blk_cell a3.out 1).trans rfl, (blk_cell a3.out 2).trans rfl, (blk_cell a3.out 3).trans rfl, (blk_cell a3.out 4).trans rfl, (blk_cell a3.out 5).trans rfl, HS5_, HS6_⟩ (fun hHeld => ?_)
                          clear hK K
                          refine norm_ (a' := ?_) ?_ ?_
                          rotate_left
                          ·show Act.put _ (some 147) _ = _
                           simp only [Act.put, List.setIfInBounds_toArray, List.set_cons_zero, List.set_cons_succ, i64_w, i32_w]
                           rfl
                          refine one_ (i := 14) (N := some 148) (mB 19 32767) rfl rfl (one_of HT_.out (by kernel_rfl)) (by decide) (fun K hK => ?_)
                          refine value_ (w1 := ?_) (v := ?_) (by rfl) rfl ?_ ?_
                          rotate_left 2
                          ·go_simp
                           constructor
                           ·rfl
                           ·rfl
                          refine hK.out _ _ ⟨(blk_cell (blk_alloc a3.out _) 1).trans rfl, (blk_cell (blk_alloc a3.out _) 2).trans rfl, (blk_cell (blk_alloc a3.out _) 3).trans rfl, (blk_cell (blk_alloc a3.out _) 4).trans rfl, (blk_cell (blk_alloc a3.out _) 5).trans rfl, (World.cell?_alloc_lt _ _ _ (World.block_lt_of_cell? _ _ (hHeld.2.2.2.2.2.1))).trans (hHeld.2.2.2.2.2.1), (World.cell?_alloc_lt _ _ _ (World.block_lt_of_cell? _ _ (hHeld.2.2.2.2.2.2))).trans (hHeld.2.2.2.2.2.2)⟩ (fun hHeld => ?_)
                          clear hK K
                          refine norm_ (a' := ?_) ?_ ?_
                          rotate_left
                          ·show Act.put _ (some 148) _ = _
                           simp only [Act.put, List.setIfInBounds_toArray, List.set_cons_zero, List.set_cons_succ, i64_w, i32_w]
                           rfl
                          refine last_ (i := 15) (N := some 149) (mB 19 65535) rfl rfl (one_of HT_.out (by kernel_rfl)) (by decide) (fun K hK => ?_)
                          refine Kd.R_append_step k80 (w0 := w) w.heap.size (by rfl) (.tmp 138) (.tmp 148) 27 80 (.agg #[(.int .i64 0), (.int .i64 0)]) 16 rfl Try.underlying27 info80 rfl (by decide) (by omega) e1 h8 (⟨B8, C0⟩ : S80) [.int .i64 B8, .int .i64 C0] (fun k_ => (w.heap.size ≤ k_) ∧ some k_ ≠ (.slice (some s6) l3.length C2 : Value).ownBlock) (fun _ => False) rfl rfl ?aP (fun _ hk => hk.elim) ?aF ?aO ?aB ?aS ?aL ?_
                          (case aP => exact k80_mkM _ _ _ (⟨B8, C0⟩ : S80))
                          (case aB => exact bS)
                          (case aF => exact (fun k_ hk => ⟨(Nat.le_trans (below_size bS) hk), Kd.fresh' (Kd.R_lt (rS q9)) k_ hk⟩))
                          (case aO => exact (rS a2))
                          (case aS => exact (below_size bS))
                          (case aL => have := LMc150.out; (try dsimp only at this); omega)
                          intro au2 au3 ho hb hg hat
                          rw [← Ny406.out] at ho
                          have I3 := aM (ho)
                          replace q9 := aM (Kd.R_after (ok := (fun k_ => (w.heap.size ≤ k_))) (rS q9) hg hat)
                          replace a5 := aM (Kd.R_over' (rS a5) (Kd.R_typed (rS a2)) (by decide) hg)
                          replace a6 := aM (Kd.S_after (ok := (fun k_ => (w.heap.size ≤ k_) ∧ some k_ ≠ (.slice (some s6) l3.length C2 : Value).ownBlock ∧ some k_ ≠ (.slice k2 d4.length k3 : Value).ownBlock)) (by exact sM a6) hg hat)
                          replace a7 := aM (Kd.S_after (ok := (fun k_ => (w.heap.size ≤ k_) ∧ some k_ ≠ (.slice (some s6) l3.length C2 : Value).ownBlock)) (by exact sM a7) hg hat)
                          replace a3 := aM (blk_grown (g := a9) kS hg (Kd.R_ne a2.out a3.out (by decide)))
                          replace b0 := aM (FrI_grownS hg (Kd.R_typed (rS a2)) (by decide) b0.out (FrN0 b0.out))
                          replace HB := aM (hb)
                          clear a2
                          clear ho hb hg hat
                          obtain ⟨V3, V4, I4⟩ := Kd.R_slice I3.out
                          (first | subst I4 | obtain ⟨rfl, rfl⟩ := slE I4)
                          refine hK.out _ _ ?_
                          clear hK K
                          refine norm_ (a' := ?_) ?_ ?_
                          rotate_left
                          ·show Act.put _ (some 149) _ = _
                           simp only [Act.put, List.setIfInBounds_toArray, List.set_cons_zero, List.set_cons_succ, i64_w, i32_w]
                           rfl
                          refine pU 16 (some 150) (mB 19 131071) ?_
                          refine pU 17 (some 151) (mB 19 262143) ?_
                          refine last_ (i := 18) (N := none) (mB 19 524287) rfl rfl (one_of HT_.out (by kernel_rfl)) (by decide) (fun K hK => ?_)
                          have hs156 := cg5 a3
                          have hfs156 := blk_frozen a3.out 5
                          refine skip_ (w1 := ?_) (by rfl) rfl ?_ ?_
                          rotate_left
                          ·go_simp
                           rfl
                          refine hK.out _ _ ?_
                          clear hK K
                          refine done_ (done_of HT_.out (by kernel_rfl)) ?_
                          try go_wp2
                          go_roundg k4
                          case measure => have := HJ2.out; have := HJ68.out; have := HJ126.out; have := HK4.out; omega
                          case rel => exact ⟨(wrap64 (k7 + 1)), (N7), (.slice V3 N7.length V4), fS, H', ⟨by have := HJ2.out; have := HJ68.out; have := HJ126.out; have := HK4.out; omega⟩, ⟨rW [a9] q9 a3⟩, ⟨rW [a9] a5 a3⟩, ⟨rW [a9] I3 a3⟩, ⟨sW [a9] a6 a3⟩, ⟨sW [a9] a7 a3⟩, ⟨kS⟩, ⟨by exact FrI_self b0.out (FrN0 b0.out)⟩, ⟨bS⟩⟩
                         ·have H' := aM H
                          clear H
                          try go_wp2
                          (try (go_ret; (try simp only [])))
                          (try (refine ⟨_, rfl, ?_⟩))
                          have b6 := aM (FrI_get b0.out HLM303.out)
                          have b7 := aM (FrI_get b0.out HLM304.out)
                          have b1 := aM (FrI_get b0.out HLM305.out)
                          clear b0
                          try go_wp2
                          go_meet
                          case rel => exact ⟨_, (true), (d4), (f7), (f8), (f9), (g0), (h8), (i9), (j5), (j6), (j7), (j8), (e4), (e5), (.slice k2 d4.length k3), (e1), (.slice l6 e4.length l7), (.slice l8 e5.length l9), fS, H', ⟨by have := HJ2.out; have := HJ68.out; have := HJ126.out; have := HK4.out; first | omega | exact Nat.le_refl _⟩, ⟨rS a5⟩, ⟨by exact rT (Kd.R_mono a2.out (fun _ hk => hk.1))⟩, ⟨by exact sT (Kd.S_mono a6.out (fun _ hk => ⟨hk.1, ⟨hk.2.2.1, hk.2.2.2⟩⟩))⟩, ⟨by exact sT (Kd.S_mono a7.out (fun _ hk => hk.1))⟩, ⟨kS⟩, ⟨kS⟩, ⟨kS⟩, ⟨kS⟩, ⟨bS⟩⟩
                      ·rw [if_neg B2] at H
                       exact absurd H (by simp)
                     ·rw [if_neg B0] at H
                      exact absurd H (by simp)
                    ·rw [if_neg A8] at H
                     exact absurd H (by simp)
                   ·rw [if_neg A6] at H
                    exact absurd H (by simp)
               ·exact absurd hA_.out (by simp only [List.mem_cons, List.not_mem_nil, or_false, not_or]; exact ⟨O5, t8, u1, A0⟩)
           ·obtain rfl := Bool.eq_false_iff.mpr c87
            rw [if_neg nF] at H
            have I5 := aM H
            clear H
            have hnb192 := nP d1 d0
            have hnb193 := nP d2 d3
            have hnb194 := nP e0 f5
            have hz195 := cz2 b7
            go_wp2_with (fail)
            have H := I5.out
            clear I5
            obtain ⟨L196, hF_, hM303_, hM304_, hM305_⟩ := FrI_pack3 b6.out b7.out b1.out f4.out e0.out f6.out [35, 40] (by decide) (by decide) (by decide)
            have HLM303 := aM hM303_
            have HLM304 := aM hM304_
            have HLM305 := aM hM305_
            have al5 := aM hF_
            clear hF_ hM303_ hM304_ hM305_ b6 b7 b1
            replace H := bN H
            obtain ⟨⟨au4, au5, au6, au7⟩, au8, H⟩ := H
            by_cases O0 : e8.toList = ([103, 114, 97, 121] : List UInt8)
            ·exact absurd hA_.out (by rw [O0]; decide)
            ·rw [if_neg O0] at H
             obtain ⟨al6, al7⟩ := eqF O0
             by_cases O1 : e8.toList = ([115, 97, 118, 101] : List UInt8)
             ·exact absurd hA_.out (by rw [O1]; decide)
             ·rw [if_neg O1] at H
              obtain ⟨al8, al9⟩ := eqF O1
              by_cases F8 : e8.toList = ([114, 101, 115, 116, 111, 114, 101] : List UInt8)
              ·exact absurd hA_.out (by rw [F8]; decide)
              ·rw [if_neg F8] at H
               obtain ⟨O2, O3⟩ := eqF F8
               by_cases O4 : e8.toList = ([115, 104, 105, 102, 116] : List UInt8)
               ·exact absurd hA_.out (by rw [O4]; decide)
               ·rw [if_neg O4] at H
                exact absurd H (by simp)
        ·obtain rfl := Bool.eq_false_iff.mpr c68
         rw [if_neg nF] at H
         have H' := aM H
         clear H
         have hnb268 := nP d1 d0
         have hnb269 := nP d2 d3
         have hnb270 := nP e0 f5
         have hz271 := cz2 b7
         go_wp2_with (first | ((with_reducible refine gC 59 ?_); refine cM (some 45) Try.func59 (spec_IsStackOp.calls e8 _ _ A64.out) ?_; rintro e w' ⟨rfl, ⟨nd, rfl⟩⟩; refine ⟨_, rfl, ?_⟩; have hnb272 := nP e6 e7; have hnb273 := nP f4 h6; have V5 := cg0 b6) | ((with_reducible refine gC 61 ?_); refine cM (some 65) Try.func61 (spec_TakeNumbers.calls kj2 _ _ g1 x1 d4 a8 _ _ (Kd.C_below o5.out bS) o6.out A67.out) ?_; rintro e au9 ⟨ah6, C3, rfl, q0, o4, hb⟩; refine ⟨_, rfl, ?_⟩; have o7 := aM (Kd.R_lower (Kd.R_new' (Kd.R_newM (M := fun k_ => (w.heap.size ≤ k_)) q0 (below_size bS) (fun k_ h_ => h_)) (Kd.R_lt (by exact rG k6 a3))) (below_size bS)); have t3 := aM (Kd.R_lower (Kd.R_new' (Kd.R_newM (M := fun k_ => (w.heap.size ≤ k_)) o4 (below_size bS) (fun k_ h_ => h_)) (Kd.R_lt (by exact rG k6 a3))) (below_size bS)); replace k6 := aM (Kd.R_mono (Kd.R_told (Kd.R_told (Kd.R_old (by exact rG k6 a3) hb) (Kd.R_base q0)) (Kd.R_base o4)) (fun _ h_ => h_.1)); replace j9 := aM (Kd.R_below (by exact rG j9 a3) hb); replace k0 := aM (Kd.S_mono (Kd.S_told (Kd.S_told (Kd.S_old (by exact sG k0 a3) hb) (Kd.R_base q0)) (Kd.R_base o4)) (fun _ h_ => h_.1)); replace k1 := aM (Kd.S_below (by exact sG k1 a3) hb); replace b6 := kB_ e3 hb; replace b7 := kB_ f3 hb; replace b1 := kB_ b2 hb; replace a3 := kB_ a9 hb; replace HB := hB hb; (try clear hb hk q0 o4); obtain ⟨V6, V7, V8⟩ := Kd.R_slice o7.out; subst V8; have hnb277 := nP h7 f6; have V9 := cg0 a3; have W0 := blk_frozen a3.out 0))
         go_meet
         case rel => exact ⟨_, (false), (d4), (f7), (f8), (f9), (g0), (e9), (i9), (j5), (j6), (j7), (j8), (e4), (e5), (.slice V6 d4.length V7), (.slice l4 e9.length l5), (.slice l6 e4.length l7), (.slice l8 e5.length l9), fS, H', ⟨by have := HJ2.out; first | omega | exact Nat.le_refl _⟩, ⟨rW [a9] o7 a3⟩, ⟨rW [a9] j9 a3⟩, ⟨sW [a9] k0 a3⟩, ⟨sW [a9] k1 a3⟩, ⟨kS⟩, ⟨kS⟩, ⟨kS⟩, ⟨kS⟩, ⟨bS⟩⟩
       ·rw [if_neg G7] at H
        have x7 : decide (0 ≤ x1) = false := decide_eq_false G7
        clear G7
        have H' := aM H
        clear H
        have hnb279 := nP d1 d0
        have hnb280 := nP d2 d3
        have hnb281 := nP e0 f5
        have hz282 := cz2 b7
        go_wp2_with (first | ((with_reducible refine gC 59 ?_); refine cM (some 45) Try.func59 (spec_IsStackOp.calls e8 _ _ A64.out) ?_; rintro e w' ⟨rfl, ⟨nd, rfl⟩⟩; refine ⟨_, rfl, ?_⟩))
        go_meet
        case rel => exact ⟨_, (false), (J4), (f7), (f8), (f9), (g0), (e9), (i9), (j5), (j6), (j7), (j8), (e4), (e5), (.slice ag6 J4.length ag7), (.slice l4 e9.length l5), (.slice l6 e4.length l7), (.slice l8 e5.length l9), fS, H', ⟨by have := HJ2.out; first | omega | exact Nat.le_refl _⟩, ⟨rW [a9] k6 a3⟩, ⟨rW [a9] j9 a3⟩, ⟨sW [a9] k0 a3⟩, ⟨sW [a9] k1 a3⟩, ⟨kS⟩, ⟨kS⟩, ⟨kS⟩, ⟨kS⟩, ⟨bS⟩⟩
    case rest =>
     clear J5
     try clear c2
     try clear p2
     try clear q2
     try clear c4
     try clear p4
     try clear q4
     try clear hx4
     try clear qi4
     try clear c5
     try clear c6
     try clear c7
     try clear c22
     try clear c23
     try clear c24
     try clear q24
     try clear c25
     try clear c26
     try clear c27
     try clear c28
     try clear c45
     try clear p45
     try clear q45
     try clear av0
     try clear qi45
     try clear c52
     try clear c59
     try clear c61
     try clear c63
     try clear G7
     try clear x7
     try clear c68
     try clear c77
     try clear F8
     try clear O2
     try clear O3
     try clear av1
     try clear av2
     try clear am0
     try clear av3
     try clear am1
     try clear am2
     try clear av4
     try clear am3
     try clear O4
     try clear am4
     try clear am5
     try clear av5
     try clear am6
     try clear am7
     try clear av6
     try clear am8
     try clear am9
     try clear av7
     try clear av8
     try clear av9
     try clear aw0
     try clear aw1
     try clear aw2
     try clear aw3
     try clear aw4
     try clear aw5
     try clear aw6
     try clear aw7
     try clear aw8
     try clear ad8
     try clear ad9
     try clear W1
     try clear ae0
     try clear ae1
     try clear ae2
     try clear ae3
     try clear ae4
     try clear ae5
     try clear ae6
     try clear ae7
     try clear ae8
     try clear ae9
     try clear aw9
     try clear ax0
     try clear ax1
     try clear am3
     try clear ax2
     try clear ax3
     try clear ax4
     obtain ⟨kq, u4, g2, g3, g4, g5, g6, g7, g8, g9, h0, h1, h2, h3, h4, q5, e1, s8, s9, rfl, HA, HJ34, a5, a2, a6, a7, b6, b7, b1, a3, HB⟩ := hcut
     cases kq with
     | zero => exact absurd HA.out (by simp [spec_ExecToken.j4])
     | succ kj34 =>
      have H := HA.out
      clear HA
      simp only [spec_ExecToken.j4] at H
      by_cases W2 : u4 = true
      ·subst W2
       rw [if_pos rfl] at H
       replace H := bN H
       obtain ⟨an0, W3, H⟩ := H
       by_cases W4 : an0 = true
       ·subst W4
        rw [if_pos rfl] at H
        simp only [Option.some.injEq, Prod.mk.injEq] at H
        obtain ⟨rfl, rfl, rfl, rfl, rfl, rfl, rfl, rfl, rfl, rfl, rfl, rfl, rfl, rfl⟩ := H
        have hnb286 := nP h6 f4
        have hnb287 := nP f5 e0
        have hnb288 := nP h7 f6
        have hz289 := cz13 a3
        obtain ⟨W5, W6, W7⟩ := Kd.R_slice a5.out
        subst W7
        obtain ⟨W8, W9, X0⟩ := Kd.R_slice a2.out
        subst X0
        obtain ⟨X1, X2, X3⟩ := Kd.S_slice a6.out
        subst X3
        obtain ⟨X4, X5, X6⟩ := Kd.S_slice a7.out
        subst X6
        go_wp2_with (first | (go_at_call 54; (with_reducible refine (spec_PageOk.calls kj34 _ _ g2 g3 g4 g5 g6 _ _ g7 g8 g9 h0 h1 h2 _ _ h3 _ _ h4 _ _ (cS (Kd.R_reads' a5.out).2.2) ((Kd.R_reads' a5.out).2.1) (cS (Kd.R_reads' a2.out).2.2) ((Kd.R_reads' a2.out).2.1) (cS (Kd.S_reads' a6.out).2.2) ((Kd.S_reads' a6.out).2.1) (cS (Kd.S_reads' a7.out).2.2) ((Kd.S_reads' a7.out).2.1) W3.out).mono ?_); rintro e ax5 ⟨rfl, hb⟩; replace a5 := rB a5 hb; replace a2 := rB a2 hb; replace a6 := sB a6 hb; replace a7 := sB a7 hb; replace b6 := kB_ e3 hb; replace b7 := kB_ f3 hb; replace b1 := kB_ b2 hb; replace a3 := kB_ a9 hb; replace HB := hB hb; (try clear hb); have hz295 := cz13 a3; have hnb296 := nP e7 e6; have hnb297 := nP d3 d2; have hz298 := cz13 b1))
        refine bodyPost_ret (results_ct rfl _ _ b2 35 #[.slice W5 g2.length W6, .int .i64 g3, .int .i64 g4, .int .i64 g5, .int .i64 g6, .slice W8 g7.length W9, .int .i64 g8, .int .i64 g9, .int .i64 h0, .int .i64 h1, .int .i64 h2, .slice X1 h3.length X2, .slice X4 h4.length X5] (0, 0) _ rfl kS Try.underlying35 rfl (by kernel_rfl)) rfl ?_
        exact ⟨_, _, _, _, eS, Kd.R_V (by exact Kd.R_mono (R_on (g := b2) (Kd.R_types a5.out b1.out (by decide)) (fun _ hk => hk.2)) (fun _ hk => hk.1)), Kd.R_V (by exact Kd.R_mono (R_on (g := b2) (Kd.R_types a2.out b1.out (by decide)) (fun _ hk => hk.2)) (fun _ hk => hk.1)), Kd.S_V (by exact Kd.S_mono (S_on (g := b2) (Kd.S_types a6.out b1.out (by decide)) (fun _ hk => hk.2)) (fun _ hk => hk.1.1)), Kd.S_V (by exact Kd.S_mono (S_on (g := b2) (Kd.S_types a7.out b1.out (by decide)) (fun _ hk => hk.2)) (fun _ hk => hk.1)), bS⟩
       ·obtain rfl := Bool.eq_false_iff.mpr W4
        rw [if_neg nF] at H
        replace H := bN H
        obtain ⟨⟨X7, X8, X9, Y0, Y1, Y2, Y3, Y4, Y5, Y6, Y7, Y8, Y9⟩, an1, H⟩ := H
        simp only [Option.some.injEq, Prod.mk.injEq] at H
        obtain ⟨rfl, rfl, rfl, rfl, rfl, rfl, rfl, rfl, rfl, rfl, rfl, rfl, rfl, rfl⟩ := H
        have hnb300 := nP h6 f4
        have hnb301 := nP f5 e0
        have hnb302 := nP h7 f6
        have hz303 := cz13 a3
        obtain ⟨ao5, ao6, Z0⟩ := Kd.R_slice a5.out
        subst Z0
        obtain ⟨ao7, ao8, Z1⟩ := Kd.R_slice a2.out
        subst Z1
        obtain ⟨ao9, ap0, Z2⟩ := Kd.S_slice a6.out
        subst Z2
        obtain ⟨ap1, ap2, Z3⟩ := Kd.S_slice a7.out
        subst Z3
        go_wp2_with (first | (go_at_call 54; (with_reducible refine (spec_PageOk.calls kj34 _ _ g2 g3 g4 g5 g6 _ _ g7 g8 g9 h0 h1 h2 _ _ h3 _ _ h4 _ _ (cS (Kd.R_reads' a5.out).2.2) ((Kd.R_reads' a5.out).2.1) (cS (Kd.R_reads' a2.out).2.2) ((Kd.R_reads' a2.out).2.1) (cS (Kd.S_reads' a6.out).2.2) ((Kd.S_reads' a6.out).2.1) (cS (Kd.S_reads' a7.out).2.2) ((Kd.S_reads' a7.out).2.1) W3.out).mono ?_); rintro e ax6 ⟨rfl, hb⟩; replace a5 := rB a5 hb; replace a2 := rB a2 hb; replace a6 := sB a6 hb; replace a7 := sB a7 hb; replace b6 := kB_ e3 hb; replace b7 := kB_ f3 hb; replace b1 := kB_ b2 hb; replace a3 := kB_ a9 hb; replace HB := hB hb; (try clear hb); have hnb309 := nP d0 d1; have hnb310 := nP e6 e7; have hz311 := cz13 b6) | ((with_reducible refine gC 56 ?_); refine cM (some 98) Try.func56 (spec_l07Copy.calls kj34 _ _ g1 h9 i1 i3 i4 _ _ h5 i5 i6 i7 i8 e2 _ _ d5 _ _ d6 X7 X8 X9 Y0 Y1 Y2 Y3 Y4 Y5 Y6 Y7 Y8 Y9 _ (cC o5 HB) o6.out (cC s3 HB) s4.out (cC n7 HB) n8.out (cC o0 HB) o1.out an1.out) ?_; rintro e ax7 ⟨ax8, ax9, ay0, ay1, rfl, q0, o4, w9, x0, hb⟩; refine ⟨_, rfl, ?_⟩; have I6 := aM (Kd.R_lower (Kd.R_new' (Kd.R_newM (M := fun k_ => (w.heap.size ≤ k_)) q0 (below_size bS) (fun k_ h_ => h_)) (Kd.R_lt (rS a5))) (below_size bS)); have I7 := aM (Kd.R_lower (Kd.R_new' (Kd.R_newM (M := fun k_ => (w.heap.size ≤ k_)) o4 (below_size bS) (fun k_ h_ => h_)) (Kd.R_lt (rS a2))) (below_size bS)); have I8 := aM (Kd.S_lower (Kd.S_new' (Kd.S_new' (Kd.S_new' (Kd.S_newM (M := fun k_ => (w.heap.size ≤ k_)) w9 (below_size bS) (fun k_ h_ => h_)) (Kd.R_lt (rS a5))) (Kd.R_lt (rS a2))) (Kd.S_lt (sS a6))) (below_size bS)); have I9 := aM (Kd.S_lower (Kd.S_new' (Kd.S_new' (Kd.S_newM (M := fun k_ => (w.heap.size ≤ k_)) x0 (below_size bS) (fun k_ h_ => h_)) (Kd.R_lt (rS a2))) (Kd.S_lt (sS a7))) (below_size bS)); replace a5 := aM (Kd.R_elder' (rS a5) (Kd.R_base q0) hb); replace a2 := aM (Kd.R_elder' (rS a2) (Kd.R_base o4) hb); replace a6 := aM (Kd.S_mono (Kd.S_told (Kd.S_told (Kd.S_told (Kd.S_old (sS a6) hb) (Kd.R_base q0)) (Kd.R_base o4)) (Kd.S_base w9)) (fun _ h_ => h_.1)); replace a7 := aM (Kd.S_mono (Kd.S_told (Kd.S_told (Kd.S_old (sS a7) hb) (Kd.R_base o4)) (Kd.S_base x0)) (fun _ h_ => h_.1)); replace b6 := kB_ e3 hb; replace b7 := kB_ f3 hb; replace b1 := kB_ b2 hb; replace a3 := kB_ a9 hb; replace HB := hB hb; (try clear hb q0 o4 w9 x0); obtain ⟨Z4, Z5, Z6⟩ := Kd.R_slice I6.out; subst Z6; have hnb314 := nP d3 d2; have hz315 := cz13 b1; obtain ⟨Z7, Z8, Z9⟩ := Kd.R_slice I7.out; subst Z9; obtain ⟨aa0, aa1, aa2⟩ := Kd.S_slice I8.out; subst aa2; obtain ⟨aa3, aa4, aa5⟩ := Kd.S_slice I9.out; subst aa5))
        refine bodyPost_ret (results_ct rfl _ _ b2 35 #[.slice Z4 X7.length Z5, .int .i64 X8, .int .i64 X9, .int .i64 Y0, .int .i64 Y1, .slice Z7 Y2.length Z8, .int .i64 Y3, .int .i64 Y4, .int .i64 Y5, .int .i64 Y6, .int .i64 Y7, .slice aa0 Y8.length aa1, .slice aa3 Y9.length aa4] (0, 0) _ rfl kS Try.underlying35 rfl (by kernel_rfl)) rfl ?_
        exact ⟨_, _, _, _, eS, Kd.R_V (by exact Kd.R_mono (R_on (g := b2) (Kd.R_types I6.out b1.out (by decide)) (fun _ hk => hk.2)) (fun _ hk => hk.1.1.1)), Kd.R_V (by exact Kd.R_mono (R_on (g := b2) (Kd.R_types I7.out b1.out (by decide)) (fun _ hk => hk.2)) (fun _ hk => hk.1.1.1)), Kd.S_V (by exact Kd.S_mono (S_on (g := b2) (Kd.S_types I8.out b1.out (by decide)) (fun _ hk => hk.2)) (fun _ hk => hk.1.1.1.1.1)), Kd.S_V (by exact Kd.S_mono (S_on (g := b2) (Kd.S_types I9.out b1.out (by decide)) (fun _ hk => hk.2)) (fun _ hk => hk.1.1.1.1)), bS⟩
      ·obtain rfl := Bool.eq_false_iff.mpr W2
       rw [if_neg nF] at H
       replace H := bN H
       obtain ⟨⟨aa6, aa7, aa8, aa9, ab0, ab1, ab2, ab3, ab4, ab5, ab6, ab7, ab8⟩, an2, H⟩ := H
       simp only [Option.some.injEq, Prod.mk.injEq] at H
       obtain ⟨rfl, rfl, rfl, rfl, rfl, rfl, rfl, rfl, rfl, rfl, rfl, rfl, rfl, rfl⟩ := H
       have hnb320 := nP d0 d1
       have hnb321 := nP e6 e7
       have hnb322 := nP f4 h6
       have hz323 := cz13 b6
       go_wp2_with (first | ((with_reducible refine gC 56 ?_); refine cM (some 98) Try.func56 (spec_l07Copy.calls kj34 _ _ g1 h9 i1 i3 i4 _ _ h5 i5 i6 i7 i8 e2 _ _ d5 _ _ d6 aa6 aa7 aa8 aa9 ab0 ab1 ab2 ab3 ab4 ab5 ab6 ab7 ab8 _ (cC o5 HB) o6.out (cC s3 HB) s4.out (cC n7 HB) n8.out (cC o0 HB) o1.out an2.out) ?_; rintro e ay2 ⟨ay3, ay4, ay5, ay6, rfl, q0, o4, w9, x0, hb⟩; refine ⟨_, rfl, ?_⟩; have J0 := aM (Kd.R_lower (Kd.R_new' (Kd.R_newM (M := fun k_ => (w.heap.size ≤ k_)) q0 (below_size bS) (fun k_ h_ => h_)) (Kd.R_lt (rS a5))) (below_size bS)); have J1 := aM (Kd.R_lower (Kd.R_new' (Kd.R_newM (M := fun k_ => (w.heap.size ≤ k_)) o4 (below_size bS) (fun k_ h_ => h_)) (Kd.R_lt (rS a2))) (below_size bS)); have J2 := aM (Kd.S_lower (Kd.S_new' (Kd.S_new' (Kd.S_new' (Kd.S_newM (M := fun k_ => (w.heap.size ≤ k_)) w9 (below_size bS) (fun k_ h_ => h_)) (Kd.R_lt (rS a5))) (Kd.R_lt (rS a2))) (Kd.S_lt (sS a6))) (below_size bS)); have J3 := aM (Kd.S_lower (Kd.S_new' (Kd.S_new' (Kd.S_newM (M := fun k_ => (w.heap.size ≤ k_)) x0 (below_size bS) (fun k_ h_ => h_)) (Kd.R_lt (rS a2))) (Kd.S_lt (sS a7))) (below_size bS)); replace a5 := aM (Kd.R_elder' (rS a5) (Kd.R_base q0) hb); replace a2 := aM (Kd.R_elder' (rS a2) (Kd.R_base o4) hb); replace a6 := aM (Kd.S_mono (Kd.S_told (Kd.S_told (Kd.S_told (Kd.S_old (sS a6) hb) (Kd.R_base q0)) (Kd.R_base o4)) (Kd.S_base w9)) (fun _ h_ => h_.1)); replace a7 := aM (Kd.S_mono (Kd.S_told (Kd.S_told (Kd.S_old (sS a7) hb) (Kd.R_base o4)) (Kd.S_base x0)) (fun _ h_ => h_.1)); replace b6 := kB_ e3 hb; replace b7 := kB_ f3 hb; replace b1 := kB_ b2 hb; replace a3 := kB_ a9 hb; replace HB := hB hb; (try clear hb q0 o4 w9 x0); obtain ⟨ab9, ac0, ac1⟩ := Kd.R_slice J0.out; subst ac1; have hnb326 := nP d3 d2; have hnb327 := nP f6 h7; have hz328 := cz13 b1; obtain ⟨ac2, ac3, ac4⟩ := Kd.R_slice J1.out; subst ac4; obtain ⟨ac5, ac6, ac7⟩ := Kd.S_slice J2.out; subst ac7; obtain ⟨ac8, ac9, ad0⟩ := Kd.S_slice J3.out; subst ad0))
       refine bodyPost_ret (results_ct rfl _ _ b2 35 #[.slice ab9 aa6.length ac0, .int .i64 aa7, .int .i64 aa8, .int .i64 aa9, .int .i64 ab0, .slice ac2 ab1.length ac3, .int .i64 ab2, .int .i64 ab3, .int .i64 ab4, .int .i64 ab5, .int .i64 ab6, .slice ac5 ab7.length ac6, .slice ac8 ab8.length ac9] (0, 0) _ rfl kS Try.underlying35 rfl (by kernel_rfl)) rfl ?_
       exact ⟨_, _, _, _, eS, Kd.R_V (by exact Kd.R_mono (R_on (g := b2) (Kd.R_types J0.out b1.out (by decide)) (fun _ hk => hk.2)) (fun _ hk => hk.1.1.1)), Kd.R_V (by exact Kd.R_mono (R_on (g := b2) (Kd.R_types J1.out b1.out (by decide)) (fun _ hk => hk.2)) (fun _ hk => hk.1.1.1)), Kd.S_V (by exact Kd.S_mono (S_on (g := b2) (Kd.S_types J2.out b1.out (by decide)) (fun _ hk => hk.2)) (fun _ hk => hk.1.1.1.1.1)), Kd.S_V (by exact Kd.S_mono (S_on (g := b2) (Kd.S_types J3.out b1.out (by decide)) (fun _ hk => hk.2)) (fun _ hk => hk.1.1.1.1)), bS⟩

end Go.Proofs.Ytjodcfjaedhpeaa.QFnPages
