-- Made out of the translation by a program of this session (a changed copy of the print). Not trusted: Lean checks it.
import Derived.Test.YtpickbenfkcpmaaQFnRuns7x140
namespace Go.Proofs.Ytpickbenfkcpmaa.QFnRuns7
open Go.RowKit Go.Proofs.YtpickbenfkcpmaaW.PrintWords Go.Proofs.YtpickbenfkcpmaaW.PrintLast Go.Proofs.YtpickbenfkcpmaaW.PrintMore
attribute [local go_sem] max2_int min2_int max_two min_two max_three min_three max_four min_four   -- for this text's walks alone
set_option linter.unusedVariables false
set_option linter.unusedSimpArgs false
set_option maxHeartbeats 64000000
set_option maxRecDepth 100000

theorem impl_ExecToken.calls2 (k : Nat) (t4 : Option Addr) (t5 : Nat) (i8 : List Int) (j8 : Int) (j9 : Int) (k0 : Int) (k1 : Int) (t6 : Option Addr) (t7 : Nat) (i9 : List (S90)) (k2 : Int) (k3 : Int) (k4 : Int) (k5 : Int) (g1 : Int) (m9 : Option Addr) (n0 : Nat) (f5 : List (S33)) (n1 : Option Addr) (n2 : Nat) (f6 : List (S82)) (i1 : ByteArray) (q0 : Int) (r1 : List Int) (r2 : Int) (r3 : Int) (r4 : Int) (r5 : Int) (r6 : List (S90)) (r7 : Int) (r8 : Int) (r9 : Int) (x9 : Int) (y0 : Int) (y1 : List (S33)) (y2 : List (S82)) (y3 : Bool) (w : World) (y4 : Kd.C (Kd.int .i64) w t4 i8.length i8) (y5 : i8.length ≤ t5) (y6 : Kd.C k90 w t6 i9.length i9) (y7 : i9.length ≤ t7) (u9 : Kd.C k33 w m9 f5.length f5) (v0 : f5.length ≤ n0) (v1 : Kd.C k82 w n1 f6.length f6) (v2 : f6.length ≤ n2) (h : impl_ExecToken.f k i8 j8 j9 k0 k1 i9 k2 k3 k4 k5 g1 f5 f6 i1 q0 = some (r1, r2, r3, r4, r5, r6, r7, r8, r9, x9, y0, y1, y2, y3)) (hA_ : Aside0 (i1.toList ∈ ([[103, 114, 97, 121], [102, 105, 108, 108], [99, 108, 105, 112], [115, 97, 118, 101], [114, 101, 115, 116, 111, 114, 101]] : List (List UInt8)))) :
  Calls Try.prog 9 #[.agg #[.slice t4 i8.length t5, .int .i64 j8, .int .i64 j9, .int .i64 k0, .int .i64 k1, .slice t6 i9.length t7, .int .i64 k2, .int .i64 k3, .int .i64 k4, .int .i64 k5, .int .i64 g1, .slice m9 f5.length n0, .slice n1 f6.length n2], .agg #[.string i1, .int .i64 q0]] w fun e w' => ∃ v0_ v5_ v11_ v12_ : Value, e = .returned (.tuple #[.agg #[v0_, .int .i64 r2, .int .i64 r3, .int .i64 r4, .int .i64 r5, v5_, .int .i64 r7, .int .i64 r8, .int .i64 r9, .int .i64 x9, .int .i64 y0, v11_, v12_], .bool y3]) ∧ Kd.V (Kd.int .i64) 3 w' w.heap.size (fun k_ => (w.heap.size ≤ k_)) v0_ r1 ∧ Kd.V k90 90 w' w.heap.size (fun k_ => (w.heap.size ≤ k_)) v5_ r6 ∧ Kd.V k33 33 w' w.heap.size (fun k_ => (w.heap.size ≤ k_)) v11_ y1 ∧ Kd.V k82 82 w' w.heap.size (fun k_ => (w.heap.size ≤ k_)) v12_ y2 ∧ Below w.heap.size w w' := by
 have hu37 := Try.underlying37
 have hu46 := Try.underlying46
 have hu28 := Try.underlying28
 have hu90 := Try.underlying90
 have hu31 := Try.underlying31
 have hu82 := Try.underlying82
 have hu33 := Try.underlying33
 have n5 := aM y4
 have n6 := aM y5
 clear y4 y5
 have n7 := aM y6
 have n8 := aM y7
 clear y6 y7
 have l9 := aM u9
 have m0 := aM v0
 clear u9 v0
 have m1 := aM v1
 have m2 := aM v2
 clear v1 v2
 have HB := aM (Below.refl w.heap.size w)
 have H := h
 clear h
 unfold impl_ExecToken.f at H
 have W1 := aM H
 clear H
 go_enter Try.func9, Try.ntmps9
 go_upto_region 1 with (first | ((with_reducible refine gD 2 ?_); refine bxE #[.slice t4 i8.length t5, .int .i64 j8, .int .i64 j9, .int .i64 k0, .int .i64 k1, .slice t6 i9.length t7, .int .i64 k2, .int .i64 k3, .int .i64 k4, .int .i64 k5, .int .i64 g1, .slice m9 f5.length n0, .slice n1 f6.length n2] 37 ?_; intro e5 hg w4 d3 hb; have GE623 := gE hg; replace HB := hB hb; clear hb hg) | ((with_reducible refine gD 3 ?_); refine bxE #[.string i1, .int .i64 q0] 46 ?_; intro f7 hg w5 d4 hb; have GE624 := gE hg; have d6 := nL_ e5 hg; have e0 := nG_ e5 hg; replace d3 := kB_ e5 hb; replace HB := hB hb; clear hb hg) | ((with_reducible refine gD 4 ?_); refine bxE #[.slice none 0 0, .int .i64 0, .int .i64 0, .int .i64 0, .int .i64 0, .slice none 0 0, .int .i64 0, .int .i64 0, .int .i64 0, .int .i64 0, .int .i64 0, .slice none 0 0, .slice none 0 0] 37 ?_; intro d1 hg w6 b6 hb; have GE625 := gE hg; have g2 := nL_ e5 hg; have g3 := nG_ e5 hg; have e1 := nL_ f7 hg; have e2 := nG_ f7 hg; replace d3 := kB_ e5 hb; replace d4 := kB_ f7 hb; replace HB := hB hb; clear hb hg))
 (try simp only [Act.put, List.setIfInBounds_toArray, List.set_cons_zero, List.set_cons_succ])
 go_cut [20] (fun v20 wc => ∃ (kq : Nat) (r0 : Bool), v20 = .bool r0 ∧ Aside0 (impl_ExecToken.j0 kq r0 i8 j8 j9 k0 k1 i9 k2 k3 k4 k5 g1 f5 f6 i1 q0 = some (r1, r2, r3, r4, r5, r6, r7, r8, r9, x9, y0, y1, y2, y3)) ∧ Aside0 (kq ≤ k) ∧ Aside0 (wc.heap[e5]? = some (.cells #[(.slice t4 i8.length t5), .int .i64 j8, .int .i64 j9, .int .i64 k0, .int .i64 k1, (.slice t6 i9.length t7), .int .i64 k2, .int .i64 k3, .int .i64 k4, .int .i64 k5, .int .i64 g1, (.slice m9 f5.length n0), (.slice n1 f6.length n2)] 37 (0, 0))) ∧ Aside0 (wc.heap[f7]? = some (.cells #[.string i1, .int .i64 q0] 46 (0, 0))) ∧ Aside0 (wc.heap[d1]? = some (.cells #[(.slice none 0 0), .int .i64 0, .int .i64 0, .int .i64 0, .int .i64 0, (.slice none 0 0), .int .i64 0, .int .i64 0, .int .i64 0, .int .i64 0, .int .i64 0, (.slice none 0 0), (.slice none 0 0)] 37 (0, 0))) ∧ Aside0 (Below w.heap.size w wc))
 case first =>
  have H := W1.out
  clear W1
  replace H := bN H
  obtain ⟨W2, A7, H⟩ := H
  by_cases c8 : W2 = true
  ·subst c8
   rw [if_pos rfl] at H
   replace H := bN H
   obtain ⟨G6, A9, H⟩ := H
   have H' := aM H
   clear H
   have hnb10 := nP d6 e0
   have hnb11 := nP g2 g3
   have hz12 := cz13 d3
   go_wp2_with (first | ((with_reducible refine gC 19 ?_); refine cM (some 14) Try.func19 (impl_PageOk.calls k _ _ i8 j8 j9 k0 k1 _ _ i9 k2 k3 k4 k5 g1 _ _ f5 _ _ f6 _ _ (cC n5 HB) n6.out (cC n7 HB) n8.out (cC l9 HB) m0.out (cC m1 HB) m2.out A7.out) ?_; rintro e w13 ⟨rfl, hb⟩; refine ⟨_, rfl, ?_⟩; replace d3 := kB_ e5 hb; replace d4 := kB_ f7 hb; replace b6 := kB_ d1 hb; replace HB := hB hb; (try clear hb); have hnb14 := nP e1 e2; have hz15 := cz2 d4) | (go_at_call 20; (with_reducible refine (impl_TokenOk.calls k i1 q0 G6 _ A9.out).mono ?_); rintro e w16 ⟨rfl, hb⟩; replace d3 := kB_ e5 hb; replace d4 := kB_ f7 hb; replace b6 := kB_ d1 hb; replace HB := hB hb; (try clear hb)))
   go_meet
   case rel => exact ⟨_, (!G6), fS, H', ⟨by first | omega | exact Nat.le_refl _⟩, ⟨kS⟩, ⟨kS⟩, ⟨kS⟩, ⟨bS⟩⟩
  ·obtain rfl := Bool.eq_false_iff.mpr c8
   rw [if_neg nF] at H
   have H' := aM H
   clear H
   have hnb17 := nP d6 e0
   have hnb18 := nP g2 g3
   have hz19 := cz13 d3
   go_wp2_with (first | ((with_reducible refine gC 19 ?_); refine cM (some 14) Try.func19 (impl_PageOk.calls k _ _ i8 j8 j9 k0 k1 _ _ i9 k2 k3 k4 k5 g1 _ _ f5 _ _ f6 _ _ (cC n5 HB) n6.out (cC n7 HB) n8.out (cC l9 HB) m0.out (cC m1 HB) m2.out A7.out) ?_; rintro e w20 ⟨rfl, hb⟩; refine ⟨_, rfl, ?_⟩; replace d3 := kB_ e5 hb; replace d4 := kB_ f7 hb; replace b6 := kB_ d1 hb; replace HB := hB hb; (try clear hb)))
   go_meet
   case rel => exact ⟨_, (true), fS, H', ⟨by first | omega | exact Nat.le_refl _⟩, ⟨kS⟩, ⟨kS⟩, ⟨kS⟩, ⟨bS⟩⟩
 case rest =>
  clear W1
  try clear c1
  try clear p2
  try clear c8
  try clear c9
  try clear c10
  try clear c11
  try clear c14
  try clear c17
  try clear c18
  try clear c19
  obtain ⟨kq, r0, rfl, HA, HJ2, d3, d4, b6, HB⟩ := hcut
  cases kq with
  | zero => exact absurd HA.out (by simp [impl_ExecToken.j0])
  | succ kj2 =>
   have H := HA.out
   clear HA
   simp only [impl_ExecToken.j0] at H
   by_cases c21 : r0 = true
   ·subst c21
    rw [if_pos rfl] at H
    replace H := bN H
    obtain ⟨⟨G7, G8, G9, H2, H3, H4, H5, H6, H7, H8, H9, I0, I1⟩, A22, H⟩ := H
    simp only [Option.some.injEq, Prod.mk.injEq] at H
    obtain ⟨rfl, rfl, rfl, rfl, rfl, rfl, rfl, rfl, rfl, rfl, rfl, rfl, rfl, rfl⟩ := H
    have hnb23 := nP d6 e0
    have hnb24 := nP g2 g3
    have hz25 := cz13 d3
    go_wp2_with (first | ((with_reducible refine gC 21 ?_); refine cM (some 22) Try.func21 (impl_copyPage.calls kj2 _ _ i8 j8 j9 k0 k1 _ _ i9 k2 k3 k4 k5 g1 _ _ f5 _ _ f6 G7 G8 G9 H2 H3 H4 H5 H6 H7 H8 H9 I0 I1 _ (cC n5 HB) n6.out (cC n7 HB) n8.out (cC l9 HB) m0.out (cC m1 HB) m2.out A22.out) ?_; rintro e w26 ⟨ae7, ae8, ae9, af0, rfl, j7, l8, t8, t9, hb⟩; refine ⟨_, rfl, ?_⟩; have y8 := aM (Kd.R_lower (Kd.R_newM (M := fun k_ => (w.heap.size ≤ k_)) j7 (below_size bS) (fun k_ h_ => h_)) (below_size bS)); have y9 := aM (Kd.R_lower (Kd.R_newM (M := fun k_ => (w.heap.size ≤ k_)) l8 (below_size bS) (fun k_ h_ => h_)) (below_size bS)); have A0 := aM (Kd.S_lower (Kd.S_newM (M := fun k_ => (w.heap.size ≤ k_)) t8 (below_size bS) (fun k_ h_ => h_)) (below_size bS)); have A1 := aM (Kd.S_lower (Kd.S_newM (M := fun k_ => (w.heap.size ≤ k_)) t9 (below_size bS) (fun k_ h_ => h_)) (below_size bS)); replace d3 := kB_ e5 hb; replace d4 := kB_ f7 hb; replace b6 := kB_ d1 hb; replace HB := hB hb; (try clear hb j7 l8 t8 t9); obtain ⟨W3, W4, W5⟩ := Kd.R_slice y8.out; subst W5; have hnb28 := nP e2 e1; have hz29 := cz13 b6; obtain ⟨W6, W7, W8⟩ := Kd.R_slice y9.out; subst W8; obtain ⟨W9, X0, X1⟩ := Kd.S_slice A0.out; subst X1; obtain ⟨X2, X3, X4⟩ := Kd.S_slice A1.out; subst X4))
    refine bodyPost_ret (results_ct rfl _ _ d1 37 #[.slice W3 G7.length W4, .int .i64 G8, .int .i64 G9, .int .i64 H2, .int .i64 H3, .slice W6 H4.length W7, .int .i64 H5, .int .i64 H6, .int .i64 H7, .int .i64 H8, .int .i64 H9, .slice W9 I0.length X0, .slice X2 I1.length X3] (0, 0) _ rfl kS Try.underlying37 rfl (by kernel_rfl)) rfl ?_
    exact ⟨_, _, _, _, eS, Kd.R_V (by exact Kd.R_mono (R_on (g := d1) (Kd.R_types y8.out b6.out (by decide)) (fun _ hk => hk.2)) (fun _ hk => hk.1.1)), Kd.R_V (by exact Kd.R_mono (R_on (g := d1) (Kd.R_types y9.out b6.out (by decide)) (fun _ hk => hk.2)) (fun _ hk => hk.1.1)), Kd.S_V (by exact Kd.S_mono (S_on (g := d1) (Kd.S_types A0.out b6.out (by decide)) (fun _ hk => hk.2)) (fun _ hk => hk.1.1)), Kd.S_V (by exact Kd.S_mono (S_on (g := d1) (Kd.S_types A1.out b6.out (by decide)) (fun _ hk => hk.2)) (fun _ hk => hk.1.1)), bS⟩
   ·obtain rfl := Bool.eq_false_iff.mpr c21
    rw [if_neg nF] at H
    replace H := bN H
    obtain ⟨⟨k9, l3, l4, l5, l6, d0, j5, i4, i5, i6, i7, a5, e7⟩, A33, H⟩ := H
    replace H := bN H
    obtain ⟨⟨v3, I2⟩, A34, H⟩ := H
    have D5 := aM H
    clear H
    have hnb36 := nP d6 e0
    have hnb37 := nP g2 g3
    have hz38 := cz13 d3
    go_upto_block 0 with (first | ((with_reducible refine gC 21 ?_); refine cM (some 24) Try.func21 (impl_copyPage.calls kj2 _ _ i8 j8 j9 k0 k1 _ _ i9 k2 k3 k4 k5 g1 _ _ f5 _ _ f6 k9 l3 l4 l5 l6 d0 j5 i4 i5 i6 i7 a5 e7 _ (cC n5 HB) n6.out (cC n7 HB) n8.out (cC l9 HB) m0.out (cC m1 HB) m2.out A33.out) ?_; rintro e w39 ⟨af4, af5, af6, af7, rfl, j7, l8, t8, t9, hb⟩; refine ⟨_, rfl, ?_⟩; have e6 := aM (Kd.R_lower (Kd.R_newM (M := fun k_ => (w.heap.size ≤ k_)) j7 (below_size bS) (fun k_ h_ => h_)) (below_size bS)); have a8 := aM (Kd.R_lower (Kd.R_newM (M := fun k_ => (w.heap.size ≤ k_)) l8 (below_size bS) (fun k_ h_ => h_)) (below_size bS)); have a7 := aM (Kd.S_lower (Kd.S_newM (M := fun k_ => (w.heap.size ≤ k_)) t8 (below_size bS) (fun k_ h_ => h_)) (below_size bS)); have a9 := aM (Kd.S_lower (Kd.S_newM (M := fun k_ => (w.heap.size ≤ k_)) t9 (below_size bS) (fun k_ h_ => h_)) (below_size bS)); replace d3 := kB_ e5 hb; replace d4 := kB_ f7 hb; replace b6 := kB_ d1 hb; replace HB := hB hb; (try clear hb j7 l8 t8 t9)) | ((with_reducible refine gD 6 ?_); refine bxE #[.slice none 0 0, .int .i64 0, .int .i64 0, .int .i64 0, .int .i64 0, .slice none 0 0, .int .i64 0, .int .i64 0, .int .i64 0, .int .i64 0, .int .i64 0, .slice none 0 0, .slice none 0 0] 37 ?_; intro a3 hg w40 a2 hb; have GE670 := gE hg; have f8 := nL_ e5 hg; have g4 := nG_ e5 hg; have f9 := nL_ f7 hg; have g5 := nG_ f7 hg; have g0 := nL_ d1 hg; have g6 := nG_ d1 hg; replace e6 := rB e6 hb; replace a8 := rB a8 hb; replace a7 := sB a7 hb; replace a9 := sB a9 hb; replace d3 := kB_ e5 hb; replace d4 := kB_ f7 hb; replace b6 := kB_ d1 hb; replace HB := hB hb; clear hb hg; obtain ⟨q2, m8, X5⟩ := Kd.R_slice e6.out; subst X5; have hnb42 := nP g4 f8; have hnb43 := nP g5 f9; have hnb44 := nP g6 g0; have hz45 := cz13 a2; obtain ⟨e8, e9, X6⟩ := Kd.R_slice a8.out; subst X6; obtain ⟨l7, i3, X7⟩ := Kd.S_slice a7.out; subst X7; obtain ⟨k6, k7, X8⟩ := Kd.S_slice a9.out; subst X8; have hnb49 := nP e1 e2; have hz50 := cz2 d4) | ((with_reducible refine gC 22 ?_); refine cM (some 28) Try.func22 (impl_taken.calls kj2 i1 v3 I2 _ A34.out) ?_; rintro e w' ⟨rfl, ⟨nd, rfl⟩⟩; refine ⟨_, rfl, ?_⟩))
    (try simp only [Act.put, List.setIfInBounds_toArray, List.set_cons_zero, List.set_cons_succ])
    go_cut [7] (fun v7 wc => ∃ (kq : Nat) (s0 : Bool) (g7 : List Int) (g8 : Int) (g9 : Int) (h0 : Int) (h1 : Int) (h2 : List (S90)) (h3 : Int) (h4 : Int) (h5 : Int) (h6 : Int) (h7 : Int) (h8 : List (S33)) (h9 : List (S82)) (m6 : Value) (m7 : Value) (o4 : Value) (o5 : Value), v7 = .bool s0 ∧ Aside0 (impl_ExecToken.j4 kq s0 i8 j8 j9 k0 k1 i9 k2 k3 k4 k5 g1 f5 f6 g7 g8 g9 h0 h1 h2 h3 h4 h5 h6 h7 h8 h9 = some (r1, r2, r3, r4, r5, r6, r7, r8, r9, x9, y0, y1, y2, y3)) ∧ Aside0 (kq ≤ kj2) ∧ Aside0 (Kd.R (Kd.int .i64) 3 wc w.heap.size (fun k_ => (w.heap.size ≤ k_)) m6 g7) ∧ Aside0 (Kd.R k90 90 wc w.heap.size (fun k_ => (w.heap.size ≤ k_)) m7 h2) ∧ Aside0 (Kd.S k33 33 wc w.heap.size (fun k_ => (w.heap.size ≤ k_) ∧ some k_ ≠ (m6 : Value).ownBlock ∧ some k_ ≠ (m7 : Value).ownBlock) o4 h8) ∧ Aside0 (Kd.S k82 82 wc w.heap.size (fun k_ => (w.heap.size ≤ k_)) o5 h9) ∧ Aside0 (wc.heap[e5]? = some (.cells #[(.slice t4 i8.length t5), .int .i64 j8, .int .i64 j9, .int .i64 k0, .int .i64 k1, (.slice t6 i9.length t7), .int .i64 k2, .int .i64 k3, .int .i64 k4, .int .i64 k5, .int .i64 g1, (.slice m9 f5.length n0), (.slice n1 f6.length n2)] 37 (0, 0))) ∧ Aside0 (wc.heap[f7]? = some (.cells #[.string i1, .int .i64 q0] 46 (0, 0))) ∧ Aside0 (wc.heap[d1]? = some (.cells #[(.slice none 0 0), .int .i64 0, .int .i64 0, .int .i64 0, .int .i64 0, (.slice none 0 0), .int .i64 0, .int .i64 0, .int .i64 0, .int .i64 0, .int .i64 0, (.slice none 0 0), (.slice none 0 0)] 37 (0, 0))) ∧ Aside0 (wc.heap[a3]? = some (.cells #[m6, .int .i64 g8, .int .i64 g9, .int .i64 h0, .int .i64 h1, m7, .int .i64 h3, .int .i64 h4, .int .i64 h5, .int .i64 h6, .int .i64 h7, o4, o5] 37 (0, 0))) ∧ Aside0 (Below w.heap.size w wc))
    case first =>
     have H := D5.out
     clear D5
     by_cases X9 : i1.toList = ([] : List UInt8)
     ·exact absurd hA_.out (by rw [X9]; decide)
     ·rw [if_neg X9] at H
      obtain ⟨A2, ab7⟩ := eqF X9
      (first | rw [A2] | (simp only [i64_w, i32_w]; rw [A2]) | skip)
      replace H := bN H
      obtain ⟨Y0, V0, H⟩ := H
      by_cases c64 : Y0 = true
      ·subst c64
       rw [if_pos rfl] at H
       replace H := bN H
       obtain ⟨⟨D6, I3⟩, A65, H⟩ := H
       have H' := aM H
       clear H
       have hnb66 := nP e0 d6
       have hnb67 := nP e1 e2
       have hnb68 := nP f9 g5
       have hz69 := cz2 d4
       go_wp2_with (first | ((with_reducible refine gC 24 ?_); refine cM (some 49) Try.func24 (impl_IsStackOp.calls i1 _ _ V0.out) ?_; rintro e w' ⟨rfl, ⟨nd, rfl⟩⟩; refine ⟨_, rfl, ?_⟩; have hnb70 := nP g4 f8; have hnb71 := nP g6 g0; have V1 := cg0 a2; have V2 := blk_frozen a2.out 0) | ((with_reducible refine gC 25 ?_); refine cL (some 56) Try.func25 #[.slice q2 k9.length m8, .string i1] ?_; (with_reducible refine (impl_StackOp.calls kj2 _ _ k9 i1 D6 I3 _ ?side1 ?side2 A65.out).mono ?_); (case side1 => refine (Kd.R_reads' (e := 3) (base := w.heap.size) (ok := fun k_ => ((w.heap.size ≤ k_) ∧ True)) (n := k9.length) (c := m8) ?_).2.2; exact (by exact rG e6 a2)); (case side2 => exact (Kd.R_reads' e6.out).2.1); rintro e w73 ⟨af9, rfl, j7, hb⟩; refine ⟨_, rfl, ?_⟩; have A3 := aM (Kd.R_lower (Kd.R_new' (Kd.R_newM (M := fun k_ => (w.heap.size ≤ k_)) j7 (below_size bS) (fun k_ h_ => h_)) (Kd.R_lt (by exact rG e6 a2))) (below_size bS)); replace e6 := aM (Kd.R_elder' (by exact rG e6 a2) (Kd.R_base j7) hb); replace a8 := aM (Kd.R_below (by exact rG a8 a2) hb); replace a7 := aM (Kd.S_elder' (by exact sG a7 a2) (Kd.R_base j7) hb); replace a9 := aM (Kd.S_below (by exact sG a9 a2) hb); replace d3 := kB_ e5 hb; replace d4 := kB_ f7 hb; replace b6 := kB_ d1 hb; replace a2 := kB_ a3 hb; replace HB := hB hb; (try clear hb hk j7); obtain ⟨Y1, Y2, Y3⟩ := Kd.R_slice A3.out; subst Y3; have V3 := cg0 a2; have V4 := blk_frozen a2.out 0))
       go_meet
       case rel => exact ⟨_, (I3), (D6), (l3), (l4), (l5), (l6), (d0), (j5), (i4), (i5), (i6), (i7), (a5), (e7), (.slice Y1 D6.length Y2), (.slice e8 d0.length e9), (.slice l7 a5.length i3), (.slice k6 e7.length k7), fS, H', ⟨by have := HJ2.out; first | omega | exact Nat.le_refl _⟩, ⟨rW [a3] A3 a2⟩, ⟨rW [a3] a8 a2⟩, ⟨sW [a3] a7 a2⟩, ⟨sW [a3] a9 a2⟩, ⟨kS⟩, ⟨kS⟩, ⟨kS⟩, ⟨kS⟩, ⟨bS⟩⟩
      ·obtain rfl := Bool.eq_false_iff.mpr c64
       rw [if_neg nF] at H
       by_cases Y4 : I2 = true
       ·subst Y4
        rw [if_pos rfl] at H
        replace H := bN H
        obtain ⟨⟨d2, j6, Y5⟩, A77, H⟩ := H
        by_cases Y6 : Y5 = true
        ·subst Y6
         rw [if_pos rfl] at H
         have I4 := aM H
         clear H
         have hnb80 := nP e0 d6
         have hnb81 := nP e1 e2
         have hnb82 := nP f9 g5
         have hz83 := cz2 d4
         go_wp2_with (first | ((with_reducible refine gC 24 ?_); refine cM (some 49) Try.func24 (impl_IsStackOp.calls i1 _ _ V0.out) ?_; rintro e w' ⟨rfl, ⟨nd, rfl⟩⟩; refine ⟨_, rfl, ?_⟩; have hnb84 := nP g4 f8; have hnb85 := nP g6 g0; have V5 := cg0 a2; have V6 := blk_frozen a2.out 0) | ((with_reducible refine gC 26 ?_); refine cL (some 68) Try.func26 #[.slice q2 k9.length m8, .int .i64 v3] ?_; (with_reducible refine (impl_TakeNumbers.calls kj2 _ _ k9 v3 d2 j6 _ _ ?side1 ?side2 A77.out).mono ?_); (case side1 => refine (Kd.R_reads' (e := 3) (base := w.heap.size) (ok := fun k_ => ((w.heap.size ≤ k_) ∧ True)) (n := k9.length) (c := m8) ?_).2.2; exact (by exact rG e6 a2)); (case side2 => exact (Kd.R_reads' e6.out).2.1); rintro e w87 ⟨Y7, q8, rfl, j7, l8, hb⟩; refine ⟨_, rfl, ?_⟩; have b0 := aM (Kd.R_lower (Kd.R_new' (Kd.R_newM (M := fun k_ => (w.heap.size ≤ k_)) j7 (below_size bS) (fun k_ h_ => h_)) (Kd.R_lt (by exact rG e6 a2))) (below_size bS)); have b2 := aM (Kd.R_lower (Kd.R_new' (Kd.R_newM (M := fun k_ => (w.heap.size ≤ k_)) l8 (below_size bS) (fun k_ h_ => h_)) (Kd.R_lt (by exact rG e6 a2))) (below_size bS)); replace e6 := aM (Kd.R_mono (Kd.R_told (Kd.R_told (Kd.R_old (by exact rG e6 a2) hb) (Kd.R_base j7)) (Kd.R_base l8)) (fun _ h_ => h_.1)); replace a8 := aM (Kd.R_below (by exact rG a8 a2) hb); replace a7 := aM (Kd.S_mono (Kd.S_told (Kd.S_told (Kd.S_old (by exact sG a7 a2) hb) (Kd.R_base j7)) (Kd.R_base l8)) (fun _ h_ => h_.1)); replace a9 := aM (Kd.S_below (by exact sG a9 a2) hb); replace d3 := kB_ e5 hb; replace d4 := kB_ f7 hb; replace b6 := kB_ d1 hb; replace a2 := kB_ a3 hb; replace HB := hB hb; (try clear hb hk j7 l8); obtain ⟨e3, e4, Y8⟩ := Kd.R_slice b0.out; subst Y8; have V7 := cg0 a2; have V8 := blk_frozen a2.out 0) | ((with_reducible refine gate_store (t := 26) (p := 74) rfl ?_); refine store_event (t := 26) (p := 74) (v := ?vo_w90) (w1 := (w87.setCell ⟨a3, 0, none⟩ (.slice e3 d2.length e4))) ?hg ?ho ?hn ?hr ?_; (case ho => rfl); (case hg => rfl); (case hn => rfl); (case hr => first | (go_simp; done) | (go_simp; rfl)); intro q9 hw; replace e6 : Aside0 (Kd.R (Kd.int .i64) 3 q9 w.heap.size (fun k_ => (w.heap.size ≤ k_) ∧ some k_ ≠ (.slice e3 d2.length e4 : Value).ownBlock ∧ some k_ ≠ (q8 : Value).ownBlock) (.slice q2 k9.length m8) k9) := ⟨(by rw [hw]; exact (by exact rT (Kd.R_mono (Kd.R_far (p := ⟨a3, 0, none⟩) (Kd.R_types e6.out a2.out (by decide)) (fun _ hk => hk.2) (.slice e3 d2.length e4)) (fun _ hk => ⟨hk.1.1.1.1, ⟨hk.1.1.2, hk.1.2⟩⟩))))⟩; replace a8 : Aside0 (Kd.R k90 90 q9 w.heap.size (fun k_ => (w.heap.size ≤ k_)) (.slice e8 d0.length e9) d0) := ⟨(by rw [hw]; exact (by exact rT (Kd.R_mono (Kd.R_far (p := ⟨a3, 0, none⟩) (Kd.R_types a8.out a2.out (by decide)) (fun _ hk => hk.2) (.slice e3 d2.length e4)) (fun _ hk => hk.1.1))))⟩; replace a7 : Aside0 (Kd.S k33 33 q9 w.heap.size (fun k_ => (w.heap.size ≤ k_) ∧ some k_ ≠ (.slice q2 k9.length m8 : Value).ownBlock ∧ some k_ ≠ (.slice e8 d0.length e9 : Value).ownBlock ∧ some k_ ≠ (.slice e3 d2.length e4 : Value).ownBlock ∧ some k_ ≠ (q8 : Value).ownBlock) (.slice l7 a5.length i3) a5) := ⟨(by rw [hw]; exact (by exact sT (Kd.S_mono (Kd.S_far (p := ⟨a3, 0, none⟩) (Kd.S_types a7.out a2.out (by decide)) (fun _ hk => hk.2) (.slice e3 d2.length e4)) (fun _ hk => ⟨hk.1.1.1.1, ⟨hk.1.1.1.2.1, ⟨hk.1.1.1.2.2, ⟨hk.1.1.2, hk.1.2⟩⟩⟩⟩))))⟩; replace a9 : Aside0 (Kd.S k82 82 q9 w.heap.size (fun k_ => (w.heap.size ≤ k_) ∧ some k_ ≠ (.slice e8 d0.length e9 : Value).ownBlock) (.slice k6 e7.length k7) e7) := ⟨(by rw [hw]; exact (by exact sT (Kd.S_mono (Kd.S_far (p := ⟨a3, 0, none⟩) (Kd.S_types a9.out a2.out (by decide)) (fun _ hk => hk.2) (.slice e3 d2.length e4)) (fun _ hk => ⟨hk.1.1, hk.1.2⟩))))⟩; replace b0 : Aside0 (Kd.R (Kd.int .i64) 3 q9 w.heap.size (fun k_ => (w.heap.size ≤ k_) ∧ some k_ ≠ (.slice q2 k9.length m8 : Value).ownBlock ∧ some k_ ≠ (q8 : Value).ownBlock) (.slice e3 d2.length e4) d2) := ⟨(by rw [hw]; exact (by exact rT (Kd.R_mono (Kd.R_far (p := ⟨a3, 0, none⟩) (Kd.R_types b0.out a2.out (by decide)) (fun _ hk => hk.2) (.slice e3 d2.length e4)) (fun _ hk => ⟨hk.1.1.1, ⟨hk.1.2, hk.1.1.2⟩⟩))))⟩; replace b2 : Aside0 (Kd.R (Kd.int .i64) 3 q9 w.heap.size (fun k_ => (w.heap.size ≤ k_) ∧ some k_ ≠ (.slice q2 k9.length m8 : Value).ownBlock ∧ some k_ ≠ (.slice e3 d2.length e4 : Value).ownBlock) q8 j6) := ⟨(by rw [hw]; exact (by exact rT (Kd.R_mono (Kd.R_far (p := ⟨a3, 0, none⟩) (Kd.R_types b2.out a2.out (by decide)) (fun _ hk => hk.2) (.slice e3 d2.length e4)) (fun _ hk => ⟨hk.1.1.1, ⟨hk.1.2, hk.1.1.2⟩⟩))))⟩; replace d3 : Aside0 (q9.heap[e5]? = some (.cells #[.slice t4 i8.length t5, .int .i64 j8, .int .i64 j9, .int .i64 k0, .int .i64 k1, .slice t6 i9.length t7, .int .i64 k2, .int .i64 k3, .int .i64 k4, .int .i64 k5, .int .i64 g1, .slice m9 f5.length n0, .slice n1 f6.length n2] 37 (0, 0))) := ⟨(by rw [hw]; exact kS)⟩; replace d4 : Aside0 (q9.heap[f7]? = some (.cells #[.string i1, .int .i64 q0] 46 (0, 0))) := ⟨(by rw [hw]; exact kS)⟩; replace b6 : Aside0 (q9.heap[d1]? = some (.cells #[.slice none 0 0, .int .i64 0, .int .i64 0, .int .i64 0, .int .i64 0, .slice none 0 0, .int .i64 0, .int .i64 0, .int .i64 0, .int .i64 0, .int .i64 0, .slice none 0 0, .slice none 0 0] 37 (0, 0))) := ⟨(by rw [hw]; exact kS)⟩; replace a2 : Aside0 (q9.heap[a3]? = some (.cells #[.slice e3 d2.length e4, .int .i64 l3, .int .i64 l4, .int .i64 l5, .int .i64 l6, .slice e8 d0.length e9, .int .i64 j5, .int .i64 i4, .int .i64 i5, .int .i64 i6, .int .i64 i7, .slice l7 a5.length i3, .slice k6 e7.length k7] 37 (0, 0))) := ⟨(by rw [hw]; exact kS)⟩; replace HB : Aside0 (Below w.heap.size w q9) := ⟨(by rw [hw]; exact bS)⟩; clear hw; have hz91 := cz2 d4))
         have H := I4.out
         clear I4
         have n_ := aM (Kd.S_mono (ok' := (fun k_ => (w.heap.size ≤ k_) ∧ some k_ ≠ (.slice e8 d0.length e9 : Value).ownBlock ∧ some k_ ≠ (.slice e3 d2.length e4 : Value).ownBlock ∧ some k_ ≠ (q8 : Value).ownBlock)) a7.out (fun k_ hk => ⟨hk.1, ⟨hk.2.2.1, ⟨hk.2.2.2.1, hk.2.2.2.2⟩⟩⟩))
         clear a7
         have a7 := n_
         clear n_
         have n_ := aM (Kd.R_mono (ok' := (fun k_ => (w.heap.size ≤ k_) ∧ some k_ ≠ (q8 : Value).ownBlock)) b0.out (fun k_ hk => ⟨hk.1, hk.2.2⟩))
         clear b0
         have b0 := n_
         clear n_
         have n_ := aM (Kd.R_mono (ok' := (fun k_ => (w.heap.size ≤ k_) ∧ some k_ ≠ (.slice e3 d2.length e4 : Value).ownBlock)) b2.out (fun k_ hk => ⟨hk.1, hk.2.2⟩))
         clear b2
         have b2 := n_
         clear n_
         (try clear e6)
         obtain ⟨L92, hF_, hM623_, hM624_, hM625_⟩ := FrI_pack3 d3.out d4.out b6.out f8.out f9.out g0.out [37, 46] (by decide) (by decide) (by decide)
         have HLM623 := aM hM623_
         have HLM624 := aM hM624_
         have HLM625 := aM hM625_
         have a6 := aM hF_
         clear hF_ hM623_ hM624_ hM625_ d3 d4 b6
         by_cases Y9 : i1.toList = ([110, 101, 119] : List UInt8)
         ·exact absurd hA_.out (by rw [Y9]; decide)
         ·rw [if_neg Y9] at H
          obtain ⟨ac0, ac1⟩ := eqF Y9
          by_cases Z0 : i1.toList = ([109, 111, 118, 101, 116, 111] : List UInt8)
          ·exact absurd hA_.out (by rw [Z0]; decide)
          ·rw [if_neg Z0] at H
           obtain ⟨ac2, ac3⟩ := eqF Z0
           by_cases D7 : i1.toList = ([108, 105, 110, 101, 116, 111] : List UInt8)
           ·exact absurd hA_.out (by rw [D7]; decide)
           ·rw [if_neg D7] at H
            obtain ⟨Z1, Z2⟩ := eqF D7
            by_cases D8 : i1.toList = ([114, 101, 99, 116] : List UInt8)
            ·exact absurd hA_.out (by rw [D8]; decide)
            ·rw [if_neg D8] at H
             obtain ⟨Z3, Z4⟩ := eqF D8
             by_cases u0 : i1.toList = ([102, 105, 108, 108] : List UInt8)
             ·skip
              rw [if_pos u0] at H
              obtain ⟨D9, E0⟩ := eqT u0
              clear u0
              by_cases u1 : (d0.length : Int) < 3
              ·rw [if_pos u1] at H
               have E1 : decide ((d0.length : Int) < 3) = true := decide_eq_true u1
               have E2 : decide (d0.length < 3) = true := decide_eq_true (by omega)
               clear u1
               have H' := aM H
               clear H
               obtain ⟨ac4, ac5, I5⟩ := Kd.R_slice b2.out
               subst I5
               go_at_call 27
               go_enter Try.func27, Try.ntmps27
               have I6 := cg5 a2
               try go_wp2
               (try (go_ret; (try simp only [])))
               (try (refine ⟨_, rfl, ?_⟩))
               have d3 := aM (FrI_get a6.out HLM623.out)
               have d4 := aM (FrI_get a6.out HLM624.out)
               have b6 := aM (FrI_get a6.out HLM625.out)
               clear a6
               try go_wp2
               go_meet
               case rel => exact ⟨_, (false), (d2), (l3), (l4), (l5), (l6), (d0), (j5), (i4), (i5), (i6), (i7), (a5), (e7), (.slice e3 d2.length e4), (.slice e8 d0.length e9), (.slice l7 a5.length i3), (.slice k6 e7.length k7), fS, H', ⟨by have := HJ2.out; first | omega | exact Nat.le_refl _⟩, ⟨by exact rT (Kd.R_mono b0.out (fun _ hk => hk.1))⟩, ⟨rS a8⟩, ⟨by exact sT (Kd.S_mono a7.out (fun _ hk => ⟨hk.1, ⟨hk.2.2.1, hk.2.1⟩⟩))⟩, ⟨by exact sT (Kd.S_mono a9.out (fun _ hk => hk.1))⟩, ⟨kS⟩, ⟨kS⟩, ⟨kS⟩, ⟨kS⟩, ⟨bS⟩⟩
              ·rw [if_neg u1] at H
               have E1 : decide ((d0.length : Int) < 3) = false := decide_eq_false u1
               have E2 : decide (d0.length < 3) = false := decide_eq_false (by omega)
               clear u1
               replace H := bN H
               obtain ⟨u2, Z5, H⟩ := H
               obtain ⟨LMc157, H⟩ := iL H
               obtain ⟨E3, hy_⟩ : ∃ y_ : List (S82), y_ = (e7 ++ [(⟨u2, j5, (⟨i4, i5, i6, i7⟩ : S31)⟩ : S82)]) := ⟨_, rfl⟩
               replace H : (impl_ExecToken.j4 kj2 true i8 j8 j9 k0 k1 i9 k2 k3 k4 k5 g1 f5 f6 d2 l3 l4 l5 l6 ([] : List (S90)) j5 i4 i5 i6 i7 a5 E3) = some (r1, r2, r3, r4, r5, r6, r7, r8, r9, x9, y0, y1, y2, y3) := yS
               have Ny722 := aM hy_
               clear hy_
               have H' := aM H
               clear H
               obtain ⟨ac6, ac7, I7⟩ := Kd.R_slice b2.out
               subst I7
               go_at_call 27
               go_enter Try.func27, Try.ntmps27
               have I8 := cg5 a2
               try go_wp2
               replace a8 := rD a8
               replace a7 := sD a7
               replace a9 := sD a9
               replace b0 := rD b0
               replace b2 := rD b2
               replace a2 := bD a2
               replace a6 := aM (FrI_drew a6.out)
               replace HB := hD HB
               refine start_ (n := 24) (S := fun w' => w'.cell? ⟨a3, 5, none⟩ = some (.slice e8 d0.length e9) ∧ w'.cell? ⟨a3, 6, none⟩ = some (.int .i64 j5) ∧ w'.cell? ⟨a3, 7, none⟩ = some (.int .i64 i4) ∧ w'.cell? ⟨a3, 8, none⟩ = some (.int .i64 i5) ∧ w'.cell? ⟨a3, 9, none⟩ = some (.int .i64 i6) ∧ w'.cell? ⟨a3, 10, none⟩ = some (.int .i64 i7) ∧ w'.cell? ⟨a3, 12, none⟩ = some (.slice k6 e7.length k7)) (ds := [23]) (mB 24 0) (by kernel_rfl) rfl rfl ⟨(blk_cell a2.out 5).trans rfl, (blk_cell a2.out 6).trans rfl, (blk_cell a2.out 7).trans rfl, (blk_cell a2.out 8).trans rfl, (blk_cell a2.out 9).trans rfl, (blk_cell a2.out 10).trans rfl, (blk_cell a2.out 12).trans rfl⟩ (fun hHeld => ?_); refine with_tabW impl_ExecToken.i27.tab36 impl_ExecToken.i27.bits36 (fun HT_ HW_ => ?_)
               generalize q9.drew = ag1 at a8 a7 a9 b0 b2 a2 a6 HB hHeld ⊢
               refine pU 0 (some 188) (mB 24 1) ?_
               refine pU 1 (some 189) (mB 24 3) ?_
               refine pU 2 (some 190) (mB 24 7) ?_
               refine pU 3 (some 191) (mB 24 15) ?_
               refine pU 5 (some 193) (mB 24 47) ?_
               refine pU 6 (some 194) (mB 24 111) ?_
               refine pU 7 (some 195) (mB 24 239) ?_
               refine pU 10 (some 198) (mB 24 1263) ?_
               refine pU 11 (some 199) (mB 24 3311) ?_
               refine pU 12 (some 200) (mB 24 7407) ?_
               refine pU 14 (some 202) (mB 24 23791) ?_
               refine pU 15 (some 203) (mB 24 56559) ?_
               refine pU 16 (some 204) (mB 24 122095) ?_
               refine tK 4 (some 192) (mB 24 122111) ?_
               refine tK 8 (some 196) (mB 24 122367) ?_
               refine tK 13 (some 201) (mB 24 130559) ?_
               refine tK 17 (some 205) (mB 24 261631) ?_
               refine one_ (i := 9) (N := some 197) (mB 24 262143) rfl rfl (one_of HT_.out (by kernel_rfl)) (by decide) (fun K hK => ?_)
               refine goes_ Try.func44 (by kernel_rfl) rfl #[.slice e8 d0.length e9] (by rfl) rfl rfl mA ?_
               with_reducible refine (impl_Point.calls _ _ d0 u2 _ ?side1 ?side2 Z5.out).mono ?_
               (case side1 => exact cS (Kd.R_reads' a8.out).2.2)
               (case side2 => exact (Kd.R_reads' a8.out).2.1)
               rintro e ag2 ⟨ag3, rfl, j7, hb⟩
               refine ⟨_, rfl, ?_⟩
               have s1 := aM (Kd.R_lower (Kd.R_new' (Kd.R_newM (M := fun k_ => (w.heap.size ≤ k_)) j7 (below_size bS) (fun k_ h_ => h_)) (Kd.R_lt (rS a8))) (below_size bS))
               replace a8 := aM (Kd.R_elder' (rS a8) (Kd.R_base j7) hb)
               replace a7 := aM (Kd.S_elder' (sS a7) (Kd.R_base j7) hb)
               replace a9 := aM (Kd.S_elder' (sS a9) (Kd.R_base j7) hb)
               replace b0 := rB b0 hb
               replace b2 := rB b2 hb
               replace a2 := kB_ a3 hb
               replace a6 := aM (FrI_belowS hb a6.out (FrN0 a6.out))
               replace HB := hB hb
               (try clear hb)
               (try clear Z6)
               (try clear hk)
               (try clear hi)
               (try clear j7)
               obtain ⟨A4, A5, A6⟩ := Kd.R_slice s1.out
               (first | subst A6 | obtain ⟨rfl, rfl⟩ := slE A6)
               refine hK.out _ _ ⟨(blk_cell a2.out 5).trans rfl, (blk_cell a2.out 6).trans rfl, (blk_cell a2.out 7).trans rfl, (blk_cell a2.out 8).trans rfl, (blk_cell a2.out 9).trans rfl, (blk_cell a2.out 10).trans rfl, (blk_cell a2.out 12).trans rfl⟩ (fun hHeld => ?_)
               clear hK K
               refine norm_ (a' := ?_) ?_ ?_
               rotate_left
               ·show Act.put _ (some 197) _ = _
                simp only [Act.put, List.setIfInBounds_toArray, List.set_cons_zero, List.set_cons_succ, i64_w, i32_w]
                rfl
               refine pU 18 (some 206) (mB 24 524287) ?_
               refine one_ (i := 19) (N := some 207) (mB 24 1048575) rfl rfl (one_of HT_.out (by kernel_rfl)) (by decide) (fun K hK => ?_)
               refine value_ (w1 := ?_) (v := ?_) (by rfl) rfl ?_ ?_
               rotate_left 2
               ·go_simp
                constructor
                ·rfl
                ·rfl
               refine hK.out _ _ ⟨(blk_cell (blk_alloc a2.out _) 5).trans rfl, (blk_cell (blk_alloc a2.out _) 6).trans rfl, (blk_cell (blk_alloc a2.out _) 7).trans rfl, (blk_cell (blk_alloc a2.out _) 8).trans rfl, (blk_cell (blk_alloc a2.out _) 9).trans rfl, (blk_cell (blk_alloc a2.out _) 10).trans rfl, (blk_cell (blk_alloc a2.out _) 12).trans rfl⟩ (fun hHeld => ?_)
               clear hK K
               refine norm_ (a' := ?_) ?_ ?_
               rotate_left
               ·show Act.put _ (some 207) _ = _
                simp only [Act.put, List.setIfInBounds_toArray, List.set_cons_zero, List.set_cons_succ, i64_w, i32_w]
                rfl
               refine one_ (i := 20) (N := some 208) (mB 24 2097151) rfl rfl (one_of HT_.out (by kernel_rfl)) (by decide) (fun K hK => ?_)
               refine Kd.S_append_step k82 (w0 := w) w.heap.size (by rfl) (.tmp 192) (.tmp 207) 35 82 (.agg #[(.slice none 0 0), (.int .i64 0), (.int .i64 0), (.int .i64 0), (.int .i64 0), (.int .i64 0)]) 64 rfl Try.underlying35 info82 rfl (by decide) (by omega) (.slice k6 e7.length k7) e7 (⟨u2, j5, (⟨i4, i5, i6, i7⟩ : S31)⟩ : S82) [.slice A4 u2.length A5, .int .i64 j5, .int .i64 i4, .int .i64 i5, .int .i64 i6, .int .i64 i7] (fun k_ => (w.heap.size ≤ k_) ∧ some k_ ≠ (.slice e8 d0.length e9 : Value).ownBlock) (fun k_ => some k_ = (.slice A4 u2.length A5 : Value).ownBlock) rfl rfl ?aP (fun k_ hk_ => ((Kd.R_mono (ok' := fun k_ => ((fun k_ => (w.heap.size ≤ k_) ∧ some k_ ≠ (.slice e8 d0.length e9 : Value).ownBlock)) k_ ∧ some k_ ≠ (.slice k6 e7.length k7 : Value).ownBlock) (Kd.R_apart' (s1.out) (Kd.S_typed a9.out) (by decide)) (fun k_ hk => ⟨⟨hk.1.1.1, hk.1.2⟩, hk.2⟩))).1 k_ hk_.symm) ?aF ?aO ?aB ?aS ?aL ?_
               (case aP => exact k82_mkM _ _ _ (⟨u2, j5, (⟨i4, i5, i6, i7⟩ : S31)⟩ : S82) (Kd.R_mono (Kd.R_tight rfl (Kd.R_mono (ok' := fun k_ => ((fun k_ => (w.heap.size ≤ k_) ∧ some k_ ≠ (.slice e8 d0.length e9 : Value).ownBlock)) k_ ∧ some k_ ≠ (.slice k6 e7.length k7 : Value).ownBlock) (Kd.R_apart' (s1.out) (Kd.S_typed a9.out) (by decide)) (fun k_ hk => ⟨⟨hk.1.1.1, hk.1.2⟩, hk.2⟩))) (fun _ h_ => h_)))
               (case aB => exact bS)
               (case aF => exact (fun k_ hk => ⟨(Nat.le_trans (below_size bS) hk), Kd.fresh' (Kd.R_lt (rS a8)) k_ hk⟩))
               (case aO => exact (by exact sT (Kd.S_mono a9.out (fun k_ hk => ⟨⟨hk.1.1, hk.1.2⟩, fun e_ => hk.2 e_⟩))))
               (case aS => exact (below_size bS))
               (case aL => have := LMc157.out; (try dsimp only at this); omega)
               intro ag4 ag5 ho hb hg hat
               rw [← Ny722.out] at ho
               have A8 := aM (ho)
               replace a8 := aM (Kd.R_over' (rS a8) (Kd.S_typed (sS a9)) (by decide) hg)
               replace a7 := aM (Kd.S_over' (sS a7) (Kd.S_typed (sS a9)) (by decide) hg)
               replace a2 := aM (blk_grown (g := a3) kS hg (Kd.S_ne a9.out a2.out (by decide)))
               replace b0 := aM (Kd.R_over' (rS b0) (Kd.S_typed (sS a9)) (by decide) hg)
               replace b2 := aM (Kd.R_over' (rS b2) (Kd.S_typed (sS a9)) (by decide) hg)
               replace a6 := aM (FrI_grownS hg (Kd.S_typed (sS a9)) (by decide) a6.out (FrN0 a6.out))
               replace HB := aM (hb)
               clear a9 s1
               clear ho hb hg hat
               obtain ⟨I9, J0, B0⟩ := Kd.S_slice A8.out
               (first | subst B0 | obtain ⟨rfl, rfl⟩ := slE B0)
               refine hK.out _ _ ⟨(blk_cell a2.out 5).trans rfl, (blk_cell a2.out 6).trans rfl, (blk_cell a2.out 7).trans rfl, (blk_cell a2.out 8).trans rfl, (blk_cell a2.out 9).trans rfl, (blk_cell a2.out 10).trans rfl, (blk_cell a2.out 12).trans rfl⟩ (fun hHeld => ?_)
               clear hK K
               refine norm_ (a' := ?_) ?_ ?_
               rotate_left
               ·show Act.put _ (some 208) _ = _
                simp only [Act.put, List.setIfInBounds_toArray, List.set_cons_zero, List.set_cons_succ, i64_w, i32_w]
                rfl
               refine pU 21 (some 209) (mB 24 4194303) ?_
               refine pU 22 (some 210) (mB 24 8388607) ?_
               refine last_ (i := 23) (N := none) (mB 24 16777215) rfl rfl (one_of HT_.out (by kernel_rfl)) (by decide) (fun K hK => ?_)
               have hs165 := cg12 a2
               have hfs165 := blk_frozen a2.out 12
               refine skip_ (w1 := ?_) (by rfl) rfl ?_ ?_
               rotate_left
               ·go_simp
                rfl
               refine hK.out _ _ ?_
               clear hK K
               refine done_ (done_of HT_.out (by kernel_rfl)) ?_
               have J1 := cg5 a2
               have J2 := blk_frozen a2.out 5
               try go_wp2
               (try (go_ret; (try simp only [])))
               (try (refine ⟨_, rfl, ?_⟩))
               have d3 := aM (FrI_get a6.out HLM623.out)
               have d4 := aM (FrI_get a6.out HLM624.out)
               have b6 := aM (FrI_get a6.out HLM625.out)
               clear a6
               try go_wp2
               go_meet
               case rel => exact ⟨_, (true), (d2), (l3), (l4), (l5), (l6), (([] : List (S90))), (j5), (i4), (i5), (i6), (i7), (a5), (E3), (.slice e3 d2.length e4), (.slice none 0 0), (.slice l7 a5.length i3), (.slice I9 E3.length J0), fS, H', ⟨by have := HJ2.out; first | omega | exact Nat.le_refl _⟩, ⟨rW [a3] b0 a2⟩, ⟨by first | exact Kd.R_nil _ _ _ _ _ | exact Kd.N_nil _ _ _ _ _ | exact Kd.V_nil _ _ _ _ _ | exact Kd.Q_nil _ _ _ _ _ | exact Kd.S_nil _ _ _ _ _⟩, ⟨sW [a3] a7 a2⟩, ⟨sW [a3] A8 a2⟩, ⟨kS⟩, ⟨kS⟩, ⟨kS⟩, ⟨kS⟩, ⟨bS⟩⟩
             ·rw [if_neg u0] at H
              obtain ⟨D9, E0⟩ := eqF u0
              by_cases u3 : i1.toList = ([103, 114, 97, 121] : List UInt8)
              ·rw [if_pos u3] at H
               obtain ⟨E4, E5⟩ := eqT u3
               clear u3
               by_cases x2 : 0 < (j6.length : Int)
               ·rw [if_pos x2] at H
                have Z7 : decide (0 < (j6.length : Int)) = true := decide_eq_true x2
                have Z8 : decide (0 < j6.length) = true := decide_eq_true (by omega)
                clear x2
                have H' := aM H
                clear H
                obtain ⟨ac8, ac9, J3⟩ := Kd.R_slice b2.out
                subst J3
                go_at_call 27
                go_enter Try.func27, Try.ntmps27
                have E6 : 0 ≤ (0 : Int) := (by omega)
                have E7 : 0 < (j6.length : Int) := dA
                obtain ⟨ad0, Z9, s2⟩ := Kd.at_int (Kd.R_reads' b2.out).2.2 0 E6 E7
                cases Z9
                have qi725 : (0 < j6.length) = True := eq_true (by omega)
                (try rw [show ((0 : Int)).toNat = 0 from rfl] at s2)
                (try rw [Addr.add_zero'] at s2)
                replace E6 := eq_true E6
                replace E7 := eq_true E7
                have J4 := cg6 a2
                have J5 := blk_frozen a2.out 6
                try go_wp2
                (try (go_ret; (try simp only [])))
                (try (refine ⟨_, rfl, ?_⟩))
                have d3 := aM (FrI_get a6.out HLM623.out)
                have d4 := aM (FrI_get a6.out HLM624.out)
                have b6 := aM (FrI_get a6.out HLM625.out)
                clear a6
                try go_wp2
                go_meet
                case rel => exact ⟨_, (true), (d2), (l3), (l4), (l5), (l6), (d0), (rd j6 0), (i4), (i5), (i6), (i7), (a5), (e7), (.slice e3 d2.length e4), (.slice e8 d0.length e9), (.slice l7 a5.length i3), (.slice k6 e7.length k7), fS, H', ⟨by have := HJ2.out; first | omega | exact Nat.le_refl _⟩, ⟨rW [a3] b0 a2⟩, ⟨rW [a3] a8 a2⟩, ⟨sW [a3] a7 a2⟩, ⟨sW [a3] a9 a2⟩, ⟨kS⟩, ⟨kS⟩, ⟨kS⟩, ⟨kS⟩, ⟨bS⟩⟩
               ·rw [if_neg x2] at H
                exact absurd H (by simp)
              ·rw [if_neg u3] at H
               obtain ⟨E4, E5⟩ := eqF u3
               by_cases u4 : i1.toList = ([99, 108, 105, 112] : List UInt8)
               ·skip
                rw [if_pos u4] at H
                obtain ⟨E8, E9⟩ := eqT u4
                clear u4
                by_cases q3 : (d0.length : Int) = 0
                ·rw [if_pos q3] at H
                 have F2 : ((d0.length : Int) == 0) = true := beq_iff_eq.mpr q3
                 have F3 : ((d0.length : Int) != 0) = false := bne_eq_false_iff_eq.mpr q3
                 clear q3
                 have H' := aM H
                 clear H
                 obtain ⟨ad1, ad2, J6⟩ := Kd.R_slice b2.out
                 subst J6
                 go_at_call 27
                 go_enter Try.func27, Try.ntmps27
                 have J7 := cg5 a2
                 try go_wp2
                 (try (go_ret; (try simp only [])))
                 (try (refine ⟨_, rfl, ?_⟩))
                 have d3 := aM (FrI_get a6.out HLM623.out)
                 have d4 := aM (FrI_get a6.out HLM624.out)
                 have b6 := aM (FrI_get a6.out HLM625.out)
                 clear a6
                 try go_wp2
                 go_meet
                 case rel => exact ⟨_, (false), (d2), (l3), (l4), (l5), (l6), (d0), (j5), (i4), (i5), (i6), (i7), (a5), (e7), (.slice e3 d2.length e4), (.slice e8 d0.length e9), (.slice l7 a5.length i3), (.slice k6 e7.length k7), fS, H', ⟨by have := HJ2.out; first | omega | exact Nat.le_refl _⟩, ⟨by exact rT (Kd.R_mono b0.out (fun _ hk => hk.1))⟩, ⟨rS a8⟩, ⟨by exact sT (Kd.S_mono a7.out (fun _ hk => ⟨hk.1, ⟨hk.2.2.1, hk.2.1⟩⟩))⟩, ⟨by exact sT (Kd.S_mono a9.out (fun _ hk => hk.1))⟩, ⟨kS⟩, ⟨kS⟩, ⟨kS⟩, ⟨kS⟩, ⟨bS⟩⟩
                ·rw [if_neg q3] at H
                 have F2 : ((d0.length : Int) == 0) = false := beq_eq_false_iff_ne.mpr q3
                 have F3 : ((d0.length : Int) != 0) = true := bne_iff_ne.mpr q3
                 have aa0 : ¬ (d0 = []) := fun h_ => q3 (by rw [h_]; rfl)
                 replace H := bN H
                 obtain ⟨⟨F4, F5, F6, F7⟩, aa1, H⟩ := H
                 replace H := bN H
                 obtain ⟨⟨J8, J9, K0, K1⟩, aa2, H⟩ := H
                 have H' := aM H
                 clear H
                 obtain ⟨ad3, ad4, K2⟩ := Kd.R_slice b2.out
                 subst K2
                 go_at_call 27
                 go_enter Try.func27, Try.ntmps27
                 have K3 := cg5 a2
                 try go_wp2
                 replace a8 := rD a8
                 replace a7 := sD a7
                 replace a9 := sD a9
                 replace b0 := rD b0
                 replace b2 := rD b2
                 replace a2 := bD a2
                 replace a6 := aM (FrI_drew a6.out)
                 replace HB := hD HB
                 refine start_ (n := 14) (S := fun w' => w'.cell? ⟨a3, 5, none⟩ = some (.slice e8 d0.length e9) ∧ w'.cell? ⟨a3, 7, none⟩ = some (.int .i64 i4) ∧ w'.cell? ⟨a3, 8, none⟩ = some (.int .i64 i5) ∧ w'.cell? ⟨a3, 9, none⟩ = some (.int .i64 i6) ∧ w'.cell? ⟨a3, 10, none⟩ = some (.int .i64 i7)) (ds := [13]) (mB 14 0) (by kernel_rfl) rfl rfl ⟨(blk_cell a2.out 5).trans rfl, (blk_cell a2.out 7).trans rfl, (blk_cell a2.out 8).trans rfl, (blk_cell a2.out 9).trans rfl, (blk_cell a2.out 10).trans rfl⟩ (fun hHeld => ?_); refine with_tabW impl_ExecToken.i27.tab43 impl_ExecToken.i27.bits43 (fun HT_ HW_ => ?_)
                 generalize q9.drew = ag6 at a8 a7 a9 b0 b2 a2 a6 HB hHeld ⊢
                 refine pU 0 (some 230) (mB 14 1) ?_
                 refine pU 1 (some 231) (mB 14 3) ?_
                 refine pU 2 (some 232) (mB 14 7) ?_
                 refine pU 3 (some 233) (mB 14 15) ?_
                 refine pU 5 (some 235) (mB 14 47) ?_
                 refine pU 6 (some 236) (mB 14 111) ?_
                 refine pU 7 (some 237) (mB 14 239) ?_
                 refine tK 4 (some 234) (mB 14 255) ?_
                 refine tK 8 (some 238) (mB 14 511) ?_
                 refine one_ (i := 9) (N := some 239) (mB 14 1023) rfl rfl (one_of HT_.out (by kernel_rfl)) (by decide) (fun K hK => ?_)
                 refine goes_ Try.func46 (by kernel_rfl) rfl #[.slice e8 d0.length e9] (by rfl) rfl rfl mA ?_
                 with_reducible refine (impl_BoxOf.calls kj2 _ _ d0 F4 F5 F6 F7 _ ?side1 ?side2 aa1.out).mono ?_
                 (case side1 => exact cS (Kd.R_reads' a8.out).2.2)
                 (case side2 => exact (Kd.R_reads' a8.out).2.1)
                 rintro e ag7 ⟨rfl, hb⟩
                 refine ⟨_, rfl, ?_⟩
                 replace a8 := rB a8 hb
                 replace a7 := sB a7 hb
                 replace a9 := sB a9 hb
                 replace b0 := rB b0 hb
                 replace b2 := rB b2 hb
                 replace a2 := kB_ a3 hb
                 replace a6 := aM (FrI_belowS hb a6.out (FrN0 a6.out))
                 replace HB := hB hb
                 (try clear hb)
                 (try clear Z6)
                 (try clear hk)
                 (try clear hi)
                 refine hK.out _ _ ⟨(blk_cell a2.out 5).trans rfl, (blk_cell a2.out 7).trans rfl, (blk_cell a2.out 8).trans rfl, (blk_cell a2.out 9).trans rfl, (blk_cell a2.out 10).trans rfl⟩ (fun hHeld => ?_)
                 clear hK K
                 refine norm_ (a' := ?_) ?_ ?_
                 rotate_left
                 ·show Act.put _ (some 239) _ = _
                  simp only [Act.put, List.setIfInBounds_toArray, List.set_cons_zero, List.set_cons_succ, i64_w, i32_w]
                  rfl
                 refine one_ (i := 10) (N := some 240) (mB 14 2047) rfl rfl (one_of HT_.out (by kernel_rfl)) (by decide) (fun K hK => ?_)
                 refine goes_ Try.func45 (by kernel_rfl) rfl #[.agg #[.int .i64 i4, .int .i64 i5, .int .i64 i6, .int .i64 i7], .agg #[.int .i64 F4, .int .i64 F5, .int .i64 F6, .int .i64 F7]] (by rfl) rfl rfl mA ?_
                 with_reducible refine (impl_MeetBox.calls kj2 i4 i5 i6 i7 F4 F5 F6 F7 J8 J9 K0 K1 _ aa2.out).mono ?_
                 rintro e ag8 ⟨rfl, hb⟩
                 refine ⟨_, rfl, ?_⟩
                 replace a8 := rB a8 hb
                 replace a7 := sB a7 hb
                 replace a9 := sB a9 hb
                 replace b0 := rB b0 hb
                 replace b2 := rB b2 hb
                 replace a2 := kB_ a3 hb
                 replace a6 := aM (FrI_belowS hb a6.out (FrN0 a6.out))
                 replace HB := hB hb
                 (try clear hb)
                 (try clear Z6)
                 (try clear hk)
                 (try clear hi)
                 refine hK.out _ _ ⟨(blk_cell a2.out 5).trans rfl, (blk_cell a2.out 7).trans rfl, (blk_cell a2.out 8).trans rfl, (blk_cell a2.out 9).trans rfl, (blk_cell a2.out 10).trans rfl⟩ (fun hHeld => ?_)
                 clear hK K
                 refine norm_ (a' := ?_) ?_ ?_
                 rotate_left
                 ·show Act.put _ (some 240) _ = _
                  simp only [Act.put, List.setIfInBounds_toArray, List.set_cons_zero, List.set_cons_succ, i64_w, i32_w]
                  rfl
                 refine pU 11 (some 241) (mB 14 4095) ?_
                 refine pU 12 (some 242) (mB 14 8191) ?_
                 refine last_ (i := 13) (N := none) (mB 14 16383) rfl rfl (one_of HT_.out (by kernel_rfl)) (by decide) (fun K hK => ?_)
                 have hs182 := cg7 a2
                 have hfs182 := blk_frozen a2.out 7
                 have hs183 := cg8 a2
                 have hfs183 := blk_frozen a2.out 8
                 have hs184 := cg9 a2
                 have hfs184 := blk_frozen a2.out 9
                 have hs185 := cg10 a2
                 have hfs185 := blk_frozen a2.out 10
                 refine skip_ (w1 := ?_) (by rfl) rfl ?_ ?_
                 rotate_left
                 ·go_simp
                  rfl
                 refine hK.out _ _ ?_
                 clear hK K
                 refine done_ (done_of HT_.out (by kernel_rfl)) ?_
                 have K4 := cg5 a2
                 have K5 := blk_frozen a2.out 5
                 try go_wp2
                 (try (go_ret; (try simp only [])))
                 (try (refine ⟨_, rfl, ?_⟩))
                 have d3 := aM (FrI_get a6.out HLM623.out)
                 have d4 := aM (FrI_get a6.out HLM624.out)
                 have b6 := aM (FrI_get a6.out HLM625.out)
                 clear a6
                 try go_wp2
                 go_meet
                 case rel => exact ⟨_, (true), (d2), (l3), (l4), (l5), (l6), (([] : List (S90))), (j5), (J8), (J9), (K0), (K1), (a5), (e7), (.slice e3 d2.length e4), (.slice none 0 0), (.slice l7 a5.length i3), (.slice k6 e7.length k7), fS, H', ⟨by have := HJ2.out; first | omega | exact Nat.le_refl _⟩, ⟨rW [a3] b0 a2⟩, ⟨by first | exact Kd.R_nil _ _ _ _ _ | exact Kd.N_nil _ _ _ _ _ | exact Kd.V_nil _ _ _ _ _ | exact Kd.Q_nil _ _ _ _ _ | exact Kd.S_nil _ _ _ _ _⟩, ⟨sW [a3] a7 a2⟩, ⟨sW [a3] a9 a2⟩, ⟨kS⟩, ⟨kS⟩, ⟨kS⟩, ⟨kS⟩, ⟨bS⟩⟩
               ·rw [if_neg u4] at H
                obtain ⟨E8, E9⟩ := eqF u4
                by_cases u5 : i1.toList = ([115, 97, 118, 101] : List UInt8)
                ·skip
                 rw [if_pos u5] at H
                 obtain ⟨F8, F9⟩ := eqT u5
                 clear u5
                 replace H := bN H
                 obtain ⟨⟨u6, v4, v5, v6, v8, u7, v9, w8, w9, x0, x1⟩, aa3, H⟩ := H
                 obtain ⟨LMc189, H⟩ := iL H
                 obtain ⟨G0, hy_⟩ : ∃ y_ : List (S33), y_ = (a5 ++ [(⟨u6, (⟨v4, v5, v6, v8⟩ : S28), u7, v9, (⟨w8, w9, x0, x1⟩ : S31)⟩ : S33)]) := ⟨_, rfl⟩
                 replace H : (impl_ExecToken.j4 kj2 true i8 j8 j9 k0 k1 i9 k2 k3 k4 k5 g1 f5 f6 d2 l3 l4 l5 l6 d0 j5 i4 i5 i6 i7 G0 e7) = some (r1, r2, r3, r4, r5, r6, r7, r8, r9, x9, y0, y1, y2, y3) := yS
                 have Ny749 := aM hy_
                 clear hy_
                 have H' := aM H
                 clear H
                 obtain ⟨q4, q5, K6⟩ := Kd.R_slice b2.out
                 subst K6
                 go_at_call 27
                 go_enter Try.func27, Try.ntmps27
                 try go_wp2
                 replace a8 := rD a8
                 replace a7 := sD a7
                 replace a9 := sD a9
                 replace b0 := rD b0
                 replace b2 := rD b2
                 replace a2 := bD a2
                 replace a6 := aM (FrI_drew a6.out)
                 replace HB := hD HB
                 refine start_ (n := 14) (S := fun w' => w'.cell? ⟨a3, 0, none⟩ = some (.slice e3 d2.length e4) ∧ w'.cell? ⟨a3, 1, none⟩ = some (.int .i64 l3) ∧ w'.cell? ⟨a3, 2, none⟩ = some (.int .i64 l4) ∧ w'.cell? ⟨a3, 3, none⟩ = some (.int .i64 l5) ∧ w'.cell? ⟨a3, 4, none⟩ = some (.int .i64 l6) ∧ w'.cell? ⟨a3, 5, none⟩ = some (.slice e8 d0.length e9) ∧ w'.cell? ⟨a3, 6, none⟩ = some (.int .i64 j5) ∧ w'.cell? ⟨a3, 7, none⟩ = some (.int .i64 i4) ∧ w'.cell? ⟨a3, 8, none⟩ = some (.int .i64 i5) ∧ w'.cell? ⟨a3, 9, none⟩ = some (.int .i64 i6) ∧ w'.cell? ⟨a3, 10, none⟩ = some (.int .i64 i7) ∧ w'.cell? ⟨a3, 11, none⟩ = some (.slice l7 a5.length i3)) (ds := [13]) (mB 14 0) (by kernel_rfl) rfl rfl ⟨(blk_cell a2.out 0).trans rfl, (blk_cell a2.out 1).trans rfl, (blk_cell a2.out 2).trans rfl, (blk_cell a2.out 3).trans rfl, (blk_cell a2.out 4).trans rfl, (blk_cell a2.out 5).trans rfl, (blk_cell a2.out 6).trans rfl, (blk_cell a2.out 7).trans rfl, (blk_cell a2.out 8).trans rfl, (blk_cell a2.out 9).trans rfl, (blk_cell a2.out 10).trans rfl, (blk_cell a2.out 11).trans rfl⟩ (fun hHeld => ?_); refine with_tabW impl_ExecToken.i27.tab46 impl_ExecToken.i27.bits46 (fun HT_ HW_ => ?_)
                 generalize q9.drew = ag9 at a8 a7 a9 b0 b2 a2 a6 HB hHeld ⊢
                 refine pU 0 (some 248) (mB 14 1) ?_
                 refine pU 1 (some 249) (mB 14 3) ?_
                 refine pU 2 (some 250) (mB 14 7) ?_
                 refine pU 3 (some 251) (mB 14 15) ?_
                 refine pU 5 (some 253) (mB 14 47) ?_
                 refine pU 6 (some 254) (mB 14 111) ?_
                 refine tK 4 (some 252) (mB 14 127) ?_
                 refine tK 7 (some 255) (mB 14 255) ?_
                 refine one_ (i := 8) (N := some 256) (mB 14 511) rfl rfl (one_of HT_.out (by kernel_rfl)) (by decide) (fun K hK => ?_)
                 refine goes_ Try.func39 (by kernel_rfl) rfl #[.agg #[.slice e3 d2.length e4, .int .i64 l3, .int .i64 l4, .int .i64 l5, .int .i64 l6, .slice e8 d0.length e9, .int .i64 j5, .int .i64 i4, .int .i64 i5, .int .i64 i6, .int .i64 i7]] (by rfl) rfl rfl mA ?_
                 with_reducible refine (impl_copyGraphics.calls _ _ d2 l3 l4 l5 l6 _ _ d0 j5 i4 i5 i6 i7 u6 v4 v5 v6 v8 u7 v9 w8 w9 x0 x1 _ ?side1 ?side2 ?side3 ?side4 aa3.out).mono ?_
                 (case side1 => exact cS (Kd.R_reads' b0.out).2.2)
                 (case side2 => exact (Kd.R_reads' b0.out).2.1)
                 (case side3 => exact cS (Kd.R_reads' a8.out).2.2)
                 (case side4 => exact (Kd.R_reads' a8.out).2.1)
                 rintro e ah0 ⟨ah1, ah2, rfl, j7, l8, hb⟩
                 refine ⟨_, rfl, ?_⟩
                 have s3 := aM (Kd.R_lower (Kd.R_new' (Kd.R_new' (Kd.R_newM (M := fun k_ => (w.heap.size ≤ k_)) j7 (below_size bS) (fun k_ h_ => h_)) (Kd.R_lt (rS b0))) (Kd.R_lt (rS b2))) (below_size bS))
                 have s4 := aM (Kd.R_lower (Kd.R_new' (Kd.R_newM (M := fun k_ => (w.heap.size ≤ k_)) l8 (below_size bS) (fun k_ h_ => h_)) (Kd.R_lt (rS a8))) (below_size bS))
                 replace a8 := aM (Kd.R_elder' (rS a8) (Kd.R_base l8) hb)
                 replace a7 := aM (Kd.S_mono (Kd.S_told (Kd.S_told (Kd.S_old (sS a7) hb) (Kd.R_base j7)) (Kd.R_base l8)) (fun _ h_ => h_.1))
                 replace a9 := aM (Kd.S_elder' (sS a9) (Kd.R_base l8) hb)
                 replace b0 := aM (Kd.R_elder' (rS b0) (Kd.R_base j7) hb)
                 replace b2 := aM (Kd.R_elder' (rS b2) (Kd.R_base j7) hb)
                 replace a2 := kB_ a3 hb
                 replace a6 := aM (FrI_belowS hb a6.out (FrN0 a6.out))
                 replace HB := hB hb
                 (try clear hb)
                 (try clear Z6)
                 (try clear hk)
                 (try clear hi)
                 (try clear j7)
                 (try clear l8)
                 obtain ⟨B2, B7, B8⟩ := Kd.R_slice s3.out
                 (first | subst B8 | obtain ⟨rfl, rfl⟩ := slE B8)
                 obtain ⟨B9, C0, C2⟩ := Kd.R_slice s4.out
                 (first | subst C2 | obtain ⟨rfl, rfl⟩ := slE C2)
                 refine hK.out _ _ ⟨(blk_cell a2.out 0).trans rfl, (blk_cell a2.out 1).trans rfl, (blk_cell a2.out 2).trans rfl, (blk_cell a2.out 3).trans rfl, (blk_cell a2.out 4).trans rfl, (blk_cell a2.out 5).trans rfl, (blk_cell a2.out 6).trans rfl, (blk_cell a2.out 7).trans rfl, (blk_cell a2.out 8).trans rfl, (blk_cell a2.out 9).trans rfl, (blk_cell a2.out 10).trans rfl, (blk_cell a2.out 11).trans rfl⟩ (fun hHeld => ?_)
                 clear hK K
                 refine norm_ (a' := ?_) ?_ ?_
                 rotate_left
                 ·show Act.put _ (some 256) _ = _
                  simp only [Act.put, List.setIfInBounds_toArray, List.set_cons_zero, List.set_cons_succ, i64_w, i32_w]
                  rfl
                 refine one_ (i := 9) (N := some 257) (mB 14 1023) rfl rfl (one_of HT_.out (by kernel_rfl)) (by decide) (fun K hK => ?_)
                 refine value_ (w1 := ?_) (v := ?_) (by rfl) rfl ?_ ?_
                 rotate_left 2
                 ·go_simp
                  constructor
                  ·rfl
                  ·rfl
                 refine hK.out _ _ ⟨(blk_cell (blk_alloc a2.out _) 0).trans rfl, (blk_cell (blk_alloc a2.out _) 1).trans rfl, (blk_cell (blk_alloc a2.out _) 2).trans rfl, (blk_cell (blk_alloc a2.out _) 3).trans rfl, (blk_cell (blk_alloc a2.out _) 4).trans rfl, (blk_cell (blk_alloc a2.out _) 5).trans rfl, (blk_cell (blk_alloc a2.out _) 6).trans rfl, (blk_cell (blk_alloc a2.out _) 7).trans rfl, (blk_cell (blk_alloc a2.out _) 8).trans rfl, (blk_cell (blk_alloc a2.out _) 9).trans rfl, (blk_cell (blk_alloc a2.out _) 10).trans rfl, (blk_cell (blk_alloc a2.out _) 11).trans rfl⟩ (fun hHeld => ?_)
                 clear hK K
                 refine norm_ (a' := ?_) ?_ ?_
                 rotate_left
                 ·show Act.put _ (some 257) _ = _
                  simp only [Act.put, List.setIfInBounds_toArray, List.set_cons_zero, List.set_cons_succ, i64_w, i32_w]
                  rfl
                 refine one_ (i := 10) (N := some 258) (mB 14 2047) rfl rfl (one_of HT_.out (by kernel_rfl)) (by decide) (fun K hK => ?_)
                 refine Kd.S_append_step k33 (w0 := w) w.heap.size (by rfl) (.tmp 252) (.tmp 257) 34 33 (.agg #[(.slice none 0 0), (.int .i64 0), (.int .i64 0), (.int .i64 0), (.int .i64 0), (.slice none 0 0), (.int .i64 0), (.int .i64 0), (.int .i64 0), (.int .i64 0), (.int .i64 0)]) 120 rfl Try.underlying34 info33 rfl (by decide) (by omega) (.slice l7 a5.length i3) a5 (⟨u6, (⟨v4, v5, v6, v8⟩ : S28), u7, v9, (⟨w8, w9, x0, x1⟩ : S31)⟩ : S33) [.slice B2 u6.length B7, .int .i64 v4, .int .i64 v5, .int .i64 v6, .int .i64 v8, .slice B9 u7.length C0, .int .i64 v9, .int .i64 w8, .int .i64 w9, .int .i64 x0, .int .i64 x1] (fun k_ => (w.heap.size ≤ k_) ∧ some k_ ≠ (.slice e8 d0.length e9 : Value).ownBlock ∧ some k_ ≠ (.slice e3 d2.length e4 : Value).ownBlock ∧ some k_ ≠ (.slice q4 j6.length q5 : Value).ownBlock) (fun k_ => some k_ = (.slice B2 u6.length B7 : Value).ownBlock ∨ some k_ = (.slice B9 u7.length C0 : Value).ownBlock) rfl rfl ?aP (fun k_ hk_ => hk_.elim (fun h_ => ((Kd.R_mono (ok' := fun k_ => ((fun k_ => (w.heap.size ≤ k_) ∧ some k_ ≠ (.slice e8 d0.length e9 : Value).ownBlock ∧ some k_ ≠ (.slice e3 d2.length e4 : Value).ownBlock ∧ some k_ ≠ (.slice q4 j6.length q5 : Value).ownBlock)) k_ ∧ some k_ ≠ (.slice l7 a5.length i3 : Value).ownBlock) (Kd.R_apart' (Kd.R_apart' (s3.out) (Kd.R_typed a8.out) (by decide)) (Kd.S_typed a7.out) (by decide)) (fun k_ hk => ⟨⟨hk.1.1.1.1.1, ⟨hk.1.2, ⟨hk.1.1.1.2, hk.1.1.2⟩⟩⟩, hk.2⟩))).1 k_ h_.symm) (fun h_ => ((Kd.R_mono (ok' := fun k_ => ((fun k_ => (w.heap.size ≤ k_) ∧ some k_ ≠ (.slice e8 d0.length e9 : Value).ownBlock ∧ some k_ ≠ (.slice e3 d2.length e4 : Value).ownBlock ∧ some k_ ≠ (.slice q4 j6.length q5 : Value).ownBlock)) k_ ∧ some k_ ≠ (.slice l7 a5.length i3 : Value).ownBlock) (Kd.R_apart' (Kd.R_apart' (Kd.R_apart' (s4.out) (Kd.R_typed b0.out) (by decide)) (Kd.R_typed b2.out) (by decide)) (Kd.S_typed a7.out) (by decide)) (fun k_ hk => ⟨⟨hk.1.1.1.1.1, ⟨hk.1.1.1.2, ⟨hk.1.1.2, hk.1.2⟩⟩⟩, hk.2⟩))).1 k_ h_.symm)) ?aF ?aO ?aB ?aS ?aL ?_
                 (case aP => exact k33_mkM _ _ _ (⟨u6, (⟨v4, v5, v6, v8⟩ : S28), u7, v9, (⟨w8, w9, x0, x1⟩ : S31)⟩ : S33) (Kd.R_mono (Kd.R_tight rfl (Kd.R_mono (ok' := fun k_ => ((fun k_ => (w.heap.size ≤ k_) ∧ some k_ ≠ (.slice e8 d0.length e9 : Value).ownBlock ∧ some k_ ≠ (.slice e3 d2.length e4 : Value).ownBlock ∧ some k_ ≠ (.slice q4 j6.length q5 : Value).ownBlock)) k_ ∧ some k_ ≠ (.slice l7 a5.length i3 : Value).ownBlock) (Kd.R_apart' (Kd.R_apart' (s3.out) (Kd.R_typed a8.out) (by decide)) (Kd.S_typed a7.out) (by decide)) (fun k_ hk => ⟨⟨hk.1.1.1.1.1, ⟨hk.1.2, ⟨hk.1.1.1.2, hk.1.1.2⟩⟩⟩, hk.2⟩))) (fun _ h_ => Or.inl h_)) (Kd.R_mono (Kd.R_tight rfl (Kd.R_mono (ok' := fun k_ => ((fun k_ => (w.heap.size ≤ k_) ∧ some k_ ≠ (.slice e8 d0.length e9 : Value).ownBlock ∧ some k_ ≠ (.slice e3 d2.length e4 : Value).ownBlock ∧ some k_ ≠ (.slice q4 j6.length q5 : Value).ownBlock)) k_ ∧ some k_ ≠ (.slice l7 a5.length i3 : Value).ownBlock) (Kd.R_apart' (Kd.R_apart' (Kd.R_apart' (s4.out) (Kd.R_typed b0.out) (by decide)) (Kd.R_typed b2.out) (by decide)) (Kd.S_typed a7.out) (by decide)) (fun k_ hk => ⟨⟨hk.1.1.1.1.1, ⟨hk.1.1.1.2, ⟨hk.1.1.2, hk.1.2⟩⟩⟩, hk.2⟩))) (fun _ h_ => Or.inr (h_))))
                 (case aB => exact bS)
                 (case aF => exact (fun k_ hk => ⟨(Nat.le_trans (below_size bS) hk), Kd.fresh' (Kd.R_lt (rS a8)) k_ hk, Kd.fresh' (Kd.R_lt (rS b0)) k_ hk, Kd.fresh' (Kd.R_lt (rS b2)) k_ hk⟩))
                 (case aO => exact (by exact sT (Kd.S_mono a7.out (fun k_ hk => ⟨⟨hk.1.1.1, ⟨hk.1.1.2.1, ⟨hk.1.1.2.2.1, hk.1.1.2.2.2⟩⟩⟩, fun e_ => e_.elim (fun h_ => hk.1.2 h_) (fun h_ => hk.2 h_)⟩))))
                 (case aS => exact (below_size bS))
                 (case aL => have := LMc189.out; (try dsimp only at this); omega)
                 intro ah3 ah4 ho hb hg hat
                 rw [← Ny749.out] at ho
                 have C3 := aM (ho)
                 replace a8 := aM (Kd.R_over' (rS a8) (Kd.S_typed (sS a7)) (by decide) hg)
                 replace a9 := aM (Kd.S_over' (sS a9) (Kd.S_typed (sS a7)) (by decide) hg)
                 replace a2 := aM (blk_grown (g := a3) kS hg (Kd.S_ne a7.out a2.out (by decide)))
                 replace b0 := aM (Kd.R_over' (rS b0) (Kd.S_typed (sS a7)) (by decide) hg)
                 replace b2 := aM (Kd.R_over' (rS b2) (Kd.S_typed (sS a7)) (by decide) hg)
                 replace a6 := aM (FrI_grownS hg (Kd.S_typed (sS a7)) (by decide) a6.out (FrN0 a6.out))
                 replace HB := aM (hb)
                 clear a7 s3 s4
                 clear ho hb hg hat
                 obtain ⟨K7, K8, C4⟩ := Kd.S_slice C3.out
                 (first | subst C4 | obtain ⟨rfl, rfl⟩ := slE C4)
                 refine hK.out _ _ ⟨(blk_cell a2.out 0).trans rfl, (blk_cell a2.out 1).trans rfl, (blk_cell a2.out 2).trans rfl, (blk_cell a2.out 3).trans rfl, (blk_cell a2.out 4).trans rfl, (blk_cell a2.out 5).trans rfl, (blk_cell a2.out 6).trans rfl, (blk_cell a2.out 7).trans rfl, (blk_cell a2.out 8).trans rfl, (blk_cell a2.out 9).trans rfl, (blk_cell a2.out 10).trans rfl, (blk_cell a2.out 11).trans rfl⟩ (fun hHeld => ?_)
                 clear hK K
                 refine norm_ (a' := ?_) ?_ ?_
                 rotate_left
                 ·show Act.put _ (some 258) _ = _
                  simp only [Act.put, List.setIfInBounds_toArray, List.set_cons_zero, List.set_cons_succ, i64_w, i32_w]
                  rfl
                 refine pU 11 (some 259) (mB 14 4095) ?_
                 refine pU 12 (some 260) (mB 14 8191) ?_
                 refine last_ (i := 13) (N := none) (mB 14 16383) rfl rfl (one_of HT_.out (by kernel_rfl)) (by decide) (fun K hK => ?_)
                 have hs197 := cg11 a2
                 have hfs197 := blk_frozen a2.out 11
                 refine skip_ (w1 := ?_) (by rfl) rfl ?_ ?_
                 rotate_left
                 ·go_simp
                  rfl
                 refine hK.out _ _ ?_
                 clear hK K
                 refine done_ (done_of HT_.out (by kernel_rfl)) ?_
                 try go_wp2
                 (try (go_ret; (try simp only [])))
                 (try (refine ⟨_, rfl, ?_⟩))
                 have d3 := aM (FrI_get a6.out HLM623.out)
                 have d4 := aM (FrI_get a6.out HLM624.out)
                 have b6 := aM (FrI_get a6.out HLM625.out)
                 clear a6
                 try go_wp2
                 go_meet
                 case rel => exact ⟨_, (true), (d2), (l3), (l4), (l5), (l6), (d0), (j5), (i4), (i5), (i6), (i7), (G0), (e7), (.slice e3 d2.length e4), (.slice e8 d0.length e9), (.slice K7 G0.length K8), (.slice k6 e7.length k7), fS, H', ⟨by have := HJ2.out; first | omega | exact Nat.le_refl _⟩, ⟨rW [a3] b0 a2⟩, ⟨rW [a3] a8 a2⟩, ⟨sW [a3] C3 a2⟩, ⟨sW [a3] a9 a2⟩, ⟨kS⟩, ⟨kS⟩, ⟨kS⟩, ⟨kS⟩, ⟨bS⟩⟩
                ·rw [if_neg u5] at H
                 obtain ⟨F8, F9⟩ := eqF u5
                 by_cases x3 : i1.toList = ([114, 101, 115, 116, 111, 114, 101] : List UInt8)
                 ·skip
                  rw [if_pos x3] at H
                  obtain ⟨aa4, aa5⟩ := eqT x3
                  clear x3
                  by_cases q6 : (a5.length : Int) = 0
                  ·rw [if_pos q6] at H
                   have G1 : ((a5.length : Int) == 0) = true := beq_iff_eq.mpr q6
                   have G2 : ((a5.length : Int) != 0) = false := bne_eq_false_iff_eq.mpr q6
                   clear q6
                   have H' := aM H
                   clear H
                   obtain ⟨ad5, ad6, K9⟩ := Kd.R_slice b2.out
                   subst K9
                   go_at_call 27
                   go_enter Try.func27, Try.ntmps27
                   have G4 := cg11 a2
                   try go_wp2
                   (try (go_ret; (try simp only [])))
                   (try (refine ⟨_, rfl, ?_⟩))
                   have d3 := aM (FrI_get a6.out HLM623.out)
                   have d4 := aM (FrI_get a6.out HLM624.out)
                   have b6 := aM (FrI_get a6.out HLM625.out)
                   clear a6
                   try go_wp2
                   go_meet
                   case rel => exact ⟨_, (false), (d2), (l3), (l4), (l5), (l6), (d0), (j5), (i4), (i5), (i6), (i7), (a5), (e7), (.slice e3 d2.length e4), (.slice e8 d0.length e9), (.slice l7 a5.length i3), (.slice k6 e7.length k7), fS, H', ⟨by have := HJ2.out; first | omega | exact Nat.le_refl _⟩, ⟨by exact rT (Kd.R_mono b0.out (fun _ hk => hk.1))⟩, ⟨rS a8⟩, ⟨by exact sT (Kd.S_mono a7.out (fun _ hk => ⟨hk.1, ⟨hk.2.2.1, hk.2.1⟩⟩))⟩, ⟨by exact sT (Kd.S_mono a9.out (fun _ hk => hk.1))⟩, ⟨kS⟩, ⟨kS⟩, ⟨kS⟩, ⟨kS⟩, ⟨bS⟩⟩
                  ·rw [if_neg q6] at H
                   have G1 : ((a5.length : Int) == 0) = false := beq_eq_false_iff_ne.mpr q6
                   have G2 : ((a5.length : Int) != 0) = true := bne_iff_ne.mpr q6
                   have aa6 : ¬ (a5 = []) := fun h_ => q6 (by rw [h_]; rfl)
                   obtain ⟨ji202, hji202⟩ : ∃ j_ : Int, (wrap64 ((a5.length : Int) - 1)) = j_ := ⟨_, rfl⟩
                   replace H : (if 0 ≤ (ji202) then (if (ji202) < (a5.length : Int) then (if (ji202) ≤ (a5.length : Int) then (impl_ExecToken.j4 kj2 true i8 j8 j9 k0 k1 i9 k2 k3 k4 k5 g1 f5 f6 d2 ((rd_T33 a5 (ji202)).f1.f0) ((rd_T33 a5 (ji202)).f1.f1) ((rd_T33 a5 (ji202)).f1.f2) ((rd_T33 a5 (ji202)).f1.f3) ((rd_T33 a5 (ji202)).f2) ((rd_T33 a5 (ji202)).f3) ((rd_T33 a5 (ji202)).f4.f0) ((rd_T33 a5 (ji202)).f4.f1) ((rd_T33 a5 (ji202)).f4.f2) ((rd_T33 a5 (ji202)).f4.f3) (a5.take ((ji202) : Int).toNat) e7) else (none)) else (none)) else (none)) = some (r1, r2, r3, r4, r5, r6, r7, r8, r9, x9, y0, y1, y2, y3) := by first | (rw [hji202] at H; exact H) | (simp only [hji202] at H ⊢; exact H)
                   have hji202w : (IntKind.i64.wrap ((a5.length : Int) - 1)) = ji202 := (i64_w _).trans hji202
                   obtain ⟨aa7, H⟩ := iT H
                   obtain ⟨aa8, H⟩ := iT H
                   obtain ⟨aa9, ab0, H⟩ := iF H
                   obtain ⟨x4, hy_⟩ : ∃ y_ : List (S33), y_ = (a5.take ((ji202) : Int).toNat) := ⟨_, rfl⟩
                   replace H : (impl_ExecToken.j4 kj2 true i8 j8 j9 k0 k1 i9 k2 k3 k4 k5 g1 f5 f6 d2 ((rd_T33 a5 (ji202)).f1.f0) ((rd_T33 a5 (ji202)).f1.f1) ((rd_T33 a5 (ji202)).f1.f2) ((rd_T33 a5 (ji202)).f1.f3) ((rd_T33 a5 (ji202)).f2) ((rd_T33 a5 (ji202)).f3) ((rd_T33 a5 (ji202)).f4.f0) ((rd_T33 a5 (ji202)).f4.f1) ((rd_T33 a5 (ji202)).f4.f2) ((rd_T33 a5 (ji202)).f4.f3) x4 e7) = some (r1, r2, r3, r4, r5, r6, r7, r8, r9, x9, y0, y1, y2, y3) := yS
                   have Ny753 := aM hy_
                   clear hy_
                   have H' := aM H
                   clear H
                   obtain ⟨o0, o1, L0⟩ := Kd.R_slice b2.out
                   subst L0
                   go_at_call 27
                   go_enter Try.func27, Try.ntmps27
                   have L1 := cg0 a2
                   have G5 := cg11 a2
                   try go_wp2
                   replace a8 := rD a8
                   replace a7 := sD a7
                   replace a9 := sD a9
                   replace b0 := rD b0
                   replace b2 := rD b2
                   replace a2 := bD a2
                   replace a6 := aM (FrI_drew a6.out)
                   replace HB := hD HB
                   have x5 : 0 ≤ ((ji202) : Int) := dA
                   have x6 : (ji202) < (a5.length : Int) := dA
                   obtain ⟨d5, o6, o7, m3, m4, ab1, o8, s5, s6, s7, s8, o9, s9, t0, t1, t2, q7, hl752_0, hi752_0, hl752_5, hi752_5⟩ := at_T33 (Kd.S_reads' a7.out).2.2 (ji202) x5 x6
                   cases ab1
                   obtain ⟨ce752, hce752, oj752, hoj752, hMe752, hcc752, hsp752⟩ := S_split a7.out z33 (ji202) x5 (by first | exact x6 | exact dA | (have e_ := (Kd.S_reads' a7.out).1; omega))
                   obtain ⟨ve752_0, ve752_5, rfl, ge752_0, ge752_5⟩ := k33_openM hMe752
                   have hv752_0 := hcc752 0 _ rfl
                   rw [Nat.add_zero] at hv752_0
                   replace hv752_0 := Option.some.inj (hv752_0.symm.trans o8)
                   rw [hv752_0] at ge752_0
                   have HL752_0 := aM (show Kd.R (Kd.int .i64) 3 _ _ _ _ ((rd_T33 a5 (ji202)).f0) from Kd.R_mono ge752_0 hoj752)
                   replace hsp752 := S_spl hsp752 ge752_0
                   clear hv752_0 ge752_0
                   have hv752_5 := hcc752 5 _ rfl
                   rw [add_field _ _ 5 (by omega)] at hv752_5
                   replace hv752_5 := Option.some.inj (hv752_5.symm.trans o9)
                   rw [hv752_5] at ge752_5
                   have HL752_5 := aM (show Kd.R k90 90 _ _ _ _ ((rd_T33 a5 (ji202)).f2) from Kd.R_mono ge752_5 hoj752)
                   replace hsp752 := S_spl hsp752 ge752_5
                   clear hv752_5 ge752_5
                   clear hcc752 hce752
                   have HSP752 := aM (S_spd hsp752)
                   clear hsp752 hoj752
                   have x7 := aM hi752_0
                   have V9 := aM hl752_0
                   clear hi752_0 hl752_0
                   have x8 := aM hi752_5
                   have W0 := aM hl752_5
                   clear hi752_5 hl752_5
                   replace x5 := eq_true x5
                   replace x6 := eq_true x6
                   refine start_ (n := 15) (S := fun w' => w'.cell? ⟨a3, 11, none⟩ = some (.slice (some d5) a5.length i3) ∧ w'.cell? (d5.add (((ji202)).toNat * 11)) = some (.slice o6 ((rd_T33 a5 (ji202)).f0).length o7) ∧ w'.cell? ⟨(d5.add (((ji202)).toNat * 11)).block, (d5.add (((ji202)).toNat * 11)).off + 1, none⟩ = some (.int .i64 ((rd_T33 a5 (ji202)).f1.f0)) ∧ w'.cell? ⟨(d5.add (((ji202)).toNat * 11)).block, (d5.add (((ji202)).toNat * 11)).off + 2, none⟩ = some (.int .i64 ((rd_T33 a5 (ji202)).f1.f1)) ∧ w'.cell? ⟨(d5.add (((ji202)).toNat * 11)).block, (d5.add (((ji202)).toNat * 11)).off + 3, none⟩ = some (.int .i64 ((rd_T33 a5 (ji202)).f1.f2)) ∧ w'.cell? ⟨(d5.add (((ji202)).toNat * 11)).block, (d5.add (((ji202)).toNat * 11)).off + 4, none⟩ = some (.int .i64 ((rd_T33 a5 (ji202)).f1.f3)) ∧ w'.cell? ⟨(d5.add (((ji202)).toNat * 11)).block, (d5.add (((ji202)).toNat * 11)).off + 5, none⟩ = some (.slice m3 ((rd_T33 a5 (ji202)).f2).length m4) ∧ w'.cell? ⟨(d5.add (((ji202)).toNat * 11)).block, (d5.add (((ji202)).toNat * 11)).off + 6, none⟩ = some (.int .i64 ((rd_T33 a5 (ji202)).f3)) ∧ w'.cell? ⟨(d5.add (((ji202)).toNat * 11)).block, (d5.add (((ji202)).toNat * 11)).off + 7, none⟩ = some (.int .i64 ((rd_T33 a5 (ji202)).f4.f0)) ∧ w'.cell? ⟨(d5.add (((ji202)).toNat * 11)).block, (d5.add (((ji202)).toNat * 11)).off + 8, none⟩ = some (.int .i64 ((rd_T33 a5 (ji202)).f4.f1)) ∧ w'.cell? ⟨(d5.add (((ji202)).toNat * 11)).block, (d5.add (((ji202)).toNat * 11)).off + 9, none⟩ = some (.int .i64 ((rd_T33 a5 (ji202)).f4.f2)) ∧ w'.cell? ⟨(d5.add (((ji202)).toNat * 11)).block, (d5.add (((ji202)).toNat * 11)).off + 10, none⟩ = some (.int .i64 ((rd_T33 a5 (ji202)).f4.f3))) (ds := [14]) (mB 15 0) (by kernel_rfl) rfl rfl ⟨(blk_cell a2.out 11).trans rfl, o8, s5, s6, s7, s8, o9, s9, t0, t1, t2, q7⟩ (fun hHeld => ?_)
                   generalize q9.drew = ab2 at a8 a7 a9 b0 b2 a2 a6 HB HL752_0 HL752_5 x7 x8 o8 s5 q7 s6 s7 s8 o9 s9 t0 t1 t2 HSP752 hHeld ⊢
                   refine pU 0 (some 273) (mB 15 1) ?_
                   refine pU 1 (some 274) (mB 15 3) ?_
                   refine pU 2 (some 275) (mB 15 7) ?_
                   refine pU 3 (some 276) (mB 15 15) ?_
                   refine pU 5 (some 278) (mB 15 47) ?_
                   refine pU 6 (some 279) (mB 15 111) ?_
                   refine pU 7 (some 280) (mB 15 239) ?_
                   refine tK 4 (some 277) (mB 15 255) ?_
                   refine tK 8 (some 281) (mB 15 511) ?_
                   refine pU 9 (some 282) (mB 15 1023) ?_
                   refine pU 10 (some 283) (mB 15 2047) ?_
                   refine pU 11 (some 284) (mB 15 4095) ?_
                   refine tK 12 (some 285) (mB 15 8191) ?_
                   refine pU 13 (some 286) (mB 15 16383) ?_
                   refine last_ (i := 14) (N := none) (mB 15 32767) rfl rfl (by kernel_rfl) (by decide) (fun K hK => ?_)
                   have hs209 := cg0 a2
                   have hfs209 := blk_frozen a2.out 0
                   have hs210 := cg1 a2
                   have hfs210 := blk_frozen a2.out 1
                   have hs211 := cg2 a2
                   have hfs211 := blk_frozen a2.out 2
                   have hs212 := cg3 a2
                   have hfs212 := blk_frozen a2.out 3
                   have hs213 := cg4 a2
                   have hfs213 := blk_frozen a2.out 4
                   have hs214 := cg5 a2
                   have hfs214 := blk_frozen a2.out 5
                   have hs215 := cg6 a2
                   have hfs215 := blk_frozen a2.out 6
                   have hs216 := cg7 a2
                   have hfs216 := blk_frozen a2.out 7
                   have hs217 := cg8 a2
                   have hfs217 := blk_frozen a2.out 8
                   have hs218 := cg9 a2
                   have hfs218 := blk_frozen a2.out 9
                   have hs219 := cg10 a2
                   have hfs219 := blk_frozen a2.out 10
                   refine skip_ (w1 := ?_) (by rfl) rfl ?_ ?_
                   rotate_left
                   ·go_simp
                    rfl
                   refine hK.out _ _ ?_
                   clear hK K
                   refine done_ (by kernel_rfl) ?_
                   have L2 := cg0 a2
                   have L6 := blk_frozen a2.out 0
                   try go_wp2
                   obtain ⟨m5, hw_⟩ : ∃ w_ : World, w_ = ((((((((((((ab2.setCell ⟨a3, 0, none⟩ (.slice o6 ((rd_T33 a5 (ji202)).f0).length o7)).setCell ⟨a3, 1, none⟩ (.int .i64 ((rd_T33 a5 (ji202)).f1.f0))).setCell ⟨a3, 2, none⟩ (.int .i64 ((rd_T33 a5 (ji202)).f1.f1))).setCell ⟨a3, 3, none⟩ (.int .i64 ((rd_T33 a5 (ji202)).f1.f2))).setCell ⟨a3, 4, none⟩ (.int .i64 ((rd_T33 a5 (ji202)).f1.f3))).setCell ⟨a3, 5, none⟩ (.slice m3 ((rd_T33 a5 (ji202)).f2).length m4)).setCell ⟨a3, 6, none⟩ (.int .i64 ((rd_T33 a5 (ji202)).f3))).setCell ⟨a3, 7, none⟩ (.int .i64 ((rd_T33 a5 (ji202)).f4.f0))).setCell ⟨a3, 8, none⟩ (.int .i64 ((rd_T33 a5 (ji202)).f4.f1))).setCell ⟨a3, 9, none⟩ (.int .i64 ((rd_T33 a5 (ji202)).f4.f2))).setCell ⟨a3, 10, none⟩ (.int .i64 ((rd_T33 a5 (ji202)).f4.f3))).setCell ⟨a3, 0, none⟩ (.slice e3 d2.length e4)) := ⟨_, rfl⟩
                   have n0_ : Aside0 (Kd.R k90 90 m5 w.heap.size (fun k_ => (w.heap.size ≤ k_)) (.slice e8 d0.length e9) d0) := ⟨by rw [hw_]; exact (by exact Kd.R_mono (R_on (g := a3) (Kd.R_types a8.out a2.out (by decide)) (fun _ hk => hk.2)) (fun _ hk => hk.1))⟩
                   have n1_ : Aside0 (Kd.S k33 33 m5 w.heap.size (fun k_ => (w.heap.size ≤ k_) ∧ some k_ ≠ (.slice e8 d0.length e9 : Value).ownBlock ∧ some k_ ≠ (.slice e3 d2.length e4 : Value).ownBlock ∧ some k_ ≠ (.slice o0 j6.length o1 : Value).ownBlock) (.slice (some d5) a5.length i3) a5) := ⟨by rw [hw_]; exact (by exact Kd.S_mono (S_on (g := a3) (Kd.S_types a7.out a2.out (by decide)) (fun _ hk => hk.2)) (fun _ hk => ⟨hk.1.1, ⟨hk.1.2.1, ⟨hk.1.2.2.1, hk.1.2.2.2⟩⟩⟩))⟩
                   have n2_ : Aside0 (Kd.S k82 82 m5 w.heap.size (fun k_ => (w.heap.size ≤ k_) ∧ some k_ ≠ (.slice e8 d0.length e9 : Value).ownBlock) (.slice k6 e7.length k7) e7) := ⟨by rw [hw_]; exact (by exact Kd.S_mono (S_on (g := a3) (Kd.S_types a9.out a2.out (by decide)) (fun _ hk => hk.2)) (fun _ hk => ⟨hk.1.1, hk.1.2⟩))⟩
                   have n3_ : Aside0 (Kd.R (Kd.int .i64) 3 m5 w.heap.size (fun k_ => (w.heap.size ≤ k_) ∧ some k_ ≠ (.slice o0 j6.length o1 : Value).ownBlock) (.slice e3 d2.length e4) d2) := ⟨by rw [hw_]; exact (by exact Kd.R_mono (R_on (g := a3) (Kd.R_types b0.out a2.out (by decide)) (fun _ hk => hk.2)) (fun _ hk => ⟨hk.1.1, hk.1.2⟩))⟩
                   have n4_ : Aside0 (Kd.R (Kd.int .i64) 3 m5 w.heap.size (fun k_ => (w.heap.size ≤ k_) ∧ some k_ ≠ (.slice e3 d2.length e4 : Value).ownBlock) (.slice o0 j6.length o1) j6) := ⟨by rw [hw_]; exact (by exact Kd.R_mono (R_on (g := a3) (Kd.R_types b2.out a2.out (by decide)) (fun _ hk => hk.2)) (fun _ hk => ⟨hk.1.1, hk.1.2⟩))⟩
                   have n5_ : Aside0 (Kd.R (Kd.int .i64) 3 m5 w.heap.size (fun k_ => (w.heap.size ≤ k_) ∧ some k_ ≠ (.slice e8 d0.length e9 : Value).ownBlock ∧ some k_ ≠ (.slice (some d5) a5.length i3 : Value).ownBlock ∧ some k_ ≠ (.slice e3 d2.length e4 : Value).ownBlock ∧ some k_ ≠ (.slice o0 j6.length o1 : Value).ownBlock) (.slice o6 ((rd_T33 a5 (ji202)).f0).length o7) ((rd_T33 a5 (ji202)).f0)) := ⟨by rw [hw_]; exact (by exact Kd.R_mono (R_on (g := a3) (Kd.R_types HL752_0.out a2.out (by decide)) (fun _ hk => hk.2)) (fun _ hk => ⟨hk.1.1.1, ⟨hk.1.1.2.1, ⟨hk.1.2, ⟨hk.1.1.2.2.1, hk.1.1.2.2.2⟩⟩⟩⟩))⟩
                   have n6_ : Aside0 (Kd.R k90 90 m5 w.heap.size (fun k_ => (w.heap.size ≤ k_) ∧ some k_ ≠ (.slice e8 d0.length e9 : Value).ownBlock ∧ some k_ ≠ (.slice (some d5) a5.length i3 : Value).ownBlock ∧ some k_ ≠ (.slice e3 d2.length e4 : Value).ownBlock ∧ some k_ ≠ (.slice o0 j6.length o1 : Value).ownBlock) (.slice m3 ((rd_T33 a5 (ji202)).f2).length m4) ((rd_T33 a5 (ji202)).f2)) := ⟨by rw [hw_]; exact (by exact Kd.R_mono (R_on (g := a3) (Kd.R_types HL752_5.out a2.out (by decide)) (fun _ hk => hk.2)) (fun _ hk => ⟨hk.1.1.1, ⟨hk.1.1.2.1, ⟨hk.1.2, ⟨hk.1.1.2.2.1, hk.1.1.2.2.2⟩⟩⟩⟩))⟩
                   have n7_ : Aside0 (Kd.S k33 33 m5 w.heap.size (fun k_ => (w.heap.size ≤ k_) ∧ some k_ ≠ (.slice e8 d0.length e9 : Value).ownBlock ∧ some k_ ≠ (.slice e3 d2.length e4 : Value).ownBlock ∧ some k_ ≠ (.slice o0 j6.length o1 : Value).ownBlock ∧ some k_ ≠ (.slice o6 ((rd_T33 a5 (ji202)).f0).length o7 : Value).ownBlock ∧ some k_ ≠ (.slice m3 ((rd_T33 a5 (ji202)).f2).length m4 : Value).ownBlock) (.slice (some d5) ((ji202) : Int).toNat i3) (a5.take ((ji202) : Int).toNat)) := ⟨by rw [hw_]; exact (by exact Kd.S_mono (S_on (g := a3) (Kd.S_types HSP752.out a2.out (by decide)) (fun _ hk => hk.2)) (fun _ hk => ⟨hk.1.1.1.1, ⟨hk.1.1.1.2.1, ⟨hk.1.1.1.2.2.1, ⟨hk.1.1.1.2.2.2, ⟨hk.1.1.2, hk.1.2⟩⟩⟩⟩⟩))⟩
                   have n8_ : Aside0 (m5.heap[a3]? = some (.cells #[.slice e3 d2.length e4, .int .i64 ((rd_T33 a5 (ji202)).f1.f0), .int .i64 ((rd_T33 a5 (ji202)).f1.f1), .int .i64 ((rd_T33 a5 (ji202)).f1.f2), .int .i64 ((rd_T33 a5 (ji202)).f1.f3), .slice m3 ((rd_T33 a5 (ji202)).f2).length m4, .int .i64 ((rd_T33 a5 (ji202)).f3), .int .i64 ((rd_T33 a5 (ji202)).f4.f0), .int .i64 ((rd_T33 a5 (ji202)).f4.f1), .int .i64 ((rd_T33 a5 (ji202)).f4.f2), .int .i64 ((rd_T33 a5 (ji202)).f4.f3), .slice (some d5) a5.length i3, .slice k6 e7.length k7] 37 (0, 0))) := ⟨by rw [hw_]; exact (kQ a2)⟩
                   have n9_ : Aside0 (FrI L92 a3 [37, 46] m5) := ⟨by rw [hw_]; exact (by exact FrI_self a6.out (FrN0 a6.out))⟩
                   have n10_ : Aside0 (Below w.heap.size w m5) := ⟨by rw [hw_]; exact bS⟩
                   rw [← hw_]
                   clear hw_ a8 a7 a9 b0 b2 HL752_0 HL752_5 HSP752 a2 a6 HB
                   have a8 := n0_
                   have a7 := n1_
                   have a9 := n2_
                   have b0 := n3_
                   have b2 := n4_
                   have HL752_0 := n5_
                   have HL752_5 := n6_
                   have HSP752 := n7_
                   have a2 := n8_
                   have a6 := n9_
                   have HB := n10_
                   clear n0_ n1_ n2_ n3_ n4_ n5_ n6_ n7_ n8_ n9_ n10_
                   replace a8 := rD a8
                   replace a7 := sD a7
                   replace a9 := sD a9
                   replace b0 := rD b0
                   replace b2 := rD b2
                   replace HL752_0 := rD HL752_0
                   replace HL752_5 := rD HL752_5
                   replace HSP752 := sD HSP752
                   replace a2 := bD a2
                   replace a6 := aM (FrI_drew a6.out)
                   replace HB := hD HB
                   have G3 : ((ji202) : Int) ≤ ((a5.length : Int) : Int) := dA
                   obtain ⟨i0223, hi0223, _, hsz223, _⟩ := info_parts info33
                   have hcut223 := cut_to (P := Try.prog) 34 33 .i64 Try.underlying34 hi0223 (some d5) a5.length i3 (ji202) (dA) G3 (Kd.S_reads' a7.out).2.1
                   have t3 := HSP752.out
                   have hy223 : x4.length = ((ji202) : Int).toNat := (by rw [Ny753.out, List.length_take]; omega)
                   rw [← Ny753.out] at t3
                   rw [← hy223] at t3 hcut223
                   clear hy223 hi0223 hsz223 a7
                   have C5 := aM t3
                   clear t3
                   replace G3 := eq_true G3
                   clear HSP752
                   refine start_ (n := 15) (S := fun w' => w'.cell? ⟨a3, 11, none⟩ = some (.slice (some d5) a5.length i3)) (ds := [14]) (mB 15 0) (by kernel_rfl) rfl rfl ((blk_cell a2.out 11).trans rfl) (fun hHeld => ?_); refine with_tabW impl_ExecToken.i27.tab53 impl_ExecToken.i27.bits53 (fun HT_ HW_ => ?_)
                   generalize m5.drew = ah5 at a8 a9 b0 b2 HL752_0 HL752_5 a2 a6 HB C5 hHeld ⊢
                   refine pU 0 (some 291) (mB 15 1) ?_
                   refine pU 1 (some 292) (mB 15 3) ?_
                   refine pU 2 (some 293) (mB 15 7) ?_
                   refine pU 3 (some 294) (mB 15 15) ?_
                   refine pU 5 (some 296) (mB 15 47) ?_
                   refine pU 6 (some 297) (mB 15 111) ?_
                   refine pU 7 (some 298) (mB 15 239) ?_
                   refine tK 4 (some 295) (mB 15 255) ?_
                   refine tK 8 (some 299) (mB 15 511) ?_
                   refine pU 9 (some 300) (mB 15 1023) ?_
                   refine pU 10 (some 301) (mB 15 2047) ?_
                   refine pU 11 (some 302) (mB 15 4095) ?_
                   refine pU 12 (some 303) (mB 15 8191) ?_
                   refine pU 13 (some 304) (mB 15 16383) ?_
                   refine last_ (i := 14) (N := none) (mB 15 32767) rfl rfl (one_of HT_.out (by kernel_rfl)) (by decide) (fun K hK => ?_)
                   have hs224 := cg11 a2
                   have hfs224 := blk_frozen a2.out 11
                   refine skip_ (w1 := ?_) (by rfl) rfl ?_ ?_
                   rotate_left
                   ·go_simp
                    rfl
                   refine hK.out _ _ ?_
                   clear hK K
                   refine done_ (done_of HT_.out (by kernel_rfl)) ?_
                   try go_wp2
                   (try (go_ret; (try simp only [])))
                   (try (refine ⟨_, rfl, ?_⟩))
                   have d3 := aM (FrI_get a6.out HLM623.out)
                   have d4 := aM (FrI_get a6.out HLM624.out)
                   have b6 := aM (FrI_get a6.out HLM625.out)
                   clear a6
                   try go_wp2
                   go_meet
                   case rel => exact ⟨_, (true), (d2), ((rd_T33 a5 (ji202)).f1.f0), ((rd_T33 a5 (ji202)).f1.f1), ((rd_T33 a5 (ji202)).f1.f2), ((rd_T33 a5 (ji202)).f1.f3), ((rd_T33 a5 (ji202)).f2), ((rd_T33 a5 (ji202)).f3), ((rd_T33 a5 (ji202)).f4.f0), ((rd_T33 a5 (ji202)).f4.f1), ((rd_T33 a5 (ji202)).f4.f2), ((rd_T33 a5 (ji202)).f4.f3), (x4), (e7), (.slice e3 d2.length e4), (.slice m3 ((rd_T33 a5 (ji202)).f2).length m4), (.slice (some d5) x4.length i3), (.slice k6 e7.length k7), fS, H', ⟨by have := HJ2.out; first | omega | exact Nat.le_refl _⟩, ⟨rW [a3] b0 a2⟩, ⟨rW [a3] HL752_5 a2⟩, ⟨sW [a3] C5 a2⟩, ⟨sW [a3] a9 a2⟩, ⟨kS⟩, ⟨kS⟩, ⟨kS⟩, ⟨kS⟩, ⟨bS⟩⟩
                 ·exact absurd hA_.out (by simp only [List.mem_cons, List.not_mem_nil, or_false, not_or]; exact ⟨u3, u0, u4, u5, x3⟩)
        ·obtain rfl := Bool.eq_false_iff.mpr Y6
         rw [if_neg nF] at H
         have H' := aM H
         clear H
         have hnb270 := nP e0 d6
         have hnb271 := nP e1 e2
         have hnb272 := nP f9 g5
         have hz273 := cz2 d4
         go_wp2_with (first | ((with_reducible refine gC 24 ?_); refine cM (some 49) Try.func24 (impl_IsStackOp.calls i1 _ _ V0.out) ?_; rintro e w' ⟨rfl, ⟨nd, rfl⟩⟩; refine ⟨_, rfl, ?_⟩; have hnb274 := nP g4 f8; have hnb275 := nP g6 g0; have L8 := cg0 a2; have L9 := blk_frozen a2.out 0) | ((with_reducible refine gC 26 ?_); refine cL (some 68) Try.func26 #[.slice q2 k9.length m8, .int .i64 v3] ?_; (with_reducible refine (impl_TakeNumbers.calls kj2 _ _ k9 v3 d2 j6 _ _ ?side1 ?side2 A77.out).mono ?_); (case side1 => refine (Kd.R_reads' (e := 3) (base := w.heap.size) (ok := fun k_ => ((w.heap.size ≤ k_) ∧ True)) (n := k9.length) (c := m8) ?_).2.2; exact (by exact rG e6 a2)); (case side2 => exact (Kd.R_reads' e6.out).2.1); rintro e ah6 ⟨Y7, q8, rfl, j7, l8, hb⟩; refine ⟨_, rfl, ?_⟩; have b0 := aM (Kd.R_lower (Kd.R_new' (Kd.R_newM (M := fun k_ => (w.heap.size ≤ k_)) j7 (below_size bS) (fun k_ h_ => h_)) (Kd.R_lt (by exact rG e6 a2))) (below_size bS)); have b2 := aM (Kd.R_lower (Kd.R_new' (Kd.R_newM (M := fun k_ => (w.heap.size ≤ k_)) l8 (below_size bS) (fun k_ h_ => h_)) (Kd.R_lt (by exact rG e6 a2))) (below_size bS)); replace e6 := aM (Kd.R_mono (Kd.R_told (Kd.R_told (Kd.R_old (by exact rG e6 a2) hb) (Kd.R_base j7)) (Kd.R_base l8)) (fun _ h_ => h_.1)); replace a8 := aM (Kd.R_below (by exact rG a8 a2) hb); replace a7 := aM (Kd.S_mono (Kd.S_told (Kd.S_told (Kd.S_old (by exact sG a7 a2) hb) (Kd.R_base j7)) (Kd.R_base l8)) (fun _ h_ => h_.1)); replace a9 := aM (Kd.S_below (by exact sG a9 a2) hb); replace d3 := kB_ e5 hb; replace d4 := kB_ f7 hb; replace b6 := kB_ d1 hb; replace a2 := kB_ a3 hb; replace HB := hB hb; (try clear hb hk j7 l8); obtain ⟨M1, M3, M4⟩ := Kd.R_slice b0.out; subst M4; have M5 := cg0 a2; have M6 := blk_frozen a2.out 0))
         go_meet
         case rel => exact ⟨_, (false), (d2), (l3), (l4), (l5), (l6), (d0), (j5), (i4), (i5), (i6), (i7), (a5), (e7), (.slice M1 d2.length M3), (.slice e8 d0.length e9), (.slice l7 a5.length i3), (.slice k6 e7.length k7), fS, H', ⟨by have := HJ2.out; first | omega | exact Nat.le_refl _⟩, ⟨rW [a3] b0 a2⟩, ⟨rW [a3] a8 a2⟩, ⟨sW [a3] a7 a2⟩, ⟨sW [a3] a9 a2⟩, ⟨kS⟩, ⟨kS⟩, ⟨kS⟩, ⟨kS⟩, ⟨bS⟩⟩
       ·obtain rfl := Bool.eq_false_iff.mpr Y4
        rw [if_neg nF] at H
        have H' := aM H
        clear H
        have hnb280 := nP e0 d6
        have hnb281 := nP e1 e2
        have hnb282 := nP f9 g5
        have hz283 := cz2 d4
        go_wp2_with (first | ((with_reducible refine gC 24 ?_); refine cM (some 49) Try.func24 (impl_IsStackOp.calls i1 _ _ V0.out) ?_; rintro e w' ⟨rfl, ⟨nd, rfl⟩⟩; refine ⟨_, rfl, ?_⟩))
        go_meet
        case rel => exact ⟨_, (false), (k9), (l3), (l4), (l5), (l6), (d0), (j5), (i4), (i5), (i6), (i7), (a5), (e7), (.slice q2 k9.length m8), (.slice e8 d0.length e9), (.slice l7 a5.length i3), (.slice k6 e7.length k7), fS, H', ⟨by have := HJ2.out; first | omega | exact Nat.le_refl _⟩, ⟨rW [a3] e6 a2⟩, ⟨rW [a3] a8 a2⟩, ⟨sW [a3] a7 a2⟩, ⟨sW [a3] a9 a2⟩, ⟨kS⟩, ⟨kS⟩, ⟨kS⟩, ⟨kS⟩, ⟨bS⟩⟩
    case rest =>
     clear D5
     try clear c2
     try clear p2
     try clear c4
     try clear c7
     try clear c24
     try clear c25
     try clear c26
     try clear c27
     try clear c28
     try clear c47
     try clear Y4
     try clear Y6
     try clear ah7
     try clear ah8
     try clear ah9
     try clear ai0
     try clear ai1
     try clear ai2
     try clear ai3
     try clear ai4
     try clear ai5
     try clear ai6
     try clear ai7
     try clear ai8
     obtain ⟨kq, s0, g7, g8, g9, h0, h1, h2, h3, h4, h5, h6, h7, h8, h9, m6, m7, o4, o5, rfl, HA, HJ34, b7, b1, b8, b9, d3, d4, b6, a2, HB⟩ := hcut
     cases kq with
     | zero => exact absurd HA.out (by simp [impl_ExecToken.j4])
     | succ kj34 =>
      have H := HA.out
      clear HA
      simp only [impl_ExecToken.j4] at H
      by_cases M7 : s0 = true
      ·subst M7
       rw [if_pos rfl] at H
       replace H := bN H
       obtain ⟨ab3, M8, H⟩ := H
       by_cases M9 : ab3 = true
       ·subst M9
        rw [if_pos rfl] at H
        simp only [Option.some.injEq, Prod.mk.injEq] at H
        obtain ⟨rfl, rfl, rfl, rfl, rfl, rfl, rfl, rfl, rfl, rfl, rfl, rfl, rfl, rfl⟩ := H
        have hnb287 := nP g4 f8
        have hnb288 := nP g5 f9
        have hnb289 := nP g6 g0
        have hz290 := cz13 a2
        obtain ⟨N1, N2, N3⟩ := Kd.R_slice b7.out
        subst N3
        obtain ⟨N4, N5, N6⟩ := Kd.R_slice b1.out
        subst N6
        obtain ⟨N7, N8, N9⟩ := Kd.S_slice b8.out
        subst N9
        obtain ⟨O0, O1, O2⟩ := Kd.S_slice b9.out
        subst O2
        go_wp2_with (first | (go_at_call 19; (with_reducible refine (impl_PageOk.calls kj34 _ _ g7 g8 g9 h0 h1 _ _ h2 h3 h4 h5 h6 h7 _ _ h8 _ _ h9 _ _ (cS (Kd.R_reads' b7.out).2.2) ((Kd.R_reads' b7.out).2.1) (cS (Kd.R_reads' b1.out).2.2) ((Kd.R_reads' b1.out).2.1) (cS (Kd.S_reads' b8.out).2.2) ((Kd.S_reads' b8.out).2.1) (cS (Kd.S_reads' b9.out).2.2) ((Kd.S_reads' b9.out).2.1) M8.out).mono ?_); rintro e ai9 ⟨rfl, hb⟩; replace b7 := rB b7 hb; replace b1 := rB b1 hb; replace b8 := sB b8 hb; replace b9 := sB b9 hb; replace d3 := kB_ e5 hb; replace d4 := kB_ f7 hb; replace b6 := kB_ d1 hb; replace a2 := kB_ a3 hb; replace HB := hB hb; (try clear hb); have hz296 := cz13 a2; have hnb297 := nP g3 g2; have hnb298 := nP e2 e1; have hz299 := cz13 b6))
        refine bodyPost_ret (results_ct rfl _ _ d1 37 #[.slice N1 g7.length N2, .int .i64 g8, .int .i64 g9, .int .i64 h0, .int .i64 h1, .slice N4 h2.length N5, .int .i64 h3, .int .i64 h4, .int .i64 h5, .int .i64 h6, .int .i64 h7, .slice N7 h8.length N8, .slice O0 h9.length O1] (0, 0) _ rfl kS Try.underlying37 rfl (by kernel_rfl)) rfl ?_
        exact ⟨_, _, _, _, eS, Kd.R_V (by exact Kd.R_mono (R_on (g := d1) (Kd.R_types b7.out b6.out (by decide)) (fun _ hk => hk.2)) (fun _ hk => hk.1)), Kd.R_V (by exact Kd.R_mono (R_on (g := d1) (Kd.R_types b1.out b6.out (by decide)) (fun _ hk => hk.2)) (fun _ hk => hk.1)), Kd.S_V (by exact Kd.S_mono (S_on (g := d1) (Kd.S_types b8.out b6.out (by decide)) (fun _ hk => hk.2)) (fun _ hk => hk.1.1)), Kd.S_V (by exact Kd.S_mono (S_on (g := d1) (Kd.S_types b9.out b6.out (by decide)) (fun _ hk => hk.2)) (fun _ hk => hk.1)), bS⟩
       ·obtain rfl := Bool.eq_false_iff.mpr M9
        rw [if_neg nF] at H
        replace H := bN H
        obtain ⟨⟨O3, O4, O5, O6, O7, O8, O9, P0, P1, P2, P3, P4, P5⟩, ab4, H⟩ := H
        simp only [Option.some.injEq, Prod.mk.injEq] at H
        obtain ⟨rfl, rfl, rfl, rfl, rfl, rfl, rfl, rfl, rfl, rfl, rfl, rfl, rfl, rfl⟩ := H
        have hnb301 := nP g4 f8
        have hnb302 := nP g5 f9
        have hnb303 := nP g6 g0
        have hz304 := cz13 a2
        obtain ⟨ad7, ad8, P6⟩ := Kd.R_slice b7.out
        subst P6
        obtain ⟨ad9, ae0, P7⟩ := Kd.R_slice b1.out
        subst P7
        obtain ⟨ae1, ae2, P8⟩ := Kd.S_slice b8.out
        subst P8
        obtain ⟨ae3, ae4, P9⟩ := Kd.S_slice b9.out
        subst P9
        go_wp2_with (first | (go_at_call 19; (with_reducible refine (impl_PageOk.calls kj34 _ _ g7 g8 g9 h0 h1 _ _ h2 h3 h4 h5 h6 h7 _ _ h8 _ _ h9 _ _ (cS (Kd.R_reads' b7.out).2.2) ((Kd.R_reads' b7.out).2.1) (cS (Kd.R_reads' b1.out).2.2) ((Kd.R_reads' b1.out).2.1) (cS (Kd.S_reads' b8.out).2.2) ((Kd.S_reads' b8.out).2.1) (cS (Kd.S_reads' b9.out).2.2) ((Kd.S_reads' b9.out).2.1) M8.out).mono ?_); rintro e aj0 ⟨rfl, hb⟩; replace b7 := rB b7 hb; replace b1 := rB b1 hb; replace b8 := sB b8 hb; replace b9 := sB b9 hb; replace d3 := kB_ e5 hb; replace d4 := kB_ f7 hb; replace b6 := kB_ d1 hb; replace a2 := kB_ a3 hb; replace HB := hB hb; (try clear hb); have hnb310 := nP d6 e0; have hnb311 := nP g2 g3; have hz312 := cz13 d3) | ((with_reducible refine gC 21 ?_); refine cM (some 90) Try.func21 (impl_copyPage.calls kj34 _ _ i8 j8 j9 k0 k1 _ _ i9 k2 k3 k4 k5 g1 _ _ f5 _ _ f6 O3 O4 O5 O6 O7 O8 O9 P0 P1 P2 P3 P4 P5 _ (cC n5 HB) n6.out (cC n7 HB) n8.out (cC l9 HB) m0.out (cC m1 HB) m2.out ab4.out) ?_; rintro e aj1 ⟨aj2, aj3, aj6, aj7, rfl, j7, l8, t8, t9, hb⟩; refine ⟨_, rfl, ?_⟩; have C6 := aM (Kd.R_lower (Kd.R_new' (Kd.R_newM (M := fun k_ => (w.heap.size ≤ k_)) j7 (below_size bS) (fun k_ h_ => h_)) (Kd.R_lt (rS b7))) (below_size bS)); have C7 := aM (Kd.R_lower (Kd.R_new' (Kd.R_newM (M := fun k_ => (w.heap.size ≤ k_)) l8 (below_size bS) (fun k_ h_ => h_)) (Kd.R_lt (rS b1))) (below_size bS)); have C9 := aM (Kd.S_lower (Kd.S_new' (Kd.S_new' (Kd.S_new' (Kd.S_newM (M := fun k_ => (w.heap.size ≤ k_)) t8 (below_size bS) (fun k_ h_ => h_)) (Kd.R_lt (rS b7))) (Kd.R_lt (rS b1))) (Kd.S_lt (sS b8))) (below_size bS)); have D0 := aM (Kd.S_lower (Kd.S_new' (Kd.S_new' (Kd.S_newM (M := fun k_ => (w.heap.size ≤ k_)) t9 (below_size bS) (fun k_ h_ => h_)) (Kd.R_lt (rS b1))) (Kd.S_lt (sS b9))) (below_size bS)); replace b7 := aM (Kd.R_elder' (rS b7) (Kd.R_base j7) hb); replace b1 := aM (Kd.R_elder' (rS b1) (Kd.R_base l8) hb); replace b8 := aM (Kd.S_mono (Kd.S_told (Kd.S_told (Kd.S_told (Kd.S_old (sS b8) hb) (Kd.R_base j7)) (Kd.R_base l8)) (Kd.S_base t8)) (fun _ h_ => h_.1)); replace b9 := aM (Kd.S_mono (Kd.S_told (Kd.S_told (Kd.S_old (sS b9) hb) (Kd.R_base l8)) (Kd.S_base t9)) (fun _ h_ => h_.1)); replace d3 := kB_ e5 hb; replace d4 := kB_ f7 hb; replace b6 := kB_ d1 hb; replace a2 := kB_ a3 hb; replace HB := hB hb; (try clear hb j7 l8 t8 t9); obtain ⟨Q0, Q1, Q2⟩ := Kd.R_slice C6.out; subst Q2; have hnb315 := nP e2 e1; have hz316 := cz13 b6; obtain ⟨Q3, Q4, Q5⟩ := Kd.R_slice C7.out; subst Q5; obtain ⟨Q6, Q7, Q8⟩ := Kd.S_slice C9.out; subst Q8; obtain ⟨Q9, R1, R2⟩ := Kd.S_slice D0.out; subst R2))
        refine bodyPost_ret (results_ct rfl _ _ d1 37 #[.slice Q0 O3.length Q1, .int .i64 O4, .int .i64 O5, .int .i64 O6, .int .i64 O7, .slice Q3 O8.length Q4, .int .i64 O9, .int .i64 P0, .int .i64 P1, .int .i64 P2, .int .i64 P3, .slice Q6 P4.length Q7, .slice Q9 P5.length R1] (0, 0) _ rfl kS Try.underlying37 rfl (by kernel_rfl)) rfl ?_
        exact ⟨_, _, _, _, eS, Kd.R_V (by exact Kd.R_mono (R_on (g := d1) (Kd.R_types C6.out b6.out (by decide)) (fun _ hk => hk.2)) (fun _ hk => hk.1.1.1)), Kd.R_V (by exact Kd.R_mono (R_on (g := d1) (Kd.R_types C7.out b6.out (by decide)) (fun _ hk => hk.2)) (fun _ hk => hk.1.1.1)), Kd.S_V (by exact Kd.S_mono (S_on (g := d1) (Kd.S_types C9.out b6.out (by decide)) (fun _ hk => hk.2)) (fun _ hk => hk.1.1.1.1.1)), Kd.S_V (by exact Kd.S_mono (S_on (g := d1) (Kd.S_types D0.out b6.out (by decide)) (fun _ hk => hk.2)) (fun _ hk => hk.1.1.1.1)), bS⟩
      ·obtain rfl := Bool.eq_false_iff.mpr M7
       rw [if_neg nF] at H
       replace H := bN H
       obtain ⟨⟨R7, R9, S0, S1, S2, S3, S4, S5, S6, S7, S8, S9, T0⟩, ab5, H⟩ := H
       simp only [Option.some.injEq, Prod.mk.injEq] at H
       obtain ⟨rfl, rfl, rfl, rfl, rfl, rfl, rfl, rfl, rfl, rfl, rfl, rfl, rfl, rfl⟩ := H
       have hnb321 := nP d6 e0
       have hnb322 := nP g2 g3
       have hnb323 := nP f8 g4
       have hz324 := cz13 d3
       go_wp2_with (first | ((with_reducible refine gC 21 ?_); refine cM (some 90) Try.func21 (impl_copyPage.calls kj34 _ _ i8 j8 j9 k0 k1 _ _ i9 k2 k3 k4 k5 g1 _ _ f5 _ _ f6 R7 R9 S0 S1 S2 S3 S4 S5 S6 S7 S8 S9 T0 _ (cC n5 HB) n6.out (cC n7 HB) n8.out (cC l9 HB) m0.out (cC m1 HB) m2.out ab5.out) ?_; rintro e aj8 ⟨aj9, ak0, ak1, ak2, rfl, j7, l8, t8, t9, hb⟩; refine ⟨_, rfl, ?_⟩; have D1 := aM (Kd.R_lower (Kd.R_new' (Kd.R_newM (M := fun k_ => (w.heap.size ≤ k_)) j7 (below_size bS) (fun k_ h_ => h_)) (Kd.R_lt (rS b7))) (below_size bS)); have D2 := aM (Kd.R_lower (Kd.R_new' (Kd.R_newM (M := fun k_ => (w.heap.size ≤ k_)) l8 (below_size bS) (fun k_ h_ => h_)) (Kd.R_lt (rS b1))) (below_size bS)); have D3 := aM (Kd.S_lower (Kd.S_new' (Kd.S_new' (Kd.S_new' (Kd.S_newM (M := fun k_ => (w.heap.size ≤ k_)) t8 (below_size bS) (fun k_ h_ => h_)) (Kd.R_lt (rS b7))) (Kd.R_lt (rS b1))) (Kd.S_lt (sS b8))) (below_size bS)); have D4 := aM (Kd.S_lower (Kd.S_new' (Kd.S_new' (Kd.S_newM (M := fun k_ => (w.heap.size ≤ k_)) t9 (below_size bS) (fun k_ h_ => h_)) (Kd.R_lt (rS b1))) (Kd.S_lt (sS b9))) (below_size bS)); replace b7 := aM (Kd.R_elder' (rS b7) (Kd.R_base j7) hb); replace b1 := aM (Kd.R_elder' (rS b1) (Kd.R_base l8) hb); replace b8 := aM (Kd.S_mono (Kd.S_told (Kd.S_told (Kd.S_told (Kd.S_old (sS b8) hb) (Kd.R_base j7)) (Kd.R_base l8)) (Kd.S_base t8)) (fun _ h_ => h_.1)); replace b9 := aM (Kd.S_mono (Kd.S_told (Kd.S_told (Kd.S_old (sS b9) hb) (Kd.R_base l8)) (Kd.S_base t9)) (fun _ h_ => h_.1)); replace d3 := kB_ e5 hb; replace d4 := kB_ f7 hb; replace b6 := kB_ d1 hb; replace a2 := kB_ a3 hb; replace HB := hB hb; (try clear hb j7 l8 t8 t9); obtain ⟨T8, T9, U0⟩ := Kd.R_slice D1.out; subst U0; have hnb327 := nP e2 e1; have hnb328 := nP g0 g6; have hz329 := cz13 b6; obtain ⟨U1, U2, U3⟩ := Kd.R_slice D2.out; subst U3; obtain ⟨U4, U5, U6⟩ := Kd.S_slice D3.out; subst U6; obtain ⟨U7, U8, U9⟩ := Kd.S_slice D4.out; subst U9))
       refine bodyPost_ret (results_ct rfl _ _ d1 37 #[.slice T8 R7.length T9, .int .i64 R9, .int .i64 S0, .int .i64 S1, .int .i64 S2, .slice U1 S3.length U2, .int .i64 S4, .int .i64 S5, .int .i64 S6, .int .i64 S7, .int .i64 S8, .slice U4 S9.length U5, .slice U7 T0.length U8] (0, 0) _ rfl kS Try.underlying37 rfl (by kernel_rfl)) rfl ?_
       exact ⟨_, _, _, _, eS, Kd.R_V (by exact Kd.R_mono (R_on (g := d1) (Kd.R_types D1.out b6.out (by decide)) (fun _ hk => hk.2)) (fun _ hk => hk.1.1.1)), Kd.R_V (by exact Kd.R_mono (R_on (g := d1) (Kd.R_types D2.out b6.out (by decide)) (fun _ hk => hk.2)) (fun _ hk => hk.1.1.1)), Kd.S_V (by exact Kd.S_mono (S_on (g := d1) (Kd.S_types D3.out b6.out (by decide)) (fun _ hk => hk.2)) (fun _ hk => hk.1.1.1.1.1)), Kd.S_V (by exact Kd.S_mono (S_on (g := d1) (Kd.S_types D4.out b6.out (by decide)) (fun _ hk => hk.2)) (fun _ hk => hk.1.1.1.1)), bS⟩

end Go.Proofs.Ytpickbenfkcpmaa.QFnRuns7
