-- Made out of the translation by a program of this session (a changed copy of the print). Not trusted: Lean checks it.
import Derived.Test.YtpickbenfkcpmaaQFnRuns7x140
namespace Go.Proofs.Ytpickbenfkcpmaa.QFnRuns7
open Go.RowKit Go.Proofs.YtpickbenfkcpmaaW.PrintWords Go.Proofs.YtpickbenfkcpmaaW.PrintLast Go.Proofs.YtpickbenfkcpmaaW.PrintMore
attribute [local go_sem] max2_int min2_int max_two min_two max_three min_three max_four min_four   -- for this text's walks alone
set_option linter.unusedVariables false
set_option linter.unusedSimpArgs false
set_option maxHeartbeats 64000000
set_option maxRecDepth 100000

theorem impl_ExecToken.calls0 (k : Nat) (t8 : Option Addr) (t9 : Nat) (l4 : List Int) (l9 : Int) (m0 : Int) (m1 : Int) (m2 : Int) (u0 : Option Addr) (u1 : Nat) (l5 : List (S90)) (m3 : Int) (m4 : Int) (m5 : Int) (m6 : Int) (k4 : Int) (q6 : Option Addr) (q8 : Nat) (h8 : List (S33)) (q9 : Option Addr) (r0 : Nat) (h9 : List (S82)) (h1 : ByteArray) (q4 : Int) (r1 : List Int) (r2 : Int) (r3 : Int) (r4 : Int) (r5 : Int) (r6 : List (S90)) (r7 : Int) (r8 : Int) (r9 : Int) (E2 : Int) (E3 : Int) (E4 : List (S33)) (E5 : List (S82)) (E6 : Bool) (w : World) (y5 : Kd.C (Kd.int .i64) w t8 l4.length l4) (y6 : l4.length ≤ t9) (y7 : Kd.C k90 w u0 l5.length l5) (y8 : l5.length ≤ u1) (u7 : Kd.C k33 w q6 h8.length h8) (u9 : h8.length ≤ q8) (v0 : Kd.C k82 w q9 h9.length h9) (v1 : h9.length ≤ r0) (h : impl_ExecToken.f k l4 l9 m0 m1 m2 l5 m3 m4 m5 m6 k4 h8 h9 h1 q4 = some (r1, r2, r3, r4, r5, r6, r7, r8, r9, E2, E3, E4, E5, E6)) (hA_ : Aside0 (h1.toList ∉ (([[110, 101, 119], [109, 111, 118, 101, 116, 111], [108, 105, 110, 101, 116, 111], [114, 101, 99, 116]] : List (List UInt8)) ++ ([[103, 114, 97, 121], [102, 105, 108, 108], [99, 108, 105, 112], [115, 97, 118, 101], [114, 101, 115, 116, 111, 114, 101]] : List (List UInt8))))) :
  Calls Try.prog 9 #[.agg #[.slice t8 l4.length t9, .int .i64 l9, .int .i64 m0, .int .i64 m1, .int .i64 m2, .slice u0 l5.length u1, .int .i64 m3, .int .i64 m4, .int .i64 m5, .int .i64 m6, .int .i64 k4, .slice q6 h8.length q8, .slice q9 h9.length r0], .agg #[.string h1, .int .i64 q4]] w fun e w' => ∃ v0_ v5_ v11_ v12_ : Value, e = .returned (.tuple #[.agg #[v0_, .int .i64 r2, .int .i64 r3, .int .i64 r4, .int .i64 r5, v5_, .int .i64 r7, .int .i64 r8, .int .i64 r9, .int .i64 E2, .int .i64 E3, v11_, v12_], .bool E6]) ∧ Kd.V (Kd.int .i64) 3 w' w.heap.size (fun k_ => (w.heap.size ≤ k_)) v0_ r1 ∧ Kd.V k90 90 w' w.heap.size (fun k_ => (w.heap.size ≤ k_)) v5_ r6 ∧ Kd.V k33 33 w' w.heap.size (fun k_ => (w.heap.size ≤ k_)) v11_ E4 ∧ Kd.V k82 82 w' w.heap.size (fun k_ => (w.heap.size ≤ k_)) v12_ E5 ∧ Below w.heap.size w w' := by
 have hu37 := Try.underlying37
 have hu46 := Try.underlying46
 have hu28 := Try.underlying28
 have hu90 := Try.underlying90
 have hu31 := Try.underlying31
 have hu82 := Try.underlying82
 have hu33 := Try.underlying33
 have s0 := aM y5
 have s1 := aM y6
 clear y5 y6
 have s2 := aM y7
 have s3 := aM y8
 clear y7 y8
 have n6 := aM u7
 have n7 := aM u9
 clear u7 u9
 have n8 := aM v0
 have o0 := aM v1
 clear v0 v1
 have HB := aM (Below.refl w.heap.size w)
 have H := h
 clear h
 unfold impl_ExecToken.f at H
 have S3 := aM H
 clear H
 go_enter Try.func9, Try.ntmps9
 go_upto_region 1 with (first | ((with_reducible refine gD 2 ?_); refine bxE #[.slice t8 l4.length t9, .int .i64 l9, .int .i64 m0, .int .i64 m1, .int .i64 m2, .slice u0 l5.length u1, .int .i64 m3, .int .i64 m4, .int .i64 m5, .int .i64 m6, .int .i64 k4, .slice q6 h8.length q8, .slice q9 h9.length r0] 37 ?_; intro f5 hg w4 e0 hb; have GE623 := gE hg; replace HB := hB hb; clear hb hg) | ((with_reducible refine gD 3 ?_); refine bxE #[.string h1, .int .i64 q4] 46 ?_; intro g6 hg w5 d5 hb; have GE624 := gE hg; have e9 := nL_ f5 hg; have f0 := nG_ f5 hg; replace e0 := kB_ f5 hb; replace HB := hB hb; clear hb hg) | ((with_reducible refine gD 4 ?_); refine bxE #[.slice none 0 0, .int .i64 0, .int .i64 0, .int .i64 0, .int .i64 0, .slice none 0 0, .int .i64 0, .int .i64 0, .int .i64 0, .int .i64 0, .int .i64 0, .slice none 0 0, .slice none 0 0] 37 ?_; intro d3 hg w6 d1 hb; have GE625 := gE hg; have i1 := nL_ f5 hg; have i3 := nG_ f5 hg; have f3 := nL_ g6 hg; have f4 := nG_ g6 hg; replace e0 := kB_ f5 hb; replace d5 := kB_ g6 hb; replace HB := hB hb; clear hb hg))
 (try simp only [Act.put, List.setIfInBounds_toArray, List.set_cons_zero, List.set_cons_succ])
 go_cut [20] (fun v20 wc => ∃ (kq : Nat) (t3 : Bool), v20 = .bool t3 ∧ Aside0 (impl_ExecToken.j0 kq t3 l4 l9 m0 m1 m2 l5 m3 m4 m5 m6 k4 h8 h9 h1 q4 = some (r1, r2, r3, r4, r5, r6, r7, r8, r9, E2, E3, E4, E5, E6)) ∧ Aside0 (kq ≤ k) ∧ Aside0 (wc.heap[f5]? = some (.cells #[(.slice t8 l4.length t9), .int .i64 l9, .int .i64 m0, .int .i64 m1, .int .i64 m2, (.slice u0 l5.length u1), .int .i64 m3, .int .i64 m4, .int .i64 m5, .int .i64 m6, .int .i64 k4, (.slice q6 h8.length q8), (.slice q9 h9.length r0)] 37 (0, 0))) ∧ Aside0 (wc.heap[g6]? = some (.cells #[.string h1, .int .i64 q4] 46 (0, 0))) ∧ Aside0 (wc.heap[d3]? = some (.cells #[(.slice none 0 0), .int .i64 0, .int .i64 0, .int .i64 0, .int .i64 0, (.slice none 0 0), .int .i64 0, .int .i64 0, .int .i64 0, .int .i64 0, .int .i64 0, (.slice none 0 0), (.slice none 0 0)] 37 (0, 0))) ∧ Aside0 (Below w.heap.size w wc))
 case first =>
  have H := S3.out
  clear S3
  replace H := bN H
  obtain ⟨S4, A7, H⟩ := H
  by_cases c8 : S4 = true
  ·subst c8
   rw [if_pos rfl] at H
   replace H := bN H
   obtain ⟨E7, A9, H⟩ := H
   have H' := aM H
   clear H
   have hnb10 := nP e9 f0
   have hnb11 := nP i1 i3
   have hz12 := cz13 e0
   go_wp2_with (first | ((with_reducible refine gC 19 ?_); refine cM (some 14) Try.func19 (impl_PageOk.calls k _ _ l4 l9 m0 m1 m2 _ _ l5 m3 m4 m5 m6 k4 _ _ h8 _ _ h9 _ _ (cC s0 HB) s1.out (cC s2 HB) s3.out (cC n6 HB) n7.out (cC n8 HB) o0.out A7.out) ?_; rintro e w13 ⟨rfl, hb⟩; refine ⟨_, rfl, ?_⟩; replace e0 := kB_ f5 hb; replace d5 := kB_ g6 hb; replace d1 := kB_ d3 hb; replace HB := hB hb; (try clear hb); have hnb14 := nP f3 f4; have hz15 := cz2 d5) | (go_at_call 20; (with_reducible refine (impl_TokenOk.calls k h1 q4 E7 _ A9.out).mono ?_); rintro e w16 ⟨rfl, hb⟩; replace e0 := kB_ f5 hb; replace d5 := kB_ g6 hb; replace d1 := kB_ d3 hb; replace HB := hB hb; (try clear hb)))
   go_meet
   case rel => exact ⟨_, (!E7), fS, H', ⟨by first | omega | exact Nat.le_refl _⟩, ⟨kS⟩, ⟨kS⟩, ⟨kS⟩, ⟨bS⟩⟩
  ·obtain rfl := Bool.eq_false_iff.mpr c8
   rw [if_neg nF] at H
   have H' := aM H
   clear H
   have hnb17 := nP e9 f0
   have hnb18 := nP i1 i3
   have hz19 := cz13 e0
   go_wp2_with (first | ((with_reducible refine gC 19 ?_); refine cM (some 14) Try.func19 (impl_PageOk.calls k _ _ l4 l9 m0 m1 m2 _ _ l5 m3 m4 m5 m6 k4 _ _ h8 _ _ h9 _ _ (cC s0 HB) s1.out (cC s2 HB) s3.out (cC n6 HB) n7.out (cC n8 HB) o0.out A7.out) ?_; rintro e w20 ⟨rfl, hb⟩; refine ⟨_, rfl, ?_⟩; replace e0 := kB_ f5 hb; replace d5 := kB_ g6 hb; replace d1 := kB_ d3 hb; replace HB := hB hb; (try clear hb)))
   go_meet
   case rel => exact ⟨_, (true), fS, H', ⟨by first | omega | exact Nat.le_refl _⟩, ⟨kS⟩, ⟨kS⟩, ⟨kS⟩, ⟨bS⟩⟩
 case rest =>
  clear S3
  try clear c1
  try clear p2
  try clear c8
  try clear c9
  try clear c10
  try clear c11
  try clear c14
  try clear c17
  try clear c18
  try clear c19
  obtain ⟨kq, t3, rfl, HA, HJ2, e0, d5, d1, HB⟩ := hcut
  cases kq with
  | zero => exact absurd HA.out (by simp [impl_ExecToken.j0])
  | succ kj2 =>
   have H := HA.out
   clear HA
   simp only [impl_ExecToken.j0] at H
   by_cases Z0 : t3 = true
   ·subst Z0
    rw [if_pos rfl] at H
    replace H := bN H
    obtain ⟨⟨E8, E9, F2, F3, F4, F5, F6, F7, F8, F9, G0, G1, G2⟩, A22, H⟩ := H
    simp only [Option.some.injEq, Prod.mk.injEq] at H
    obtain ⟨rfl, rfl, rfl, rfl, rfl, rfl, rfl, rfl, rfl, rfl, rfl, rfl, rfl, rfl⟩ := H
    have hnb23 := nP e9 f0
    have hnb24 := nP i1 i3
    have hz25 := cz13 e0
    go_wp2_with (first | ((with_reducible refine gC 21 ?_); refine cM (some 22) Try.func21 (impl_copyPage.calls kj2 _ _ l4 l9 m0 m1 m2 _ _ l5 m3 m4 m5 m6 k4 _ _ h8 _ _ h9 E8 E9 F2 F3 F4 F5 F6 F7 F8 F9 G0 G1 G2 _ (cC s0 HB) s1.out (cC s2 HB) s3.out (cC n6 HB) n7.out (cC n8 HB) o0.out A22.out) ?_; rintro e w26 ⟨aa9, ab0, ab1, ab2, rfl, l6, o1, u2, u3, hb⟩; refine ⟨_, rfl, ?_⟩; have y9 := aM (Kd.R_lower (Kd.R_newM (M := fun k_ => (w.heap.size ≤ k_)) l6 (below_size bS) (fun k_ h_ => h_)) (below_size bS)); have A0 := aM (Kd.R_lower (Kd.R_newM (M := fun k_ => (w.heap.size ≤ k_)) o1 (below_size bS) (fun k_ h_ => h_)) (below_size bS)); have A1 := aM (Kd.S_lower (Kd.S_newM (M := fun k_ => (w.heap.size ≤ k_)) u2 (below_size bS) (fun k_ h_ => h_)) (below_size bS)); have A2 := aM (Kd.S_lower (Kd.S_newM (M := fun k_ => (w.heap.size ≤ k_)) u3 (below_size bS) (fun k_ h_ => h_)) (below_size bS)); replace e0 := kB_ f5 hb; replace d5 := kB_ g6 hb; replace d1 := kB_ d3 hb; replace HB := hB hb; (try clear hb l6 o1 u2 u3); obtain ⟨S5, S6, S7⟩ := Kd.R_slice y9.out; subst S7; have hnb28 := nP f4 f3; have hz29 := cz13 d1; obtain ⟨S8, S9, T0⟩ := Kd.R_slice A0.out; subst T0; obtain ⟨T8, T9, U0⟩ := Kd.S_slice A1.out; subst U0; obtain ⟨U1, U2, U3⟩ := Kd.S_slice A2.out; subst U3))
    refine bodyPost_ret (results_ct rfl _ _ d3 37 #[.slice S5 E8.length S6, .int .i64 E9, .int .i64 F2, .int .i64 F3, .int .i64 F4, .slice S8 F5.length S9, .int .i64 F6, .int .i64 F7, .int .i64 F8, .int .i64 F9, .int .i64 G0, .slice T8 G1.length T9, .slice U1 G2.length U2] (0, 0) _ rfl kS Try.underlying37 rfl (by kernel_rfl)) rfl ?_
    exact ⟨_, _, _, _, eS, Kd.R_V (by exact Kd.R_mono (R_on (g := d3) (Kd.R_types y9.out d1.out (by decide)) (fun _ hk => hk.2)) (fun _ hk => hk.1.1)), Kd.R_V (by exact Kd.R_mono (R_on (g := d3) (Kd.R_types A0.out d1.out (by decide)) (fun _ hk => hk.2)) (fun _ hk => hk.1.1)), Kd.S_V (by exact Kd.S_mono (S_on (g := d3) (Kd.S_types A1.out d1.out (by decide)) (fun _ hk => hk.2)) (fun _ hk => hk.1.1)), Kd.S_V (by exact Kd.S_mono (S_on (g := d3) (Kd.S_types A2.out d1.out (by decide)) (fun _ hk => hk.2)) (fun _ hk => hk.1.1)), bS⟩
   ·obtain rfl := Bool.eq_false_iff.mpr Z0
    rw [if_neg nF] at H
    replace H := bN H
    obtain ⟨⟨k5, h4, h5, h6, h7, e1, m7, m8, m9, n0, n1, f6, f7⟩, A33, H⟩ := H
    replace H := bN H
    obtain ⟨⟨v2, G3⟩, A34, H⟩ := H
    have C0 := aM H
    clear H
    have hnb36 := nP e9 f0
    have hnb37 := nP i1 i3
    have hz38 := cz13 e0
    go_upto_block 0 with (first | ((with_reducible refine gC 21 ?_); refine cM (some 24) Try.func21 (impl_copyPage.calls kj2 _ _ l4 l9 m0 m1 m2 _ _ l5 m3 m4 m5 m6 k4 _ _ h8 _ _ h9 k5 h4 h5 h6 h7 e1 m7 m8 m9 n0 n1 f6 f7 _ (cC s0 HB) s1.out (cC s2 HB) s3.out (cC n6 HB) n7.out (cC n8 HB) o0.out A33.out) ?_; rintro e w39 ⟨ab5, ab6, ab7, ab8, rfl, l6, o1, u2, u3, hb⟩; refine ⟨_, rfl, ?_⟩; have e8 := aM (Kd.R_lower (Kd.R_newM (M := fun k_ => (w.heap.size ≤ k_)) l6 (below_size bS) (fun k_ h_ => h_)) (below_size bS)); have e3 := aM (Kd.R_lower (Kd.R_newM (M := fun k_ => (w.heap.size ≤ k_)) o1 (below_size bS) (fun k_ h_ => h_)) (below_size bS)); have d6 := aM (Kd.S_lower (Kd.S_newM (M := fun k_ => (w.heap.size ≤ k_)) u2 (below_size bS) (fun k_ h_ => h_)) (below_size bS)); have e4 := aM (Kd.S_lower (Kd.S_newM (M := fun k_ => (w.heap.size ≤ k_)) u3 (below_size bS) (fun k_ h_ => h_)) (below_size bS)); replace e0 := kB_ f5 hb; replace d5 := kB_ g6 hb; replace d1 := kB_ d3 hb; replace HB := hB hb; (try clear hb l6 o1 u2 u3)) | ((with_reducible refine gD 6 ?_); refine bxE #[.slice none 0 0, .int .i64 0, .int .i64 0, .int .i64 0, .int .i64 0, .slice none 0 0, .int .i64 0, .int .i64 0, .int .i64 0, .int .i64 0, .int .i64 0, .slice none 0 0, .slice none 0 0] 37 ?_; intro a8 hg w40 a2 hb; have GE670 := gE hg; have g3 := nL_ f5 hg; have g8 := nG_ f5 hg; have g4 := nL_ g6 hg; have g9 := nG_ g6 hg; have g5 := nL_ d3 hg; have h0 := nG_ d3 hg; replace e8 := rB e8 hb; replace e3 := rB e3 hb; replace d6 := sB d6 hb; replace e4 := sB e4 hb; replace e0 := kB_ f5 hb; replace d5 := kB_ g6 hb; replace d1 := kB_ d3 hb; replace HB := hB hb; clear hb hg; obtain ⟨s4, o4, U4⟩ := Kd.R_slice e8.out; subst U4; have hnb42 := nP g8 g3; have hnb43 := nP g9 g4; have hnb44 := nP h0 g5; have hz45 := cz13 a2; obtain ⟨f8, f9, U5⟩ := Kd.R_slice e3.out; subst U5; obtain ⟨k6, k7, U6⟩ := Kd.S_slice d6.out; subst U6; obtain ⟨k9, l3, U7⟩ := Kd.S_slice e4.out; subst U7; have hnb49 := nP f3 f4; have hz50 := cz2 d5) | ((with_reducible refine gC 22 ?_); refine cM (some 28) Try.func22 (impl_taken.calls kj2 h1 v2 G3 _ A34.out) ?_; rintro e w' ⟨rfl, ⟨nd, rfl⟩⟩; refine ⟨_, rfl, ?_⟩))
    (try simp only [Act.put, List.setIfInBounds_toArray, List.set_cons_zero, List.set_cons_succ])
    go_cut [7] (fun v7 wc => ∃ (kq : Nat) (t4 : Bool) (i4 : List Int) (i5 : Int) (i6 : Int) (i7 : Int) (i8 : Int) (i9 : List (S90)) (j5 : Int) (j6 : Int) (j7 : Int) (j8 : Int) (j9 : Int) (k0 : List (S33)) (k1 : List (S82)) (o6 : Value) (o7 : Value) (s5 : Value) (s6 : Value), v7 = .bool t4 ∧ Aside0 (impl_ExecToken.j4 kq t4 l4 l9 m0 m1 m2 l5 m3 m4 m5 m6 k4 h8 h9 i4 i5 i6 i7 i8 i9 j5 j6 j7 j8 j9 k0 k1 = some (r1, r2, r3, r4, r5, r6, r7, r8, r9, E2, E3, E4, E5, E6)) ∧ Aside0 (kq ≤ kj2) ∧ Aside0 (Kd.R (Kd.int .i64) 3 wc w.heap.size (fun k_ => (w.heap.size ≤ k_)) o6 i4) ∧ Aside0 (Kd.R k90 90 wc w.heap.size (fun k_ => (w.heap.size ≤ k_)) o7 i9) ∧ Aside0 (Kd.S k33 33 wc w.heap.size (fun k_ => (w.heap.size ≤ k_) ∧ some k_ ≠ (o6 : Value).ownBlock ∧ some k_ ≠ (o7 : Value).ownBlock) s5 k0) ∧ Aside0 (Kd.S k82 82 wc w.heap.size (fun k_ => (w.heap.size ≤ k_)) s6 k1) ∧ Aside0 (wc.heap[f5]? = some (.cells #[(.slice t8 l4.length t9), .int .i64 l9, .int .i64 m0, .int .i64 m1, .int .i64 m2, (.slice u0 l5.length u1), .int .i64 m3, .int .i64 m4, .int .i64 m5, .int .i64 m6, .int .i64 k4, (.slice q6 h8.length q8), (.slice q9 h9.length r0)] 37 (0, 0))) ∧ Aside0 (wc.heap[g6]? = some (.cells #[.string h1, .int .i64 q4] 46 (0, 0))) ∧ Aside0 (wc.heap[d3]? = some (.cells #[(.slice none 0 0), .int .i64 0, .int .i64 0, .int .i64 0, .int .i64 0, (.slice none 0 0), .int .i64 0, .int .i64 0, .int .i64 0, .int .i64 0, .int .i64 0, (.slice none 0 0), (.slice none 0 0)] 37 (0, 0))) ∧ Aside0 (wc.heap[a8]? = some (.cells #[o6, .int .i64 i5, .int .i64 i6, .int .i64 i7, .int .i64 i8, o7, .int .i64 j5, .int .i64 j6, .int .i64 j7, .int .i64 j8, .int .i64 j9, s5, s6] 37 (0, 0))) ∧ Aside0 (Below w.heap.size w wc))
    case first =>
     have H := C0.out
     clear C0
     by_cases G4 : h1.toList = ([] : List UInt8)
     ·rw [if_pos G4] at H
      obtain ⟨s7, G5⟩ := eqT G4
      clear G4
      (first | rw [s7] | (simp only [i64_w, i32_w]; rw [s7]) | skip)
      replace H := bN H
      obtain ⟨⟨C2, G6⟩, A52, H⟩ := H
      have H' := aM H
      clear H
      have hnb53 := nP f0 e9
      have hnb54 := nP f3 f4
      have hnb55 := nP g4 g9
      have hz56 := cz2 d5
      have hnb57 := nP g8 g3
      have hnb58 := nP h0 g5
      have Q4 := cg0 a2
      have Q5 := blk_frozen a2.out 0
      go_wp2_with (first | ((with_reducible refine gC 23 ?_); refine cL (some 41) Try.func23 #[.slice s4 k5.length o4, .int .i64 q4] ?_; (with_reducible refine (impl_PushNumber.calls kj2 _ _ k5 q4 C2 G6 _ ?side1 ?side2 A52.out).mono ?_); (case side1 => refine (Kd.R_reads' (e := 3) (base := w.heap.size) (ok := fun k_ => ((w.heap.size ≤ k_) ∧ True)) (n := k5.length) (c := o4) ?_).2.2; exact (by exact rG e8 a2)); (case side2 => exact (Kd.R_reads' e8.out).2.1); rintro e w60 ⟨ac0, rfl, l6, hb⟩; refine ⟨_, rfl, ?_⟩; have A3 := aM (Kd.R_lower (Kd.R_new' (Kd.R_newM (M := fun k_ => (w.heap.size ≤ k_)) l6 (below_size bS) (fun k_ h_ => h_)) (Kd.R_lt (by exact rG e8 a2))) (below_size bS)); replace e8 := aM (Kd.R_elder' (by exact rG e8 a2) (Kd.R_base l6) hb); replace e3 := aM (Kd.R_below (by exact rG e3 a2) hb); replace d6 := aM (Kd.S_elder' (by exact sG d6 a2) (Kd.R_base l6) hb); replace e4 := aM (Kd.S_below (by exact sG e4 a2) hb); replace e0 := kB_ f5 hb; replace d5 := kB_ g6 hb; replace d1 := kB_ d3 hb; replace a2 := kB_ a8 hb; replace HB := hB hb; (try clear hb hk l6); obtain ⟨U8, U9, V0⟩ := Kd.R_slice A3.out; subst V0; have Q6 := cg0 a2; have Q7 := blk_frozen a2.out 0))
      go_meet
      case rel => exact ⟨_, (G6), (C2), (h4), (h5), (h6), (h7), (e1), (m7), (m8), (m9), (n0), (n1), (f6), (f7), (.slice U8 C2.length U9), (.slice f8 e1.length f9), (.slice k6 f6.length k7), (.slice k9 f7.length l3), fS, H', ⟨by have := HJ2.out; first | omega | exact Nat.le_refl _⟩, ⟨rW [a8] A3 a2⟩, ⟨rW [a8] e3 a2⟩, ⟨sW [a8] d6 a2⟩, ⟨sW [a8] e4 a2⟩, ⟨kS⟩, ⟨kS⟩, ⟨kS⟩, ⟨kS⟩, ⟨bS⟩⟩
     ·rw [if_neg G4] at H
      obtain ⟨s7, G5⟩ := eqF G4
      (first | rw [s7] | (simp only [i64_w, i32_w]; rw [s7]) | skip)
      replace H := bN H
      obtain ⟨V1, Q8, H⟩ := H
      by_cases Z1 : V1 = true
      ·subst Z1
       rw [if_pos rfl] at H
       replace H := bN H
       obtain ⟨⟨C3, G7⟩, A65, H⟩ := H
       have H' := aM H
       clear H
       have hnb66 := nP f0 e9
       have hnb67 := nP f3 f4
       have hnb68 := nP g4 g9
       have hz69 := cz2 d5
       go_wp2_with (first | ((with_reducible refine gC 24 ?_); refine cM (some 49) Try.func24 (impl_IsStackOp.calls h1 _ _ Q8.out) ?_; rintro e w' ⟨rfl, ⟨nd, rfl⟩⟩; refine ⟨_, rfl, ?_⟩; have hnb70 := nP g8 g3; have hnb71 := nP h0 g5; have Q9 := cg0 a2; have R1 := blk_frozen a2.out 0) | ((with_reducible refine gC 25 ?_); refine cL (some 56) Try.func25 #[.slice s4 k5.length o4, .string h1] ?_; (with_reducible refine (impl_StackOp.calls kj2 _ _ k5 h1 C3 G7 _ ?side1 ?side2 A65.out).mono ?_); (case side1 => refine (Kd.R_reads' (e := 3) (base := w.heap.size) (ok := fun k_ => ((w.heap.size ≤ k_) ∧ True)) (n := k5.length) (c := o4) ?_).2.2; exact (by exact rG e8 a2)); (case side2 => exact (Kd.R_reads' e8.out).2.1); rintro e w73 ⟨ac2, rfl, l6, hb⟩; refine ⟨_, rfl, ?_⟩; have A4 := aM (Kd.R_lower (Kd.R_new' (Kd.R_newM (M := fun k_ => (w.heap.size ≤ k_)) l6 (below_size bS) (fun k_ h_ => h_)) (Kd.R_lt (by exact rG e8 a2))) (below_size bS)); replace e8 := aM (Kd.R_elder' (by exact rG e8 a2) (Kd.R_base l6) hb); replace e3 := aM (Kd.R_below (by exact rG e3 a2) hb); replace d6 := aM (Kd.S_elder' (by exact sG d6 a2) (Kd.R_base l6) hb); replace e4 := aM (Kd.S_below (by exact sG e4 a2) hb); replace e0 := kB_ f5 hb; replace d5 := kB_ g6 hb; replace d1 := kB_ d3 hb; replace a2 := kB_ a8 hb; replace HB := hB hb; (try clear hb hk l6); obtain ⟨V2, V3, V4⟩ := Kd.R_slice A4.out; subst V4; have R2 := cg0 a2; have R7 := blk_frozen a2.out 0))
       go_meet
       case rel => exact ⟨_, (G7), (C3), (h4), (h5), (h6), (h7), (e1), (m7), (m8), (m9), (n0), (n1), (f6), (f7), (.slice V2 C3.length V3), (.slice f8 e1.length f9), (.slice k6 f6.length k7), (.slice k9 f7.length l3), fS, H', ⟨by have := HJ2.out; first | omega | exact Nat.le_refl _⟩, ⟨rW [a8] A4 a2⟩, ⟨rW [a8] e3 a2⟩, ⟨sW [a8] d6 a2⟩, ⟨sW [a8] e4 a2⟩, ⟨kS⟩, ⟨kS⟩, ⟨kS⟩, ⟨kS⟩, ⟨bS⟩⟩
      ·obtain rfl := Bool.eq_false_iff.mpr Z1
       rw [if_neg nF] at H
       by_cases V5 : G3 = true
       ·subst V5
        rw [if_pos rfl] at H
        replace H := bN H
        obtain ⟨⟨e2, g7, V6⟩, Z2, H⟩ := H
        by_cases V7 : V6 = true
        ·subst V7
         rw [if_pos rfl] at H
         have G8 := aM H
         clear H
         have hnb80 := nP f0 e9
         have hnb81 := nP f3 f4
         have hnb82 := nP g4 g9
         have hz83 := cz2 d5
         go_wp2_with (first | ((with_reducible refine gC 24 ?_); refine cM (some 49) Try.func24 (impl_IsStackOp.calls h1 _ _ Q8.out) ?_; rintro e w' ⟨rfl, ⟨nd, rfl⟩⟩; refine ⟨_, rfl, ?_⟩; have hnb84 := nP g8 g3; have hnb85 := nP h0 g5; have R9 := cg0 a2; have S0 := blk_frozen a2.out 0) | ((with_reducible refine gC 26 ?_); refine cL (some 68) Try.func26 #[.slice s4 k5.length o4, .int .i64 v2] ?_; (with_reducible refine (impl_TakeNumbers.calls kj2 _ _ k5 v2 e2 g7 _ _ ?side1 ?side2 Z2.out).mono ?_); (case side1 => refine (Kd.R_reads' (e := 3) (base := w.heap.size) (ok := fun k_ => ((w.heap.size ≤ k_) ∧ True)) (n := k5.length) (c := o4) ?_).2.2; exact (by exact rG e8 a2)); (case side2 => exact (Kd.R_reads' e8.out).2.1); rintro e w87 ⟨V8, t2, rfl, l6, o1, hb⟩; refine ⟨_, rfl, ?_⟩; have g0 := aM (Kd.R_lower (Kd.R_new' (Kd.R_newM (M := fun k_ => (w.heap.size ≤ k_)) l6 (below_size bS) (fun k_ h_ => h_)) (Kd.R_lt (by exact rG e8 a2))) (below_size bS)); have e5 := aM (Kd.R_lower (Kd.R_new' (Kd.R_newM (M := fun k_ => (w.heap.size ≤ k_)) o1 (below_size bS) (fun k_ h_ => h_)) (Kd.R_lt (by exact rG e8 a2))) (below_size bS)); replace e8 := aM (Kd.R_mono (Kd.R_told (Kd.R_told (Kd.R_old (by exact rG e8 a2) hb) (Kd.R_base l6)) (Kd.R_base o1)) (fun _ h_ => h_.1)); replace e3 := aM (Kd.R_below (by exact rG e3 a2) hb); replace d6 := aM (Kd.S_mono (Kd.S_told (Kd.S_told (Kd.S_old (by exact sG d6 a2) hb) (Kd.R_base l6)) (Kd.R_base o1)) (fun _ h_ => h_.1)); replace e4 := aM (Kd.S_below (by exact sG e4 a2) hb); replace e0 := kB_ f5 hb; replace d5 := kB_ g6 hb; replace d1 := kB_ d3 hb; replace a2 := kB_ a8 hb; replace HB := hB hb; (try clear hb hk l6 o1); obtain ⟨g1, g2, V9⟩ := Kd.R_slice g0.out; subst V9; have S1 := cg0 a2; have S2 := blk_frozen a2.out 0) | ((with_reducible refine gate_store (t := 26) (p := 74) rfl ?_); refine store_event (t := 26) (p := 74) (v := ?vo_w90) (w1 := (w87.setCell ⟨a8, 0, none⟩ (.slice g1 e2.length g2))) ?hg ?ho ?hn ?hr ?_; (case ho => rfl); (case hg => rfl); (case hn => rfl); (case hr => first | (go_simp; done) | (go_simp; rfl)); intro v3 hw; replace e8 : Aside0 (Kd.R (Kd.int .i64) 3 v3 w.heap.size (fun k_ => (w.heap.size ≤ k_) ∧ some k_ ≠ (.slice g1 e2.length g2 : Value).ownBlock ∧ some k_ ≠ (t2 : Value).ownBlock) (.slice s4 k5.length o4) k5) := ⟨(by rw [hw]; exact (by exact rT (Kd.R_mono (Kd.R_far (p := ⟨a8, 0, none⟩) (Kd.R_types e8.out a2.out (by decide)) (fun _ hk => hk.2) (.slice g1 e2.length g2)) (fun _ hk => ⟨hk.1.1.1.1, ⟨hk.1.1.2, hk.1.2⟩⟩))))⟩; replace e3 : Aside0 (Kd.R k90 90 v3 w.heap.size (fun k_ => (w.heap.size ≤ k_)) (.slice f8 e1.length f9) e1) := ⟨(by rw [hw]; exact (by exact rT (Kd.R_mono (Kd.R_far (p := ⟨a8, 0, none⟩) (Kd.R_types e3.out a2.out (by decide)) (fun _ hk => hk.2) (.slice g1 e2.length g2)) (fun _ hk => hk.1.1))))⟩; replace d6 : Aside0 (Kd.S k33 33 v3 w.heap.size (fun k_ => (w.heap.size ≤ k_) ∧ some k_ ≠ (.slice s4 k5.length o4 : Value).ownBlock ∧ some k_ ≠ (.slice f8 e1.length f9 : Value).ownBlock ∧ some k_ ≠ (.slice g1 e2.length g2 : Value).ownBlock ∧ some k_ ≠ (t2 : Value).ownBlock) (.slice k6 f6.length k7) f6) := ⟨(by rw [hw]; exact (by exact sT (Kd.S_mono (Kd.S_far (p := ⟨a8, 0, none⟩) (Kd.S_types d6.out a2.out (by decide)) (fun _ hk => hk.2) (.slice g1 e2.length g2)) (fun _ hk => ⟨hk.1.1.1.1, ⟨hk.1.1.1.2.1, ⟨hk.1.1.1.2.2, ⟨hk.1.1.2, hk.1.2⟩⟩⟩⟩))))⟩; replace e4 : Aside0 (Kd.S k82 82 v3 w.heap.size (fun k_ => (w.heap.size ≤ k_) ∧ some k_ ≠ (.slice f8 e1.length f9 : Value).ownBlock) (.slice k9 f7.length l3) f7) := ⟨(by rw [hw]; exact (by exact sT (Kd.S_mono (Kd.S_far (p := ⟨a8, 0, none⟩) (Kd.S_types e4.out a2.out (by decide)) (fun _ hk => hk.2) (.slice g1 e2.length g2)) (fun _ hk => ⟨hk.1.1, hk.1.2⟩))))⟩; replace g0 : Aside0 (Kd.R (Kd.int .i64) 3 v3 w.heap.size (fun k_ => (w.heap.size ≤ k_) ∧ some k_ ≠ (.slice s4 k5.length o4 : Value).ownBlock ∧ some k_ ≠ (t2 : Value).ownBlock) (.slice g1 e2.length g2) e2) := ⟨(by rw [hw]; exact (by exact rT (Kd.R_mono (Kd.R_far (p := ⟨a8, 0, none⟩) (Kd.R_types g0.out a2.out (by decide)) (fun _ hk => hk.2) (.slice g1 e2.length g2)) (fun _ hk => ⟨hk.1.1.1, ⟨hk.1.2, hk.1.1.2⟩⟩))))⟩; replace e5 : Aside0 (Kd.R (Kd.int .i64) 3 v3 w.heap.size (fun k_ => (w.heap.size ≤ k_) ∧ some k_ ≠ (.slice s4 k5.length o4 : Value).ownBlock ∧ some k_ ≠ (.slice g1 e2.length g2 : Value).ownBlock) t2 g7) := ⟨(by rw [hw]; exact (by exact rT (Kd.R_mono (Kd.R_far (p := ⟨a8, 0, none⟩) (Kd.R_types e5.out a2.out (by decide)) (fun _ hk => hk.2) (.slice g1 e2.length g2)) (fun _ hk => ⟨hk.1.1.1, ⟨hk.1.2, hk.1.1.2⟩⟩))))⟩; replace e0 : Aside0 (v3.heap[f5]? = some (.cells #[.slice t8 l4.length t9, .int .i64 l9, .int .i64 m0, .int .i64 m1, .int .i64 m2, .slice u0 l5.length u1, .int .i64 m3, .int .i64 m4, .int .i64 m5, .int .i64 m6, .int .i64 k4, .slice q6 h8.length q8, .slice q9 h9.length r0] 37 (0, 0))) := ⟨(by rw [hw]; exact kS)⟩; replace d5 : Aside0 (v3.heap[g6]? = some (.cells #[.string h1, .int .i64 q4] 46 (0, 0))) := ⟨(by rw [hw]; exact kS)⟩; replace d1 : Aside0 (v3.heap[d3]? = some (.cells #[.slice none 0 0, .int .i64 0, .int .i64 0, .int .i64 0, .int .i64 0, .slice none 0 0, .int .i64 0, .int .i64 0, .int .i64 0, .int .i64 0, .int .i64 0, .slice none 0 0, .slice none 0 0] 37 (0, 0))) := ⟨(by rw [hw]; exact kS)⟩; replace a2 : Aside0 (v3.heap[a8]? = some (.cells #[.slice g1 e2.length g2, .int .i64 h4, .int .i64 h5, .int .i64 h6, .int .i64 h7, .slice f8 e1.length f9, .int .i64 m7, .int .i64 m8, .int .i64 m9, .int .i64 n0, .int .i64 n1, .slice k6 f6.length k7, .slice k9 f7.length l3] 37 (0, 0))) := ⟨(by rw [hw]; exact kS)⟩; replace HB : Aside0 (Below w.heap.size w v3) := ⟨(by rw [hw]; exact bS)⟩; clear hw; have hz91 := cz2 d5))
         have H := G8.out
         clear G8
         have n_ := aM (Kd.S_mono (ok' := (fun k_ => (w.heap.size ≤ k_) ∧ some k_ ≠ (.slice f8 e1.length f9 : Value).ownBlock ∧ some k_ ≠ (.slice g1 e2.length g2 : Value).ownBlock ∧ some k_ ≠ (t2 : Value).ownBlock)) d6.out (fun k_ hk => ⟨hk.1, ⟨hk.2.2.1, ⟨hk.2.2.2.1, hk.2.2.2.2⟩⟩⟩))
         clear d6
         have d6 := n_
         clear n_
         have n_ := aM (Kd.R_mono (ok' := (fun k_ => (w.heap.size ≤ k_) ∧ some k_ ≠ (t2 : Value).ownBlock)) g0.out (fun k_ hk => ⟨hk.1, hk.2.2⟩))
         clear g0
         have g0 := n_
         clear n_
         have n_ := aM (Kd.R_mono (ok' := (fun k_ => (w.heap.size ≤ k_) ∧ some k_ ≠ (.slice g1 e2.length g2 : Value).ownBlock)) e5.out (fun k_ hk => ⟨hk.1, hk.2.2⟩))
         clear e5
         have e5 := n_
         clear n_
         (try clear e8)
         obtain ⟨L92, hF_, hM623_, hM624_, hM625_⟩ := FrI_pack3 e0.out d5.out d1.out g3.out g4.out g5.out [37, 46] (by decide) (by decide) (by decide)
         have HLM623 := aM hM623_
         have HLM624 := aM hM624_
         have HLM625 := aM hM625_
         have b0 := aM hF_
         clear hF_ hM623_ hM624_ hM625_ e0 d5 d1
         by_cases W0 : h1.toList = ([110, 101, 119] : List UInt8)
         ·exact absurd (by rw [W0]; decide) hA_.out
         ·rw [if_neg W0] at H
          obtain ⟨Z3, Z4⟩ := eqF W0
          by_cases W1 : h1.toList = ([109, 111, 118, 101, 116, 111] : List UInt8)
          ·exact absurd (by rw [W1]; decide) hA_.out
          ·rw [if_neg W1] at H
           obtain ⟨Z5, Z6⟩ := eqF W1
           by_cases C4 : h1.toList = ([108, 105, 110, 101, 116, 111] : List UInt8)
           ·exact absurd (by rw [C4]; decide) hA_.out
           ·rw [if_neg C4] at H
            obtain ⟨W2, W3⟩ := eqF C4
            by_cases C5 : h1.toList = ([114, 101, 99, 116] : List UInt8)
            ·exact absurd (by rw [C5]; decide) hA_.out
            ·rw [if_neg C5] at H
             obtain ⟨W4, W5⟩ := eqF C5
             by_cases C6 : h1.toList = ([102, 105, 108, 108] : List UInt8)
             ·exact absurd (by rw [C6]; decide) hA_.out
             ·rw [if_neg C6] at H
              obtain ⟨W6, W7⟩ := eqF C6
              by_cases C7 : h1.toList = ([103, 114, 97, 121] : List UInt8)
              ·exact absurd (by rw [C7]; decide) hA_.out
              ·rw [if_neg C7] at H
               obtain ⟨W8, W9⟩ := eqF C7
               by_cases C9 : h1.toList = ([99, 108, 105, 112] : List UInt8)
               ·exact absurd (by rw [C9]; decide) hA_.out
               ·rw [if_neg C9] at H
                obtain ⟨X0, X1⟩ := eqF C9
                by_cases D0 : h1.toList = ([115, 97, 118, 101] : List UInt8)
                ·exact absurd (by rw [D0]; decide) hA_.out
                ·rw [if_neg D0] at H
                 obtain ⟨X2, X3⟩ := eqF D0
                 by_cases x5 : h1.toList = ([114, 101, 115, 116, 111, 114, 101] : List UInt8)
                 ·exact absurd (by rw [x5]; decide) hA_.out
                 ·rw [if_neg x5] at H
                  obtain ⟨D1, D2⟩ := eqF x5
                  replace H := bN H
                  obtain ⟨⟨s8, s9, t0, t1⟩, X4, H⟩ := H
                  have v4 := aM H
                  clear H
                  obtain ⟨v5, v6, G9⟩ := Kd.R_slice e5.out
                  subst G9
                  go_at_call 27
                  go_enter Try.func27, Try.ntmps27
                  go_upto_block 1 with (first | ((with_reducible refine gC 17 ?_); refine cM (some 22) Try.func17 (impl_Identity.calls  s8 s9 t0 t1 _ X4.out) ?_; rintro e ac4 ⟨rfl, hb⟩; refine ⟨_, rfl, ?_⟩; replace e3 := rB e3 hb; replace d6 := sB d6 hb; replace e4 := sB e4 hb; replace g0 := rB g0 hb; replace e5 := rB e5 hb; replace a2 := kB_ a8 hb; replace b0 := aM (FrI_belowS hb b0.out (FrN0 b0.out)); replace HB := hB hb; (try clear hb)) | ((with_reducible refine gD 15 ?_); refine bxE #[.int .i64 0, .int .i64 0, .int .i64 0, .int .i64 0] 28 ?_; intro a9 hg X5 b1 hb; have GE760 := gE hg; have k2 := nL_ a8 hg; have k3 := nG_ a8 hg; replace e3 := rB e3 hb; replace d6 := sB d6 hb; replace e4 := sB e4 hb; replace g0 := rB g0 hb; replace e5 := rB e5 hb; replace a2 := kB_ a8 hb; replace b0 := aM (FrI_belowS hb b0.out (FrN0 b0.out)); replace HB := hB hb; clear hb hg; have hnb230 := nP k3 k2; have hz231 := cz4 b1))
                  (try simp only [Act.put, List.setIfInBounds_toArray, List.set_cons_zero, List.set_cons_succ])
                  go_cut [] from 1 to 0 (fun wc => ∃ (kq : Nat) (b2 : Int) (b6 : Int) (b7 : Int) (b8 : Int), Aside0 (impl_ExecToken.j3 kq true l4 l9 m0 m1 m2 l5 m3 m4 m5 m6 k4 h8 h9 e2 h4 h5 h6 h7 e1 m7 m8 m9 n0 n1 f6 f7 b2 b6 b7 b8 = some (r1, r2, r3, r4, r5, r6, r7, r8, r9, E2, E3, E4, E5, E6)) ∧ Aside0 (kq ≤ kj2) ∧ Aside0 (Kd.R (Kd.int .i64) 3 wc w.heap.size (fun k_ => (w.heap.size ≤ k_)) (.slice g1 e2.length g2) e2) ∧ Aside0 (Kd.R k90 90 wc w.heap.size (fun k_ => (w.heap.size ≤ k_)) (.slice f8 e1.length f9) e1) ∧ Aside0 (Kd.S k33 33 wc w.heap.size (fun k_ => (w.heap.size ≤ k_) ∧ some k_ ≠ ((.slice g1 e2.length g2) : Value).ownBlock ∧ some k_ ≠ ((.slice f8 e1.length f9) : Value).ownBlock) (.slice k6 f6.length k7) f6) ∧ Aside0 (Kd.S k82 82 wc w.heap.size (fun k_ => (w.heap.size ≤ k_) ∧ some k_ ≠ ((.slice f8 e1.length f9) : Value).ownBlock) (.slice k9 f7.length l3) f7) ∧ Aside0 (wc.heap[a8]? = some (.cells #[(.slice g1 e2.length g2), .int .i64 h4, .int .i64 h5, .int .i64 h6, .int .i64 h7, (.slice f8 e1.length f9), .int .i64 m7, .int .i64 m8, .int .i64 m9, .int .i64 n0, .int .i64 n1, (.slice k6 f6.length k7), (.slice k9 f7.length l3)] 37 (0, 0))) ∧ Aside0 (wc.heap[a9]? = some (.cells #[.int .i64 b2, .int .i64 b6, .int .i64 b7, .int .i64 b8] 28 (0, 0))) ∧ Aside0 (FrI L92 a8 [37, 46] wc) ∧ Aside0 (Below w.heap.size w wc))
                  case first =>
                   have H := v4.out
                   clear v4
                   by_cases u4 : h1.toList = ([115, 104, 105, 102, 116] : List UInt8)
                   ·skip
                    rw [if_pos u4] at H
                    obtain ⟨o5, v8⟩ := eqT u4
                    clear u4
                    (first | rw [o5] | (simp only [i64_w, i32_w]; rw [o5]) | skip)
                    by_cases v9 : 0 < (g7.length : Int)
                    ·rw [if_pos v9] at H
                     have D3 : decide (0 < (g7.length : Int)) = true := decide_eq_true v9
                     have D4 : decide (0 < g7.length) = true := decide_eq_true (by omega)
                     clear v9
                     by_cases w8 : 1 < (g7.length : Int)
                     ·rw [if_pos w8] at H
                      have D5 : decide (1 < (g7.length : Int)) = true := decide_eq_true w8
                      have D6 : decide (1 < g7.length) = true := decide_eq_true (by omega)
                      clear w8
                      have H' := aM H
                      clear H
                      try go_wp2
                      obtain ⟨q5, hw_⟩ : ∃ w_ : World, w_ = ((((X5.setCell ⟨a9, 0, none⟩ (.int .i64 s8)).setCell ⟨a9, 1, none⟩ (.int .i64 s9)).setCell ⟨a9, 2, none⟩ (.int .i64 t0)).setCell ⟨a9, 3, none⟩ (.int .i64 t1)) := ⟨_, rfl⟩
                      have n0_ : Aside0 (Kd.R k90 90 q5 w.heap.size (fun k_ => (w.heap.size ≤ k_)) (.slice f8 e1.length f9) e1) := ⟨by rw [hw_]; exact (by exact Kd.R_mono (R_on (g := a9) (Kd.R_types e3.out b1.out (by decide)) (fun _ hk => hk.2)) (fun _ hk => hk.1))⟩
                      have n1_ : Aside0 (Kd.S k33 33 q5 w.heap.size (fun k_ => (w.heap.size ≤ k_) ∧ some k_ ≠ (.slice f8 e1.length f9 : Value).ownBlock ∧ some k_ ≠ (.slice g1 e2.length g2 : Value).ownBlock ∧ some k_ ≠ (.slice v5 g7.length v6 : Value).ownBlock) (.slice k6 f6.length k7) f6) := ⟨by rw [hw_]; exact (by exact Kd.S_mono (S_on (g := a9) (Kd.S_types d6.out b1.out (by decide)) (fun _ hk => hk.2)) (fun _ hk => ⟨hk.1.1, ⟨hk.1.2.1, ⟨hk.1.2.2.1, hk.1.2.2.2⟩⟩⟩))⟩
                      have n2_ : Aside0 (Kd.S k82 82 q5 w.heap.size (fun k_ => (w.heap.size ≤ k_) ∧ some k_ ≠ (.slice f8 e1.length f9 : Value).ownBlock) (.slice k9 f7.length l3) f7) := ⟨by rw [hw_]; exact (by exact Kd.S_mono (S_on (g := a9) (Kd.S_types e4.out b1.out (by decide)) (fun _ hk => hk.2)) (fun _ hk => ⟨hk.1.1, hk.1.2⟩))⟩
                      have n3_ : Aside0 (Kd.R (Kd.int .i64) 3 q5 w.heap.size (fun k_ => (w.heap.size ≤ k_) ∧ some k_ ≠ (.slice v5 g7.length v6 : Value).ownBlock) (.slice g1 e2.length g2) e2) := ⟨by rw [hw_]; exact (by exact Kd.R_mono (R_on (g := a9) (Kd.R_types g0.out b1.out (by decide)) (fun _ hk => hk.2)) (fun _ hk => ⟨hk.1.1, hk.1.2⟩))⟩
                      have n4_ : Aside0 (Kd.R (Kd.int .i64) 3 q5 w.heap.size (fun k_ => (w.heap.size ≤ k_) ∧ some k_ ≠ (.slice g1 e2.length g2 : Value).ownBlock) (.slice v5 g7.length v6) g7) := ⟨by rw [hw_]; exact (by exact Kd.R_mono (R_on (g := a9) (Kd.R_types e5.out b1.out (by decide)) (fun _ hk => hk.2)) (fun _ hk => ⟨hk.1.1, hk.1.2⟩))⟩
                      have n5_ : Aside0 (q5.heap[a8]? = some (.cells #[.slice g1 e2.length g2, .int .i64 h4, .int .i64 h5, .int .i64 h6, .int .i64 h7, .slice f8 e1.length f9, .int .i64 m7, .int .i64 m8, .int .i64 m9, .int .i64 n0, .int .i64 n1, .slice k6 f6.length k7, .slice k9 f7.length l3] 37 (0, 0))) := ⟨by rw [hw_]; exact kS⟩
                      have n6_ : Aside0 (q5.heap[a9]? = some (.cells #[.int .i64 s8, .int .i64 s9, .int .i64 t0, .int .i64 t1] 28 (0, 0))) := ⟨by rw [hw_]; exact kS⟩
                      have n7_ : Aside0 (FrI L92 a8 [37, 46] q5) := ⟨by rw [hw_]; exact (by exact FrI_self b0.out (FrN1 b0.out (FrN0 b0.out) b1.out (by decide)))⟩
                      have n8_ : Aside0 (Below w.heap.size w q5) := ⟨by rw [hw_]; exact bS⟩
                      rw [← hw_]
                      clear hw_ e3 d6 e4 g0 e5 a2 b1 b0 HB
                      have e3 := n0_
                      have d6 := n1_
                      have e4 := n2_
                      have g0 := n3_
                      have e5 := n4_
                      have a2 := n5_
                      have b1 := n6_
                      have b0 := n7_
                      have HB := n8_
                      clear n0_ n1_ n2_ n3_ n4_ n5_ n6_ n7_ n8_
                      replace e3 := rD e3
                      replace d6 := sD d6
                      replace e4 := sD e4
                      replace g0 := rD g0
                      replace e5 := rD e5
                      replace a2 := bD a2
                      replace b1 := bD b1
                      replace b0 := aM (FrI_drew b0.out)
                      replace HB := hD HB
                      have x6 : 0 ≤ (0 : Int) := (by omega)
                      have x7 : 0 < (g7.length : Int) := dA
                      obtain ⟨t5, X6, n2⟩ := Kd.at_int (Kd.R_reads' e5.out).2.2 0 x6 x7
                      cases X6
                      have qi761 : (0 < g7.length) = True := eq_true (by omega)
                      (try rw [show ((0 : Int)).toNat = 0 from rfl] at n2)
                      (try rw [Addr.add_zero'] at n2)
                      replace x6 := eq_true x6
                      replace x7 := eq_true x7
                      have x8 : 0 ≤ (1 : Int) := (by omega)
                      have x9 : 1 < (g7.length : Int) := dA
                      obtain ⟨H2, X7, n5⟩ := Kd.at_int (Kd.R_reads' e5.out).2.2 1 x8 x9
                      obtain rfl : t5 = H2 := (by injection X7)
                      (try simp only [show (1 : Int).toNat = 1 from rfl, Nat.reduceMul, Nat.reduceEqDiff, Go.Addr.add, ↓reduceIte] at n5)
                      have qi762 : (1 < g7.length) = True := eq_true (by omega)
                      (try rw [show ((1 : Int)).toNat = 1 from rfl] at n5)
                      replace x8 := eq_true x8
                      replace x9 := eq_true x9
                      refine start_ (n := 10) (S := fun w' => w'.cell? t5 = some (.int .i64 (rd g7 0)) ∧ w'.cell? ⟨t5.block, t5.off + 1, none⟩ = some (.int .i64 (rd g7 1))) (ds := []) (mB 10 0) (by kernel_rfl) rfl rfl ⟨n2, n5⟩ (fun hHeld => ?_); refine with_tabW impl_ExecToken.i27.tab6 impl_ExecToken.i27.bits6 (fun HT_ HW_ => ?_)
                      generalize q5.drew = ac5 at e3 d6 e4 g0 e5 a2 b1 b0 HB n2 n5 hHeld ⊢
                      refine pU 0 (some 26) (mB 10 1) ?_
                      refine pU 1 (some 27) (mB 10 3) ?_
                      refine pU 3 (some 29) (mB 10 11) ?_
                      refine pU 4 (some 30) (mB 10 27) ?_
                      refine tK 2 (some 28) (mB 10 31) ?_
                      refine pU 6 (some 32) (mB 10 95) ?_
                      refine tK 5 (some 31) (mB 10 127) ?_
                      refine one_ (i := 7) (N := none) (mB 10 255) rfl rfl (one_of HT_.out (by kernel_rfl)) (by decide) (fun K hK => ?_)
                      have hs237 := cg2 b1
                      have hfs237 := blk_frozen b1.out 2
                      have hns237_0 := nP k2 k3
                      refine skip_ (w1 := ?_) (by rfl) rfl ?_ ?_
                      rotate_left
                      ·go_simp
                       rfl
                      have nd0_ := Kd.own_blk (Kd.R_ne e5.out b1.out (by decide))
                      refine hK.out _ _ ⟨(cQ hHeld.1 (by first | exact nd0_ | (rw [add_block]; exact nd0_))), (cQ hHeld.2 (by first | exact nd0_ | (rw [add_block]; exact nd0_)))⟩ (fun hHeld => ?_)
                      clear hK K
                      refine pU 8 (some 33) (mB 10 511) ?_
                      refine one_ (i := 9) (N := none) (mB 10 1023) rfl rfl (one_of HT_.out (by kernel_rfl)) (by decide) (fun K hK => ?_)
                      have hs238 := cg3 b1
                      have hfs238 := blk_frozen b1.out 3
                      have hns238_0 := nP k2 k3
                      refine skip_ (w1 := ?_) (by rfl) rfl ?_ ?_
                      rotate_left
                      ·go_simp
                       rfl
                      have nd0_ := Kd.own_blk (Kd.R_ne e5.out b1.out (by decide))
                      refine hK.out _ _ ⟨(cQ hHeld.1 (by first | exact nd0_ | (rw [add_block]; exact nd0_))), (cQ hHeld.2 (by first | exact nd0_ | (rw [add_block]; exact nd0_)))⟩ (fun hHeld => ?_)
                      clear hK K
                      refine done_ (done_of HT_.out (by kernel_rfl)) ?_
                      try go_wp2
                      go_meet
                      case rel => exact ⟨_, (s8), (s9), (rd g7 0), (rd g7 1), H', ⟨by have := HJ2.out; first | omega | exact Nat.le_refl _⟩, ⟨rW [a9] g0 b1⟩, ⟨rW [a9] e3 b1⟩, ⟨sW [a9] d6 b1⟩, ⟨sW [a9] e4 b1⟩, ⟨kS⟩, ⟨kS⟩, ⟨by exact FrI_self b0.out (FrN1 b0.out (FrN0 b0.out) b1.out (by decide))⟩, ⟨bS⟩⟩
                     ·rw [if_neg w8] at H
                      exact absurd H (by simp)
                    ·rw [if_neg v9] at H
                     exact absurd H (by simp)
                   ·skip
                    rw [if_neg u4] at H
                    obtain ⟨o5, v8⟩ := eqF u4
                    (first | rw [o5] | (simp only [i64_w, i32_w]; rw [o5]) | skip)
                    by_cases u5 : h1.toList = ([116, 117, 114, 110] : List UInt8)
                    ·rw [if_pos u5] at H
                     obtain ⟨w9, x0⟩ := eqT u5
                     clear u5
                     by_cases x1 : 0 < (g7.length : Int)
                     ·rw [if_pos x1] at H
                      have D7 : decide (0 < (g7.length : Int)) = true := decide_eq_true x1
                      have D8 : decide (0 < g7.length) = true := decide_eq_true (by omega)
                      clear x1
                      have H' := aM H
                      clear H
                      have y0 : 0 ≤ (0 : Int) := (by omega)
                      have y1 : 0 < (g7.length : Int) := dA
                      obtain ⟨t6, X8, h2⟩ := Kd.at_int (Kd.R_reads' e5.out).2.2 0 y0 y1
                      cases X8
                      have qi763 : (0 < g7.length) = True := eq_true (by omega)
                      (try rw [show ((0 : Int)).toNat = 0 from rfl] at h2)
                      (try rw [Addr.add_zero'] at h2)
                      have hn763_0 : t6.block ≠ a9 := Kd.own_blk (Kd.R_ne e5.out b1.out (by decide))
                      have hn763_1 : t6.block ≠ a9 := Kd.own_blk (Kd.R_ne e5.out b1.out (by decide))
                      have hn763_2 : t6.block ≠ a9 := Kd.own_blk (Kd.R_ne e5.out b1.out (by decide))
                      have hn763_3 : t6.block ≠ a9 := Kd.own_blk (Kd.R_ne e5.out b1.out (by decide))
                      replace h2 := (cell_far (p := ⟨a9, 0, none⟩) (by first | (rw [add_block]; exact hn763_0) | (show (Addr.add _ _).block ≠ _; rw [add_block]; exact hn763_0) | exact hn763_0) (.int .i64 s8)).trans h2
                      replace h2 := (cell_far (p := ⟨a9, 1, none⟩) (by first | (rw [add_block]; exact hn763_1) | (show (Addr.add _ _).block ≠ _; rw [add_block]; exact hn763_1) | exact hn763_1) (.int .i64 s9)).trans h2
                      replace h2 := (cell_far (p := ⟨a9, 2, none⟩) (by first | (rw [add_block]; exact hn763_2) | (show (Addr.add _ _).block ≠ _; rw [add_block]; exact hn763_2) | exact hn763_2) (.int .i64 t0)).trans h2
                      replace h2 := (cell_far (p := ⟨a9, 3, none⟩) (by first | (rw [add_block]; exact hn763_3) | (show (Addr.add _ _).block ≠ _; rw [add_block]; exact hn763_3) | exact hn763_3) (.int .i64 t1)).trans h2
                      clear hn763_0
                      clear hn763_1
                      clear hn763_2
                      clear hn763_3
                      replace y0 := eq_true y0
                      replace y1 := eq_true y1
                      have hnb241 := nP k3 k2
                      have hz242 := cz4 b1
                      go_wp2
                      go_meet
                      case rel => exact ⟨_, (rd g7 0), (s9), (t0), (t1), H', ⟨by have := HJ2.out; first | omega | exact Nat.le_refl _⟩, ⟨rW [a9] g0 b1⟩, ⟨rW [a9] e3 b1⟩, ⟨sW [a9] d6 b1⟩, ⟨sW [a9] e4 b1⟩, ⟨kS⟩, ⟨kS⟩, ⟨by exact FrI_self b0.out (FrN1 b0.out (FrN0 b0.out) b1.out (by decide))⟩, ⟨bS⟩⟩
                     ·rw [if_neg x1] at H
                      exact absurd H (by simp)
                    ·rw [if_neg u5] at H
                     obtain ⟨w9, x0⟩ := eqF u5
                     by_cases u6 : h1.toList = ([115, 99, 97, 108, 101] : List UInt8)
                     ·rw [if_pos u6] at H
                      obtain ⟨x2, x3⟩ := eqT u6
                      clear u6
                      by_cases x4 : 0 < (g7.length : Int)
                      ·rw [if_pos x4] at H
                       have D9 : decide (0 < (g7.length : Int)) = true := decide_eq_true x4
                       have E0 : decide (0 < g7.length) = true := decide_eq_true (by omega)
                       clear x4
                       have H' := aM H
                       clear H
                       have y2 : 0 ≤ (0 : Int) := (by omega)
                       have y3 : 0 < (g7.length : Int) := dA
                       obtain ⟨t7, X9, h3⟩ := Kd.at_int (Kd.R_reads' e5.out).2.2 0 y2 y3
                       cases X9
                       have qi764 : (0 < g7.length) = True := eq_true (by omega)
                       (try rw [show ((0 : Int)).toNat = 0 from rfl] at h3)
                       (try rw [Addr.add_zero'] at h3)
                       have hn764_0 : t7.block ≠ a9 := Kd.own_blk (Kd.R_ne e5.out b1.out (by decide))
                       have hn764_1 : t7.block ≠ a9 := Kd.own_blk (Kd.R_ne e5.out b1.out (by decide))
                       have hn764_2 : t7.block ≠ a9 := Kd.own_blk (Kd.R_ne e5.out b1.out (by decide))
                       have hn764_3 : t7.block ≠ a9 := Kd.own_blk (Kd.R_ne e5.out b1.out (by decide))
                       replace h3 := (cell_far (p := ⟨a9, 0, none⟩) (by first | (rw [add_block]; exact hn764_0) | (show (Addr.add _ _).block ≠ _; rw [add_block]; exact hn764_0) | exact hn764_0) (.int .i64 s8)).trans h3
                       replace h3 := (cell_far (p := ⟨a9, 1, none⟩) (by first | (rw [add_block]; exact hn764_1) | (show (Addr.add _ _).block ≠ _; rw [add_block]; exact hn764_1) | exact hn764_1) (.int .i64 s9)).trans h3
                       replace h3 := (cell_far (p := ⟨a9, 2, none⟩) (by first | (rw [add_block]; exact hn764_2) | (show (Addr.add _ _).block ≠ _; rw [add_block]; exact hn764_2) | exact hn764_2) (.int .i64 t0)).trans h3
                       replace h3 := (cell_far (p := ⟨a9, 3, none⟩) (by first | (rw [add_block]; exact hn764_3) | (show (Addr.add _ _).block ≠ _; rw [add_block]; exact hn764_3) | exact hn764_3) (.int .i64 t1)).trans h3
                       clear hn764_0
                       clear hn764_1
                       clear hn764_2
                       clear hn764_3
                       replace y2 := eq_true y2
                       replace y3 := eq_true y3
                       have hnb245 := nP k3 k2
                       have hz246 := cz4 b1
                       go_wp2
                       go_meet
                       case rel => exact ⟨_, (s8), (rd g7 0), (t0), (t1), H', ⟨by have := HJ2.out; first | omega | exact Nat.le_refl _⟩, ⟨rW [a9] g0 b1⟩, ⟨rW [a9] e3 b1⟩, ⟨sW [a9] d6 b1⟩, ⟨sW [a9] e4 b1⟩, ⟨kS⟩, ⟨kS⟩, ⟨by exact FrI_self b0.out (FrN1 b0.out (FrN0 b0.out) b1.out (by decide))⟩, ⟨bS⟩⟩
                      ·rw [if_neg x4] at H
                       exact absurd H (by simp)
                     ·rw [if_neg u6] at H
                      obtain ⟨x2, x3⟩ := eqF u6
                      have H' := aM H
                      clear H
                      go_wp2
                      go_meet
                      case rel => exact ⟨_, (s8), (s9), (t0), (t1), H', ⟨by have := HJ2.out; first | omega | exact Nat.le_refl _⟩, ⟨rW [a9] g0 b1⟩, ⟨rW [a9] e3 b1⟩, ⟨sW [a9] d6 b1⟩, ⟨sW [a9] e4 b1⟩, ⟨kS⟩, ⟨kS⟩, ⟨by exact FrI_self b0.out (FrN1 b0.out (FrN0 b0.out) b1.out (by decide))⟩, ⟨bS⟩⟩
                  case rest =>
                   clear v4
                   try clear c1
                   try clear c2
                   try clear p2
                   try clear q2
                   try clear c7
                   try clear p7
                   try clear q7
                   try clear hx7
                   try clear qi7
                   try clear c17
                   try clear c19
                   try clear c20
                   try clear q22
                   try clear c23
                   try clear c24
                   try clear c27
                   try clear c75
                   try clear p76
                   try clear q76
                   try clear ac7
                   try clear qi76
                   try clear x5
                   try clear D1
                   try clear D2
                   try clear ac8
                   try clear ac9
                   try clear ad0
                   try clear Y0
                   try clear ad1
                   try clear u4
                   try clear o5
                   try clear v8
                   try clear v9
                   try clear D3
                   try clear D4
                   try clear w8
                   try clear D5
                   try clear D6
                   try clear u5
                   try clear w9
                   try clear x0
                   try clear x1
                   try clear D7
                   try clear D8
                   try clear ad2
                   try clear u6
                   try clear x2
                   try clear x3
                   try clear x4
                   try clear D9
                   try clear E0
                   try clear ad3
                   try clear n2
                   try clear n5
                   try clear h2
                   try clear h3
                   try clear x6
                   try clear x8
                   try clear y0
                   try clear y2
                   try clear Y0
                   try clear x7
                   try clear x9
                   try clear y1
                   try clear y3
                   obtain ⟨kq, b2, b6, b7, b8, HA, HJ225, a5, a3, a6, a7, a2, b1, b0, HB⟩ := hcut
                   cases kq with
                   | zero => exact absurd HA.out (by simp [impl_ExecToken.j3])
                   | succ kj225 =>
                    have H := HA.out
                    clear HA
                    simp only [impl_ExecToken.j3] at H
                    replace H := bN H
                    obtain ⟨⟨o8, o9, q0, q3, Y1⟩, y4, H⟩ := H
                    by_cases E1 : Y1 = true
                    ·skip
                     subst E1
                     rw [if_pos rfl] at H
                     first | rw [if_pos rfl] at H | rw [if_pos trivial] at H
                     have H' := aM H
                     clear H
                     try go_wp2
                     replace a5 := rD a5
                     replace a3 := rD a3
                     replace a6 := sD a6
                     replace a7 := sD a7
                     replace a2 := bD a2
                     replace b1 := bD b1
                     replace b0 := aM (FrI_drew b0.out)
                     replace HB := hD HB
                     refine start_ (n := 12) (S := fun w' => w'.cell? ⟨a9, 0, none⟩ = some (.int .i64 b2) ∧ w'.cell? ⟨a9, 1, none⟩ = some (.int .i64 b6) ∧ w'.cell? ⟨a9, 2, none⟩ = some (.int .i64 b7) ∧ w'.cell? ⟨a9, 3, none⟩ = some (.int .i64 b8) ∧ w'.cell? ⟨a8, 1, none⟩ = some (.int .i64 h4) ∧ w'.cell? ⟨a8, 2, none⟩ = some (.int .i64 h5) ∧ w'.cell? ⟨a8, 3, none⟩ = some (.int .i64 h6) ∧ w'.cell? ⟨a8, 4, none⟩ = some (.int .i64 h7)) (ds := []) (mB 12 0) (by kernel_rfl) rfl rfl (cx4 b1 ⟨(blk_cell a2.out 1).trans rfl, ⟨(blk_cell a2.out 2).trans rfl, ⟨(blk_cell a2.out 3).trans rfl, (blk_cell a2.out 4).trans rfl⟩⟩⟩) (fun hHeld => ?_)
                     generalize wc.drew = ad4 at a5 a3 a6 a7 a2 b1 b0 HB hHeld ⊢
                     refine pU 1 (some 48) (mB 12 2) ?_
                     refine pU 2 (some 49) (mB 12 6) ?_
                     refine pU 3 (some 50) (mB 12 14) ?_
                     refine tK 0 (some 47) (mB 12 15) ?_
                     refine tK 4 (some 51) (mB 12 31) ?_
                     refine join_ (σ := Nat) 2 (mB 12 1023) (fun s_ => [(52, .tuple #[.agg #[.int .i64 o8, .int .i64 o9, .int .i64 q0, .int .i64 q3], .bool true]), (16, .pointer (some ⟨s_, 0, none⟩)), (46, .tuple #[.agg #[.int .i64 o8, .int .i64 o9, .int .i64 q0, .int .i64 q3], .bool true]), (53, .agg #[.int .i64 o8, .int .i64 o9, .int .i64 q0, .int .i64 q3]), (54, .bool true)]) (fun s_ w' => (w'.cell? ⟨a9, 0, none⟩ = some (.int .i64 b2) ∧ w'.cell? ⟨a9, 1, none⟩ = some (.int .i64 b6) ∧ w'.cell? ⟨a9, 2, none⟩ = some (.int .i64 b7) ∧ w'.cell? ⟨a9, 3, none⟩ = some (.int .i64 b8) ∧ w'.cell? ⟨a8, 1, none⟩ = some (.int .i64 h4) ∧ w'.cell? ⟨a8, 2, none⟩ = some (.int .i64 h5) ∧ w'.cell? ⟨a8, 3, none⟩ = some (.int .i64 h6) ∧ w'.cell? ⟨a8, 4, none⟩ = some (.int .i64 h7)) ∧ (Kd.R (Kd.int .i64) 3 w' w.heap.size (fun k_ => (w.heap.size ≤ k_)) (.slice g1 e2.length g2) e2) ∧ (Kd.R k90 90 w' w.heap.size (fun k_ => (w.heap.size ≤ k_)) (.slice f8 e1.length f9) e1) ∧ (Kd.S k33 33 w' w.heap.size (fun k_ => (w.heap.size ≤ k_) ∧ some k_ ≠ (.slice g1 e2.length g2 : Value).ownBlock ∧ some k_ ≠ (.slice f8 e1.length f9 : Value).ownBlock) (.slice k6 f6.length k7) f6) ∧ (Kd.S k82 82 w' w.heap.size (fun k_ => (w.heap.size ≤ k_) ∧ some k_ ≠ (.slice f8 e1.length f9 : Value).ownBlock) (.slice k9 f7.length l3) f7) ∧ (w'.heap[a8]? = some (.cells #[.slice g1 e2.length g2, .int .i64 h4, .int .i64 h5, .int .i64 h6, .int .i64 h7, .slice f8 e1.length f9, .int .i64 m7, .int .i64 m8, .int .i64 m9, .int .i64 n0, .int .i64 n1, .slice k6 f6.length k7, .slice k9 f7.length l3] 37 (0, 0))) ∧ (w'.heap[a9]? = some (.cells #[.int .i64 b2, .int .i64 b6, .int .i64 b7, .int .i64 b8] 28 (0, 0))) ∧ (w'.heap[s_]? = some (.cells #[.int .i64 0, .int .i64 0, .int .i64 0, .int .i64 0] 28 (0, 0))) ∧ (w.heap.size ≤ s_) ∧ (w.heap.size ≤ s_) ∧ (a8 ≠ s_) ∧ (s_ ≠ a8) ∧ (a9 ≠ s_) ∧ (s_ ≠ a9) ∧ (FrI L92 a8 [37, 46] w') ∧ (Below w.heap.size w w')) ?_ ?_
                     rotate_left
                     ·intro hCont
                      refine two_ (i := 5) (j := 9) (Ni := some 52) (Nj := some 16) (mB 12 63) (mB 12 543) rfl rfl rfl rfl (by kernel_rfl) (by decide) (by decide) (fun K hK => ?_) (fun K hK => ?_)
                      ·skip
                       refine goes_ Try.func47 (by kernel_rfl) rfl #[.agg #[.int .i64 b2, .int .i64 b6, .int .i64 b7, .int .i64 b8], .agg #[.int .i64 h4, .int .i64 h5, .int .i64 h6, .int .i64 h7]] (by rfl) rfl rfl mA ?_
                       with_reducible refine (impl_JoinTurns.calls kj225 b2 b6 b7 b8 h4 h5 h6 h7 o8 o9 q0 q3 _ _ y4.out).mono ?_
                       rintro e Y2 ⟨rfl, hb⟩
                       refine ⟨_, rfl, ?_⟩
                       replace a5 := rB a5 hb
                       replace a3 := rB a3 hb
                       replace a6 := sB a6 hb
                       replace a7 := sB a7 hb
                       replace a2 := kB_ a8 hb
                       replace b0 := aM (FrI_belowS hb b0.out (FrN1 b0.out (FrN0 b0.out) b1.out (by decide)))
                       replace b1 := kB_ a9 hb
                       replace HB := hB hb
                       (try clear hb)
                       (try clear Y3)
                       (try clear hk)
                       (try clear hi)
                       refine hK.out _ _ (cx4 b1 ⟨(blk_cell a2.out 1).trans rfl, ⟨(blk_cell a2.out 2).trans rfl, ⟨(blk_cell a2.out 3).trans rfl, (blk_cell a2.out 4).trans rfl⟩⟩⟩) (fun hHeld => ?_)
                       clear hK K
                       refine norm_ (a' := ?_) ?_ ?_
                       rotate_left
                       ·show Act.put _ (some 52) _ = _
                        simp only [Act.put, List.setIfInBounds_toArray, List.set_cons_zero, List.set_cons_succ, i64_w, i32_w]
                        rfl
                       refine pU 6 (some 46) (mB 12 127) ?_
                       refine pU 7 (some 53) (mB 12 255) ?_
                       refine pU 8 (some 54) (mB 12 511) ?_
                       refine one_ (i := 9) (N := some 16) (mB 12 1023) rfl rfl (by kernel_rfl) (by decide) (fun K hK => ?_)
                       refine box_step ?hg (N := 16) ?hd (cs := #[.int .i64 0, .int .i64 0, .int .i64 0, .int .i64 0]) (t := 28) ?hr ?_; (case hd => rfl); (case hg => rfl); (case hr => first | (go_simp; done) | (go_simp; rfl))
                       intro d4 hg Y4 hbox hb
                       have d2 := aM (hbox)
                       have GW770 := gE hg
                       have GE770 := gE hg
                       have b9 := nL_ a8 hg
                       have e6 := nG_ a8 hg
                       have d0 := nL_ a9 hg
                       have e7 := nG_ a9 hg
                       replace a5 := rB a5 hb
                       replace a3 := rB a3 hb
                       replace a6 := sB a6 hb
                       replace a7 := sB a7 hb
                       replace a2 := kB_ a8 hb
                       replace b0 := aM (FrI_belowS hb b0.out (FrN1 b0.out (FrN0 b0.out) b1.out (by decide)))
                       replace b1 := kB_ a9 hb
                       replace HB := hB hb
                       clear hb hg
                       refine hK.out _ _ (cx4 b1 ⟨(blk_cell a2.out 1).trans rfl, ⟨(blk_cell a2.out 2).trans rfl, ⟨(blk_cell a2.out 3).trans rfl, (blk_cell a2.out 4).trans rfl⟩⟩⟩) (fun hHeld => ?_)
                       clear hK K
                       refine norm_ (a' := ?_) ?_ ?_
                       rotate_left
                       ·show Act.put _ (some 16) _ = _
                        simp only [Act.put, List.setIfInBounds_toArray, List.set_cons_zero, List.set_cons_succ, i64_w, i32_w]
                        rfl
                       exact norm_ (by simp only [putAll, Act.put, List.setIfInBounds_toArray, List.set_cons_zero, List.set_cons_succ]) (hCont (d4) _ ⟨hHeld, (rS a5), (rS a3), (sS a6), (sS a7), kS, kS, kS, GW770.out, GE770.out, b9.out, e6.out, d0.out, e7.out, (by exact FrI_self b0.out (FrN1 b0.out (FrN1 b0.out (FrN0 b0.out) b1.out (by decide)) d2.out (by decide))), bS⟩)
                      ·skip
                       refine box_step ?hg (N := 16) ?hd (cs := #[.int .i64 0, .int .i64 0, .int .i64 0, .int .i64 0]) (t := 28) ?hr ?_; (case hd => rfl); (case hg => rfl); (case hr => first | (go_simp; done) | (go_simp; rfl))
                       intro d4 hg Y2 hbox hb
                       have d2 := aM (hbox)
                       have GW770 := gE hg
                       have GE770 := gE hg
                       have b9 := nL_ a8 hg
                       have e6 := nG_ a8 hg
                       have d0 := nL_ a9 hg
                       have e7 := nG_ a9 hg
                       replace a5 := rB a5 hb
                       replace a3 := rB a3 hb
                       replace a6 := sB a6 hb
                       replace a7 := sB a7 hb
                       replace a2 := kB_ a8 hb
                       replace b0 := aM (FrI_belowS hb b0.out (FrN1 b0.out (FrN0 b0.out) b1.out (by decide)))
                       replace b1 := kB_ a9 hb
                       replace HB := hB hb
                       clear hb hg
                       refine hK.out _ _ (cx4 b1 ⟨(blk_cell a2.out 1).trans rfl, ⟨(blk_cell a2.out 2).trans rfl, ⟨(blk_cell a2.out 3).trans rfl, (blk_cell a2.out 4).trans rfl⟩⟩⟩) (fun hHeld => ?_)
                       clear hK K
                       refine norm_ (a' := ?_) ?_ ?_
                       rotate_left
                       ·show Act.put _ (some 16) _ = _
                        simp only [Act.put, List.setIfInBounds_toArray, List.set_cons_zero, List.set_cons_succ, i64_w, i32_w]
                        rfl
                       refine one_ (i := 5) (N := some 52) (mB 12 575) rfl rfl (by kernel_rfl) (by decide) (fun K hK => ?_)
                       refine goes_ Try.func47 (by kernel_rfl) rfl #[.agg #[.int .i64 b2, .int .i64 b6, .int .i64 b7, .int .i64 b8], .agg #[.int .i64 h4, .int .i64 h5, .int .i64 h6, .int .i64 h7]] (by rfl) rfl rfl mA ?_
                       with_reducible refine (impl_JoinTurns.calls kj225 b2 b6 b7 b8 h4 h5 h6 h7 o8 o9 q0 q3 _ _ y4.out).mono ?_
                       rintro e Y4 ⟨rfl, hb⟩
                       refine ⟨_, rfl, ?_⟩
                       replace a5 := rB a5 hb
                       replace a3 := rB a3 hb
                       replace a6 := sB a6 hb
                       replace a7 := sB a7 hb
                       replace a2 := kB_ a8 hb
                       replace b0 := aM (FrI_belowS hb b0.out (FrN1 b0.out (FrN1 b0.out (FrN0 b0.out) b1.out (by decide)) d2.out (by decide)))
                       replace b1 := kB_ a9 hb
                       replace d2 := kB_ d4 hb
                       replace HB := hB hb
                       (try clear hb)
                       (try clear Y3)
                       (try clear hk)
                       (try clear hi)
                       refine hK.out _ _ (cx4 b1 ⟨(blk_cell a2.out 1).trans rfl, ⟨(blk_cell a2.out 2).trans rfl, ⟨(blk_cell a2.out 3).trans rfl, (blk_cell a2.out 4).trans rfl⟩⟩⟩) (fun hHeld => ?_)
                       clear hK K
                       refine norm_ (a' := ?_) ?_ ?_
                       rotate_left
                       ·show Act.put _ (some 52) _ = _
                        simp only [Act.put, List.setIfInBounds_toArray, List.set_cons_zero, List.set_cons_succ, i64_w, i32_w]
                        rfl
                       refine pU 6 (some 46) (mB 12 639) ?_
                       refine pU 7 (some 53) (mB 12 767) ?_
                       refine pU 8 (some 54) (mB 12 1023) ?_
                       exact norm_ (by simp only [putAll, Act.put, List.setIfInBounds_toArray, List.set_cons_zero, List.set_cons_succ]) (hCont (d4) _ ⟨hHeld, (rS a5), (rS a3), (sS a6), (sS a7), kS, kS, kS, GW770.out, GE770.out, b9.out, e6.out, d0.out, e7.out, (by exact FrI_self b0.out (FrN1 b0.out (FrN1 b0.out (FrN0 b0.out) b1.out (by decide)) d2.out (by decide))), bS⟩)
                     rintro d4 l7 ⟨hS_, h0_, h1_, h2_, h3_, h4_, h5_, h6_, h7_, h8_, h9_, h10_, h11_, h12_, h13_, h14_⟩
                     have d2 : Aside0 (l7.heap[d4]? = some (.cells #[.int .i64 0, .int .i64 0, .int .i64 0, .int .i64 0] 28 (0, 0))) := ⟨h6_⟩
                     have GW770 : Aside0 (w.heap.size ≤ d4) := ⟨h7_⟩
                     have GE770 : Aside0 (w.heap.size ≤ d4) := ⟨h8_⟩
                     have b9 : Aside0 (a8 ≠ d4) := ⟨h9_⟩
                     have e6 : Aside0 (d4 ≠ a8) := ⟨h10_⟩
                     have d0 : Aside0 (a9 ≠ d4) := ⟨h11_⟩
                     have e7 : Aside0 (d4 ≠ a9) := ⟨h12_⟩
                     replace a5 : Aside0 (Kd.R (Kd.int .i64) 3 l7 w.heap.size (fun k_ => (w.heap.size ≤ k_)) (.slice g1 e2.length g2) e2) := ⟨h0_⟩
                     replace a3 : Aside0 (Kd.R k90 90 l7 w.heap.size (fun k_ => (w.heap.size ≤ k_)) (.slice f8 e1.length f9) e1) := ⟨h1_⟩
                     replace a6 : Aside0 (Kd.S k33 33 l7 w.heap.size (fun k_ => (w.heap.size ≤ k_) ∧ some k_ ≠ (.slice g1 e2.length g2 : Value).ownBlock ∧ some k_ ≠ (.slice f8 e1.length f9 : Value).ownBlock) (.slice k6 f6.length k7) f6) := ⟨h2_⟩
                     replace a7 : Aside0 (Kd.S k82 82 l7 w.heap.size (fun k_ => (w.heap.size ≤ k_) ∧ some k_ ≠ (.slice f8 e1.length f9 : Value).ownBlock) (.slice k9 f7.length l3) f7) := ⟨h3_⟩
                     replace a2 : Aside0 (l7.heap[a8]? = some (.cells #[.slice g1 e2.length g2, .int .i64 h4, .int .i64 h5, .int .i64 h6, .int .i64 h7, .slice f8 e1.length f9, .int .i64 m7, .int .i64 m8, .int .i64 m9, .int .i64 n0, .int .i64 n1, .slice k6 f6.length k7, .slice k9 f7.length l3] 37 (0, 0))) := ⟨h4_⟩
                     replace b1 : Aside0 (l7.heap[a9]? = some (.cells #[.int .i64 b2, .int .i64 b6, .int .i64 b7, .int .i64 b8] 28 (0, 0))) := ⟨h5_⟩
                     replace b0 : Aside0 (FrI L92 a8 [37, 46] l7) := ⟨h13_⟩
                     replace HB : Aside0 (Below w.heap.size w l7) := ⟨h14_⟩
                     clear h0_ h1_ h2_ h3_ h4_ h5_ h6_ h7_ h8_ h9_ h10_ h11_ h12_ h13_ h14_
                     have hHeld : l7.cell? ⟨a9, 0, none⟩ = some (.int .i64 b2) ∧ l7.cell? ⟨a9, 1, none⟩ = some (.int .i64 b6) ∧ l7.cell? ⟨a9, 2, none⟩ = some (.int .i64 b7) ∧ l7.cell? ⟨a9, 3, none⟩ = some (.int .i64 b8) ∧ l7.cell? ⟨a8, 1, none⟩ = some (.int .i64 h4) ∧ l7.cell? ⟨a8, 2, none⟩ = some (.int .i64 h5) ∧ l7.cell? ⟨a8, 3, none⟩ = some (.int .i64 h6) ∧ l7.cell? ⟨a8, 4, none⟩ = some (.int .i64 h7) := hS_
                     refine norm_ (a' := ?_) ?_ ?_
                     rotate_left
                     ·simp only [putAll, Act.put, List.setIfInBounds_toArray, List.set_cons_zero, List.set_cons_succ]
                      rfl
                     refine one_ (i := 10) (N := none) (mB 12 2047) rfl rfl (by kernel_rfl) (by decide) (fun K hK => ?_)
                     have hs253 := cg0 d2
                     have hfs253 := blk_frozen d2.out 0
                     have hns253_0 := nP b9 d0
                     have hms253_0 := e6.out
                     have hms253_1 := e7.out
                     have hs254 := cg1 d2
                     have hfs254 := blk_frozen d2.out 1
                     have hs255 := cg2 d2
                     have hfs255 := blk_frozen d2.out 2
                     have hs256 := cg3 d2
                     have hfs256 := blk_frozen d2.out 3
                     refine skip_ (w1 := ?_) (by rfl) rfl ?_ ?_
                     rotate_left
                     ·go_simp
                      rfl
                     refine hK.out _ _ (onW (g := d4) (fun on_ => ⟨(cO d0 on_ hHeld.1), (cO d0 on_ hHeld.2.1), (cO d0 on_ hHeld.2.2.1), (cO d0 on_ hHeld.2.2.2.1), (cO b9 on_ hHeld.2.2.2.2.1), (cO b9 on_ hHeld.2.2.2.2.2.1), (cO b9 on_ hHeld.2.2.2.2.2.2.1), (cO b9 on_ hHeld.2.2.2.2.2.2.2)⟩)) (fun hHeld => ?_)
                     clear hK K
                     refine pU 11 (some 17) (mB 12 4095) ?_
                     refine done_ (by kernel_rfl) ?_
                     have hnb257 := nP e6 b9
                     have hnb258 := nP e7 d0
                     have hz259 := cz4 d2
                     have hnb260 := nP k2 k3
                     have H3 := cg1 a2
                     have H4 := cg2 a2
                     have H5 := cg3 a2
                     have H6 := cg4 a2
                     have H7 := blk_frozen a2.out 1
                     have H8 := blk_frozen a2.out 2
                     have H9 := blk_frozen a2.out 3
                     have I0 := blk_frozen a2.out 4
                     try go_wp2
                     (try (go_ret; (try simp only [])))
                     (try (refine ⟨_, rfl, ?_⟩))
                     have e0 := aM (FrI_get b0.out HLM623.out)
                     have d5 := aM (FrI_get b0.out HLM624.out)
                     have d1 := aM (FrI_get b0.out HLM625.out)
                     have ne623_760 := aM (blk_neT e0.out b1.out (by decide))
                     have en623_760 := aM (Ne.symm ne623_760.out)
                     have ne623_770 := aM (blk_neT e0.out d2.out (by decide))
                     have en623_770 := aM (Ne.symm ne623_770.out)
                     have ne624_760 := aM (blk_neT d5.out b1.out (by decide))
                     have en624_760 := aM (Ne.symm ne624_760.out)
                     have ne624_770 := aM (blk_neT d5.out d2.out (by decide))
                     have en624_770 := aM (Ne.symm ne624_770.out)
                     have ne625_760 := aM (blk_neT d1.out b1.out (by decide))
                     have en625_760 := aM (Ne.symm ne625_760.out)
                     have ne625_770 := aM (blk_neT d1.out d2.out (by decide))
                     have en625_770 := aM (Ne.symm ne625_770.out)
                     clear b0
                     try go_wp2
                     go_meet
                     case rel => exact ⟨_, (true), (e2), (o8), (o9), (q0), (q3), (e1), (m7), (m8), (m9), (n0), (n1), (f6), (f7), (.slice g1 e2.length g2), (.slice f8 e1.length f9), (.slice k6 f6.length k7), (.slice k9 f7.length l3), fS, H', ⟨by have := HJ2.out; have := HJ225.out; first | omega | exact Nat.le_refl _⟩, ⟨rX [d4, a8] a5 d2 a2⟩, ⟨rX [d4, a8] a3 d2 a2⟩, ⟨sX [d4, a8] a6 d2 a2⟩, ⟨sX [d4, a8] a7 d2 a2⟩, ⟨kS⟩, ⟨kS⟩, ⟨kS⟩, ⟨kS⟩, ⟨bS⟩⟩
                    ·skip
                     obtain rfl := Bool.eq_false_iff.mpr E1
                     rw [if_neg nF] at H
                     first | rw [if_pos rfl] at H | rw [if_pos trivial] at H
                     have H' := aM H
                     clear H
                     try go_wp2
                     replace a5 := rD a5
                     replace a3 := rD a3
                     replace a6 := sD a6
                     replace a7 := sD a7
                     replace a2 := bD a2
                     replace b1 := bD b1
                     replace b0 := aM (FrI_drew b0.out)
                     replace HB := hD HB
                     refine start_ (n := 12) (S := fun w' => w'.cell? ⟨a9, 0, none⟩ = some (.int .i64 b2) ∧ w'.cell? ⟨a9, 1, none⟩ = some (.int .i64 b6) ∧ w'.cell? ⟨a9, 2, none⟩ = some (.int .i64 b7) ∧ w'.cell? ⟨a9, 3, none⟩ = some (.int .i64 b8) ∧ w'.cell? ⟨a8, 1, none⟩ = some (.int .i64 h4) ∧ w'.cell? ⟨a8, 2, none⟩ = some (.int .i64 h5) ∧ w'.cell? ⟨a8, 3, none⟩ = some (.int .i64 h6) ∧ w'.cell? ⟨a8, 4, none⟩ = some (.int .i64 h7)) (ds := []) (mB 12 0) (by kernel_rfl) rfl rfl (cx4 b1 ⟨(blk_cell a2.out 1).trans rfl, ⟨(blk_cell a2.out 2).trans rfl, ⟨(blk_cell a2.out 3).trans rfl, (blk_cell a2.out 4).trans rfl⟩⟩⟩) (fun hHeld => ?_)
                     generalize wc.drew = ad5 at a5 a3 a6 a7 a2 b1 b0 HB hHeld ⊢
                     refine pU 1 (some 48) (mB 12 2) ?_
                     refine pU 2 (some 49) (mB 12 6) ?_
                     refine pU 3 (some 50) (mB 12 14) ?_
                     refine tK 0 (some 47) (mB 12 15) ?_
                     refine tK 4 (some 51) (mB 12 31) ?_
                     refine join_ (σ := Nat) 2 (mB 12 1023) (fun s_ => [(52, .tuple #[.agg #[.int .i64 o8, .int .i64 o9, .int .i64 q0, .int .i64 q3], .bool false]), (16, .pointer (some ⟨s_, 0, none⟩)), (46, .tuple #[.agg #[.int .i64 o8, .int .i64 o9, .int .i64 q0, .int .i64 q3], .bool false]), (53, .agg #[.int .i64 o8, .int .i64 o9, .int .i64 q0, .int .i64 q3]), (54, .bool false)]) (fun s_ w' => (w'.cell? ⟨a9, 0, none⟩ = some (.int .i64 b2) ∧ w'.cell? ⟨a9, 1, none⟩ = some (.int .i64 b6) ∧ w'.cell? ⟨a9, 2, none⟩ = some (.int .i64 b7) ∧ w'.cell? ⟨a9, 3, none⟩ = some (.int .i64 b8) ∧ w'.cell? ⟨a8, 1, none⟩ = some (.int .i64 h4) ∧ w'.cell? ⟨a8, 2, none⟩ = some (.int .i64 h5) ∧ w'.cell? ⟨a8, 3, none⟩ = some (.int .i64 h6) ∧ w'.cell? ⟨a8, 4, none⟩ = some (.int .i64 h7)) ∧ (Kd.R (Kd.int .i64) 3 w' w.heap.size (fun k_ => (w.heap.size ≤ k_)) (.slice g1 e2.length g2) e2) ∧ (Kd.R k90 90 w' w.heap.size (fun k_ => (w.heap.size ≤ k_)) (.slice f8 e1.length f9) e1) ∧ (Kd.S k33 33 w' w.heap.size (fun k_ => (w.heap.size ≤ k_) ∧ some k_ ≠ (.slice g1 e2.length g2 : Value).ownBlock ∧ some k_ ≠ (.slice f8 e1.length f9 : Value).ownBlock) (.slice k6 f6.length k7) f6) ∧ (Kd.S k82 82 w' w.heap.size (fun k_ => (w.heap.size ≤ k_) ∧ some k_ ≠ (.slice f8 e1.length f9 : Value).ownBlock) (.slice k9 f7.length l3) f7) ∧ (w'.heap[a8]? = some (.cells #[.slice g1 e2.length g2, .int .i64 h4, .int .i64 h5, .int .i64 h6, .int .i64 h7, .slice f8 e1.length f9, .int .i64 m7, .int .i64 m8, .int .i64 m9, .int .i64 n0, .int .i64 n1, .slice k6 f6.length k7, .slice k9 f7.length l3] 37 (0, 0))) ∧ (w'.heap[a9]? = some (.cells #[.int .i64 b2, .int .i64 b6, .int .i64 b7, .int .i64 b8] 28 (0, 0))) ∧ (w'.heap[s_]? = some (.cells #[.int .i64 0, .int .i64 0, .int .i64 0, .int .i64 0] 28 (0, 0))) ∧ (w.heap.size ≤ s_) ∧ (w.heap.size ≤ s_) ∧ (a8 ≠ s_) ∧ (s_ ≠ a8) ∧ (a9 ≠ s_) ∧ (s_ ≠ a9) ∧ (FrI L92 a8 [37, 46] w') ∧ (Below w.heap.size w w')) ?_ ?_
                     rotate_left
                     ·intro hCont
                      refine two_ (i := 5) (j := 9) (Ni := some 52) (Nj := some 16) (mB 12 63) (mB 12 543) rfl rfl rfl rfl (by kernel_rfl) (by decide) (by decide) (fun K hK => ?_) (fun K hK => ?_)
                      ·skip
                       refine goes_ Try.func47 (by kernel_rfl) rfl #[.agg #[.int .i64 b2, .int .i64 b6, .int .i64 b7, .int .i64 b8], .agg #[.int .i64 h4, .int .i64 h5, .int .i64 h6, .int .i64 h7]] (by rfl) rfl rfl mA ?_
                       with_reducible refine (impl_JoinTurns.calls kj225 b2 b6 b7 b8 h4 h5 h6 h7 o8 o9 q0 q3 _ _ y4.out).mono ?_
                       rintro e Y5 ⟨rfl, hb⟩
                       refine ⟨_, rfl, ?_⟩
                       replace a5 := rB a5 hb
                       replace a3 := rB a3 hb
                       replace a6 := sB a6 hb
                       replace a7 := sB a7 hb
                       replace a2 := kB_ a8 hb
                       replace b0 := aM (FrI_belowS hb b0.out (FrN1 b0.out (FrN0 b0.out) b1.out (by decide)))
                       replace b1 := kB_ a9 hb
                       replace HB := hB hb
                       (try clear hb)
                       (try clear Y3)
                       (try clear hk)
                       (try clear hi)
                       refine hK.out _ _ (cx4 b1 ⟨(blk_cell a2.out 1).trans rfl, ⟨(blk_cell a2.out 2).trans rfl, ⟨(blk_cell a2.out 3).trans rfl, (blk_cell a2.out 4).trans rfl⟩⟩⟩) (fun hHeld => ?_)
                       clear hK K
                       refine norm_ (a' := ?_) ?_ ?_
                       rotate_left
                       ·show Act.put _ (some 52) _ = _
                        simp only [Act.put, List.setIfInBounds_toArray, List.set_cons_zero, List.set_cons_succ, i64_w, i32_w]
                        rfl
                       refine pU 6 (some 46) (mB 12 127) ?_
                       refine pU 7 (some 53) (mB 12 255) ?_
                       refine pU 8 (some 54) (mB 12 511) ?_
                       refine one_ (i := 9) (N := some 16) (mB 12 1023) rfl rfl (by kernel_rfl) (by decide) (fun K hK => ?_)
                       refine box_step ?hg (N := 16) ?hd (cs := #[.int .i64 0, .int .i64 0, .int .i64 0, .int .i64 0]) (t := 28) ?hr ?_; (case hd => rfl); (case hg => rfl); (case hr => first | (go_simp; done) | (go_simp; rfl))
                       intro d4 hg Y6 hbox hb
                       have d2 := aM (hbox)
                       have GW770 := gE hg
                       have GE770 := gE hg
                       have b9 := nL_ a8 hg
                       have e6 := nG_ a8 hg
                       have d0 := nL_ a9 hg
                       have e7 := nG_ a9 hg
                       replace a5 := rB a5 hb
                       replace a3 := rB a3 hb
                       replace a6 := sB a6 hb
                       replace a7 := sB a7 hb
                       replace a2 := kB_ a8 hb
                       replace b0 := aM (FrI_belowS hb b0.out (FrN1 b0.out (FrN0 b0.out) b1.out (by decide)))
                       replace b1 := kB_ a9 hb
                       replace HB := hB hb
                       clear hb hg
                       refine hK.out _ _ (cx4 b1 ⟨(blk_cell a2.out 1).trans rfl, ⟨(blk_cell a2.out 2).trans rfl, ⟨(blk_cell a2.out 3).trans rfl, (blk_cell a2.out 4).trans rfl⟩⟩⟩) (fun hHeld => ?_)
                       clear hK K
                       refine norm_ (a' := ?_) ?_ ?_
                       rotate_left
                       ·show Act.put _ (some 16) _ = _
                        simp only [Act.put, List.setIfInBounds_toArray, List.set_cons_zero, List.set_cons_succ, i64_w, i32_w]
                        rfl
                       exact norm_ (by simp only [putAll, Act.put, List.setIfInBounds_toArray, List.set_cons_zero, List.set_cons_succ]) (hCont (d4) _ ⟨hHeld, (rS a5), (rS a3), (sS a6), (sS a7), kS, kS, kS, GW770.out, GE770.out, b9.out, e6.out, d0.out, e7.out, (by exact FrI_self b0.out (FrN1 b0.out (FrN1 b0.out (FrN0 b0.out) b1.out (by decide)) d2.out (by decide))), bS⟩)
                      ·skip
                       refine box_step ?hg (N := 16) ?hd (cs := #[.int .i64 0, .int .i64 0, .int .i64 0, .int .i64 0]) (t := 28) ?hr ?_; (case hd => rfl); (case hg => rfl); (case hr => first | (go_simp; done) | (go_simp; rfl))
                       intro d4 hg Y5 hbox hb
                       have d2 := aM (hbox)
                       have GW770 := gE hg
                       have GE770 := gE hg
                       have b9 := nL_ a8 hg
                       have e6 := nG_ a8 hg
                       have d0 := nL_ a9 hg
                       have e7 := nG_ a9 hg
                       replace a5 := rB a5 hb
                       replace a3 := rB a3 hb
                       replace a6 := sB a6 hb
                       replace a7 := sB a7 hb
                       replace a2 := kB_ a8 hb
                       replace b0 := aM (FrI_belowS hb b0.out (FrN1 b0.out (FrN0 b0.out) b1.out (by decide)))
                       replace b1 := kB_ a9 hb
                       replace HB := hB hb
                       clear hb hg
                       refine hK.out _ _ (cx4 b1 ⟨(blk_cell a2.out 1).trans rfl, ⟨(blk_cell a2.out 2).trans rfl, ⟨(blk_cell a2.out 3).trans rfl, (blk_cell a2.out 4).trans rfl⟩⟩⟩) (fun hHeld => ?_)
                       clear hK K
                       refine norm_ (a' := ?_) ?_ ?_
                       rotate_left
                       ·show Act.put _ (some 16) _ = _
                        simp only [Act.put, List.setIfInBounds_toArray, List.set_cons_zero, List.set_cons_succ, i64_w, i32_w]
                        rfl
                       refine one_ (i := 5) (N := some 52) (mB 12 575) rfl rfl (by kernel_rfl) (by decide) (fun K hK => ?_)
                       refine goes_ Try.func47 (by kernel_rfl) rfl #[.agg #[.int .i64 b2, .int .i64 b6, .int .i64 b7, .int .i64 b8], .agg #[.int .i64 h4, .int .i64 h5, .int .i64 h6, .int .i64 h7]] (by rfl) rfl rfl mA ?_
                       with_reducible refine (impl_JoinTurns.calls kj225 b2 b6 b7 b8 h4 h5 h6 h7 o8 o9 q0 q3 _ _ y4.out).mono ?_
                       rintro e Y6 ⟨rfl, hb⟩
                       refine ⟨_, rfl, ?_⟩
                       replace a5 := rB a5 hb
                       replace a3 := rB a3 hb
                       replace a6 := sB a6 hb
                       replace a7 := sB a7 hb
                       replace a2 := kB_ a8 hb
                       replace b0 := aM (FrI_belowS hb b0.out (FrN1 b0.out (FrN1 b0.out (FrN0 b0.out) b1.out (by decide)) d2.out (by decide)))
                       replace b1 := kB_ a9 hb
                       replace d2 := kB_ d4 hb
                       replace HB := hB hb
                       (try clear hb)
                       (try clear Y3)
                       (try clear hk)
                       (try clear hi)
                       refine hK.out _ _ (cx4 b1 ⟨(blk_cell a2.out 1).trans rfl, ⟨(blk_cell a2.out 2).trans rfl, ⟨(blk_cell a2.out 3).trans rfl, (blk_cell a2.out 4).trans rfl⟩⟩⟩) (fun hHeld => ?_)
                       clear hK K
                       refine norm_ (a' := ?_) ?_ ?_
                       rotate_left
                       ·show Act.put _ (some 52) _ = _
                        simp only [Act.put, List.setIfInBounds_toArray, List.set_cons_zero, List.set_cons_succ, i64_w, i32_w]
                        rfl
                       refine pU 6 (some 46) (mB 12 639) ?_
                       refine pU 7 (some 53) (mB 12 767) ?_
                       refine pU 8 (some 54) (mB 12 1023) ?_
                       exact norm_ (by simp only [putAll, Act.put, List.setIfInBounds_toArray, List.set_cons_zero, List.set_cons_succ]) (hCont (d4) _ ⟨hHeld, (rS a5), (rS a3), (sS a6), (sS a7), kS, kS, kS, GW770.out, GE770.out, b9.out, e6.out, d0.out, e7.out, (by exact FrI_self b0.out (FrN1 b0.out (FrN1 b0.out (FrN0 b0.out) b1.out (by decide)) d2.out (by decide))), bS⟩)
                     rintro d4 l8 ⟨hS_, h0_, h1_, h2_, h3_, h4_, h5_, h6_, h7_, h8_, h9_, h10_, h11_, h12_, h13_, h14_⟩
                     have d2 : Aside0 (l8.heap[d4]? = some (.cells #[.int .i64 0, .int .i64 0, .int .i64 0, .int .i64 0] 28 (0, 0))) := ⟨h6_⟩
                     have GW770 : Aside0 (w.heap.size ≤ d4) := ⟨h7_⟩
                     have GE770 : Aside0 (w.heap.size ≤ d4) := ⟨h8_⟩
                     have b9 : Aside0 (a8 ≠ d4) := ⟨h9_⟩
                     have e6 : Aside0 (d4 ≠ a8) := ⟨h10_⟩
                     have d0 : Aside0 (a9 ≠ d4) := ⟨h11_⟩
                     have e7 : Aside0 (d4 ≠ a9) := ⟨h12_⟩
                     replace a5 : Aside0 (Kd.R (Kd.int .i64) 3 l8 w.heap.size (fun k_ => (w.heap.size ≤ k_)) (.slice g1 e2.length g2) e2) := ⟨h0_⟩
                     replace a3 : Aside0 (Kd.R k90 90 l8 w.heap.size (fun k_ => (w.heap.size ≤ k_)) (.slice f8 e1.length f9) e1) := ⟨h1_⟩
                     replace a6 : Aside0 (Kd.S k33 33 l8 w.heap.size (fun k_ => (w.heap.size ≤ k_) ∧ some k_ ≠ (.slice g1 e2.length g2 : Value).ownBlock ∧ some k_ ≠ (.slice f8 e1.length f9 : Value).ownBlock) (.slice k6 f6.length k7) f6) := ⟨h2_⟩
                     replace a7 : Aside0 (Kd.S k82 82 l8 w.heap.size (fun k_ => (w.heap.size ≤ k_) ∧ some k_ ≠ (.slice f8 e1.length f9 : Value).ownBlock) (.slice k9 f7.length l3) f7) := ⟨h3_⟩
                     replace a2 : Aside0 (l8.heap[a8]? = some (.cells #[.slice g1 e2.length g2, .int .i64 h4, .int .i64 h5, .int .i64 h6, .int .i64 h7, .slice f8 e1.length f9, .int .i64 m7, .int .i64 m8, .int .i64 m9, .int .i64 n0, .int .i64 n1, .slice k6 f6.length k7, .slice k9 f7.length l3] 37 (0, 0))) := ⟨h4_⟩
                     replace b1 : Aside0 (l8.heap[a9]? = some (.cells #[.int .i64 b2, .int .i64 b6, .int .i64 b7, .int .i64 b8] 28 (0, 0))) := ⟨h5_⟩
                     replace b0 : Aside0 (FrI L92 a8 [37, 46] l8) := ⟨h13_⟩
                     replace HB : Aside0 (Below w.heap.size w l8) := ⟨h14_⟩
                     clear h0_ h1_ h2_ h3_ h4_ h5_ h6_ h7_ h8_ h9_ h10_ h11_ h12_ h13_ h14_
                     have hHeld : l8.cell? ⟨a9, 0, none⟩ = some (.int .i64 b2) ∧ l8.cell? ⟨a9, 1, none⟩ = some (.int .i64 b6) ∧ l8.cell? ⟨a9, 2, none⟩ = some (.int .i64 b7) ∧ l8.cell? ⟨a9, 3, none⟩ = some (.int .i64 b8) ∧ l8.cell? ⟨a8, 1, none⟩ = some (.int .i64 h4) ∧ l8.cell? ⟨a8, 2, none⟩ = some (.int .i64 h5) ∧ l8.cell? ⟨a8, 3, none⟩ = some (.int .i64 h6) ∧ l8.cell? ⟨a8, 4, none⟩ = some (.int .i64 h7) := hS_
                     refine norm_ (a' := ?_) ?_ ?_
                     rotate_left
                     ·simp only [putAll, Act.put, List.setIfInBounds_toArray, List.set_cons_zero, List.set_cons_succ]
                      rfl
                     refine one_ (i := 10) (N := none) (mB 12 2047) rfl rfl (by kernel_rfl) (by decide) (fun K hK => ?_)
                     have hs266 := cg0 d2
                     have hfs266 := blk_frozen d2.out 0
                     have hns266_0 := nP b9 d0
                     have hms266_0 := e6.out
                     have hms266_1 := e7.out
                     have hs267 := cg1 d2
                     have hfs267 := blk_frozen d2.out 1
                     have hs268 := cg2 d2
                     have hfs268 := blk_frozen d2.out 2
                     have hs269 := cg3 d2
                     have hfs269 := blk_frozen d2.out 3
                     refine skip_ (w1 := ?_) (by rfl) rfl ?_ ?_
                     rotate_left
                     ·go_simp
                      rfl
                     refine hK.out _ _ (onW (g := d4) (fun on_ => ⟨(cO d0 on_ hHeld.1), (cO d0 on_ hHeld.2.1), (cO d0 on_ hHeld.2.2.1), (cO d0 on_ hHeld.2.2.2.1), (cO b9 on_ hHeld.2.2.2.2.1), (cO b9 on_ hHeld.2.2.2.2.2.1), (cO b9 on_ hHeld.2.2.2.2.2.2.1), (cO b9 on_ hHeld.2.2.2.2.2.2.2)⟩)) (fun hHeld => ?_)
                     clear hK K
                     refine pU 11 (some 17) (mB 12 4095) ?_
                     refine done_ (by kernel_rfl) ?_
                     try go_wp2
                     (try (go_ret; (try simp only [])))
                     (try (refine ⟨_, rfl, ?_⟩))
                     have e0 := aM (FrI_get b0.out HLM623.out)
                     have d5 := aM (FrI_get b0.out HLM624.out)
                     have d1 := aM (FrI_get b0.out HLM625.out)
                     have ne623_760 := aM (blk_neT e0.out b1.out (by decide))
                     have en623_760 := aM (Ne.symm ne623_760.out)
                     have ne623_770 := aM (blk_neT e0.out d2.out (by decide))
                     have en623_770 := aM (Ne.symm ne623_770.out)
                     have ne624_760 := aM (blk_neT d5.out b1.out (by decide))
                     have en624_760 := aM (Ne.symm ne624_760.out)
                     have ne624_770 := aM (blk_neT d5.out d2.out (by decide))
                     have en624_770 := aM (Ne.symm ne624_770.out)
                     have ne625_760 := aM (blk_neT d1.out b1.out (by decide))
                     have en625_760 := aM (Ne.symm ne625_760.out)
                     have ne625_770 := aM (blk_neT d1.out d2.out (by decide))
                     have en625_770 := aM (Ne.symm ne625_770.out)
                     clear b0
                     try go_wp2
                     go_meet
                     case rel => exact ⟨_, (false), (e2), (h4), (h5), (h6), (h7), (e1), (m7), (m8), (m9), (n0), (n1), (f6), (f7), (.slice g1 e2.length g2), (.slice f8 e1.length f9), (.slice k6 f6.length k7), (.slice k9 f7.length l3), fS, H', ⟨by have := HJ2.out; have := HJ225.out; first | omega | exact Nat.le_refl _⟩, ⟨rW [d4] a5 d2⟩, ⟨rW [d4] a3 d2⟩, ⟨sW [d4] a6 d2⟩, ⟨sW [d4] a7 d2⟩, ⟨kS⟩, ⟨kS⟩, ⟨kS⟩, ⟨kS⟩, ⟨bS⟩⟩
        ·obtain rfl := Bool.eq_false_iff.mpr V7
         rw [if_neg nF] at H
         have H' := aM H
         clear H
         have hnb270 := nP f0 e9
         have hnb271 := nP f3 f4
         have hnb272 := nP g4 g9
         have hz273 := cz2 d5
         go_wp2_with (first | ((with_reducible refine gC 24 ?_); refine cM (some 49) Try.func24 (impl_IsStackOp.calls h1 _ _ Q8.out) ?_; rintro e w' ⟨rfl, ⟨nd, rfl⟩⟩; refine ⟨_, rfl, ?_⟩; have hnb274 := nP g8 g3; have hnb275 := nP h0 g5; have I1 := cg0 a2; have I2 := blk_frozen a2.out 0) | ((with_reducible refine gC 26 ?_); refine cL (some 68) Try.func26 #[.slice s4 k5.length o4, .int .i64 v2] ?_; (with_reducible refine (impl_TakeNumbers.calls kj2 _ _ k5 v2 e2 g7 _ _ ?side1 ?side2 Z2.out).mono ?_); (case side1 => refine (Kd.R_reads' (e := 3) (base := w.heap.size) (ok := fun k_ => ((w.heap.size ≤ k_) ∧ True)) (n := k5.length) (c := o4) ?_).2.2; exact (by exact rG e8 a2)); (case side2 => exact (Kd.R_reads' e8.out).2.1); rintro e ad6 ⟨V8, t2, rfl, l6, o1, hb⟩; refine ⟨_, rfl, ?_⟩; have g0 := aM (Kd.R_lower (Kd.R_new' (Kd.R_newM (M := fun k_ => (w.heap.size ≤ k_)) l6 (below_size bS) (fun k_ h_ => h_)) (Kd.R_lt (by exact rG e8 a2))) (below_size bS)); have e5 := aM (Kd.R_lower (Kd.R_new' (Kd.R_newM (M := fun k_ => (w.heap.size ≤ k_)) o1 (below_size bS) (fun k_ h_ => h_)) (Kd.R_lt (by exact rG e8 a2))) (below_size bS)); replace e8 := aM (Kd.R_mono (Kd.R_told (Kd.R_told (Kd.R_old (by exact rG e8 a2) hb) (Kd.R_base l6)) (Kd.R_base o1)) (fun _ h_ => h_.1)); replace e3 := aM (Kd.R_below (by exact rG e3 a2) hb); replace d6 := aM (Kd.S_mono (Kd.S_told (Kd.S_told (Kd.S_old (by exact sG d6 a2) hb) (Kd.R_base l6)) (Kd.R_base o1)) (fun _ h_ => h_.1)); replace e4 := aM (Kd.S_below (by exact sG e4 a2) hb); replace e0 := kB_ f5 hb; replace d5 := kB_ g6 hb; replace d1 := kB_ d3 hb; replace a2 := kB_ a8 hb; replace HB := hB hb; (try clear hb hk l6 o1); obtain ⟨I3, I4, I5⟩ := Kd.R_slice g0.out; subst I5; have I6 := cg0 a2; have I7 := blk_frozen a2.out 0))
         go_meet
         case rel => exact ⟨_, (false), (e2), (h4), (h5), (h6), (h7), (e1), (m7), (m8), (m9), (n0), (n1), (f6), (f7), (.slice I3 e2.length I4), (.slice f8 e1.length f9), (.slice k6 f6.length k7), (.slice k9 f7.length l3), fS, H', ⟨by have := HJ2.out; first | omega | exact Nat.le_refl _⟩, ⟨rW [a8] g0 a2⟩, ⟨rW [a8] e3 a2⟩, ⟨sW [a8] d6 a2⟩, ⟨sW [a8] e4 a2⟩, ⟨kS⟩, ⟨kS⟩, ⟨kS⟩, ⟨kS⟩, ⟨bS⟩⟩
       ·obtain rfl := Bool.eq_false_iff.mpr V5
        rw [if_neg nF] at H
        have H' := aM H
        clear H
        have hnb280 := nP f0 e9
        have hnb281 := nP f3 f4
        have hnb282 := nP g4 g9
        have hz283 := cz2 d5
        go_wp2_with (first | ((with_reducible refine gC 24 ?_); refine cM (some 49) Try.func24 (impl_IsStackOp.calls h1 _ _ Q8.out) ?_; rintro e w' ⟨rfl, ⟨nd, rfl⟩⟩; refine ⟨_, rfl, ?_⟩))
        go_meet
        case rel => exact ⟨_, (false), (k5), (h4), (h5), (h6), (h7), (e1), (m7), (m8), (m9), (n0), (n1), (f6), (f7), (.slice s4 k5.length o4), (.slice f8 e1.length f9), (.slice k6 f6.length k7), (.slice k9 f7.length l3), fS, H', ⟨by have := HJ2.out; first | omega | exact Nat.le_refl _⟩, ⟨rW [a8] e8 a2⟩, ⟨rW [a8] e3 a2⟩, ⟨sW [a8] d6 a2⟩, ⟨sW [a8] e4 a2⟩, ⟨kS⟩, ⟨kS⟩, ⟨kS⟩, ⟨kS⟩, ⟨bS⟩⟩
    case rest =>
     clear C0
     try clear c2
     try clear p2
     try clear c4
     try clear c7
     try clear c24
     try clear c25
     try clear c26
     try clear c27
     try clear c28
     try clear c47
     try clear V5
     try clear V7
     try clear E1
     try clear ad7
     try clear ad8
     try clear ad9
     try clear ae0
     try clear ae1
     try clear ae2
     try clear ae3
     try clear ae4
     try clear ae5
     try clear ae6
     try clear ae7
     obtain ⟨kq, t4, i4, i5, i6, i7, i8, i9, j5, j6, j7, j8, j9, k0, k1, o6, o7, s5, s6, rfl, HA, HJ34, a5, a3, a6, a7, e0, d5, d1, a2, HB⟩ := hcut
     cases kq with
     | zero => exact absurd HA.out (by simp [impl_ExecToken.j4])
     | succ kj34 =>
      have H := HA.out
      clear HA
      simp only [impl_ExecToken.j4] at H
      by_cases I8 : t4 = true
      ·subst I8
       rw [if_pos rfl] at H
       replace H := bN H
       obtain ⟨Y7, I9, H⟩ := H
       by_cases J0 : Y7 = true
       ·subst J0
        rw [if_pos rfl] at H
        simp only [Option.some.injEq, Prod.mk.injEq] at H
        obtain ⟨rfl, rfl, rfl, rfl, rfl, rfl, rfl, rfl, rfl, rfl, rfl, rfl, rfl, rfl⟩ := H
        have hnb287 := nP g8 g3
        have hnb288 := nP g9 g4
        have hnb289 := nP h0 g5
        have hz290 := cz13 a2
        obtain ⟨J1, J2, J3⟩ := Kd.R_slice a5.out
        subst J3
        obtain ⟨J4, J5, J6⟩ := Kd.R_slice a3.out
        subst J6
        obtain ⟨J7, J8, J9⟩ := Kd.S_slice a6.out
        subst J9
        obtain ⟨K0, K1, K2⟩ := Kd.S_slice a7.out
        subst K2
        go_wp2_with (first | (go_at_call 19; (with_reducible refine (impl_PageOk.calls kj34 _ _ i4 i5 i6 i7 i8 _ _ i9 j5 j6 j7 j8 j9 _ _ k0 _ _ k1 _ _ (cS (Kd.R_reads' a5.out).2.2) ((Kd.R_reads' a5.out).2.1) (cS (Kd.R_reads' a3.out).2.2) ((Kd.R_reads' a3.out).2.1) (cS (Kd.S_reads' a6.out).2.2) ((Kd.S_reads' a6.out).2.1) (cS (Kd.S_reads' a7.out).2.2) ((Kd.S_reads' a7.out).2.1) I9.out).mono ?_); rintro e ae8 ⟨rfl, hb⟩; replace a5 := rB a5 hb; replace a3 := rB a3 hb; replace a6 := sB a6 hb; replace a7 := sB a7 hb; replace e0 := kB_ f5 hb; replace d5 := kB_ g6 hb; replace d1 := kB_ d3 hb; replace a2 := kB_ a8 hb; replace HB := hB hb; (try clear hb); have hz296 := cz13 a2; have hnb297 := nP i3 i1; have hnb298 := nP f4 f3; have hz299 := cz13 d1))
        refine bodyPost_ret (results_ct rfl _ _ d3 37 #[.slice J1 i4.length J2, .int .i64 i5, .int .i64 i6, .int .i64 i7, .int .i64 i8, .slice J4 i9.length J5, .int .i64 j5, .int .i64 j6, .int .i64 j7, .int .i64 j8, .int .i64 j9, .slice J7 k0.length J8, .slice K0 k1.length K1] (0, 0) _ rfl kS Try.underlying37 rfl (by kernel_rfl)) rfl ?_
        exact ⟨_, _, _, _, eS, Kd.R_V (by exact Kd.R_mono (R_on (g := d3) (Kd.R_types a5.out d1.out (by decide)) (fun _ hk => hk.2)) (fun _ hk => hk.1)), Kd.R_V (by exact Kd.R_mono (R_on (g := d3) (Kd.R_types a3.out d1.out (by decide)) (fun _ hk => hk.2)) (fun _ hk => hk.1)), Kd.S_V (by exact Kd.S_mono (S_on (g := d3) (Kd.S_types a6.out d1.out (by decide)) (fun _ hk => hk.2)) (fun _ hk => hk.1.1)), Kd.S_V (by exact Kd.S_mono (S_on (g := d3) (Kd.S_types a7.out d1.out (by decide)) (fun _ hk => hk.2)) (fun _ hk => hk.1)), bS⟩
       ·obtain rfl := Bool.eq_false_iff.mpr J0
        rw [if_neg nF] at H
        replace H := bN H
        obtain ⟨⟨K3, K4, K5, K6, K7, K8, K9, L0, L1, L2, L6, L8, L9⟩, Y8, H⟩ := H
        simp only [Option.some.injEq, Prod.mk.injEq] at H
        obtain ⟨rfl, rfl, rfl, rfl, rfl, rfl, rfl, rfl, rfl, rfl, rfl, rfl, rfl, rfl⟩ := H
        have hnb301 := nP g8 g3
        have hnb302 := nP g9 g4
        have hnb303 := nP h0 g5
        have hz304 := cz13 a2
        obtain ⟨Z7, Z8, M1⟩ := Kd.R_slice a5.out
        subst M1
        obtain ⟨Z9, aa0, M3⟩ := Kd.R_slice a3.out
        subst M3
        obtain ⟨aa1, aa2, M4⟩ := Kd.S_slice a6.out
        subst M4
        obtain ⟨aa3, aa4, M5⟩ := Kd.S_slice a7.out
        subst M5
        go_wp2_with (first | (go_at_call 19; (with_reducible refine (impl_PageOk.calls kj34 _ _ i4 i5 i6 i7 i8 _ _ i9 j5 j6 j7 j8 j9 _ _ k0 _ _ k1 _ _ (cS (Kd.R_reads' a5.out).2.2) ((Kd.R_reads' a5.out).2.1) (cS (Kd.R_reads' a3.out).2.2) ((Kd.R_reads' a3.out).2.1) (cS (Kd.S_reads' a6.out).2.2) ((Kd.S_reads' a6.out).2.1) (cS (Kd.S_reads' a7.out).2.2) ((Kd.S_reads' a7.out).2.1) I9.out).mono ?_); rintro e ae9 ⟨rfl, hb⟩; replace a5 := rB a5 hb; replace a3 := rB a3 hb; replace a6 := sB a6 hb; replace a7 := sB a7 hb; replace e0 := kB_ f5 hb; replace d5 := kB_ g6 hb; replace d1 := kB_ d3 hb; replace a2 := kB_ a8 hb; replace HB := hB hb; (try clear hb); have hnb310 := nP e9 f0; have hnb311 := nP i1 i3; have hz312 := cz13 e0) | ((with_reducible refine gC 21 ?_); refine cM (some 90) Try.func21 (impl_copyPage.calls kj34 _ _ l4 l9 m0 m1 m2 _ _ l5 m3 m4 m5 m6 k4 _ _ h8 _ _ h9 K3 K4 K5 K6 K7 K8 K9 L0 L1 L2 L6 L8 L9 _ (cC s0 HB) s1.out (cC s2 HB) s3.out (cC n6 HB) n7.out (cC n8 HB) o0.out Y8.out) ?_; rintro e af0 ⟨af1, af2, af4, af5, rfl, l6, o1, u2, u3, hb⟩; refine ⟨_, rfl, ?_⟩; have A5 := aM (Kd.R_lower (Kd.R_new' (Kd.R_newM (M := fun k_ => (w.heap.size ≤ k_)) l6 (below_size bS) (fun k_ h_ => h_)) (Kd.R_lt (rS a5))) (below_size bS)); have A6 := aM (Kd.R_lower (Kd.R_new' (Kd.R_newM (M := fun k_ => (w.heap.size ≤ k_)) o1 (below_size bS) (fun k_ h_ => h_)) (Kd.R_lt (rS a3))) (below_size bS)); have A8 := aM (Kd.S_lower (Kd.S_new' (Kd.S_new' (Kd.S_new' (Kd.S_newM (M := fun k_ => (w.heap.size ≤ k_)) u2 (below_size bS) (fun k_ h_ => h_)) (Kd.R_lt (rS a5))) (Kd.R_lt (rS a3))) (Kd.S_lt (sS a6))) (below_size bS)); have B0 := aM (Kd.S_lower (Kd.S_new' (Kd.S_new' (Kd.S_newM (M := fun k_ => (w.heap.size ≤ k_)) u3 (below_size bS) (fun k_ h_ => h_)) (Kd.R_lt (rS a3))) (Kd.S_lt (sS a7))) (below_size bS)); replace a5 := aM (Kd.R_elder' (rS a5) (Kd.R_base l6) hb); replace a3 := aM (Kd.R_elder' (rS a3) (Kd.R_base o1) hb); replace a6 := aM (Kd.S_mono (Kd.S_told (Kd.S_told (Kd.S_told (Kd.S_old (sS a6) hb) (Kd.R_base l6)) (Kd.R_base o1)) (Kd.S_base u2)) (fun _ h_ => h_.1)); replace a7 := aM (Kd.S_mono (Kd.S_told (Kd.S_told (Kd.S_old (sS a7) hb) (Kd.R_base o1)) (Kd.S_base u3)) (fun _ h_ => h_.1)); replace e0 := kB_ f5 hb; replace d5 := kB_ g6 hb; replace d1 := kB_ d3 hb; replace a2 := kB_ a8 hb; replace HB := hB hb; (try clear hb l6 o1 u2 u3); obtain ⟨M6, M7, M8⟩ := Kd.R_slice A5.out; subst M8; have hnb315 := nP f4 f3; have hz316 := cz13 d1; obtain ⟨M9, N1, N2⟩ := Kd.R_slice A6.out; subst N2; obtain ⟨N3, N4, N5⟩ := Kd.S_slice A8.out; subst N5; obtain ⟨N6, N7, N8⟩ := Kd.S_slice B0.out; subst N8))
        refine bodyPost_ret (results_ct rfl _ _ d3 37 #[.slice M6 K3.length M7, .int .i64 K4, .int .i64 K5, .int .i64 K6, .int .i64 K7, .slice M9 K8.length N1, .int .i64 K9, .int .i64 L0, .int .i64 L1, .int .i64 L2, .int .i64 L6, .slice N3 L8.length N4, .slice N6 L9.length N7] (0, 0) _ rfl kS Try.underlying37 rfl (by kernel_rfl)) rfl ?_
        exact ⟨_, _, _, _, eS, Kd.R_V (by exact Kd.R_mono (R_on (g := d3) (Kd.R_types A5.out d1.out (by decide)) (fun _ hk => hk.2)) (fun _ hk => hk.1.1.1)), Kd.R_V (by exact Kd.R_mono (R_on (g := d3) (Kd.R_types A6.out d1.out (by decide)) (fun _ hk => hk.2)) (fun _ hk => hk.1.1.1)), Kd.S_V (by exact Kd.S_mono (S_on (g := d3) (Kd.S_types A8.out d1.out (by decide)) (fun _ hk => hk.2)) (fun _ hk => hk.1.1.1.1.1)), Kd.S_V (by exact Kd.S_mono (S_on (g := d3) (Kd.S_types B0.out d1.out (by decide)) (fun _ hk => hk.2)) (fun _ hk => hk.1.1.1.1)), bS⟩
      ·obtain rfl := Bool.eq_false_iff.mpr I8
       rw [if_neg nF] at H
       replace H := bN H
       obtain ⟨⟨N9, O0, O1, O2, O3, O4, O5, O6, O7, O8, O9, P0, P1⟩, Y9, H⟩ := H
       simp only [Option.some.injEq, Prod.mk.injEq] at H
       obtain ⟨rfl, rfl, rfl, rfl, rfl, rfl, rfl, rfl, rfl, rfl, rfl, rfl, rfl, rfl⟩ := H
       have hnb321 := nP e9 f0
       have hnb322 := nP i1 i3
       have hnb323 := nP g3 g8
       have hz324 := cz13 e0
       go_wp2_with (first | ((with_reducible refine gC 21 ?_); refine cM (some 90) Try.func21 (impl_copyPage.calls kj34 _ _ l4 l9 m0 m1 m2 _ _ l5 m3 m4 m5 m6 k4 _ _ h8 _ _ h9 N9 O0 O1 O2 O3 O4 O5 O6 O7 O8 O9 P0 P1 _ (cC s0 HB) s1.out (cC s2 HB) s3.out (cC n6 HB) n7.out (cC n8 HB) o0.out Y9.out) ?_; rintro e af6 ⟨af7, af8, af9, ag0, rfl, l6, o1, u2, u3, hb⟩; refine ⟨_, rfl, ?_⟩; have B2 := aM (Kd.R_lower (Kd.R_new' (Kd.R_newM (M := fun k_ => (w.heap.size ≤ k_)) l6 (below_size bS) (fun k_ h_ => h_)) (Kd.R_lt (rS a5))) (below_size bS)); have B7 := aM (Kd.R_lower (Kd.R_new' (Kd.R_newM (M := fun k_ => (w.heap.size ≤ k_)) o1 (below_size bS) (fun k_ h_ => h_)) (Kd.R_lt (rS a3))) (below_size bS)); have B8 := aM (Kd.S_lower (Kd.S_new' (Kd.S_new' (Kd.S_new' (Kd.S_newM (M := fun k_ => (w.heap.size ≤ k_)) u2 (below_size bS) (fun k_ h_ => h_)) (Kd.R_lt (rS a5))) (Kd.R_lt (rS a3))) (Kd.S_lt (sS a6))) (below_size bS)); have B9 := aM (Kd.S_lower (Kd.S_new' (Kd.S_new' (Kd.S_newM (M := fun k_ => (w.heap.size ≤ k_)) u3 (below_size bS) (fun k_ h_ => h_)) (Kd.R_lt (rS a3))) (Kd.S_lt (sS a7))) (below_size bS)); replace a5 := aM (Kd.R_elder' (rS a5) (Kd.R_base l6) hb); replace a3 := aM (Kd.R_elder' (rS a3) (Kd.R_base o1) hb); replace a6 := aM (Kd.S_mono (Kd.S_told (Kd.S_told (Kd.S_told (Kd.S_old (sS a6) hb) (Kd.R_base l6)) (Kd.R_base o1)) (Kd.S_base u2)) (fun _ h_ => h_.1)); replace a7 := aM (Kd.S_mono (Kd.S_told (Kd.S_told (Kd.S_old (sS a7) hb) (Kd.R_base o1)) (Kd.S_base u3)) (fun _ h_ => h_.1)); replace e0 := kB_ f5 hb; replace d5 := kB_ g6 hb; replace d1 := kB_ d3 hb; replace a2 := kB_ a8 hb; replace HB := hB hb; (try clear hb l6 o1 u2 u3); obtain ⟨P2, P3, P4⟩ := Kd.R_slice B2.out; subst P4; have hnb327 := nP f4 f3; have hnb328 := nP g5 h0; have hz329 := cz13 d1; obtain ⟨P5, P6, P7⟩ := Kd.R_slice B7.out; subst P7; obtain ⟨P8, P9, Q0⟩ := Kd.S_slice B8.out; subst Q0; obtain ⟨Q1, Q2, Q3⟩ := Kd.S_slice B9.out; subst Q3))
       refine bodyPost_ret (results_ct rfl _ _ d3 37 #[.slice P2 N9.length P3, .int .i64 O0, .int .i64 O1, .int .i64 O2, .int .i64 O3, .slice P5 O4.length P6, .int .i64 O5, .int .i64 O6, .int .i64 O7, .int .i64 O8, .int .i64 O9, .slice P8 P0.length P9, .slice Q1 P1.length Q2] (0, 0) _ rfl kS Try.underlying37 rfl (by kernel_rfl)) rfl ?_
       exact ⟨_, _, _, _, eS, Kd.R_V (by exact Kd.R_mono (R_on (g := d3) (Kd.R_types B2.out d1.out (by decide)) (fun _ hk => hk.2)) (fun _ hk => hk.1.1.1)), Kd.R_V (by exact Kd.R_mono (R_on (g := d3) (Kd.R_types B7.out d1.out (by decide)) (fun _ hk => hk.2)) (fun _ hk => hk.1.1.1)), Kd.S_V (by exact Kd.S_mono (S_on (g := d3) (Kd.S_types B8.out d1.out (by decide)) (fun _ hk => hk.2)) (fun _ hk => hk.1.1.1.1.1)), Kd.S_V (by exact Kd.S_mono (S_on (g := d3) (Kd.S_types B9.out d1.out (by decide)) (fun _ hk => hk.2)) (fun _ hk => hk.1.1.1.1)), bS⟩

end Go.Proofs.Ytpickbenfkcpmaa.QFnRuns7
