-- Made out of the translation by a program of this session (a changed copy of the print). Not trusted: Lean checks it.
import Derived.Test.YtjodcfjaedhpeaaQFnPagesx0
import Derived.Test.YtjodcfjaedhpeaaQFnPagesx2
import Derived.Test.YtjodcfjaedhpeaaQFnPagesx9
namespace Go.Proofs.Ytjodcfjaedhpeaa.QFnPages
open Go.RowKit Go.Proofs.YtjodcfjaedhpeaaW.PrintWords Go.Proofs.YtjodcfjaedhpeaaW.PrintLast Go.Proofs.YtjodcfjaedhpeaaW.PrintMore
attribute [local go_sem] max2_int min2_int max_two min_two max_three min_three max_four min_four   -- for this text's walks alone
set_option linter.unusedVariables false
set_option linter.unusedSimpArgs false
set_option maxHeartbeats 8000000
set_option maxRecDepth 100000

/-! ### spec_RunPage: function 28 -/
def spec_RunPage.l0 : Nat → List (S40) → Int → List Int → Int → Int → Int → Int → List (S80) → Int → Int → Int → Int → Int → List (S31) → List (S60) → Option (List Int × Int × Int × Int × Int × (List (S80)) × Int × Int × Int × Int × Int × (List (S31)) × (List (S60)) × Int)
 | 0, _, _, _, _, _, _, _, _, _, _, _, _, _, _, _ => none
 | k + 1, x4, x7, a3, a5, a6, a7, a8, a9, b0, b1, b2, b6, b7, b8, b9 => if x7 < (x4.length : Int) then (if 0 ≤ x7 then ((spec_ExecToken.f k a3 a5 a6 a7 a8 a9 b0 b1 b2 b6 b7 b8 b9 ((rd_T40 x4 x7).f0) ((rd_T40 x4 x7).f1)).bind fun a2 => (if a2.2.2.2.2.2.2.2.2.2.2.2.2.2 = true then (spec_RunPage.l0 k x4 (wrap64 (x7 + 1)) a2.1 a2.2.1 a2.2.2.1 a2.2.2.2.1 a2.2.2.2.2.1 a2.2.2.2.2.2.1 a2.2.2.2.2.2.2.1 a2.2.2.2.2.2.2.2.1 a2.2.2.2.2.2.2.2.2.1 a2.2.2.2.2.2.2.2.2.2.1 a2.2.2.2.2.2.2.2.2.2.2.1 a2.2.2.2.2.2.2.2.2.2.2.2.1 a2.2.2.2.2.2.2.2.2.2.2.2.2.1) else (some (a3, a5, a6, a7, a8, a9, b0, b1, b2, b6, b7, b8, b9, x7)))) else (none)) else (some (a3, a5, a6, a7, a8, a9, b0, b1, b2, b6, b7, b8, b9, (x4.length : Int)))
def spec_RunPage.f (k : Nat) (l0 : List (S40)) : Option (List Int × Int × Int × Int × Int × (List (S80)) × Int × Int × Int × Int × Int × (List (S31)) × (List (S60)) × Int) := (spec_FlattenBlocks.f k l0).bind fun a3 => (if a3.2 = true then ((spec_NewPage.f).bind fun a2 => (spec_RunPage.l0 k a3.1 0 a2.1 a2.2.1 a2.2.2.1 a2.2.2.2.1 a2.2.2.2.2.1 a2.2.2.2.2.2.1 a2.2.2.2.2.2.2.1 a2.2.2.2.2.2.2.2.1 a2.2.2.2.2.2.2.2.2.1 a2.2.2.2.2.2.2.2.2.2.1 a2.2.2.2.2.2.2.2.2.2.2.1 a2.2.2.2.2.2.2.2.2.2.2.2.1 a2.2.2.2.2.2.2.2.2.2.2.2.2)) else (some (([] : List Int), 0, 0, 0, 0, ([] : List (S80)), 0, 0, 0, 0, 0, ([] : List (S31)), ([] : List (S60)), (-1))))
theorem spec_RunPage.calls (k : Nat) (A0 : Option Addr) (c0 : Nat) (l0 : List (S40)) (r1 : List Int) (r2 : Int) (r3 : Int) (r4 : Int) (r5 : Int) (r6 : List (S80)) (r7 : Int) (r8 : Int) (r9 : Int) (s4 : Int) (s5 : Int) (s6 : List (S31)) (s7 : List (S60)) (s8 : Int) (w : World) (hr0 : Kd.C k40 w A0 l0.length l0) (y3 : l0.length ≤ c0) (h : spec_RunPage.f k l0 = some (r1, r2, r3, r4, r5, r6, r7, r8, r9, s4, s5, s6, s7, s8)) :
  Calls Try.prog 28 #[.slice A0 l0.length c0] w fun e w' => ∃ v0_ v5_ v11_ v12_ : Value, e = .returned (.tuple #[.agg #[v0_, .int .i64 r2, .int .i64 r3, .int .i64 r4, .int .i64 r5, v5_, .int .i64 r7, .int .i64 r8, .int .i64 r9, .int .i64 s4, .int .i64 s5, v11_, v12_], .int .i64 s8]) ∧ Kd.V (Kd.int .i64) 3 w' w.heap.size (fun k_ => (w.heap.size ≤ k_)) v0_ r1 ∧ Kd.V k80 80 w' w.heap.size (fun k_ => (w.heap.size ≤ k_)) v5_ r6 ∧ Kd.V k31 31 w' w.heap.size (fun k_ => (w.heap.size ≤ k_)) v11_ s6 ∧ Kd.V k60 60 w' w.heap.size (fun k_ => (w.heap.size ≤ k_)) v12_ s7 ∧ Below w.heap.size w w' := by
 have hu35 := Try.underlying35
 have hu40 := Try.underlying40
 have y4 := aM hr0
 have y5 := aM y3
 clear hr0 y3
 have HB := aM (Below.refl w.heap.size w)
 have H := h
 clear h
 unfold spec_RunPage.f at H
 replace H := bN H
 obtain ⟨⟨d1, s9⟩, A2, H⟩ := H
 by_cases c3 : s9 = true
 ·subst c3
  rw [if_pos rfl] at H
  replace H := bN H
  obtain ⟨⟨n7, o5, o6, o7, o8, n8, o9, q0, q2, q3, q4, o0, o1⟩, A4, H⟩ := H
  have H' := aM H
  clear H
  go_enter Try.func28, Try.ntmps28
  go_wp2_with (first | ((with_reducible refine gD 2 ?_); refine bxE #[.slice none 0 0, .int .i64 0, .int .i64 0, .int .i64 0, .int .i64 0, .slice none 0 0, .int .i64 0, .int .i64 0, .int .i64 0, .int .i64 0, .int .i64 0, .slice none 0 0, .slice none 0 0] 35 ?_; intro a5 hg w5 e9 hb; have GE505 := gE hg; replace HB := hB hb; clear hb hg) | ((with_reducible refine gC 41 ?_); refine cM (some 12) Try.func41 (spec_FlattenBlocks.calls k _ _ l0 d1 _ _ (cC y4 HB) y5.out A2.out) ?_; rintro e w6 ⟨n6, rfl, k9, hb⟩; refine ⟨_, rfl, ?_⟩; have h0 := aM (Kd.R_lower (Kd.R_newM (M := fun k_ => (w.heap.size ≤ k_)) k9 (below_size bS) (fun k_ h_ => h_)) (below_size bS)); replace e9 := kB_ a5 hb; replace HB := hB hb; (try clear hb k9)) | ((with_reducible refine gC 42 ?_); refine cM (some 18) Try.func42 (spec_NewPage.calls  n7 o5 o6 o7 o8 n8 o9 q0 q2 q3 q4 o0 o1 _ A4.out) ?_; rintro e w7 ⟨y9, A1, A3, A5, rfl, k9, m7, m8, m9, hb⟩; refine ⟨_, rfl, ?_⟩; have n0 := aM (Kd.R_lower (Kd.R_newM (M := fun k_ => (w.heap.size ≤ k_)) k9 (below_size bS) (fun k_ h_ => h_)) (below_size bS)); have n1 := aM (Kd.R_lower (Kd.R_newM (M := fun k_ => (w.heap.size ≤ k_)) m7 (below_size bS) (fun k_ h_ => h_)) (below_size bS)); have n2 := aM (Kd.S_lower (Kd.S_newM (M := fun k_ => (w.heap.size ≤ k_)) m8 (below_size bS) (fun k_ h_ => h_)) (below_size bS)); have n5 := aM (Kd.S_lower (Kd.S_newM (M := fun k_ => (w.heap.size ≤ k_)) m9 (below_size bS) (fun k_ h_ => h_)) (below_size bS)); replace h0 := rB h0 hb; replace e9 := kB_ a5 hb; replace HB := hB hb; (try clear hb k9 m7 m8 m9)) | ((with_reducible refine gD 6 ?_); refine bxE #[.slice none 0 0, .int .i64 0, .int .i64 0, .int .i64 0, .int .i64 0, .slice none 0 0, .int .i64 0, .int .i64 0, .int .i64 0, .int .i64 0, .int .i64 0, .slice none 0 0, .slice none 0 0] 35 ?_; intro a2 hg w8 a3 hb; have GE531 := gE hg; have g8 := nL_ a5 hg; have g9 := nG_ a5 hg; replace h0 := rB h0 hb; replace n0 := rB n0 hb; replace n1 := rB n1 hb; replace n2 := sB n2 hb; replace n5 := sB n5 hb; replace e9 := kB_ a5 hb; replace HB := hB hb; clear hb hg; obtain ⟨A6, A7, A8⟩ := Kd.R_slice n0.out; subst A8; have hnb10 := nP g9 g8; have hz11 := cz13 a3; obtain ⟨t0, t1, t2⟩ := Kd.R_slice n1.out; subst t2; obtain ⟨t3, t4, t5⟩ := Kd.S_slice n2.out; subst t5; obtain ⟨t6, t7, t8⟩ := Kd.S_slice n5.out; subst t8))
  go_loopg [7] k (fun kq v7 w' => ∃ (e4 : Int) (f3 : Int) (f4 : Int) (f5 : Int) (f6 : Int) (f7 : Int) (f8 : Int) (f9 : Int) (g0 : Int) (g1 : Int) (b1 : List Int) (d2 : Int) (d3 : Int) (d4 : Int) (d5 : Int) (b2 : List (S80)) (d6 : Int) (e0 : Int) (e1 : Int) (e2 : Int) (e3 : Int) (b6 : List (S31)) (b7 : List (S60)) (l3 : Value) (l4 : Value) (l5 : Value) (l6 : Value), v7 = .int .i64 e4 ∧ Aside0 (spec_RunPage.l0 kq d1 e4 b1 d2 d3 d4 d5 b2 d6 e0 e1 e2 e3 b6 b7 = some (r1, r2, r3, r4, r5, r6, r7, r8, r9, s4, s5, s6, s7, s8)) ∧ Aside0 (kq ≤ k) ∧ Aside0 (Kd.R k40 40 w' w.heap.size (fun k_ => (w.heap.size ≤ k_)) n6 d1) ∧ Aside0 (Kd.V (Kd.int .i64) 3 w' w.heap.size (fun k_ => (w.heap.size ≤ k_) ∧ some k_ ≠ (n6 : Value).ownBlock ∧ k_ ≠ a5 ∧ k_ ≠ a2) l3 b1) ∧ Aside0 (Kd.V k80 80 w' w.heap.size (fun k_ => (w.heap.size ≤ k_) ∧ some k_ ≠ (n6 : Value).ownBlock ∧ k_ ≠ a5 ∧ k_ ≠ a2) l4 b2) ∧ Aside0 (Kd.V k31 31 w' w.heap.size (fun k_ => (w.heap.size ≤ k_) ∧ some k_ ≠ (n6 : Value).ownBlock ∧ k_ ≠ a5 ∧ k_ ≠ a2) l5 b6) ∧ Aside0 (Kd.V k60 60 w' w.heap.size (fun k_ => (w.heap.size ≤ k_) ∧ some k_ ≠ (n6 : Value).ownBlock ∧ k_ ≠ a5 ∧ k_ ≠ a2) l6 b7) ∧ Aside0 (w'.heap[a5]? = some (.cells #[(.slice none 0 0), .int .i64 f3, .int .i64 f4, .int .i64 f5, .int .i64 f6, (.slice none 0 0), .int .i64 f7, .int .i64 f8, .int .i64 f9, .int .i64 g0, .int .i64 g1, (.slice none 0 0), (.slice none 0 0)] 35 (0, 0))) ∧ Aside0 (w'.heap[a2]? = some (.cells #[l3, .int .i64 d2, .int .i64 d3, .int .i64 d4, .int .i64 d5, l4, .int .i64 d6, .int .i64 e0, .int .i64 e1, .int .i64 e2, .int .i64 e3, l5, l6] 35 (0, 0))) ∧ Aside0 (Below w.heap.size w w'))
  case atStart => exact ⟨(0), (0), (0), (0), (0), (0), (0), (0), (0), (0), (n7), (o5), (o6), (o7), (o8), (n8), (o9), (q0), (q2), (q3), (q4), (o0), (o1), (.slice A6 n7.length A7), (.slice t0 n8.length t1), (.slice t3 o0.length t4), (.slice t6 o1.length t7), fS, H', ⟨Nat.le_refl _⟩, ⟨rW [a2] h0 a3⟩, ⟨Kd.R_V (by exact Kd.R_mono (R_on (g := a2) (Kd.R_types (Kd.R_types (Kd.R_types (Kd.R_apart' n0.out (Kd.R_typed h0.out) (by decide)) e9.out (by decide)) a3.out (by decide)) a3.out (by decide)) (fun _ hk => hk.2)) (fun _ hk => ⟨hk.1.1.1.1.1, ⟨hk.1.1.1.2, ⟨hk.1.1.2, hk.1.2⟩⟩⟩))⟩, ⟨Kd.R_V (by exact Kd.R_mono (R_on (g := a2) (Kd.R_types (Kd.R_types (Kd.R_types (Kd.R_apart' n1.out (Kd.R_typed h0.out) (by decide)) e9.out (by decide)) a3.out (by decide)) a3.out (by decide)) (fun _ hk => hk.2)) (fun _ hk => ⟨hk.1.1.1.1.1, ⟨hk.1.1.1.2, ⟨hk.1.1.2, hk.1.2⟩⟩⟩))⟩, ⟨Kd.S_V (by exact Kd.S_mono (S_on (g := a2) (Kd.S_types (Kd.S_types (Kd.S_types (Kd.S_apart' n2.out (Kd.R_typed h0.out) (by decide)) e9.out (by decide)) a3.out (by decide)) a3.out (by decide)) (fun _ hk => hk.2)) (fun _ hk => ⟨hk.1.1.1.1.1, ⟨hk.1.1.1.2, ⟨hk.1.1.2, hk.1.2⟩⟩⟩))⟩, ⟨Kd.S_V (by exact Kd.S_mono (S_on (g := a2) (Kd.S_types (Kd.S_types (Kd.S_types (Kd.S_apart' n5.out (Kd.R_typed h0.out) (by decide)) e9.out (by decide)) a3.out (by decide)) a3.out (by decide)) (fun _ hk => hk.2)) (fun _ hk => ⟨hk.1.1.1.1.1, ⟨hk.1.1.1.2, ⟨hk.1.1.2, hk.1.2⟩⟩⟩))⟩, ⟨kS⟩, ⟨kS⟩, ⟨bS⟩⟩
  case round =>
   clear H'
   try clear c1
   try clear c2
   try clear p2
   try clear c3
   try clear c4
   try clear c10
   obtain ⟨e4, f3, f4, f5, f6, f7, f8, f9, g0, g1, b1, d2, d3, d4, d5, b2, d6, e0, e1, e2, e3, b6, b7, l3, l4, l5, l6, rfl, HA, y6, e5, a6, a7, a8, a9, e9, a3, HB⟩ := hrel
   cases gk with
   | zero => exact absurd HA.out (by simp [spec_RunPage.l0])
   | succ k1 =>
    have H := HA.out
    clear HA
    simp only [spec_RunPage.l0] at H
    rcases iD H with ⟨q5, H⟩ | ⟨q5, H⟩
    ·obtain ⟨y7, H⟩ := iT H
     replace H := bN H
     obtain ⟨⟨j5, h5, h6, h7, h8, j6, h9, i1, i3, i4, i5, j7, j8, t9⟩, s3, H⟩ := H
     by_cases y8 : t9 = true
     ·subst y8
      rw [if_pos rfl] at H
      have H' := aM H
      clear H
      obtain ⟨A9, g2, u0⟩ := Kd.R_slice e5.out
      subst u0
      obtain ⟨l7, l8, u1⟩ := Kd.V_slice a6.out
      subst u1
      obtain ⟨l9, m0, u2⟩ := Kd.V_slice a7.out
      subst u2
      obtain ⟨m1, m2, u3⟩ := Kd.V_slice a8.out
      subst u3
      obtain ⟨m3, m4, u4⟩ := Kd.V_slice a9.out
      subst u4
      try go_wp2
      replace e5 := rD e5
      replace a6 := vD a6
      replace a7 := vD a7
      replace a8 := vD a8
      replace a9 := vD a9
      replace e9 := bD e9
      replace a3 := bD a3
      replace HB := hD HB
      have m5 : 0 ≤ (e4 : Int) := dA
      have m6 : e4 < (d1.length : Int) := dA
      obtain ⟨b8, o4, h1, h2⟩ := at_T40 (Kd.R_reads' e5.out).2.2 e4 m5 m6
      cases o4
      replace m5 := eq_true m5
      replace m6 := eq_true m6
      refine start_ (n := 12) (S := fun w' => w'.cell? ⟨a2, 0, none⟩ = some (.slice l7 b1.length l8) ∧ w'.cell? ⟨a2, 1, none⟩ = some (.int .i64 d2) ∧ w'.cell? ⟨a2, 2, none⟩ = some (.int .i64 d3) ∧ w'.cell? ⟨a2, 3, none⟩ = some (.int .i64 d4) ∧ w'.cell? ⟨a2, 4, none⟩ = some (.int .i64 d5) ∧ w'.cell? ⟨a2, 5, none⟩ = some (.slice l9 b2.length m0) ∧ w'.cell? ⟨a2, 6, none⟩ = some (.int .i64 d6) ∧ w'.cell? ⟨a2, 7, none⟩ = some (.int .i64 e0) ∧ w'.cell? ⟨a2, 8, none⟩ = some (.int .i64 e1) ∧ w'.cell? ⟨a2, 9, none⟩ = some (.int .i64 e2) ∧ w'.cell? ⟨a2, 10, none⟩ = some (.int .i64 e3) ∧ w'.cell? ⟨a2, 11, none⟩ = some (.slice m1 b6.length m2) ∧ w'.cell? ⟨a2, 12, none⟩ = some (.slice m3 b7.length m4) ∧ w'.cell? (b8.add ((e4).toNat * 2)) = some (.string ((rd_T40 d1 e4).f0)) ∧ w'.cell? ⟨(b8.add ((e4).toNat * 2)).block, (b8.add ((e4).toNat * 2)).off + 1, none⟩ = some (.int .i64 ((rd_T40 d1 e4).f1))) (ds := []) (mB 12 0) (by kernel_rfl) rfl rfl ⟨(blk_cell a3.out 0).trans rfl, (blk_cell a3.out 1).trans rfl, (blk_cell a3.out 2).trans rfl, (blk_cell a3.out 3).trans rfl, (blk_cell a3.out 4).trans rfl, (blk_cell a3.out 5).trans rfl, (blk_cell a3.out 6).trans rfl, (blk_cell a3.out 7).trans rfl, (blk_cell a3.out 8).trans rfl, (blk_cell a3.out 9).trans rfl, (blk_cell a3.out 10).trans rfl, (blk_cell a3.out 11).trans rfl, (blk_cell a3.out 12).trans rfl, h1, h2⟩ (fun hHeld => ?_)
      generalize wr.drew = D4 at e5 a6 a7 a8 a9 e9 a3 HB h1 h2 hHeld ⊢
      refine pU 1 (some 27) (mB 12 2) ?_
      refine pU 2 (some 28) (mB 12 6) ?_
      refine pU 3 (some 29) (mB 12 14) ?_
      refine tK 0 (some 26) (mB 12 15) ?_
      refine tK 4 (some 30) (mB 12 31) ?_
      refine join_ (σ := Value × Value × Value × Value × Nat) 2 (mB 12 1023) (fun s_ => [(31, .tuple #[.agg #[s_.1, .int .i64 h5, .int .i64 h6, .int .i64 h7, .int .i64 h8, s_.2.1, .int .i64 h9, .int .i64 i1, .int .i64 i3, .int .i64 i4, .int .i64 i5, s_.2.2.1, s_.2.2.2.1], .bool true]), (8, .pointer (some ⟨s_.2.2.2.2, 0, none⟩)), (25, .tuple #[.agg #[s_.1, .int .i64 h5, .int .i64 h6, .int .i64 h7, .int .i64 h8, s_.2.1, .int .i64 h9, .int .i64 i1, .int .i64 i3, .int .i64 i4, .int .i64 i5, s_.2.2.1, s_.2.2.2.1], .bool true]), (32, .agg #[s_.1, .int .i64 h5, .int .i64 h6, .int .i64 h7, .int .i64 h8, s_.2.1, .int .i64 h9, .int .i64 i1, .int .i64 i3, .int .i64 i4, .int .i64 i5, s_.2.2.1, s_.2.2.2.1]), (33, .bool true)]) (fun s_ w' => (w'.cell? ⟨a2, 0, none⟩ = some (.slice l7 b1.length l8) ∧ w'.cell? ⟨a2, 1, none⟩ = some (.int .i64 d2) ∧ w'.cell? ⟨a2, 2, none⟩ = some (.int .i64 d3) ∧ w'.cell? ⟨a2, 3, none⟩ = some (.int .i64 d4) ∧ w'.cell? ⟨a2, 4, none⟩ = some (.int .i64 d5) ∧ w'.cell? ⟨a2, 5, none⟩ = some (.slice l9 b2.length m0) ∧ w'.cell? ⟨a2, 6, none⟩ = some (.int .i64 d6) ∧ w'.cell? ⟨a2, 7, none⟩ = some (.int .i64 e0) ∧ w'.cell? ⟨a2, 8, none⟩ = some (.int .i64 e1) ∧ w'.cell? ⟨a2, 9, none⟩ = some (.int .i64 e2) ∧ w'.cell? ⟨a2, 10, none⟩ = some (.int .i64 e3) ∧ w'.cell? ⟨a2, 11, none⟩ = some (.slice m1 b6.length m2) ∧ w'.cell? ⟨a2, 12, none⟩ = some (.slice m3 b7.length m4) ∧ w'.cell? (b8.add ((e4).toNat * 2)) = some (.string ((rd_T40 d1 e4).f0)) ∧ w'.cell? ⟨(b8.add ((e4).toNat * 2)).block, (b8.add ((e4).toNat * 2)).off + 1, none⟩ = some (.int .i64 ((rd_T40 d1 e4).f1))) ∧ (Kd.V (Kd.int .i64) 3 w' w.heap.size (fun k_ => (w.heap.size ≤ k_) ∧ some k_ ≠ (.slice (some b8) d1.length g2 : Value).ownBlock ∧ k_ ≠ a5 ∧ k_ ≠ a2 ∧ k_ ≠ s_.2.2.2.2) s_.1 j5) ∧ (Kd.V k80 80 w' w.heap.size (fun k_ => (w.heap.size ≤ k_) ∧ some k_ ≠ (.slice (some b8) d1.length g2 : Value).ownBlock ∧ k_ ≠ a5 ∧ k_ ≠ a2 ∧ k_ ≠ s_.2.2.2.2) s_.2.1 j6) ∧ (Kd.V k31 31 w' w.heap.size (fun k_ => (w.heap.size ≤ k_) ∧ some k_ ≠ (.slice (some b8) d1.length g2 : Value).ownBlock ∧ k_ ≠ a5 ∧ k_ ≠ a2 ∧ k_ ≠ s_.2.2.2.2) s_.2.2.1 j7) ∧ (Kd.V k60 60 w' w.heap.size (fun k_ => (w.heap.size ≤ k_) ∧ some k_ ≠ (.slice (some b8) d1.length g2 : Value).ownBlock ∧ k_ ≠ a5 ∧ k_ ≠ a2 ∧ k_ ≠ s_.2.2.2.2) s_.2.2.2.1 j8) ∧ (Kd.R k40 40 w' w.heap.size (fun k_ => (w.heap.size ≤ k_)) (.slice (some b8) d1.length g2) d1) ∧ (Kd.V (Kd.int .i64) 3 w' w.heap.size (fun k_ => (w.heap.size ≤ k_) ∧ some k_ ≠ (.slice (some b8) d1.length g2 : Value).ownBlock ∧ k_ ≠ a5 ∧ k_ ≠ a2 ∧ k_ ≠ s_.2.2.2.2) (.slice l7 b1.length l8) b1) ∧ (Kd.V k80 80 w' w.heap.size (fun k_ => (w.heap.size ≤ k_) ∧ some k_ ≠ (.slice (some b8) d1.length g2 : Value).ownBlock ∧ k_ ≠ a5 ∧ k_ ≠ a2 ∧ k_ ≠ s_.2.2.2.2) (.slice l9 b2.length m0) b2) ∧ (Kd.V k31 31 w' w.heap.size (fun k_ => (w.heap.size ≤ k_) ∧ some k_ ≠ (.slice (some b8) d1.length g2 : Value).ownBlock ∧ k_ ≠ a5 ∧ k_ ≠ a2 ∧ k_ ≠ s_.2.2.2.2) (.slice m1 b6.length m2) b6) ∧ (Kd.V k60 60 w' w.heap.size (fun k_ => (w.heap.size ≤ k_) ∧ some k_ ≠ (.slice (some b8) d1.length g2 : Value).ownBlock ∧ k_ ≠ a5 ∧ k_ ≠ a2 ∧ k_ ≠ s_.2.2.2.2) (.slice m3 b7.length m4) b7) ∧ (w'.heap[a5]? = some (.cells #[.slice none 0 0, .int .i64 f3, .int .i64 f4, .int .i64 f5, .int .i64 f6, .slice none 0 0, .int .i64 f7, .int .i64 f8, .int .i64 f9, .int .i64 g0, .int .i64 g1, .slice none 0 0, .slice none 0 0] 35 (0, 0))) ∧ (w'.heap[a2]? = some (.cells #[.slice l7 b1.length l8, .int .i64 d2, .int .i64 d3, .int .i64 d4, .int .i64 d5, .slice l9 b2.length m0, .int .i64 d6, .int .i64 e0, .int .i64 e1, .int .i64 e2, .int .i64 e3, .slice m1 b6.length m2, .slice m3 b7.length m4] 35 (0, 0))) ∧ (w'.heap[s_.2.2.2.2]? = some (.cells #[.slice none 0 0, .int .i64 0, .int .i64 0, .int .i64 0, .int .i64 0, .slice none 0 0, .int .i64 0, .int .i64 0, .int .i64 0, .int .i64 0, .int .i64 0, .slice none 0 0, .slice none 0 0] 35 (0, 0))) ∧ (w.heap.size ≤ s_.2.2.2.2) ∧ (w.heap.size ≤ s_.2.2.2.2) ∧ (a5 ≠ s_.2.2.2.2) ∧ (s_.2.2.2.2 ≠ a5) ∧ (a2 ≠ s_.2.2.2.2) ∧ (s_.2.2.2.2 ≠ a2) ∧ (Below w.heap.size w w')) ?_ ?_
      rotate_left
      ·intro hCont
       refine two_ (i := 5) (j := 9) (Ni := some 31) (Nj := some 8) (mB 12 63) (mB 12 543) rfl rfl rfl rfl (by kernel_rfl) (by decide) (by decide) (fun K hK => ?_) (fun K hK => ?_)
       ·skip
        refine goes_ Try.func43 (by kernel_rfl) rfl #[.agg #[.slice l7 b1.length l8, .int .i64 d2, .int .i64 d3, .int .i64 d4, .int .i64 d5, .slice l9 b2.length m0, .int .i64 d6, .int .i64 e0, .int .i64 e1, .int .i64 e2, .int .i64 e3, .slice m1 b6.length m2, .slice m3 b7.length m4], .agg #[.string ((rd_T40 d1 e4).f0), .int .i64 ((rd_T40 d1 e4).f1)]] (by rfl) rfl rfl mA ?_
        with_reducible refine (spec_ExecToken.calls k1 _ _ b1 d2 d3 d4 d5 _ _ b2 d6 e0 e1 e2 e3 _ _ b6 _ _ b7 ((rd_T40 d1 e4).f0) ((rd_T40 d1 e4).f1) j5 h5 h6 h7 h8 j6 h9 i1 i3 i4 i5 j7 j8 _ _ ?side1 ?side2 ?side3 ?side4 ?side5 ?side6 ?side7 ?side8 s3.out).mono ?_
        (case side1 => exact cS (Kd.V_reads' a6.out).2.2)
        (case side2 => exact (Kd.V_reads' a6.out).2.1)
        (case side3 => exact cS (Kd.V_reads' a7.out).2.2)
        (case side4 => exact (Kd.V_reads' a7.out).2.1)
        (case side5 => exact cS (Kd.V_reads' a8.out).2.2)
        (case side6 => exact (Kd.V_reads' a8.out).2.1)
        (case side7 => exact cS (Kd.V_reads' a9.out).2.2)
        (case side8 => exact (Kd.V_reads' a9.out).2.1)
        rintro e B0 ⟨i6, i7, i8, i9, rfl, k9, m7, m8, m9, hb⟩
        have HS13_ := (hb.cell (World.block_lt_of_cell? _ _ (hHeld.2.2.2.2.2.2.2.2.2.2.2.2.2.1))).trans (hHeld.2.2.2.2.2.2.2.2.2.2.2.2.2.1)
        have HS14_ := (hb.cell (World.block_lt_of_cell? _ _ (hHeld.2.2.2.2.2.2.2.2.2.2.2.2.2.2))).trans (hHeld.2.2.2.2.2.2.2.2.2.2.2.2.2.2)
        refine ⟨_, rfl, ?_⟩
        have g4 := aM (Kd.V_lower (Kd.V_mono (ok' := fun k_ => (w.heap.size ≤ k_) ∧ some k_ ≠ (.slice (some b8) d1.length g2 : Value).ownBlock ∧ k_ ≠ a5 ∧ k_ ≠ a2) k9 (fun k_ hk_ => ⟨(Nat.le_trans (below_size bS) hk_), (Kd.fresh' (Kd.R_lt (rS e5)) k_ hk_), (Kd.freshB (g := a5) kS k_ hk_), (Kd.freshB (g := a2) kS k_ hk_)⟩)) (below_size bS))
        have g5 := aM (Kd.V_lower (Kd.V_mono (ok' := fun k_ => (w.heap.size ≤ k_) ∧ some k_ ≠ (.slice (some b8) d1.length g2 : Value).ownBlock ∧ k_ ≠ a5 ∧ k_ ≠ a2) m7 (fun k_ hk_ => ⟨(Nat.le_trans (below_size bS) hk_), (Kd.fresh' (Kd.R_lt (rS e5)) k_ hk_), (Kd.freshB (g := a5) kS k_ hk_), (Kd.freshB (g := a2) kS k_ hk_)⟩)) (below_size bS))
        have g6 := aM (Kd.V_lower (Kd.V_mono (ok' := fun k_ => (w.heap.size ≤ k_) ∧ some k_ ≠ (.slice (some b8) d1.length g2 : Value).ownBlock ∧ k_ ≠ a5 ∧ k_ ≠ a2) m8 (fun k_ hk_ => ⟨(Nat.le_trans (below_size bS) hk_), (Kd.fresh' (Kd.R_lt (rS e5)) k_ hk_), (Kd.freshB (g := a5) kS k_ hk_), (Kd.freshB (g := a2) kS k_ hk_)⟩)) (below_size bS))
        have g7 := aM (Kd.V_lower (Kd.V_mono (ok' := fun k_ => (w.heap.size ≤ k_) ∧ some k_ ≠ (.slice (some b8) d1.length g2 : Value).ownBlock ∧ k_ ≠ a5 ∧ k_ ≠ a2) m9 (fun k_ hk_ => ⟨(Nat.le_trans (below_size bS) hk_), (Kd.fresh' (Kd.R_lt (rS e5)) k_ hk_), (Kd.freshB (g := a5) kS k_ hk_), (Kd.freshB (g := a2) kS k_ hk_)⟩)) (below_size bS))
        replace e5 := rB e5 hb
        replace a6 := vB (vS [] a6) hb
        replace a7 := vB (vS [] a7) hb
        replace a8 := vB (vS [] a8) hb
        replace a9 := vB (vS [] a9) hb
        replace e9 := kB_ a5 hb
        replace a3 := kB_ a2 hb
        replace HB := hB hb
        (try clear hb)
        (try clear u5)
        (try clear hk)
        (try clear hi)
        (try clear k9)
        (try clear m7)
        (try clear m8)
        (try clear m9)
        refine hK.out _ _ ⟨(blk_cell a3.out 0).trans rfl, (blk_cell a3.out 1).trans rfl, (blk_cell a3.out 2).trans rfl, (blk_cell a3.out 3).trans rfl, (blk_cell a3.out 4).trans rfl, (blk_cell a3.out 5).trans rfl, (blk_cell a3.out 6).trans rfl, (blk_cell a3.out 7).trans rfl, (blk_cell a3.out 8).trans rfl, (blk_cell a3.out 9).trans rfl, (blk_cell a3.out 10).trans rfl, (blk_cell a3.out 11).trans rfl, (blk_cell a3.out 12).trans rfl, HS13_, HS14_⟩ (fun hHeld => ?_)
        clear hK K
        refine norm_ (a' := ?_) ?_ ?_
        rotate_left
        ·show Act.put _ (some 31) _ = _
         simp only [Act.put, List.setIfInBounds_toArray, List.set_cons_zero, List.set_cons_succ, i64_w, i32_w]
         rfl
        refine pU 6 (some 25) (mB 12 127) ?_
        refine pU 7 (some 32) (mB 12 255) ?_
        refine pU 8 (some 33) (mB 12 511) ?_
        refine one_ (i := 9) (N := some 8) (mB 12 1023) rfl rfl (by kernel_rfl) (by decide) (fun K hK => ?_)
        refine box_step ?hg (N := 8) ?hd (cs := #[.slice none 0 0, .int .i64 0, .int .i64 0, .int .i64 0, .int .i64 0, .slice none 0 0, .int .i64 0, .int .i64 0, .int .i64 0, .int .i64 0, .int .i64 0, .slice none 0 0, .slice none 0 0]) (t := 35) ?hr ?_; (case hd => rfl); (case hg => rfl); (case hr => first | (go_simp; done) | (go_simp; rfl))
        intro b9 hg B2 hbox hb
        have HS13_ := (hb.cell (World.block_lt_of_cell? _ _ (hHeld.2.2.2.2.2.2.2.2.2.2.2.2.2.1))).trans (hHeld.2.2.2.2.2.2.2.2.2.2.2.2.2.1)
        have HS14_ := (hb.cell (World.block_lt_of_cell? _ _ (hHeld.2.2.2.2.2.2.2.2.2.2.2.2.2.2))).trans (hHeld.2.2.2.2.2.2.2.2.2.2.2.2.2.2)
        have d0 := aM (hbox)
        have GW555 := gE hg
        have GE555 := gE hg
        have e6 := nL_ a5 hg
        have e7 := nG_ a5 hg
        have b0 := nL_ a2 hg
        have e8 := nG_ a2 hg
        replace e5 := rB e5 hb
        replace a6 := vE (vS [] a6) hg hb
        replace a7 := vE (vS [] a7) hg hb
        replace a8 := vE (vS [] a8) hg hb
        replace a9 := vE (vS [] a9) hg hb
        replace g4 := vE (vS [] g4) hg hb
        replace g5 := vE (vS [] g5) hg hb
        replace g6 := vE (vS [] g6) hg hb
        replace g7 := vE (vS [] g7) hg hb
        replace e9 := kB_ a5 hb
        replace a3 := kB_ a2 hb
        replace HB := hB hb
        clear hb hg
        refine hK.out _ _ ⟨(blk_cell a3.out 0).trans rfl, (blk_cell a3.out 1).trans rfl, (blk_cell a3.out 2).trans rfl, (blk_cell a3.out 3).trans rfl, (blk_cell a3.out 4).trans rfl, (blk_cell a3.out 5).trans rfl, (blk_cell a3.out 6).trans rfl, (blk_cell a3.out 7).trans rfl, (blk_cell a3.out 8).trans rfl, (blk_cell a3.out 9).trans rfl, (blk_cell a3.out 10).trans rfl, (blk_cell a3.out 11).trans rfl, (blk_cell a3.out 12).trans rfl, HS13_, HS14_⟩ (fun hHeld => ?_)
        clear hK K
        refine norm_ (a' := ?_) ?_ ?_
        rotate_left
        ·show Act.put _ (some 8) _ = _
         simp only [Act.put, List.setIfInBounds_toArray, List.set_cons_zero, List.set_cons_succ, i64_w, i32_w]
         rfl
        exact norm_ (by simp only [putAll, Act.put, List.setIfInBounds_toArray, List.set_cons_zero, List.set_cons_succ]) (hCont (i6, i7, i8, i9, b9) _ ⟨hHeld, (by (with_reducible repeat (first | apply Kd.V_alloc | apply Kd.V_drewN | apply Kd.V_drew)); exact Kd.V_mono g4.out (fun _ hk => ⟨hk.1.1, ⟨hk.1.2.1, ⟨hk.1.2.2.1, ⟨hk.1.2.2.2, hk.2⟩⟩⟩⟩)), (by (with_reducible repeat (first | apply Kd.V_alloc | apply Kd.V_drewN | apply Kd.V_drew)); exact Kd.V_mono g5.out (fun _ hk => ⟨hk.1.1, ⟨hk.1.2.1, ⟨hk.1.2.2.1, ⟨hk.1.2.2.2, hk.2⟩⟩⟩⟩)), (by (with_reducible repeat (first | apply Kd.V_alloc | apply Kd.V_drewN | apply Kd.V_drew)); exact Kd.V_mono g6.out (fun _ hk => ⟨hk.1.1, ⟨hk.1.2.1, ⟨hk.1.2.2.1, ⟨hk.1.2.2.2, hk.2⟩⟩⟩⟩)), (by (with_reducible repeat (first | apply Kd.V_alloc | apply Kd.V_drewN | apply Kd.V_drew)); exact Kd.V_mono g7.out (fun _ hk => ⟨hk.1.1, ⟨hk.1.2.1, ⟨hk.1.2.2.1, ⟨hk.1.2.2.2, hk.2⟩⟩⟩⟩)), (rS e5), (by (with_reducible repeat (first | apply Kd.V_alloc | apply Kd.V_drewN | apply Kd.V_drew)); exact Kd.V_mono a6.out (fun _ hk => ⟨hk.1.1, ⟨hk.1.2.1, ⟨hk.1.2.2.1, ⟨hk.1.2.2.2, hk.2⟩⟩⟩⟩)), (by (with_reducible repeat (first | apply Kd.V_alloc | apply Kd.V_drewN | apply Kd.V_drew)); exact Kd.V_mono a7.out (fun _ hk => ⟨hk.1.1, ⟨hk.1.2.1, ⟨hk.1.2.2.1, ⟨hk.1.2.2.2, hk.2⟩⟩⟩⟩)), (by (with_reducible repeat (first | apply Kd.V_alloc | apply Kd.V_drewN | apply Kd.V_drew)); exact Kd.V_mono a8.out (fun _ hk => ⟨hk.1.1, ⟨hk.1.2.1, ⟨hk.1.2.2.1, ⟨hk.1.2.2.2, hk.2⟩⟩⟩⟩)), (by (with_reducible repeat (first | apply Kd.V_alloc | apply Kd.V_drewN | apply Kd.V_drew)); exact Kd.V_mono a9.out (fun _ hk => ⟨hk.1.1, ⟨hk.1.2.1, ⟨hk.1.2.2.1, ⟨hk.1.2.2.2, hk.2⟩⟩⟩⟩)), kS, kS, kS, GW555.out, GE555.out, e6.out, e7.out, b0.out, e8.out, bS⟩)
       ·skip
        refine box_step ?hg (N := 8) ?hd (cs := #[.slice none 0 0, .int .i64 0, .int .i64 0, .int .i64 0, .int .i64 0, .slice none 0 0, .int .i64 0, .int .i64 0, .int .i64 0, .int .i64 0, .int .i64 0, .slice none 0 0, .slice none 0 0]) (t := 35) ?hr ?_; (case hd => rfl); (case hg => rfl); (case hr => first | (go_simp; done) | (go_simp; rfl))
        intro b9 hg B0 hbox hb
        have HS13_ := (hb.cell (World.block_lt_of_cell? _ _ (hHeld.2.2.2.2.2.2.2.2.2.2.2.2.2.1))).trans (hHeld.2.2.2.2.2.2.2.2.2.2.2.2.2.1)
        have HS14_ := (hb.cell (World.block_lt_of_cell? _ _ (hHeld.2.2.2.2.2.2.2.2.2.2.2.2.2.2))).trans (hHeld.2.2.2.2.2.2.2.2.2.2.2.2.2.2)
        have d0 := aM (hbox)
        have GW555 := gE hg
        have GE555 := gE hg
        have e6 := nL_ a5 hg
        have e7 := nG_ a5 hg
        have b0 := nL_ a2 hg
        have e8 := nG_ a2 hg
        replace e5 := rB e5 hb
        replace a6 := vE (vS [] a6) hg hb
        replace a7 := vE (vS [] a7) hg hb
        replace a8 := vE (vS [] a8) hg hb
        replace a9 := vE (vS [] a9) hg hb
        replace e9 := kB_ a5 hb
        replace a3 := kB_ a2 hb
        replace HB := hB hb
        clear hb hg
        refine hK.out _ _ ⟨(blk_cell a3.out 0).trans rfl, (blk_cell a3.out 1).trans rfl, (blk_cell a3.out 2).trans rfl, (blk_cell a3.out 3).trans rfl, (blk_cell a3.out 4).trans rfl, (blk_cell a3.out 5).trans rfl, (blk_cell a3.out 6).trans rfl, (blk_cell a3.out 7).trans rfl, (blk_cell a3.out 8).trans rfl, (blk_cell a3.out 9).trans rfl, (blk_cell a3.out 10).trans rfl, (blk_cell a3.out 11).trans rfl, (blk_cell a3.out 12).trans rfl, HS13_, HS14_⟩ (fun hHeld => ?_)
        clear hK K
        refine norm_ (a' := ?_) ?_ ?_
        rotate_left
        ·show Act.put _ (some 8) _ = _
         simp only [Act.put, List.setIfInBounds_toArray, List.set_cons_zero, List.set_cons_succ, i64_w, i32_w]
         rfl
        refine one_ (i := 5) (N := some 31) (mB 12 575) rfl rfl (by kernel_rfl) (by decide) (fun K hK => ?_)
        refine goes_ Try.func43 (by kernel_rfl) rfl #[.agg #[.slice l7 b1.length l8, .int .i64 d2, .int .i64 d3, .int .i64 d4, .int .i64 d5, .slice l9 b2.length m0, .int .i64 d6, .int .i64 e0, .int .i64 e1, .int .i64 e2, .int .i64 e3, .slice m1 b6.length m2, .slice m3 b7.length m4], .agg #[.string ((rd_T40 d1 e4).f0), .int .i64 ((rd_T40 d1 e4).f1)]] (by rfl) rfl rfl mA ?_
        with_reducible refine (spec_ExecToken.calls k1 _ _ b1 d2 d3 d4 d5 _ _ b2 d6 e0 e1 e2 e3 _ _ b6 _ _ b7 ((rd_T40 d1 e4).f0) ((rd_T40 d1 e4).f1) j5 h5 h6 h7 h8 j6 h9 i1 i3 i4 i5 j7 j8 _ _ ?side1 ?side2 ?side3 ?side4 ?side5 ?side6 ?side7 ?side8 s3.out).mono ?_
        (case side1 => exact cS (Kd.V_reads' a6.out).2.2)
        (case side2 => exact (Kd.V_reads' a6.out).2.1)
        (case side3 => exact cS (Kd.V_reads' a7.out).2.2)
        (case side4 => exact (Kd.V_reads' a7.out).2.1)
        (case side5 => exact cS (Kd.V_reads' a8.out).2.2)
        (case side6 => exact (Kd.V_reads' a8.out).2.1)
        (case side7 => exact cS (Kd.V_reads' a9.out).2.2)
        (case side8 => exact (Kd.V_reads' a9.out).2.1)
        rintro e B2 ⟨i6, i7, i8, i9, rfl, k9, m7, m8, m9, hb⟩
        have HS13_ := (hb.cell (World.block_lt_of_cell? _ _ (hHeld.2.2.2.2.2.2.2.2.2.2.2.2.2.1))).trans (hHeld.2.2.2.2.2.2.2.2.2.2.2.2.2.1)
        have HS14_ := (hb.cell (World.block_lt_of_cell? _ _ (hHeld.2.2.2.2.2.2.2.2.2.2.2.2.2.2))).trans (hHeld.2.2.2.2.2.2.2.2.2.2.2.2.2.2)
        refine ⟨_, rfl, ?_⟩
        have g4 := aM (Kd.V_lower (Kd.V_mono (ok' := fun k_ => (w.heap.size ≤ k_) ∧ some k_ ≠ (.slice (some b8) d1.length g2 : Value).ownBlock ∧ k_ ≠ a5 ∧ k_ ≠ a2 ∧ k_ ≠ b9) k9 (fun k_ hk_ => ⟨(Nat.le_trans (below_size bS) hk_), (Kd.fresh' (Kd.R_lt (rS e5)) k_ hk_), (Kd.freshB (g := a5) kS k_ hk_), (Kd.freshB (g := a2) kS k_ hk_), (Kd.freshB (g := b9) kS k_ hk_)⟩)) (below_size bS))
        have g5 := aM (Kd.V_lower (Kd.V_mono (ok' := fun k_ => (w.heap.size ≤ k_) ∧ some k_ ≠ (.slice (some b8) d1.length g2 : Value).ownBlock ∧ k_ ≠ a5 ∧ k_ ≠ a2 ∧ k_ ≠ b9) m7 (fun k_ hk_ => ⟨(Nat.le_trans (below_size bS) hk_), (Kd.fresh' (Kd.R_lt (rS e5)) k_ hk_), (Kd.freshB (g := a5) kS k_ hk_), (Kd.freshB (g := a2) kS k_ hk_), (Kd.freshB (g := b9) kS k_ hk_)⟩)) (below_size bS))
        have g6 := aM (Kd.V_lower (Kd.V_mono (ok' := fun k_ => (w.heap.size ≤ k_) ∧ some k_ ≠ (.slice (some b8) d1.length g2 : Value).ownBlock ∧ k_ ≠ a5 ∧ k_ ≠ a2 ∧ k_ ≠ b9) m8 (fun k_ hk_ => ⟨(Nat.le_trans (below_size bS) hk_), (Kd.fresh' (Kd.R_lt (rS e5)) k_ hk_), (Kd.freshB (g := a5) kS k_ hk_), (Kd.freshB (g := a2) kS k_ hk_), (Kd.freshB (g := b9) kS k_ hk_)⟩)) (below_size bS))
        have g7 := aM (Kd.V_lower (Kd.V_mono (ok' := fun k_ => (w.heap.size ≤ k_) ∧ some k_ ≠ (.slice (some b8) d1.length g2 : Value).ownBlock ∧ k_ ≠ a5 ∧ k_ ≠ a2 ∧ k_ ≠ b9) m9 (fun k_ hk_ => ⟨(Nat.le_trans (below_size bS) hk_), (Kd.fresh' (Kd.R_lt (rS e5)) k_ hk_), (Kd.freshB (g := a5) kS k_ hk_), (Kd.freshB (g := a2) kS k_ hk_), (Kd.freshB (g := b9) kS k_ hk_)⟩)) (below_size bS))
        replace e5 := rB e5 hb
        replace a6 := vB (vS [] a6) hb
        replace a7 := vB (vS [] a7) hb
        replace a8 := vB (vS [] a8) hb
        replace a9 := vB (vS [] a9) hb
        replace e9 := kB_ a5 hb
        replace a3 := kB_ a2 hb
        replace d0 := kB_ b9 hb
        replace HB := hB hb
        (try clear hb)
        (try clear u5)
        (try clear hk)
        (try clear hi)
        (try clear k9)
        (try clear m7)
        (try clear m8)
        (try clear m9)
        refine hK.out _ _ ⟨(blk_cell a3.out 0).trans rfl, (blk_cell a3.out 1).trans rfl, (blk_cell a3.out 2).trans rfl, (blk_cell a3.out 3).trans rfl, (blk_cell a3.out 4).trans rfl, (blk_cell a3.out 5).trans rfl, (blk_cell a3.out 6).trans rfl, (blk_cell a3.out 7).trans rfl, (blk_cell a3.out 8).trans rfl, (blk_cell a3.out 9).trans rfl, (blk_cell a3.out 10).trans rfl, (blk_cell a3.out 11).trans rfl, (blk_cell a3.out 12).trans rfl, HS13_, HS14_⟩ (fun hHeld => ?_)
        clear hK K
        refine norm_ (a' := ?_) ?_ ?_
        rotate_left
        ·show Act.put _ (some 31) _ = _
         simp only [Act.put, List.setIfInBounds_toArray, List.set_cons_zero, List.set_cons_succ, i64_w, i32_w]
         rfl
        refine pU 6 (some 25) (mB 12 639) ?_
        refine pU 7 (some 32) (mB 12 767) ?_
        refine pU 8 (some 33) (mB 12 1023) ?_
        exact norm_ (by simp only [putAll, Act.put, List.setIfInBounds_toArray, List.set_cons_zero, List.set_cons_succ]) (hCont (i6, i7, i8, i9, b9) _ ⟨hHeld, (by (with_reducible repeat (first | apply Kd.V_alloc | apply Kd.V_drewN | apply Kd.V_drew)); exact g4.out), (by (with_reducible repeat (first | apply Kd.V_alloc | apply Kd.V_drewN | apply Kd.V_drew)); exact g5.out), (by (with_reducible repeat (first | apply Kd.V_alloc | apply Kd.V_drewN | apply Kd.V_drew)); exact g6.out), (by (with_reducible repeat (first | apply Kd.V_alloc | apply Kd.V_drewN | apply Kd.V_drew)); exact g7.out), (rS e5), (by (with_reducible repeat (first | apply Kd.V_alloc | apply Kd.V_drewN | apply Kd.V_drew)); exact Kd.V_mono a6.out (fun _ hk => ⟨hk.1.1, ⟨hk.1.2.1, ⟨hk.1.2.2.1, ⟨hk.1.2.2.2, hk.2⟩⟩⟩⟩)), (by (with_reducible repeat (first | apply Kd.V_alloc | apply Kd.V_drewN | apply Kd.V_drew)); exact Kd.V_mono a7.out (fun _ hk => ⟨hk.1.1, ⟨hk.1.2.1, ⟨hk.1.2.2.1, ⟨hk.1.2.2.2, hk.2⟩⟩⟩⟩)), (by (with_reducible repeat (first | apply Kd.V_alloc | apply Kd.V_drewN | apply Kd.V_drew)); exact Kd.V_mono a8.out (fun _ hk => ⟨hk.1.1, ⟨hk.1.2.1, ⟨hk.1.2.2.1, ⟨hk.1.2.2.2, hk.2⟩⟩⟩⟩)), (by (with_reducible repeat (first | apply Kd.V_alloc | apply Kd.V_drewN | apply Kd.V_drew)); exact Kd.V_mono a9.out (fun _ hk => ⟨hk.1.1, ⟨hk.1.2.1, ⟨hk.1.2.2.1, ⟨hk.1.2.2.2, hk.2⟩⟩⟩⟩)), kS, kS, kS, GW555.out, GE555.out, e6.out, e7.out, b0.out, e8.out, bS⟩)
      rintro ⟨i6, i7, i8, i9, b9⟩ h3 ⟨hS_, h0_, h1_, h2_, h3_, h4_, h5_, h6_, h7_, h8_, h9_, h10_, h11_, h12_, h13_, h14_, h15_, h16_, h17_, h18_⟩
      have g4 : Aside0 (Kd.V (Kd.int .i64) 3 h3 w.heap.size (fun k_ => (w.heap.size ≤ k_) ∧ some k_ ≠ (.slice (some b8) d1.length g2 : Value).ownBlock ∧ k_ ≠ a5 ∧ k_ ≠ a2 ∧ k_ ≠ b9) i6 j5) := ⟨h0_⟩
      have g5 : Aside0 (Kd.V k80 80 h3 w.heap.size (fun k_ => (w.heap.size ≤ k_) ∧ some k_ ≠ (.slice (some b8) d1.length g2 : Value).ownBlock ∧ k_ ≠ a5 ∧ k_ ≠ a2 ∧ k_ ≠ b9) i7 j6) := ⟨h1_⟩
      have g6 : Aside0 (Kd.V k31 31 h3 w.heap.size (fun k_ => (w.heap.size ≤ k_) ∧ some k_ ≠ (.slice (some b8) d1.length g2 : Value).ownBlock ∧ k_ ≠ a5 ∧ k_ ≠ a2 ∧ k_ ≠ b9) i8 j7) := ⟨h2_⟩
      have g7 : Aside0 (Kd.V k60 60 h3 w.heap.size (fun k_ => (w.heap.size ≤ k_) ∧ some k_ ≠ (.slice (some b8) d1.length g2 : Value).ownBlock ∧ k_ ≠ a5 ∧ k_ ≠ a2 ∧ k_ ≠ b9) i9 j8) := ⟨h3_⟩
      have d0 : Aside0 (h3.heap[b9]? = some (.cells #[.slice none 0 0, .int .i64 0, .int .i64 0, .int .i64 0, .int .i64 0, .slice none 0 0, .int .i64 0, .int .i64 0, .int .i64 0, .int .i64 0, .int .i64 0, .slice none 0 0, .slice none 0 0] 35 (0, 0))) := ⟨h11_⟩
      have GW555 : Aside0 (w.heap.size ≤ b9) := ⟨h12_⟩
      have GE555 : Aside0 (w.heap.size ≤ b9) := ⟨h13_⟩
      have e6 : Aside0 (a5 ≠ b9) := ⟨h14_⟩
      have e7 : Aside0 (b9 ≠ a5) := ⟨h15_⟩
      have b0 : Aside0 (a2 ≠ b9) := ⟨h16_⟩
      have e8 : Aside0 (b9 ≠ a2) := ⟨h17_⟩
      replace e5 : Aside0 (Kd.R k40 40 h3 w.heap.size (fun k_ => (w.heap.size ≤ k_)) (.slice (some b8) d1.length g2) d1) := ⟨h4_⟩
      replace a6 : Aside0 (Kd.V (Kd.int .i64) 3 h3 w.heap.size (fun k_ => (w.heap.size ≤ k_) ∧ some k_ ≠ (.slice (some b8) d1.length g2 : Value).ownBlock ∧ k_ ≠ a5 ∧ k_ ≠ a2 ∧ k_ ≠ b9) (.slice l7 b1.length l8) b1) := ⟨h5_⟩
      replace a7 : Aside0 (Kd.V k80 80 h3 w.heap.size (fun k_ => (w.heap.size ≤ k_) ∧ some k_ ≠ (.slice (some b8) d1.length g2 : Value).ownBlock ∧ k_ ≠ a5 ∧ k_ ≠ a2 ∧ k_ ≠ b9) (.slice l9 b2.length m0) b2) := ⟨h6_⟩
      replace a8 : Aside0 (Kd.V k31 31 h3 w.heap.size (fun k_ => (w.heap.size ≤ k_) ∧ some k_ ≠ (.slice (some b8) d1.length g2 : Value).ownBlock ∧ k_ ≠ a5 ∧ k_ ≠ a2 ∧ k_ ≠ b9) (.slice m1 b6.length m2) b6) := ⟨h7_⟩
      replace a9 : Aside0 (Kd.V k60 60 h3 w.heap.size (fun k_ => (w.heap.size ≤ k_) ∧ some k_ ≠ (.slice (some b8) d1.length g2 : Value).ownBlock ∧ k_ ≠ a5 ∧ k_ ≠ a2 ∧ k_ ≠ b9) (.slice m3 b7.length m4) b7) := ⟨h8_⟩
      replace e9 : Aside0 (h3.heap[a5]? = some (.cells #[.slice none 0 0, .int .i64 f3, .int .i64 f4, .int .i64 f5, .int .i64 f6, .slice none 0 0, .int .i64 f7, .int .i64 f8, .int .i64 f9, .int .i64 g0, .int .i64 g1, .slice none 0 0, .slice none 0 0] 35 (0, 0))) := ⟨h9_⟩
      replace a3 : Aside0 (h3.heap[a2]? = some (.cells #[.slice l7 b1.length l8, .int .i64 d2, .int .i64 d3, .int .i64 d4, .int .i64 d5, .slice l9 b2.length m0, .int .i64 d6, .int .i64 e0, .int .i64 e1, .int .i64 e2, .int .i64 e3, .slice m1 b6.length m2, .slice m3 b7.length m4] 35 (0, 0))) := ⟨h10_⟩
      replace HB : Aside0 (Below w.heap.size w h3) := ⟨h18_⟩
      clear h0_ h1_ h2_ h3_ h4_ h5_ h6_ h7_ h8_ h9_ h10_ h11_ h12_ h13_ h14_ h15_ h16_ h17_ h18_
      have hHeld : h3.cell? ⟨a2, 0, none⟩ = some (.slice l7 b1.length l8) ∧ h3.cell? ⟨a2, 1, none⟩ = some (.int .i64 d2) ∧ h3.cell? ⟨a2, 2, none⟩ = some (.int .i64 d3) ∧ h3.cell? ⟨a2, 3, none⟩ = some (.int .i64 d4) ∧ h3.cell? ⟨a2, 4, none⟩ = some (.int .i64 d5) ∧ h3.cell? ⟨a2, 5, none⟩ = some (.slice l9 b2.length m0) ∧ h3.cell? ⟨a2, 6, none⟩ = some (.int .i64 d6) ∧ h3.cell? ⟨a2, 7, none⟩ = some (.int .i64 e0) ∧ h3.cell? ⟨a2, 8, none⟩ = some (.int .i64 e1) ∧ h3.cell? ⟨a2, 9, none⟩ = some (.int .i64 e2) ∧ h3.cell? ⟨a2, 10, none⟩ = some (.int .i64 e3) ∧ h3.cell? ⟨a2, 11, none⟩ = some (.slice m1 b6.length m2) ∧ h3.cell? ⟨a2, 12, none⟩ = some (.slice m3 b7.length m4) ∧ h3.cell? (b8.add ((e4).toNat * 2)) = some (.string ((rd_T40 d1 e4).f0)) ∧ h3.cell? ⟨(b8.add ((e4).toNat * 2)).block, (b8.add ((e4).toNat * 2)).off + 1, none⟩ = some (.int .i64 ((rd_T40 d1 e4).f1)) := hS_
      obtain ⟨u6, u7, q6⟩ := Kd.V_slice g4.out
      (first | subst q6 | obtain ⟨rfl, rfl⟩ := slE q6)
      obtain ⟨u9, v0, q7⟩ := Kd.V_slice g5.out
      (first | subst q7 | obtain ⟨rfl, rfl⟩ := slE q7)
      obtain ⟨v1, v2, q8⟩ := Kd.V_slice g6.out
      (first | subst q8 | obtain ⟨rfl, rfl⟩ := slE q8)
      obtain ⟨v3, v4, q9⟩ := Kd.V_slice g7.out
      (first | subst q9 | obtain ⟨rfl, rfl⟩ := slE q9)
      refine norm_ (a' := ?_) ?_ ?_
      rotate_left
      ·simp only [putAll, Act.put, List.setIfInBounds_toArray, List.set_cons_zero, List.set_cons_succ]
       rfl
      refine one_ (i := 10) (N := none) (mB 12 2047) rfl rfl (by kernel_rfl) (by decide) (fun K hK => ?_)
      have hs29 := cg0 d0
      have hfs29 := blk_frozen d0.out 0
      have hns29_0 := nP e6 b0
      have hms29_0 := e7.out
      have hms29_1 := e8.out
      have hs30 := cg1 d0
      have hfs30 := blk_frozen d0.out 1
      have hs31 := cg2 d0
      have hfs31 := blk_frozen d0.out 2
      have hs32 := cg3 d0
      have hfs32 := blk_frozen d0.out 3
      have hs33 := cg4 d0
      have hfs33 := blk_frozen d0.out 4
      have hs35 := cg5 d0
      have hfs35 := blk_frozen d0.out 5
      have hs36 := cg6 d0
      have hfs36 := blk_frozen d0.out 6
      have hs37 := cg7 d0
      have hfs37 := blk_frozen d0.out 7
      have hs38 := cg8 d0
      have hfs38 := blk_frozen d0.out 8
      have hs39 := cg9 d0
      have hfs39 := blk_frozen d0.out 9
      have hs40 := cg10 d0
      have hfs40 := blk_frozen d0.out 10
      have hs42 := cg11 d0
      have hfs42 := blk_frozen d0.out 11
      have hs44 := cg12 d0
      have hfs44 := blk_frozen d0.out 12
      refine skip_ (w1 := ?_) (by rfl) rfl ?_ ?_
      rotate_left
      ·go_simp
       rfl
      have nd0_ := Kd.own_blk (Kd.R_ne e5.out d0.out (by decide))
      refine hK.out _ _ (onW (g := b9) (fun on_ => ⟨(cO b0 on_ hHeld.1), (cO b0 on_ hHeld.2.1), (cO b0 on_ hHeld.2.2.1), (cO b0 on_ hHeld.2.2.2.1), (cO b0 on_ hHeld.2.2.2.2.1), (cO b0 on_ hHeld.2.2.2.2.2.1), (cO b0 on_ hHeld.2.2.2.2.2.2.1), (cO b0 on_ hHeld.2.2.2.2.2.2.2.1), (cO b0 on_ hHeld.2.2.2.2.2.2.2.2.1), (cO b0 on_ hHeld.2.2.2.2.2.2.2.2.2.1), (cO b0 on_ hHeld.2.2.2.2.2.2.2.2.2.2.1), (cO b0 on_ hHeld.2.2.2.2.2.2.2.2.2.2.2.1), (cO b0 on_ hHeld.2.2.2.2.2.2.2.2.2.2.2.2.1), (cOq on_ hHeld.2.2.2.2.2.2.2.2.2.2.2.2.2.1 (by first | exact nd0_ | (rw [add_block]; exact nd0_))), (cOq on_ hHeld.2.2.2.2.2.2.2.2.2.2.2.2.2.2 (by first | exact nd0_ | (rw [add_block]; exact nd0_)))⟩)) (fun hHeld => ?_)
      clear hK K
      refine pU 11 (some 9) (mB 12 4095) ?_
      refine done_ (by kernel_rfl) ?_
      have hnb45 := nP e7 e6
      have hnb46 := nP e8 b0
      have hz47 := cz13 d0
      have hnb48 := nP g9 g8
      have hz49 := cz13 a3
      try go_wp2
      go_roundg k1
      case measure => have := y6.out; omega
      case rel => exact ⟨(wrap64 (e4 + 1)), (f3), (f4), (f5), (f6), (f7), (f8), (f9), (g0), (g1), (j5), (h5), (h6), (h7), (h8), (j6), (h9), (i1), (i3), (i4), (i5), (j7), (j8), (.slice u6 j5.length u7), (.slice u9 j6.length v0), (.slice v1 j7.length v2), (.slice v3 j8.length v4), fS, H', ⟨by have := y6.out; omega⟩, ⟨rX [b9, a2] e5 d0 a3⟩, ⟨vO [b9, a2] g4⟩, ⟨vO [b9, a2] g5⟩, ⟨vO [b9, a2] g6⟩, ⟨vO [b9, a2] g7⟩, ⟨kS⟩, ⟨kS⟩, ⟨bS⟩⟩
     ·obtain rfl := Bool.eq_false_iff.mpr y8
      rw [if_neg nF] at H
      simp only [Option.some.injEq, Prod.mk.injEq] at H
      obtain ⟨rfl, rfl, rfl, rfl, rfl, rfl, rfl, rfl, rfl, rfl, rfl, rfl, rfl, rfl⟩ := H
      obtain ⟨B8, g3, v5⟩ := Kd.R_slice e5.out
      subst v5
      obtain ⟨j9, k0, v6⟩ := Kd.V_slice a6.out
      subst v6
      obtain ⟨k2, k3, v8⟩ := Kd.V_slice a7.out
      subst v8
      obtain ⟨k4, k5, v9⟩ := Kd.V_slice a8.out
      subst v9
      obtain ⟨k6, k7, w9⟩ := Kd.V_slice a9.out
      subst w9
      try go_wp2
      replace e5 := rD e5
      replace a6 := vD a6
      replace a7 := vD a7
      replace a8 := vD a8
      replace a9 := vD a9
      replace e9 := bD e9
      replace a3 := bD a3
      replace HB := hD HB
      have m5 : 0 ≤ (e4 : Int) := dA
      have m6 : e4 < (d1.length : Int) := dA
      obtain ⟨b8, o4, h1, h2⟩ := at_T40 (Kd.R_reads' e5.out).2.2 e4 m5 m6
      cases o4
      replace m5 := eq_true m5
      replace m6 := eq_true m6
      refine start_ (n := 12) (S := fun w' => w'.cell? ⟨a2, 0, none⟩ = some (.slice j9 b1.length k0) ∧ w'.cell? ⟨a2, 1, none⟩ = some (.int .i64 d2) ∧ w'.cell? ⟨a2, 2, none⟩ = some (.int .i64 d3) ∧ w'.cell? ⟨a2, 3, none⟩ = some (.int .i64 d4) ∧ w'.cell? ⟨a2, 4, none⟩ = some (.int .i64 d5) ∧ w'.cell? ⟨a2, 5, none⟩ = some (.slice k2 b2.length k3) ∧ w'.cell? ⟨a2, 6, none⟩ = some (.int .i64 d6) ∧ w'.cell? ⟨a2, 7, none⟩ = some (.int .i64 e0) ∧ w'.cell? ⟨a2, 8, none⟩ = some (.int .i64 e1) ∧ w'.cell? ⟨a2, 9, none⟩ = some (.int .i64 e2) ∧ w'.cell? ⟨a2, 10, none⟩ = some (.int .i64 e3) ∧ w'.cell? ⟨a2, 11, none⟩ = some (.slice k4 b6.length k5) ∧ w'.cell? ⟨a2, 12, none⟩ = some (.slice k6 b7.length k7) ∧ w'.cell? (b8.add ((e4).toNat * 2)) = some (.string ((rd_T40 d1 e4).f0)) ∧ w'.cell? ⟨(b8.add ((e4).toNat * 2)).block, (b8.add ((e4).toNat * 2)).off + 1, none⟩ = some (.int .i64 ((rd_T40 d1 e4).f1))) (ds := []) (mB 12 0) (by kernel_rfl) rfl rfl ⟨(blk_cell a3.out 0).trans rfl, (blk_cell a3.out 1).trans rfl, (blk_cell a3.out 2).trans rfl, (blk_cell a3.out 3).trans rfl, (blk_cell a3.out 4).trans rfl, (blk_cell a3.out 5).trans rfl, (blk_cell a3.out 6).trans rfl, (blk_cell a3.out 7).trans rfl, (blk_cell a3.out 8).trans rfl, (blk_cell a3.out 9).trans rfl, (blk_cell a3.out 10).trans rfl, (blk_cell a3.out 11).trans rfl, (blk_cell a3.out 12).trans rfl, h1, h2⟩ (fun hHeld => ?_)
      generalize wr.drew = D5 at e5 a6 a7 a8 a9 e9 a3 HB h1 h2 hHeld ⊢
      refine pU 1 (some 27) (mB 12 2) ?_
      refine pU 2 (some 28) (mB 12 6) ?_
      refine pU 3 (some 29) (mB 12 14) ?_
      refine tK 0 (some 26) (mB 12 15) ?_
      refine tK 4 (some 30) (mB 12 31) ?_
      refine join_ (σ := Value × Value × Value × Value × Nat) 2 (mB 12 1023) (fun s_ => [(31, .tuple #[.agg #[s_.1, .int .i64 h5, .int .i64 h6, .int .i64 h7, .int .i64 h8, s_.2.1, .int .i64 h9, .int .i64 i1, .int .i64 i3, .int .i64 i4, .int .i64 i5, s_.2.2.1, s_.2.2.2.1], .bool false]), (8, .pointer (some ⟨s_.2.2.2.2, 0, none⟩)), (25, .tuple #[.agg #[s_.1, .int .i64 h5, .int .i64 h6, .int .i64 h7, .int .i64 h8, s_.2.1, .int .i64 h9, .int .i64 i1, .int .i64 i3, .int .i64 i4, .int .i64 i5, s_.2.2.1, s_.2.2.2.1], .bool false]), (32, .agg #[s_.1, .int .i64 h5, .int .i64 h6, .int .i64 h7, .int .i64 h8, s_.2.1, .int .i64 h9, .int .i64 i1, .int .i64 i3, .int .i64 i4, .int .i64 i5, s_.2.2.1, s_.2.2.2.1]), (33, .bool false)]) (fun s_ w' => (w'.cell? ⟨a2, 0, none⟩ = some (.slice j9 b1.length k0) ∧ w'.cell? ⟨a2, 1, none⟩ = some (.int .i64 d2) ∧ w'.cell? ⟨a2, 2, none⟩ = some (.int .i64 d3) ∧ w'.cell? ⟨a2, 3, none⟩ = some (.int .i64 d4) ∧ w'.cell? ⟨a2, 4, none⟩ = some (.int .i64 d5) ∧ w'.cell? ⟨a2, 5, none⟩ = some (.slice k2 b2.length k3) ∧ w'.cell? ⟨a2, 6, none⟩ = some (.int .i64 d6) ∧ w'.cell? ⟨a2, 7, none⟩ = some (.int .i64 e0) ∧ w'.cell? ⟨a2, 8, none⟩ = some (.int .i64 e1) ∧ w'.cell? ⟨a2, 9, none⟩ = some (.int .i64 e2) ∧ w'.cell? ⟨a2, 10, none⟩ = some (.int .i64 e3) ∧ w'.cell? ⟨a2, 11, none⟩ = some (.slice k4 b6.length k5) ∧ w'.cell? ⟨a2, 12, none⟩ = some (.slice k6 b7.length k7) ∧ w'.cell? (b8.add ((e4).toNat * 2)) = some (.string ((rd_T40 d1 e4).f0)) ∧ w'.cell? ⟨(b8.add ((e4).toNat * 2)).block, (b8.add ((e4).toNat * 2)).off + 1, none⟩ = some (.int .i64 ((rd_T40 d1 e4).f1))) ∧ (Kd.V (Kd.int .i64) 3 w' w.heap.size (fun k_ => (w.heap.size ≤ k_) ∧ some k_ ≠ (.slice (some b8) d1.length g3 : Value).ownBlock ∧ k_ ≠ a5 ∧ k_ ≠ a2 ∧ k_ ≠ s_.2.2.2.2) s_.1 j5) ∧ (Kd.V k80 80 w' w.heap.size (fun k_ => (w.heap.size ≤ k_) ∧ some k_ ≠ (.slice (some b8) d1.length g3 : Value).ownBlock ∧ k_ ≠ a5 ∧ k_ ≠ a2 ∧ k_ ≠ s_.2.2.2.2) s_.2.1 j6) ∧ (Kd.V k31 31 w' w.heap.size (fun k_ => (w.heap.size ≤ k_) ∧ some k_ ≠ (.slice (some b8) d1.length g3 : Value).ownBlock ∧ k_ ≠ a5 ∧ k_ ≠ a2 ∧ k_ ≠ s_.2.2.2.2) s_.2.2.1 j7) ∧ (Kd.V k60 60 w' w.heap.size (fun k_ => (w.heap.size ≤ k_) ∧ some k_ ≠ (.slice (some b8) d1.length g3 : Value).ownBlock ∧ k_ ≠ a5 ∧ k_ ≠ a2 ∧ k_ ≠ s_.2.2.2.2) s_.2.2.2.1 j8) ∧ (Kd.R k40 40 w' w.heap.size (fun k_ => (w.heap.size ≤ k_)) (.slice (some b8) d1.length g3) d1) ∧ (Kd.V (Kd.int .i64) 3 w' w.heap.size (fun k_ => (w.heap.size ≤ k_) ∧ some k_ ≠ (.slice (some b8) d1.length g3 : Value).ownBlock ∧ k_ ≠ a5 ∧ k_ ≠ a2 ∧ k_ ≠ s_.2.2.2.2) (.slice j9 b1.length k0) b1) ∧ (Kd.V k80 80 w' w.heap.size (fun k_ => (w.heap.size ≤ k_) ∧ some k_ ≠ (.slice (some b8) d1.length g3 : Value).ownBlock ∧ k_ ≠ a5 ∧ k_ ≠ a2 ∧ k_ ≠ s_.2.2.2.2) (.slice k2 b2.length k3) b2) ∧ (Kd.V k31 31 w' w.heap.size (fun k_ => (w.heap.size ≤ k_) ∧ some k_ ≠ (.slice (some b8) d1.length g3 : Value).ownBlock ∧ k_ ≠ a5 ∧ k_ ≠ a2 ∧ k_ ≠ s_.2.2.2.2) (.slice k4 b6.length k5) b6) ∧ (Kd.V k60 60 w' w.heap.size (fun k_ => (w.heap.size ≤ k_) ∧ some k_ ≠ (.slice (some b8) d1.length g3 : Value).ownBlock ∧ k_ ≠ a5 ∧ k_ ≠ a2 ∧ k_ ≠ s_.2.2.2.2) (.slice k6 b7.length k7) b7) ∧ (w'.heap[a5]? = some (.cells #[.slice none 0 0, .int .i64 f3, .int .i64 f4, .int .i64 f5, .int .i64 f6, .slice none 0 0, .int .i64 f7, .int .i64 f8, .int .i64 f9, .int .i64 g0, .int .i64 g1, .slice none 0 0, .slice none 0 0] 35 (0, 0))) ∧ (w'.heap[a2]? = some (.cells #[.slice j9 b1.length k0, .int .i64 d2, .int .i64 d3, .int .i64 d4, .int .i64 d5, .slice k2 b2.length k3, .int .i64 d6, .int .i64 e0, .int .i64 e1, .int .i64 e2, .int .i64 e3, .slice k4 b6.length k5, .slice k6 b7.length k7] 35 (0, 0))) ∧ (w'.heap[s_.2.2.2.2]? = some (.cells #[.slice none 0 0, .int .i64 0, .int .i64 0, .int .i64 0, .int .i64 0, .slice none 0 0, .int .i64 0, .int .i64 0, .int .i64 0, .int .i64 0, .int .i64 0, .slice none 0 0, .slice none 0 0] 35 (0, 0))) ∧ (w.heap.size ≤ s_.2.2.2.2) ∧ (w.heap.size ≤ s_.2.2.2.2) ∧ (a5 ≠ s_.2.2.2.2) ∧ (s_.2.2.2.2 ≠ a5) ∧ (a2 ≠ s_.2.2.2.2) ∧ (s_.2.2.2.2 ≠ a2) ∧ (Below w.heap.size w w')) ?_ ?_
      rotate_left
      ·intro hCont
       refine two_ (i := 5) (j := 9) (Ni := some 31) (Nj := some 8) (mB 12 63) (mB 12 543) rfl rfl rfl rfl (by kernel_rfl) (by decide) (by decide) (fun K hK => ?_) (fun K hK => ?_)
       ·skip
        refine goes_ Try.func43 (by kernel_rfl) rfl #[.agg #[.slice j9 b1.length k0, .int .i64 d2, .int .i64 d3, .int .i64 d4, .int .i64 d5, .slice k2 b2.length k3, .int .i64 d6, .int .i64 e0, .int .i64 e1, .int .i64 e2, .int .i64 e3, .slice k4 b6.length k5, .slice k6 b7.length k7], .agg #[.string ((rd_T40 d1 e4).f0), .int .i64 ((rd_T40 d1 e4).f1)]] (by rfl) rfl rfl mA ?_
        with_reducible refine (spec_ExecToken.calls k1 _ _ b1 d2 d3 d4 d5 _ _ b2 d6 e0 e1 e2 e3 _ _ b6 _ _ b7 ((rd_T40 d1 e4).f0) ((rd_T40 d1 e4).f1) j5 h5 h6 h7 h8 j6 h9 i1 i3 i4 i5 j7 j8 _ _ ?side1 ?side2 ?side3 ?side4 ?side5 ?side6 ?side7 ?side8 s3.out).mono ?_
        (case side1 => exact cS (Kd.V_reads' a6.out).2.2)
        (case side2 => exact (Kd.V_reads' a6.out).2.1)
        (case side3 => exact cS (Kd.V_reads' a7.out).2.2)
        (case side4 => exact (Kd.V_reads' a7.out).2.1)
        (case side5 => exact cS (Kd.V_reads' a8.out).2.2)
        (case side6 => exact (Kd.V_reads' a8.out).2.1)
        (case side7 => exact cS (Kd.V_reads' a9.out).2.2)
        (case side8 => exact (Kd.V_reads' a9.out).2.1)
        rintro e C0 ⟨i6, i7, i8, i9, rfl, k9, m7, m8, m9, hb⟩
        have HS13_ := (hb.cell (World.block_lt_of_cell? _ _ (hHeld.2.2.2.2.2.2.2.2.2.2.2.2.2.1))).trans (hHeld.2.2.2.2.2.2.2.2.2.2.2.2.2.1)
        have HS14_ := (hb.cell (World.block_lt_of_cell? _ _ (hHeld.2.2.2.2.2.2.2.2.2.2.2.2.2.2))).trans (hHeld.2.2.2.2.2.2.2.2.2.2.2.2.2.2)
        refine ⟨_, rfl, ?_⟩
        have g4 := aM (Kd.V_lower (Kd.V_mono (ok' := fun k_ => (w.heap.size ≤ k_) ∧ some k_ ≠ (.slice (some b8) d1.length g3 : Value).ownBlock ∧ k_ ≠ a5 ∧ k_ ≠ a2) k9 (fun k_ hk_ => ⟨(Nat.le_trans (below_size bS) hk_), (Kd.fresh' (Kd.R_lt (rS e5)) k_ hk_), (Kd.freshB (g := a5) kS k_ hk_), (Kd.freshB (g := a2) kS k_ hk_)⟩)) (below_size bS))
        have g5 := aM (Kd.V_lower (Kd.V_mono (ok' := fun k_ => (w.heap.size ≤ k_) ∧ some k_ ≠ (.slice (some b8) d1.length g3 : Value).ownBlock ∧ k_ ≠ a5 ∧ k_ ≠ a2) m7 (fun k_ hk_ => ⟨(Nat.le_trans (below_size bS) hk_), (Kd.fresh' (Kd.R_lt (rS e5)) k_ hk_), (Kd.freshB (g := a5) kS k_ hk_), (Kd.freshB (g := a2) kS k_ hk_)⟩)) (below_size bS))
        have g6 := aM (Kd.V_lower (Kd.V_mono (ok' := fun k_ => (w.heap.size ≤ k_) ∧ some k_ ≠ (.slice (some b8) d1.length g3 : Value).ownBlock ∧ k_ ≠ a5 ∧ k_ ≠ a2) m8 (fun k_ hk_ => ⟨(Nat.le_trans (below_size bS) hk_), (Kd.fresh' (Kd.R_lt (rS e5)) k_ hk_), (Kd.freshB (g := a5) kS k_ hk_), (Kd.freshB (g := a2) kS k_ hk_)⟩)) (below_size bS))
        have g7 := aM (Kd.V_lower (Kd.V_mono (ok' := fun k_ => (w.heap.size ≤ k_) ∧ some k_ ≠ (.slice (some b8) d1.length g3 : Value).ownBlock ∧ k_ ≠ a5 ∧ k_ ≠ a2) m9 (fun k_ hk_ => ⟨(Nat.le_trans (below_size bS) hk_), (Kd.fresh' (Kd.R_lt (rS e5)) k_ hk_), (Kd.freshB (g := a5) kS k_ hk_), (Kd.freshB (g := a2) kS k_ hk_)⟩)) (below_size bS))
        replace e5 := rB e5 hb
        replace a6 := vB (vS [] a6) hb
        replace a7 := vB (vS [] a7) hb
        replace a8 := vB (vS [] a8) hb
        replace a9 := vB (vS [] a9) hb
        replace e9 := kB_ a5 hb
        replace a3 := kB_ a2 hb
        replace HB := hB hb
        (try clear hb)
        (try clear u5)
        (try clear hk)
        (try clear hi)
        (try clear k9)
        (try clear m7)
        (try clear m8)
        (try clear m9)
        refine hK.out _ _ ⟨(blk_cell a3.out 0).trans rfl, (blk_cell a3.out 1).trans rfl, (blk_cell a3.out 2).trans rfl, (blk_cell a3.out 3).trans rfl, (blk_cell a3.out 4).trans rfl, (blk_cell a3.out 5).trans rfl, (blk_cell a3.out 6).trans rfl, (blk_cell a3.out 7).trans rfl, (blk_cell a3.out 8).trans rfl, (blk_cell a3.out 9).trans rfl, (blk_cell a3.out 10).trans rfl, (blk_cell a3.out 11).trans rfl, (blk_cell a3.out 12).trans rfl, HS13_, HS14_⟩ (fun hHeld => ?_)
        clear hK K
        refine norm_ (a' := ?_) ?_ ?_
        rotate_left
        ·show Act.put _ (some 31) _ = _
         simp only [Act.put, List.setIfInBounds_toArray, List.set_cons_zero, List.set_cons_succ, i64_w, i32_w]
         rfl
        refine pU 6 (some 25) (mB 12 127) ?_
        refine pU 7 (some 32) (mB 12 255) ?_
        refine pU 8 (some 33) (mB 12 511) ?_
        refine one_ (i := 9) (N := some 8) (mB 12 1023) rfl rfl (by kernel_rfl) (by decide) (fun K hK => ?_)
        refine box_step ?hg (N := 8) ?hd (cs := #[.slice none 0 0, .int .i64 0, .int .i64 0, .int .i64 0, .int .i64 0, .slice none 0 0, .int .i64 0, .int .i64 0, .int .i64 0, .int .i64 0, .int .i64 0, .slice none 0 0, .slice none 0 0]) (t := 35) ?hr ?_; (case hd => rfl); (case hg => rfl); (case hr => first | (go_simp; done) | (go_simp; rfl))
        intro b9 hg C2 hbox hb
        have HS13_ := (hb.cell (World.block_lt_of_cell? _ _ (hHeld.2.2.2.2.2.2.2.2.2.2.2.2.2.1))).trans (hHeld.2.2.2.2.2.2.2.2.2.2.2.2.2.1)
        have HS14_ := (hb.cell (World.block_lt_of_cell? _ _ (hHeld.2.2.2.2.2.2.2.2.2.2.2.2.2.2))).trans (hHeld.2.2.2.2.2.2.2.2.2.2.2.2.2.2)
        have d0 := aM (hbox)
        have GW555 := gE hg
        have GE555 := gE hg
        have e6 := nL_ a5 hg
        have e7 := nG_ a5 hg
        have b0 := nL_ a2 hg
        have e8 := nG_ a2 hg
        replace e5 := rB e5 hb
        replace a6 := vE (vS [] a6) hg hb
        replace a7 := vE (vS [] a7) hg hb
        replace a8 := vE (vS [] a8) hg hb
        replace a9 := vE (vS [] a9) hg hb
        replace g4 := vE (vS [] g4) hg hb
        replace g5 := vE (vS [] g5) hg hb
        replace g6 := vE (vS [] g6) hg hb
        replace g7 := vE (vS [] g7) hg hb
        replace e9 := kB_ a5 hb
        replace a3 := kB_ a2 hb
        replace HB := hB hb
        clear hb hg
        refine hK.out _ _ ⟨(blk_cell a3.out 0).trans rfl, (blk_cell a3.out 1).trans rfl, (blk_cell a3.out 2).trans rfl, (blk_cell a3.out 3).trans rfl, (blk_cell a3.out 4).trans rfl, (blk_cell a3.out 5).trans rfl, (blk_cell a3.out 6).trans rfl, (blk_cell a3.out 7).trans rfl, (blk_cell a3.out 8).trans rfl, (blk_cell a3.out 9).trans rfl, (blk_cell a3.out 10).trans rfl, (blk_cell a3.out 11).trans rfl, (blk_cell a3.out 12).trans rfl, HS13_, HS14_⟩ (fun hHeld => ?_)
        clear hK K
        refine norm_ (a' := ?_) ?_ ?_
        rotate_left
        ·show Act.put _ (some 8) _ = _
         simp only [Act.put, List.setIfInBounds_toArray, List.set_cons_zero, List.set_cons_succ, i64_w, i32_w]
         rfl
        exact norm_ (by simp only [putAll, Act.put, List.setIfInBounds_toArray, List.set_cons_zero, List.set_cons_succ]) (hCont (i6, i7, i8, i9, b9) _ ⟨hHeld, (by (with_reducible repeat (first | apply Kd.V_alloc | apply Kd.V_drewN | apply Kd.V_drew)); exact Kd.V_mono g4.out (fun _ hk => ⟨hk.1.1, ⟨hk.1.2.1, ⟨hk.1.2.2.1, ⟨hk.1.2.2.2, hk.2⟩⟩⟩⟩)), (by (with_reducible repeat (first | apply Kd.V_alloc | apply Kd.V_drewN | apply Kd.V_drew)); exact Kd.V_mono g5.out (fun _ hk => ⟨hk.1.1, ⟨hk.1.2.1, ⟨hk.1.2.2.1, ⟨hk.1.2.2.2, hk.2⟩⟩⟩⟩)), (by (with_reducible repeat (first | apply Kd.V_alloc | apply Kd.V_drewN | apply Kd.V_drew)); exact Kd.V_mono g6.out (fun _ hk => ⟨hk.1.1, ⟨hk.1.2.1, ⟨hk.1.2.2.1, ⟨hk.1.2.2.2, hk.2⟩⟩⟩⟩)), (by (with_reducible repeat (first | apply Kd.V_alloc | apply Kd.V_drewN | apply Kd.V_drew)); exact Kd.V_mono g7.out (fun _ hk => ⟨hk.1.1, ⟨hk.1.2.1, ⟨hk.1.2.2.1, ⟨hk.1.2.2.2, hk.2⟩⟩⟩⟩)), (rS e5), (by (with_reducible repeat (first | apply Kd.V_alloc | apply Kd.V_drewN | apply Kd.V_drew)); exact Kd.V_mono a6.out (fun _ hk => ⟨hk.1.1, ⟨hk.1.2.1, ⟨hk.1.2.2.1, ⟨hk.1.2.2.2, hk.2⟩⟩⟩⟩)), (by (with_reducible repeat (first | apply Kd.V_alloc | apply Kd.V_drewN | apply Kd.V_drew)); exact Kd.V_mono a7.out (fun _ hk => ⟨hk.1.1, ⟨hk.1.2.1, ⟨hk.1.2.2.1, ⟨hk.1.2.2.2, hk.2⟩⟩⟩⟩)), (by (with_reducible repeat (first | apply Kd.V_alloc | apply Kd.V_drewN | apply Kd.V_drew)); exact Kd.V_mono a8.out (fun _ hk => ⟨hk.1.1, ⟨hk.1.2.1, ⟨hk.1.2.2.1, ⟨hk.1.2.2.2, hk.2⟩⟩⟩⟩)), (by (with_reducible repeat (first | apply Kd.V_alloc | apply Kd.V_drewN | apply Kd.V_drew)); exact Kd.V_mono a9.out (fun _ hk => ⟨hk.1.1, ⟨hk.1.2.1, ⟨hk.1.2.2.1, ⟨hk.1.2.2.2, hk.2⟩⟩⟩⟩)), kS, kS, kS, GW555.out, GE555.out, e6.out, e7.out, b0.out, e8.out, bS⟩)
       ·skip
        refine box_step ?hg (N := 8) ?hd (cs := #[.slice none 0 0, .int .i64 0, .int .i64 0, .int .i64 0, .int .i64 0, .slice none 0 0, .int .i64 0, .int .i64 0, .int .i64 0, .int .i64 0, .int .i64 0, .slice none 0 0, .slice none 0 0]) (t := 35) ?hr ?_; (case hd => rfl); (case hg => rfl); (case hr => first | (go_simp; done) | (go_simp; rfl))
        intro b9 hg C0 hbox hb
        have HS13_ := (hb.cell (World.block_lt_of_cell? _ _ (hHeld.2.2.2.2.2.2.2.2.2.2.2.2.2.1))).trans (hHeld.2.2.2.2.2.2.2.2.2.2.2.2.2.1)
        have HS14_ := (hb.cell (World.block_lt_of_cell? _ _ (hHeld.2.2.2.2.2.2.2.2.2.2.2.2.2.2))).trans (hHeld.2.2.2.2.2.2.2.2.2.2.2.2.2.2)
        have d0 := aM (hbox)
        have GW555 := gE hg
        have GE555 := gE hg
        have e6 := nL_ a5 hg
        have e7 := nG_ a5 hg
        have b0 := nL_ a2 hg
        have e8 := nG_ a2 hg
        replace e5 := rB e5 hb
        replace a6 := vE (vS [] a6) hg hb
        replace a7 := vE (vS [] a7) hg hb
        replace a8 := vE (vS [] a8) hg hb
        replace a9 := vE (vS [] a9) hg hb
        replace e9 := kB_ a5 hb
        replace a3 := kB_ a2 hb
        replace HB := hB hb
        clear hb hg
        refine hK.out _ _ ⟨(blk_cell a3.out 0).trans rfl, (blk_cell a3.out 1).trans rfl, (blk_cell a3.out 2).trans rfl, (blk_cell a3.out 3).trans rfl, (blk_cell a3.out 4).trans rfl, (blk_cell a3.out 5).trans rfl, (blk_cell a3.out 6).trans rfl, (blk_cell a3.out 7).trans rfl, (blk_cell a3.out 8).trans rfl, (blk_cell a3.out 9).trans rfl, (blk_cell a3.out 10).trans rfl, (blk_cell a3.out 11).trans rfl, (blk_cell a3.out 12).trans rfl, HS13_, HS14_⟩ (fun hHeld => ?_)
        clear hK K
        refine norm_ (a' := ?_) ?_ ?_
        rotate_left
        ·show Act.put _ (some 8) _ = _
         simp only [Act.put, List.setIfInBounds_toArray, List.set_cons_zero, List.set_cons_succ, i64_w, i32_w]
         rfl
        refine one_ (i := 5) (N := some 31) (mB 12 575) rfl rfl (by kernel_rfl) (by decide) (fun K hK => ?_)
        refine goes_ Try.func43 (by kernel_rfl) rfl #[.agg #[.slice j9 b1.length k0, .int .i64 d2, .int .i64 d3, .int .i64 d4, .int .i64 d5, .slice k2 b2.length k3, .int .i64 d6, .int .i64 e0, .int .i64 e1, .int .i64 e2, .int .i64 e3, .slice k4 b6.length k5, .slice k6 b7.length k7], .agg #[.string ((rd_T40 d1 e4).f0), .int .i64 ((rd_T40 d1 e4).f1)]] (by rfl) rfl rfl mA ?_
        with_reducible refine (spec_ExecToken.calls k1 _ _ b1 d2 d3 d4 d5 _ _ b2 d6 e0 e1 e2 e3 _ _ b6 _ _ b7 ((rd_T40 d1 e4).f0) ((rd_T40 d1 e4).f1) j5 h5 h6 h7 h8 j6 h9 i1 i3 i4 i5 j7 j8 _ _ ?side1 ?side2 ?side3 ?side4 ?side5 ?side6 ?side7 ?side8 s3.out).mono ?_
        (case side1 => exact cS (Kd.V_reads' a6.out).2.2)
        (case side2 => exact (Kd.V_reads' a6.out).2.1)
        (case side3 => exact cS (Kd.V_reads' a7.out).2.2)
        (case side4 => exact (Kd.V_reads' a7.out).2.1)
        (case side5 => exact cS (Kd.V_reads' a8.out).2.2)
        (case side6 => exact (Kd.V_reads' a8.out).2.1)
        (case side7 => exact cS (Kd.V_reads' a9.out).2.2)
        (case side8 => exact (Kd.V_reads' a9.out).2.1)
        rintro e C2 ⟨i6, i7, i8, i9, rfl, k9, m7, m8, m9, hb⟩
        have HS13_ := (hb.cell (World.block_lt_of_cell? _ _ (hHeld.2.2.2.2.2.2.2.2.2.2.2.2.2.1))).trans (hHeld.2.2.2.2.2.2.2.2.2.2.2.2.2.1)
        have HS14_ := (hb.cell (World.block_lt_of_cell? _ _ (hHeld.2.2.2.2.2.2.2.2.2.2.2.2.2.2))).trans (hHeld.2.2.2.2.2.2.2.2.2.2.2.2.2.2)
        refine ⟨_, rfl, ?_⟩
        have g4 := aM (Kd.V_lower (Kd.V_mono (ok' := fun k_ => (w.heap.size ≤ k_) ∧ some k_ ≠ (.slice (some b8) d1.length g3 : Value).ownBlock ∧ k_ ≠ a5 ∧ k_ ≠ a2 ∧ k_ ≠ b9) k9 (fun k_ hk_ => ⟨(Nat.le_trans (below_size bS) hk_), (Kd.fresh' (Kd.R_lt (rS e5)) k_ hk_), (Kd.freshB (g := a5) kS k_ hk_), (Kd.freshB (g := a2) kS k_ hk_), (Kd.freshB (g := b9) kS k_ hk_)⟩)) (below_size bS))
        have g5 := aM (Kd.V_lower (Kd.V_mono (ok' := fun k_ => (w.heap.size ≤ k_) ∧ some k_ ≠ (.slice (some b8) d1.length g3 : Value).ownBlock ∧ k_ ≠ a5 ∧ k_ ≠ a2 ∧ k_ ≠ b9) m7 (fun k_ hk_ => ⟨(Nat.le_trans (below_size bS) hk_), (Kd.fresh' (Kd.R_lt (rS e5)) k_ hk_), (Kd.freshB (g := a5) kS k_ hk_), (Kd.freshB (g := a2) kS k_ hk_), (Kd.freshB (g := b9) kS k_ hk_)⟩)) (below_size bS))
        have g6 := aM (Kd.V_lower (Kd.V_mono (ok' := fun k_ => (w.heap.size ≤ k_) ∧ some k_ ≠ (.slice (some b8) d1.length g3 : Value).ownBlock ∧ k_ ≠ a5 ∧ k_ ≠ a2 ∧ k_ ≠ b9) m8 (fun k_ hk_ => ⟨(Nat.le_trans (below_size bS) hk_), (Kd.fresh' (Kd.R_lt (rS e5)) k_ hk_), (Kd.freshB (g := a5) kS k_ hk_), (Kd.freshB (g := a2) kS k_ hk_), (Kd.freshB (g := b9) kS k_ hk_)⟩)) (below_size bS))
        have g7 := aM (Kd.V_lower (Kd.V_mono (ok' := fun k_ => (w.heap.size ≤ k_) ∧ some k_ ≠ (.slice (some b8) d1.length g3 : Value).ownBlock ∧ k_ ≠ a5 ∧ k_ ≠ a2 ∧ k_ ≠ b9) m9 (fun k_ hk_ => ⟨(Nat.le_trans (below_size bS) hk_), (Kd.fresh' (Kd.R_lt (rS e5)) k_ hk_), (Kd.freshB (g := a5) kS k_ hk_), (Kd.freshB (g := a2) kS k_ hk_), (Kd.freshB (g := b9) kS k_ hk_)⟩)) (below_size bS))
        replace e5 := rB e5 hb
        replace a6 := vB (vS [] a6) hb
        replace a7 := vB (vS [] a7) hb
        replace a8 := vB (vS [] a8) hb
        replace a9 := vB (vS [] a9) hb
        replace e9 := kB_ a5 hb
        replace a3 := kB_ a2 hb
        replace d0 := kB_ b9 hb
        replace HB := hB hb
        (try clear hb)
        (try clear u5)
        (try clear hk)
        (try clear hi)
        (try clear k9)
        (try clear m7)
        (try clear m8)
        (try clear m9)
        refine hK.out _ _ ⟨(blk_cell a3.out 0).trans rfl, (blk_cell a3.out 1).trans rfl, (blk_cell a3.out 2).trans rfl, (blk_cell a3.out 3).trans rfl, (blk_cell a3.out 4).trans rfl, (blk_cell a3.out 5).trans rfl, (blk_cell a3.out 6).trans rfl, (blk_cell a3.out 7).trans rfl, (blk_cell a3.out 8).trans rfl, (blk_cell a3.out 9).trans rfl, (blk_cell a3.out 10).trans rfl, (blk_cell a3.out 11).trans rfl, (blk_cell a3.out 12).trans rfl, HS13_, HS14_⟩ (fun hHeld => ?_)
        clear hK K
        refine norm_ (a' := ?_) ?_ ?_
        rotate_left
        ·show Act.put _ (some 31) _ = _
         simp only [Act.put, List.setIfInBounds_toArray, List.set_cons_zero, List.set_cons_succ, i64_w, i32_w]
         rfl
        refine pU 6 (some 25) (mB 12 639) ?_
        refine pU 7 (some 32) (mB 12 767) ?_
        refine pU 8 (some 33) (mB 12 1023) ?_
        exact norm_ (by simp only [putAll, Act.put, List.setIfInBounds_toArray, List.set_cons_zero, List.set_cons_succ]) (hCont (i6, i7, i8, i9, b9) _ ⟨hHeld, (by (with_reducible repeat (first | apply Kd.V_alloc | apply Kd.V_drewN | apply Kd.V_drew)); exact g4.out), (by (with_reducible repeat (first | apply Kd.V_alloc | apply Kd.V_drewN | apply Kd.V_drew)); exact g5.out), (by (with_reducible repeat (first | apply Kd.V_alloc | apply Kd.V_drewN | apply Kd.V_drew)); exact g6.out), (by (with_reducible repeat (first | apply Kd.V_alloc | apply Kd.V_drewN | apply Kd.V_drew)); exact g7.out), (rS e5), (by (with_reducible repeat (first | apply Kd.V_alloc | apply Kd.V_drewN | apply Kd.V_drew)); exact Kd.V_mono a6.out (fun _ hk => ⟨hk.1.1, ⟨hk.1.2.1, ⟨hk.1.2.2.1, ⟨hk.1.2.2.2, hk.2⟩⟩⟩⟩)), (by (with_reducible repeat (first | apply Kd.V_alloc | apply Kd.V_drewN | apply Kd.V_drew)); exact Kd.V_mono a7.out (fun _ hk => ⟨hk.1.1, ⟨hk.1.2.1, ⟨hk.1.2.2.1, ⟨hk.1.2.2.2, hk.2⟩⟩⟩⟩)), (by (with_reducible repeat (first | apply Kd.V_alloc | apply Kd.V_drewN | apply Kd.V_drew)); exact Kd.V_mono a8.out (fun _ hk => ⟨hk.1.1, ⟨hk.1.2.1, ⟨hk.1.2.2.1, ⟨hk.1.2.2.2, hk.2⟩⟩⟩⟩)), (by (with_reducible repeat (first | apply Kd.V_alloc | apply Kd.V_drewN | apply Kd.V_drew)); exact Kd.V_mono a9.out (fun _ hk => ⟨hk.1.1, ⟨hk.1.2.1, ⟨hk.1.2.2.1, ⟨hk.1.2.2.2, hk.2⟩⟩⟩⟩)), kS, kS, kS, GW555.out, GE555.out, e6.out, e7.out, b0.out, e8.out, bS⟩)
      rintro ⟨i6, i7, i8, i9, b9⟩ h4 ⟨hS_, h0_, h1_, h2_, h3_, h4_, h5_, h6_, h7_, h8_, h9_, h10_, h11_, h12_, h13_, h14_, h15_, h16_, h17_, h18_⟩
      have g4 : Aside0 (Kd.V (Kd.int .i64) 3 h4 w.heap.size (fun k_ => (w.heap.size ≤ k_) ∧ some k_ ≠ (.slice (some b8) d1.length g3 : Value).ownBlock ∧ k_ ≠ a5 ∧ k_ ≠ a2 ∧ k_ ≠ b9) i6 j5) := ⟨h0_⟩
      have g5 : Aside0 (Kd.V k80 80 h4 w.heap.size (fun k_ => (w.heap.size ≤ k_) ∧ some k_ ≠ (.slice (some b8) d1.length g3 : Value).ownBlock ∧ k_ ≠ a5 ∧ k_ ≠ a2 ∧ k_ ≠ b9) i7 j6) := ⟨h1_⟩
      have g6 : Aside0 (Kd.V k31 31 h4 w.heap.size (fun k_ => (w.heap.size ≤ k_) ∧ some k_ ≠ (.slice (some b8) d1.length g3 : Value).ownBlock ∧ k_ ≠ a5 ∧ k_ ≠ a2 ∧ k_ ≠ b9) i8 j7) := ⟨h2_⟩
      have g7 : Aside0 (Kd.V k60 60 h4 w.heap.size (fun k_ => (w.heap.size ≤ k_) ∧ some k_ ≠ (.slice (some b8) d1.length g3 : Value).ownBlock ∧ k_ ≠ a5 ∧ k_ ≠ a2 ∧ k_ ≠ b9) i9 j8) := ⟨h3_⟩
      have d0 : Aside0 (h4.heap[b9]? = some (.cells #[.slice none 0 0, .int .i64 0, .int .i64 0, .int .i64 0, .int .i64 0, .slice none 0 0, .int .i64 0, .int .i64 0, .int .i64 0, .int .i64 0, .int .i64 0, .slice none 0 0, .slice none 0 0] 35 (0, 0))) := ⟨h11_⟩
      have GW555 : Aside0 (w.heap.size ≤ b9) := ⟨h12_⟩
      have GE555 : Aside0 (w.heap.size ≤ b9) := ⟨h13_⟩
      have e6 : Aside0 (a5 ≠ b9) := ⟨h14_⟩
      have e7 : Aside0 (b9 ≠ a5) := ⟨h15_⟩
      have b0 : Aside0 (a2 ≠ b9) := ⟨h16_⟩
      have e8 : Aside0 (b9 ≠ a2) := ⟨h17_⟩
      replace e5 : Aside0 (Kd.R k40 40 h4 w.heap.size (fun k_ => (w.heap.size ≤ k_)) (.slice (some b8) d1.length g3) d1) := ⟨h4_⟩
      replace a6 : Aside0 (Kd.V (Kd.int .i64) 3 h4 w.heap.size (fun k_ => (w.heap.size ≤ k_) ∧ some k_ ≠ (.slice (some b8) d1.length g3 : Value).ownBlock ∧ k_ ≠ a5 ∧ k_ ≠ a2 ∧ k_ ≠ b9) (.slice j9 b1.length k0) b1) := ⟨h5_⟩
      replace a7 : Aside0 (Kd.V k80 80 h4 w.heap.size (fun k_ => (w.heap.size ≤ k_) ∧ some k_ ≠ (.slice (some b8) d1.length g3 : Value).ownBlock ∧ k_ ≠ a5 ∧ k_ ≠ a2 ∧ k_ ≠ b9) (.slice k2 b2.length k3) b2) := ⟨h6_⟩
      replace a8 : Aside0 (Kd.V k31 31 h4 w.heap.size (fun k_ => (w.heap.size ≤ k_) ∧ some k_ ≠ (.slice (some b8) d1.length g3 : Value).ownBlock ∧ k_ ≠ a5 ∧ k_ ≠ a2 ∧ k_ ≠ b9) (.slice k4 b6.length k5) b6) := ⟨h7_⟩
      replace a9 : Aside0 (Kd.V k60 60 h4 w.heap.size (fun k_ => (w.heap.size ≤ k_) ∧ some k_ ≠ (.slice (some b8) d1.length g3 : Value).ownBlock ∧ k_ ≠ a5 ∧ k_ ≠ a2 ∧ k_ ≠ b9) (.slice k6 b7.length k7) b7) := ⟨h8_⟩
      replace e9 : Aside0 (h4.heap[a5]? = some (.cells #[.slice none 0 0, .int .i64 f3, .int .i64 f4, .int .i64 f5, .int .i64 f6, .slice none 0 0, .int .i64 f7, .int .i64 f8, .int .i64 f9, .int .i64 g0, .int .i64 g1, .slice none 0 0, .slice none 0 0] 35 (0, 0))) := ⟨h9_⟩
      replace a3 : Aside0 (h4.heap[a2]? = some (.cells #[.slice j9 b1.length k0, .int .i64 d2, .int .i64 d3, .int .i64 d4, .int .i64 d5, .slice k2 b2.length k3, .int .i64 d6, .int .i64 e0, .int .i64 e1, .int .i64 e2, .int .i64 e3, .slice k4 b6.length k5, .slice k6 b7.length k7] 35 (0, 0))) := ⟨h10_⟩
      replace HB : Aside0 (Below w.heap.size w h4) := ⟨h18_⟩
      clear h0_ h1_ h2_ h3_ h4_ h5_ h6_ h7_ h8_ h9_ h10_ h11_ h12_ h13_ h14_ h15_ h16_ h17_ h18_
      have hHeld : h4.cell? ⟨a2, 0, none⟩ = some (.slice j9 b1.length k0) ∧ h4.cell? ⟨a2, 1, none⟩ = some (.int .i64 d2) ∧ h4.cell? ⟨a2, 2, none⟩ = some (.int .i64 d3) ∧ h4.cell? ⟨a2, 3, none⟩ = some (.int .i64 d4) ∧ h4.cell? ⟨a2, 4, none⟩ = some (.int .i64 d5) ∧ h4.cell? ⟨a2, 5, none⟩ = some (.slice k2 b2.length k3) ∧ h4.cell? ⟨a2, 6, none⟩ = some (.int .i64 d6) ∧ h4.cell? ⟨a2, 7, none⟩ = some (.int .i64 e0) ∧ h4.cell? ⟨a2, 8, none⟩ = some (.int .i64 e1) ∧ h4.cell? ⟨a2, 9, none⟩ = some (.int .i64 e2) ∧ h4.cell? ⟨a2, 10, none⟩ = some (.int .i64 e3) ∧ h4.cell? ⟨a2, 11, none⟩ = some (.slice k4 b6.length k5) ∧ h4.cell? ⟨a2, 12, none⟩ = some (.slice k6 b7.length k7) ∧ h4.cell? (b8.add ((e4).toNat * 2)) = some (.string ((rd_T40 d1 e4).f0)) ∧ h4.cell? ⟨(b8.add ((e4).toNat * 2)).block, (b8.add ((e4).toNat * 2)).off + 1, none⟩ = some (.int .i64 ((rd_T40 d1 e4).f1)) := hS_
      obtain ⟨C3, C4, r0⟩ := Kd.V_slice g4.out
      (first | subst r0 | obtain ⟨rfl, rfl⟩ := slE r0)
      obtain ⟨C5, C6, s0⟩ := Kd.V_slice g5.out
      (first | subst s0 | obtain ⟨rfl, rfl⟩ := slE s0)
      obtain ⟨C7, C9, s1⟩ := Kd.V_slice g6.out
      (first | subst s1 | obtain ⟨rfl, rfl⟩ := slE s1)
      obtain ⟨D0, D1, s2⟩ := Kd.V_slice g7.out
      (first | subst s2 | obtain ⟨rfl, rfl⟩ := slE s2)
      refine norm_ (a' := ?_) ?_ ?_
      rotate_left
      ·simp only [putAll, Act.put, List.setIfInBounds_toArray, List.set_cons_zero, List.set_cons_succ]
       rfl
      refine one_ (i := 10) (N := none) (mB 12 2047) rfl rfl (by kernel_rfl) (by decide) (fun K hK => ?_)
      have hs60 := cg0 d0
      have hfs60 := blk_frozen d0.out 0
      have hns60_0 := nP e6 b0
      have hms60_0 := e7.out
      have hms60_1 := e8.out
      have hs61 := cg1 d0
      have hfs61 := blk_frozen d0.out 1
      have hs62 := cg2 d0
      have hfs62 := blk_frozen d0.out 2
      have hs63 := cg3 d0
      have hfs63 := blk_frozen d0.out 3
      have hs64 := cg4 d0
      have hfs64 := blk_frozen d0.out 4
      have hs66 := cg5 d0
      have hfs66 := blk_frozen d0.out 5
      have hs67 := cg6 d0
      have hfs67 := blk_frozen d0.out 6
      have hs68 := cg7 d0
      have hfs68 := blk_frozen d0.out 7
      have hs69 := cg8 d0
      have hfs69 := blk_frozen d0.out 8
      have hs70 := cg9 d0
      have hfs70 := blk_frozen d0.out 9
      have hs71 := cg10 d0
      have hfs71 := blk_frozen d0.out 10
      have hs73 := cg11 d0
      have hfs73 := blk_frozen d0.out 11
      have hs75 := cg12 d0
      have hfs75 := blk_frozen d0.out 12
      refine skip_ (w1 := ?_) (by rfl) rfl ?_ ?_
      rotate_left
      ·go_simp
       rfl
      have nd0_ := Kd.own_blk (Kd.R_ne e5.out d0.out (by decide))
      refine hK.out _ _ (onW (g := b9) (fun on_ => ⟨(cO b0 on_ hHeld.1), (cO b0 on_ hHeld.2.1), (cO b0 on_ hHeld.2.2.1), (cO b0 on_ hHeld.2.2.2.1), (cO b0 on_ hHeld.2.2.2.2.1), (cO b0 on_ hHeld.2.2.2.2.2.1), (cO b0 on_ hHeld.2.2.2.2.2.2.1), (cO b0 on_ hHeld.2.2.2.2.2.2.2.1), (cO b0 on_ hHeld.2.2.2.2.2.2.2.2.1), (cO b0 on_ hHeld.2.2.2.2.2.2.2.2.2.1), (cO b0 on_ hHeld.2.2.2.2.2.2.2.2.2.2.1), (cO b0 on_ hHeld.2.2.2.2.2.2.2.2.2.2.2.1), (cO b0 on_ hHeld.2.2.2.2.2.2.2.2.2.2.2.2.1), (cOq on_ hHeld.2.2.2.2.2.2.2.2.2.2.2.2.2.1 (by first | exact nd0_ | (rw [add_block]; exact nd0_))), (cOq on_ hHeld.2.2.2.2.2.2.2.2.2.2.2.2.2.2 (by first | exact nd0_ | (rw [add_block]; exact nd0_)))⟩)) (fun hHeld => ?_)
      clear hK K
      refine pU 11 (some 9) (mB 12 4095) ?_
      refine done_ (by kernel_rfl) ?_
      have hnb76 := nP g9 g8
      have hnb77 := nP b0 e8
      have hz78 := cz13 a3
      have hnb79 := nP e6 e7
      have hz80 := cz13 e9
      try go_wp2
      refine bodyPost_ret (results_ct rfl _ _ a5 35 #[.slice j9 b1.length k0, .int .i64 d2, .int .i64 d3, .int .i64 d4, .int .i64 d5, .slice k2 b2.length k3, .int .i64 d6, .int .i64 e0, .int .i64 e1, .int .i64 e2, .int .i64 e3, .slice k4 b6.length k5, .slice k6 b7.length k7] (0, 0) _ rfl kS Try.underlying35 rfl (by kernel_rfl)) rfl ?_
      exact ⟨_, _, _, _, eS, vO [b9, a5] a6, vO [b9, a5] a7, vO [b9, a5] a8, vO [b9, a5] a9, bS⟩
    ·simp only [Option.some.injEq, Prod.mk.injEq] at H
     obtain ⟨rfl, rfl, rfl, rfl, rfl, rfl, rfl, rfl, rfl, rfl, rfl, rfl, rfl, rfl⟩ := H
     obtain ⟨D2, D3, x0⟩ := Kd.R_slice e5.out
     subst x0
     have hnb82 := nP g9 g8
     have hz83 := cz13 a3
     obtain ⟨x1, x2, x3⟩ := Kd.V_slice a6.out
     subst x3
     have hz85 := cz13 e9
     obtain ⟨x4, x5, x6⟩ := Kd.V_slice a7.out
     subst x6
     obtain ⟨x7, x8, x9⟩ := Kd.V_slice a8.out
     subst x9
     obtain ⟨y0, y1, y2⟩ := Kd.V_slice a9.out
     subst y2
     go_wp2
     refine bodyPost_ret (results_ct rfl _ _ a5 35 #[.slice x1 b1.length x2, .int .i64 d2, .int .i64 d3, .int .i64 d4, .int .i64 d5, .slice x4 b2.length x5, .int .i64 d6, .int .i64 e0, .int .i64 e1, .int .i64 e2, .int .i64 e3, .slice x7 b6.length x8, .slice y0 b7.length y1] (0, 0) _ rfl kS Try.underlying35 rfl (by kernel_rfl)) rfl ?_
     exact ⟨_, _, _, _, eS, vO [a5] a6, vO [a5] a7, vO [a5] a8, vO [a5] a9, bS⟩
 ·obtain rfl := Bool.eq_false_iff.mpr c3
  rw [if_neg nF] at H
  simp only [Option.some.injEq, Prod.mk.injEq] at H
  obtain ⟨rfl, rfl, rfl, rfl, rfl, rfl, rfl, rfl, rfl, rfl, rfl, rfl, rfl, rfl⟩ := H
  go_enter Try.func28, Try.ntmps28
  go_wp2_with (first | ((with_reducible refine gD 2 ?_); refine bxE #[.slice none 0 0, .int .i64 0, .int .i64 0, .int .i64 0, .int .i64 0, .slice none 0 0, .int .i64 0, .int .i64 0, .int .i64 0, .int .i64 0, .int .i64 0, .slice none 0 0, .slice none 0 0] 35 ?_; intro a5 hg D6 e9 hb; have GE505 := gE hg; replace HB := hB hb; clear hb hg) | ((with_reducible refine gC 41 ?_); refine cM (some 12) Try.func41 (spec_FlattenBlocks.calls k _ _ l0 d1 _ _ (cC y4 HB) y5.out A2.out) ?_; rintro e D7 ⟨n6, rfl, k9, hb⟩; refine ⟨_, rfl, ?_⟩; have h0 := aM (Kd.R_lower (Kd.R_newM (M := fun k_ => (w.heap.size ≤ k_)) k9 (below_size bS) (fun k_ h_ => h_)) (below_size bS)); replace e9 := kB_ a5 hb; replace HB := hB hb; (try clear hb k9); have hz91 := cz13 e9))
  refine bodyPost_ret (results_ct rfl _ _ a5 35 #[.slice none 0 0, .int .i64 0, .int .i64 0, .int .i64 0, .int .i64 0, .slice none 0 0, .int .i64 0, .int .i64 0, .int .i64 0, .int .i64 0, .int .i64 0, .slice none 0 0, .slice none 0 0] (0, 0) _ rfl kS Try.underlying35 rfl (by kernel_rfl)) rfl ?_
  exact ⟨_, _, _, _, eS, Kd.V_nil _ _ _ _ _, Kd.V_nil _ _ _ _ _, Kd.V_nil _ _ _ _ _, Kd.V_nil _ _ _ _ _, bS⟩

end Go.Proofs.Ytjodcfjaedhpeaa.QFnPages
