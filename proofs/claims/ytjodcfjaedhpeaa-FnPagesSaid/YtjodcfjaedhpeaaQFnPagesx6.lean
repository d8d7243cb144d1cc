-- Made out of the translation by a program of this session (a changed copy of the print). Not trusted: Lean checks it.
import Derived.Test.YtjodcfjaedhpeaaQFnPagesx0
import Derived.Test.YtjodcfjaedhpeaaQFnPagesx4
import Derived.Test.YtjodcfjaedhpeaaQFnPagesx5
namespace Go.Proofs.Ytjodcfjaedhpeaa.QFnPages
open Go.RowKit Go.Proofs.YtjodcfjaedhpeaaW.PrintWords Go.Proofs.YtjodcfjaedhpeaaW.PrintLast Go.Proofs.YtjodcfjaedhpeaaW.PrintMore
attribute [local go_sem] max2_int min2_int max_two min_two max_three min_three max_four min_four   -- for this text's walks alone
set_option linter.unusedVariables false
set_option linter.unusedSimpArgs false
set_option maxHeartbeats 8000000
set_option maxRecDepth 100000

/-! ### spec_l07Copy: function 56 -/
mutual
def spec_l07Copy.l0 : Nat → Int → List Int → Int → Int → Int → Int → List (S80) → Int → Int → Int → Int → Int → List (S31) → List (S60) → List Int → Int → Int → Int → Int → List (S80) → Int → Int → Int → Int → Int → List (S31) → Option (List Int × Int × Int × Int × Int × (List (S80)) × Int × Int × Int × Int × Int × (List (S31)) × (List (S60)))
 | 0, _, _, _, _, _, _, _, _, _, _, _, _, _, _, _, _, _, _, _, _, _, _, _, _, _, _ => none
 | k + 1, x4, d1, d2, d3, d4, d5, d6, e0, e1, e2, e3, e4, a2, a3, a7, a8, a9, b0, b1, b2, b6, b7, b8, b9, d0, a6 => if x4 < (a2.length : Int) then (if 0 ≤ x4 then ((spec_l07Graphics.f ((rd_T31 a2 x4).f0) ((rd_T31 a2 x4).f1.f0) ((rd_T31 a2 x4).f1.f1) ((rd_T31 a2 x4).f1.f2) ((rd_T31 a2 x4).f1.f3) ((rd_T31 a2 x4).f2) ((rd_T31 a2 x4).f3) ((rd_T31 a2 x4).f4.f0) ((rd_T31 a2 x4).f4.f1) ((rd_T31 a2 x4).f4.f2) ((rd_T31 a2 x4).f4.f3)).bind fun a5 => (if a6.length < 1172812402961 then (spec_l07Copy.l0 k (wrap64 (x4 + 1)) d1 d2 d3 d4 d5 d6 e0 e1 e2 e3 e4 a2 a3 a7 a8 a9 b0 b1 b2 b6 b7 b8 b9 d0 (a6 ++ [(⟨a5.1, (⟨a5.2.1, a5.2.2.1, a5.2.2.2.1, a5.2.2.2.2.1⟩ : S26), a5.2.2.2.2.2.1, a5.2.2.2.2.2.2.1, (⟨a5.2.2.2.2.2.2.2.1, a5.2.2.2.2.2.2.2.2.1, a5.2.2.2.2.2.2.2.2.2.1, a5.2.2.2.2.2.2.2.2.2.2⟩ : S29)⟩ : S31)])) else (none))) else (none)) else (spec_l07Copy.l1 k 0 d1 d2 d3 d4 d5 d6 e0 e1 e2 e3 e4 a2 a3 a7 a8 a9 b0 b1 b2 b6 b7 b8 b9 d0 a6 ([] : List (S60)))
def spec_l07Copy.l1 : Nat → Int → List Int → Int → Int → Int → Int → List (S80) → Int → Int → Int → Int → Int → List (S31) → List (S60) → List Int → Int → Int → Int → Int → List (S80) → Int → Int → Int → Int → Int → List (S31) → List (S60) → Option (List Int × Int × Int × Int × Int × (List (S80)) × Int × Int × Int × Int × Int × (List (S31)) × (List (S60)))
 | 0, _, _, _, _, _, _, _, _, _, _, _, _, _, _, _, _, _, _, _, _, _, _, _, _, _, _, _ => none
 | k + 1, x5, d1, d2, d3, d4, d5, d6, e0, e1, e2, e3, e4, a2, a3, a7, a8, a9, b0, b1, b2, b6, b7, b8, b9, d0, a6, e6 => if x5 < (a3.length : Int) then (if 0 ≤ x5 then ((spec_l07Shape.f ((rd_T60 a3 x5).f0) ((rd_T60 a3 x5).f1) ((rd_T60 a3 x5).f2.f0) ((rd_T60 a3 x5).f2.f1) ((rd_T60 a3 x5).f2.f2) ((rd_T60 a3 x5).f2.f3)).bind fun e5 => (if e6.length < 2199023255552 then (spec_l07Copy.l1 k (wrap64 (x5 + 1)) d1 d2 d3 d4 d5 d6 e0 e1 e2 e3 e4 a2 a3 a7 a8 a9 b0 b1 b2 b6 b7 b8 b9 d0 a6 (e6 ++ [(⟨e5.1, e5.2.1, (⟨e5.2.2.1, e5.2.2.2.1, e5.2.2.2.2.1, e5.2.2.2.2.2⟩ : S29)⟩ : S60)])) else (none))) else (none)) else (some (a7, a8, a9, b0, b1, b2, b6, b7, b8, b9, d0, a6, e6))
end
def spec_l07Copy.f (k : Nat) (a5 : List Int) (a6 : Int) (a7 : Int) (a8 : Int) (a9 : Int) (b0 : List (S80)) (b1 : Int) (b2 : Int) (b6 : Int) (b7 : Int) (a3 : Int) (b8 : List (S31)) (b9 : List (S60)) : Option (List Int × Int × Int × Int × Int × (List (S80)) × Int × Int × Int × Int × Int × (List (S31)) × (List (S60))) := (spec_l07Graphics.f a5 a6 a7 a8 a9 b0 b1 b2 b6 b7 a3).bind fun a2 => (spec_l07Copy.l0 k 0 a5 a6 a7 a8 a9 b0 b1 b2 b6 b7 a3 b8 b9 a2.1 a2.2.1 a2.2.2.1 a2.2.2.2.1 a2.2.2.2.2.1 a2.2.2.2.2.2.1 a2.2.2.2.2.2.2.1 a2.2.2.2.2.2.2.2.1 a2.2.2.2.2.2.2.2.2.1 a2.2.2.2.2.2.2.2.2.2.1 a2.2.2.2.2.2.2.2.2.2.2 ([] : List (S31)))
def spec_l07Copy.T5 : Bool × List (List Nat × List Nat) := (true, [([], []), ([0], [0]), ([], []), ([2], [2]), ([], []), ([3, 4], [3, 4]), ([5], [5]), ([6], [6]), ([7], [7]), ([1, 8, 7], [1, 8]), ([0, 1, 2, 3, 4, 5, 6, 7, 8, 9], []), ([10, 9, 9, 0, 1, 2, 3, 4, 5, 6, 7, 8, 9], [9, 10])])
def spec_l07Copy.B5 : List Nat := [0, 1, 0, 4, 0, 28, 60, 124, 252, 511, 1023, 2047]
theorem spec_l07Copy.tab5 : rtab .any (opsOf Try.f56 5) = spec_l07Copy.T5 := by kernel_rfl
theorem spec_l07Copy.bits5 : waitsOk spec_l07Copy.T5.2 spec_l07Copy.B5 = true := by kernel_rfl
def spec_l07Copy.T9 : Bool × List (List Nat × List Nat) := (true, [([], []), ([0], [0]), ([], []), ([2], [2]), ([], []), ([3, 4], [3, 4]), ([5], [5]), ([6], [6]), ([7], [7]), ([1, 8, 7], [1, 8]), ([0, 1, 2, 3, 4, 5, 6, 7, 8, 9], []), ([10, 9, 9, 0, 1, 2, 3, 4, 5, 6, 7, 8, 9], [9, 10])])
def spec_l07Copy.B9 : List Nat := [0, 1, 0, 4, 0, 28, 60, 124, 252, 511, 1023, 2047]
theorem spec_l07Copy.tab9 : rtab .any (opsOf Try.f56 9) = spec_l07Copy.T9 := by kernel_rfl
theorem spec_l07Copy.bits9 : waitsOk spec_l07Copy.T9.2 spec_l07Copy.B9 = true := by kernel_rfl
theorem spec_l07Copy.calls (k : Nat) (m2 : Option Addr) (m3 : Nat) (g4 : List Int) (h2 : Int) (h3 : Int) (h4 : Int) (h5 : Int) (m4 : Option Addr) (m5 : Nat) (g5 : List (S80)) (h6 : Int) (h7 : Int) (h8 : Int) (h9 : Int) (e8 : Int) (i4 : Option Addr) (i1 : Nat) (a6 : List (S31)) (i5 : Option Addr) (i3 : Nat) (b0 : List (S60)) (r1 : List Int) (r2 : Int) (r3 : Int) (r4 : Int) (r5 : Int) (r6 : List (S80)) (r7 : Int) (r8 : Int) (r9 : Int) (t6 : Int) (t7 : Int) (t8 : List (S31)) (t9 : List (S60)) (w : World) (s1 : Kd.C (Kd.int .i64) w m2 g4.length g4) (s2 : g4.length ≤ m3) (s3 : Kd.C k80 w m4 g5.length g5) (s4 : g5.length ≤ m5) (m6 : Kd.C k31 w i4 a6.length a6) (m7 : a6.length ≤ i1) (m8 : Kd.C k60 w i5 b0.length b0) (m9 : b0.length ≤ i3) (h : spec_l07Copy.f k g4 h2 h3 h4 h5 g5 h6 h7 h8 h9 e8 a6 b0 = some (r1, r2, r3, r4, r5, r6, r7, r8, r9, t6, t7, t8, t9)) :
  Calls Try.prog 56 #[.agg #[.slice m2 g4.length m3, .int .i64 h2, .int .i64 h3, .int .i64 h4, .int .i64 h5, .slice m4 g5.length m5, .int .i64 h6, .int .i64 h7, .int .i64 h8, .int .i64 h9, .int .i64 e8, .slice i4 a6.length i1, .slice i5 b0.length i3]] w fun e w' => ∃ v0_ v5_ v11_ v12_ : Value, e = .returned (.agg #[v0_, .int .i64 r2, .int .i64 r3, .int .i64 r4, .int .i64 r5, v5_, .int .i64 r7, .int .i64 r8, .int .i64 r9, .int .i64 t6, .int .i64 t7, v11_, v12_]) ∧ Kd.R (Kd.int .i64) 3 w' w.heap.size (fun _ => True) v0_ r1 ∧ Kd.R k80 80 w' w.heap.size (fun _ => True) v5_ r6 ∧ Kd.S k31 31 w' w.heap.size (fun k_ => some k_ ≠ (v0_ : Value).ownBlock ∧ some k_ ≠ (v5_ : Value).ownBlock) v11_ t8 ∧ Kd.S k60 60 w' w.heap.size (fun k_ => some k_ ≠ (v5_ : Value).ownBlock) v12_ t9 ∧ Below w.heap.size w w' := by
 have hu35 := Try.underlying35
 have hu31 := Try.underlying31
 have hu60 := Try.underlying60
 have u0 := aM s1
 have u1 := aM s2
 clear s1 s2
 have u2 := aM s3
 have u3 := aM s4
 clear s3 s4
 have s8 := aM m6
 have x3 := aM m7
 clear m6 m7
 have s9 := aM m8
 have x4 := aM m9
 clear m8 m9
 have HB := aM (Below.refl w.heap.size w)
 have H := h
 clear h
 unfold spec_l07Copy.f at H
 replace H := bN H
 obtain ⟨⟨e2, i6, i7, i8, i9, d4, j5, j6, j7, j8, j9⟩, A2, H⟩ := H
 have H' := aM H
 clear H
 go_enter Try.func56, Try.ntmps56
 go_wp2_with (first | ((with_reducible refine gD 1 ?_); refine bxE #[.slice m2 g4.length m3, .int .i64 h2, .int .i64 h3, .int .i64 h4, .int .i64 h5, .slice m4 g5.length m5, .int .i64 h6, .int .i64 h7, .int .i64 h8, .int .i64 h9, .int .i64 e8, .slice i4 a6.length i1, .slice i5 b0.length i3] 35 ?_; intro d5 hg w3 b1 hb; have GE200 := gE hg; replace HB := hB hb; clear hb hg) | ((with_reducible refine gD 2 ?_); refine bxE #[.slice none 0 0, .int .i64 0, .int .i64 0, .int .i64 0, .int .i64 0, .slice none 0 0, .int .i64 0, .int .i64 0, .int .i64 0, .int .i64 0, .int .i64 0, .slice none 0 0, .slice none 0 0] 35 ?_; intro d6 hg w4 b8 hb; have GE201 := gE hg; have e0 := nL_ d5 hg; have e1 := nG_ d5 hg; replace b1 := kB_ d5 hb; replace HB := hB hb; clear hb hg; have hnb5 := nP e0 e1; have hz6 := cz13 b1) | ((with_reducible refine gC 70 ?_); refine cM (some 8) Try.func70 (spec_l07Graphics.calls _ _ g4 h2 h3 h4 h5 _ _ g5 h6 h7 h8 h9 e8 e2 i6 i7 i8 i9 d4 j5 j6 j7 j8 j9 _ (cC u0 HB) u1.out (cC u2 HB) u3.out A2.out) ?_; rintro e w7 ⟨y9, A0, rfl, l6, t0, hb⟩; refine ⟨_, rfl, ?_⟩; have k4 := aM (Kd.R_lower l6 (below_size bS)); have k5 := aM (Kd.R_lower t0 (below_size bS)); replace b1 := kB_ d5 hb; replace b8 := kB_ d6 hb; replace HB := hB hb; (try clear hb l6 t0); obtain ⟨k0, k3, A1⟩ := Kd.R_slice k5.out; subst A1; obtain ⟨m0, m1, A3⟩ := Kd.R_slice k4.out; subst A3) | ((with_reducible refine gD 3 ?_); refine bxE #[.slice none 0 0, .int .i64 0, .int .i64 0, .int .i64 0, .int .i64 0, .slice none 0 0, .int .i64 0, .int .i64 0, .int .i64 0, .int .i64 0, .int .i64 0, .slice none 0 0, .slice none 0 0] 35 ?_; intro d2 hg C3 a9 hb; have GE217 := gE hg; have d0 := nL_ d5 hg; have d1 := nG_ d5 hg; have e6 := nL_ d6 hg; have e7 := nG_ d6 hg; replace k4 := rB k4 hb; replace k5 := rB k5 hb; replace b1 := kB_ d5 hb; replace b8 := kB_ d6 hb; replace HB := hB hb; clear hb hg; have hnb11 := nP d1 d0; have hnb12 := nP e7 e6; have hz13 := cz13 a9))
 go_loopg [4] k (fun kq v4 w' => ∃ (a7 : Int) (b6 : List (S31)) (b9 : Value), v4 = .int .i64 a7 ∧ Aside0 (spec_l07Copy.l0 kq a7 g4 h2 h3 h4 h5 g5 h6 h7 h8 h9 e8 a6 b0 e2 i6 i7 i8 i9 d4 j5 j6 j7 j8 j9 b6 = some (r1, r2, r3, r4, r5, r6, r7, r8, r9, t6, t7, t8, t9)) ∧ Aside0 (kq ≤ k) ∧ Aside0 (Kd.R (Kd.int .i64) 3 w' w.heap.size (fun _ => True) (.slice m0 e2.length m1) e2) ∧ Aside0 (Kd.R k80 80 w' w.heap.size (fun _ => True) (.slice k0 d4.length k3) d4) ∧ Aside0 (Kd.S k31 31 w' w.heap.size (fun k_ => some k_ ≠ ((.slice m0 e2.length m1) : Value).ownBlock ∧ some k_ ≠ ((.slice k0 d4.length k3) : Value).ownBlock) b9 b6) ∧ Aside0 (w'.heap[d5]? = some (.cells #[(.slice m2 g4.length m3), .int .i64 h2, .int .i64 h3, .int .i64 h4, .int .i64 h5, (.slice m4 g5.length m5), .int .i64 h6, .int .i64 h7, .int .i64 h8, .int .i64 h9, .int .i64 e8, (.slice i4 a6.length i1), (.slice i5 b0.length i3)] 35 (0, 0))) ∧ Aside0 (w'.heap[d6]? = some (.cells #[(.slice none 0 0), .int .i64 0, .int .i64 0, .int .i64 0, .int .i64 0, (.slice none 0 0), .int .i64 0, .int .i64 0, .int .i64 0, .int .i64 0, .int .i64 0, (.slice none 0 0), (.slice none 0 0)] 35 (0, 0))) ∧ Aside0 (w'.heap[d2]? = some (.cells #[(.slice m0 e2.length m1), .int .i64 i6, .int .i64 i7, .int .i64 i8, .int .i64 i9, (.slice k0 d4.length k3), .int .i64 j5, .int .i64 j6, .int .i64 j7, .int .i64 j8, .int .i64 j9, b9, (.slice none 0 0)] 35 (0, 0))) ∧ Aside0 (Below w.heap.size w w'))
 case atStart => exact ⟨(0), (([] : List (S31))), (.slice none 0 0), fS, H', ⟨Nat.le_refl _⟩, ⟨rW [d2] k4 a9⟩, ⟨rW [d2] k5 a9⟩, ⟨by first | exact Kd.S_nil _ _ _ _ _ | exact Kd.N_nil _ _ _ _ _ | exact Kd.V_nil _ _ _ _ _ | exact Kd.Q_nil _ _ _ _ _ | exact Kd.R_nil _ _ _ _ _⟩, ⟨kS⟩, ⟨kS⟩, ⟨kS⟩, ⟨bS⟩⟩
 case round =>
  clear H'
  try clear c1
  try clear p2
  try clear c5
  try clear c7
  try clear A4
  try clear A5
  obtain ⟨a7, b6, b9, rfl, HA, x2, a5, a3, a2, b1, b8, a9, HB⟩ := hrel
  cases gk with
  | zero => exact absurd HA.out (by simp [spec_l07Copy.l0])
  | succ k1 =>
   have H := HA.out
   clear HA
   simp only [spec_l07Copy.l0] at H
   by_cases t1 : a7 < (a6.length : Int)
   ·rw [if_pos t1] at H
    have s5 : decide (a7 < (a6.length : Int)) = true := decide_eq_true t1
    clear t1
    obtain ⟨u4, H⟩ := iT H
    replace H := bN H
    obtain ⟨⟨l7, n0, n1, n2, n5, l8, n6, n7, n8, o0, o1⟩, A6, H⟩ := H
    obtain ⟨LMc17, H⟩ := iL H
    obtain ⟨t2, hy_⟩ : ∃ y_ : List (S31), y_ = (b6 ++ [(⟨l7, (⟨n0, n1, n2, n5⟩ : S26), l8, n6, (⟨n7, n8, o0, o1⟩ : S29)⟩ : S31)]) := ⟨_, rfl⟩
    replace H : (spec_l07Copy.l0 k1 (wrap64 (a7 + 1)) g4 h2 h3 h4 h5 g5 h6 h7 h8 h9 e8 a6 b0 e2 i6 i7 i8 i9 d4 j5 j6 j7 j8 j9 t2) = some (r1, r2, r3, r4, r5, r6, r7, r8, r9, t6, t7, t8, t9) := yS
    have Ny234 := aM hy_
    clear hy_
    have H' := aM H
    clear H
    have hnb18 := nP e0 e1
    have hnb19 := nP d0 d1
    have u5 := cg11 b1
    try go_wp2
    replace a5 := rD a5
    replace a3 := rD a3
    replace a2 := sD a2
    replace b1 := bD b1
    replace b8 := bD b8
    replace a9 := bD a9
    replace HB := hD HB
    have q7 : 0 ≤ (a7 : Int) := dA
    have q8 : a7 < (a6.length : Int) := dA
    obtain ⟨b7, o4, o5, o6, o7, x5, e9, f5, f6, f7, f8, f9, g0, g1, g2, g3, e5, hl218_0, hi218_0, hl218_5, hi218_5⟩ := at_T31 s8.out a7 q7 q8
    have hw218_10 := e5
    have hw218_9 := g3
    have hw218_8 := g2
    have hw218_7 := g1
    have hw218_6 := g0
    have hw218_5 := f9
    have hw218_4 := f8
    have hw218_3 := f7
    have hw218_2 := f6
    have hw218_1 := f5
    have hw218_0 := e9
    cases x5
    replace e9 := cB HB e9
    replace f5 := cB HB f5
    replace f6 := cB HB f6
    replace f7 := cB HB f7
    replace f8 := cB HB f8
    replace f9 := cB HB f9
    replace g0 := cB HB g0
    replace g1 := cB HB g1
    replace g2 := cB HB g2
    replace g3 := cB HB g3
    replace e5 := cB HB e5
    have k6 := aM hi218_0
    have q9 := aM hl218_0
    clear hi218_0 hl218_0
    have k7 := aM hi218_5
    have r0 := aM hl218_5
    clear hi218_5 hl218_5
    replace q7 := eq_true q7
    replace q8 := eq_true q8
    refine start_ (n := 12) (S := fun w' => w'.cell? ⟨d2, 11, none⟩ = some (b9) ∧ w'.cell? ⟨d5, 11, none⟩ = some (.slice (some b7) a6.length i1) ∧ w'.cell? (b7.add ((a7).toNat * 11)) = some (.slice o4 ((rd_T31 a6 a7).f0).length o5) ∧ w'.cell? ⟨(b7.add ((a7).toNat * 11)).block, (b7.add ((a7).toNat * 11)).off + 1, none⟩ = some (.int .i64 ((rd_T31 a6 a7).f1.f0)) ∧ w'.cell? ⟨(b7.add ((a7).toNat * 11)).block, (b7.add ((a7).toNat * 11)).off + 2, none⟩ = some (.int .i64 ((rd_T31 a6 a7).f1.f1)) ∧ w'.cell? ⟨(b7.add ((a7).toNat * 11)).block, (b7.add ((a7).toNat * 11)).off + 3, none⟩ = some (.int .i64 ((rd_T31 a6 a7).f1.f2)) ∧ w'.cell? ⟨(b7.add ((a7).toNat * 11)).block, (b7.add ((a7).toNat * 11)).off + 4, none⟩ = some (.int .i64 ((rd_T31 a6 a7).f1.f3)) ∧ w'.cell? ⟨(b7.add ((a7).toNat * 11)).block, (b7.add ((a7).toNat * 11)).off + 5, none⟩ = some (.slice o6 ((rd_T31 a6 a7).f2).length o7) ∧ w'.cell? ⟨(b7.add ((a7).toNat * 11)).block, (b7.add ((a7).toNat * 11)).off + 6, none⟩ = some (.int .i64 ((rd_T31 a6 a7).f3)) ∧ w'.cell? ⟨(b7.add ((a7).toNat * 11)).block, (b7.add ((a7).toNat * 11)).off + 7, none⟩ = some (.int .i64 ((rd_T31 a6 a7).f4.f0)) ∧ w'.cell? ⟨(b7.add ((a7).toNat * 11)).block, (b7.add ((a7).toNat * 11)).off + 8, none⟩ = some (.int .i64 ((rd_T31 a6 a7).f4.f1)) ∧ w'.cell? ⟨(b7.add ((a7).toNat * 11)).block, (b7.add ((a7).toNat * 11)).off + 9, none⟩ = some (.int .i64 ((rd_T31 a6 a7).f4.f2)) ∧ w'.cell? ⟨(b7.add ((a7).toNat * 11)).block, (b7.add ((a7).toNat * 11)).off + 10, none⟩ = some (.int .i64 ((rd_T31 a6 a7).f4.f3))) (ds := [11]) (mB 12 0) (by kernel_rfl) rfl rfl ⟨(blk_cell a9.out 11).trans rfl, (blk_cell b1.out 11).trans rfl, (cB HB hw218_0), (cB HB hw218_1), (cB HB hw218_2), (cB HB hw218_3), (cB HB hw218_4), (cB HB hw218_5), (cB HB hw218_6), (cB HB hw218_7), (cB HB hw218_8), (cB HB hw218_9), (cB HB hw218_10)⟩ (fun hHeld => ?_); refine with_tabW spec_l07Copy.tab5 spec_l07Copy.bits5 (fun HT_ HW_ => ?_)
    generalize wr.drew = C4 at a5 a3 a2 b1 b8 a9 HB k6 k7 e9 f5 e5 f6 f7 f8 f9 g0 g1 g2 g3 hHeld ⊢
    refine pU 0 (some 17) (mB 12 1) ?_
    refine pU 2 (some 19) (mB 12 5) ?_
    refine pU 4 (some 21) (mB 12 21) ?_
    refine tK 1 (some 18) (mB 12 23) ?_
    refine tK 3 (some 20) (mB 12 31) ?_
    refine pU 5 (some 22) (mB 12 63) ?_
    refine tK 6 (some 23) (mB 12 127) ?_
    refine one_ (i := 7) (N := some 24) (mB 12 255) rfl rfl (one_of HT_.out (by kernel_rfl)) (by decide) (fun K hK => ?_)
    refine goes_ Try.func70 (by kernel_rfl) rfl #[.agg #[.slice o4 ((rd_T31 a6 a7).f0).length o5, .int .i64 ((rd_T31 a6 a7).f1.f0), .int .i64 ((rd_T31 a6 a7).f1.f1), .int .i64 ((rd_T31 a6 a7).f1.f2), .int .i64 ((rd_T31 a6 a7).f1.f3), .slice o6 ((rd_T31 a6 a7).f2).length o7, .int .i64 ((rd_T31 a6 a7).f3), .int .i64 ((rd_T31 a6 a7).f4.f0), .int .i64 ((rd_T31 a6 a7).f4.f1), .int .i64 ((rd_T31 a6 a7).f4.f2), .int .i64 ((rd_T31 a6 a7).f4.f3)]] (by rfl) rfl rfl mA ?_
    with_reducible refine (spec_l07Graphics.calls _ _ ((rd_T31 a6 a7).f0) ((rd_T31 a6 a7).f1.f0) ((rd_T31 a6 a7).f1.f1) ((rd_T31 a6 a7).f1.f2) ((rd_T31 a6 a7).f1.f3) _ _ ((rd_T31 a6 a7).f2) ((rd_T31 a6 a7).f3) ((rd_T31 a6 a7).f4.f0) ((rd_T31 a6 a7).f4.f1) ((rd_T31 a6 a7).f4.f2) ((rd_T31 a6 a7).f4.f3) l7 n0 n1 n2 n5 l8 n6 n7 n8 o0 o1 _ ?side1 ?side2 ?side3 ?side4 A6.out).mono ?_
    (case side1 => exact cS (Kd.C_below k6.out HB.out))
    (case side2 => exact q9.out)
    (case side3 => exact cS (Kd.C_below k7.out HB.out))
    (case side4 => exact r0.out)
    rintro e C5 ⟨A7, A8, rfl, l6, t0, hb⟩
    refine ⟨_, rfl, ?_⟩
    have k9 := aM (Kd.R_lower (Kd.R_new' l6 (Kd.R_lt (rS a5))) (below_size bS))
    have l3 := aM (Kd.R_lower (Kd.R_new' t0 (Kd.R_lt (rS a3))) (below_size bS))
    replace a5 := aM (Kd.R_elder' (rS a5) (Kd.R_base l6) hb)
    replace a3 := aM (Kd.R_elder' (rS a3) (Kd.R_base t0) hb)
    replace a2 := aM (Kd.S_mono (Kd.S_told (Kd.S_told (Kd.S_old (sS a2) hb) (Kd.R_base l6)) (Kd.R_base t0)) (fun _ h_ => h_.1))
    replace b1 := kB_ d5 hb
    replace b8 := kB_ d6 hb
    replace a9 := kB_ d2 hb
    replace HB := hB hb
    (try clear hb)
    (try clear A9)
    (try clear hk)
    (try clear hi)
    (try clear l6)
    (try clear t0)
    obtain ⟨u6, u7, u9⟩ := Kd.R_slice k9.out
    (first | subst u9 | obtain ⟨rfl, rfl⟩ := slE u9)
    obtain ⟨v0, v1, v2⟩ := Kd.R_slice l3.out
    (first | subst v2 | obtain ⟨rfl, rfl⟩ := slE v2)
    refine hK.out _ _ ⟨(blk_cell a9.out 11).trans rfl, (blk_cell b1.out 11).trans rfl, (cB HB hw218_0), (cB HB hw218_1), (cB HB hw218_2), (cB HB hw218_3), (cB HB hw218_4), (cB HB hw218_5), (cB HB hw218_6), (cB HB hw218_7), (cB HB hw218_8), (cB HB hw218_9), (cB HB hw218_10)⟩ (fun hHeld => ?_)
    clear hK K
    refine norm_ (a' := ?_) ?_ ?_
    rotate_left
    ·show Act.put _ (some 24) _ = _
     simp only [Act.put, List.setIfInBounds_toArray, List.set_cons_zero, List.set_cons_succ, i64_w, i32_w]
     rfl
    refine one_ (i := 8) (N := some 25) (mB 12 511) rfl rfl (one_of HT_.out (by kernel_rfl)) (by decide) (fun K hK => ?_)
    refine value_ (w1 := ?_) (v := ?_) (by rfl) rfl ?_ ?_
    rotate_left 2
    ·go_simp
     constructor
     ·rfl
     ·rfl
    refine hK.out _ _ ⟨(blk_cell (blk_alloc a9.out _) 11).trans rfl, (blk_cell (blk_alloc b1.out _) 11).trans rfl, (World.cell?_alloc_lt _ _ _ (World.block_lt_of_cell? _ _ ((cB HB hw218_0)))).trans ((cB HB hw218_0)), (World.cell?_alloc_lt _ _ _ (World.block_lt_of_cell? _ _ ((cB HB hw218_1)))).trans ((cB HB hw218_1)), (World.cell?_alloc_lt _ _ _ (World.block_lt_of_cell? _ _ ((cB HB hw218_2)))).trans ((cB HB hw218_2)), (World.cell?_alloc_lt _ _ _ (World.block_lt_of_cell? _ _ ((cB HB hw218_3)))).trans ((cB HB hw218_3)), (World.cell?_alloc_lt _ _ _ (World.block_lt_of_cell? _ _ ((cB HB hw218_4)))).trans ((cB HB hw218_4)), (World.cell?_alloc_lt _ _ _ (World.block_lt_of_cell? _ _ ((cB HB hw218_5)))).trans ((cB HB hw218_5)), (World.cell?_alloc_lt _ _ _ (World.block_lt_of_cell? _ _ ((cB HB hw218_6)))).trans ((cB HB hw218_6)), (World.cell?_alloc_lt _ _ _ (World.block_lt_of_cell? _ _ ((cB HB hw218_7)))).trans ((cB HB hw218_7)), (World.cell?_alloc_lt _ _ _ (World.block_lt_of_cell? _ _ ((cB HB hw218_8)))).trans ((cB HB hw218_8)), (World.cell?_alloc_lt _ _ _ (World.block_lt_of_cell? _ _ ((cB HB hw218_9)))).trans ((cB HB hw218_9)), (World.cell?_alloc_lt _ _ _ (World.block_lt_of_cell? _ _ ((cB HB hw218_10)))).trans ((cB HB hw218_10))⟩ (fun hHeld => ?_)
    clear hK K
    refine norm_ (a' := ?_) ?_ ?_
    rotate_left
    ·show Act.put _ (some 25) _ = _
     simp only [Act.put, List.setIfInBounds_toArray, List.set_cons_zero, List.set_cons_succ, i64_w, i32_w]
     rfl
    refine one_ (i := 9) (N := some 26) (mB 12 1023) rfl rfl (one_of HT_.out (by kernel_rfl)) (by decide) (fun K hK => ?_)
    refine Kd.S_append_step k31 (w0 := w) w.heap.size (by rfl) (.tmp 18) (.tmp 25) 32 31 (.agg #[(.slice none 0 0), (.int .i64 0), (.int .i64 0), (.int .i64 0), (.int .i64 0), (.slice none 0 0), (.int .i64 0), (.int .i64 0), (.int .i64 0), (.int .i64 0), (.int .i64 0)]) 120 rfl Try.underlying32 info31 rfl (by decide) (by omega) b9 b6 (⟨l7, (⟨n0, n1, n2, n5⟩ : S26), l8, n6, (⟨n7, n8, o0, o1⟩ : S29)⟩ : S31) [.slice u6 l7.length u7, .int .i64 n0, .int .i64 n1, .int .i64 n2, .int .i64 n5, .slice v0 l8.length v1, .int .i64 n6, .int .i64 n7, .int .i64 n8, .int .i64 o0, .int .i64 o1] (fun k_ => some k_ ≠ (.slice m0 e2.length m1 : Value).ownBlock ∧ some k_ ≠ (.slice k0 d4.length k3 : Value).ownBlock) (fun k_ => some k_ = (.slice u6 l7.length u7 : Value).ownBlock ∨ some k_ = (.slice v0 l8.length v1 : Value).ownBlock) rfl rfl ?aP (fun k_ hk_ => hk_.elim (fun h_ => ((Kd.R_mono (ok' := fun k_ => ((fun k_ => some k_ ≠ (.slice m0 e2.length m1 : Value).ownBlock ∧ some k_ ≠ (.slice k0 d4.length k3 : Value).ownBlock)) k_ ∧ some k_ ≠ (b9 : Value).ownBlock) (Kd.R_apart' (Kd.R_apart' (k9.out) (Kd.R_typed a3.out) (by decide)) (Kd.S_typed a2.out) (by decide)) (fun k_ hk => ⟨⟨hk.1.1.2, hk.1.2⟩, hk.2⟩))).1 k_ h_.symm) (fun h_ => ((Kd.R_mono (ok' := fun k_ => ((fun k_ => some k_ ≠ (.slice m0 e2.length m1 : Value).ownBlock ∧ some k_ ≠ (.slice k0 d4.length k3 : Value).ownBlock)) k_ ∧ some k_ ≠ (b9 : Value).ownBlock) (Kd.R_apart' (Kd.R_apart' (l3.out) (Kd.R_typed a5.out) (by decide)) (Kd.S_typed a2.out) (by decide)) (fun k_ hk => ⟨⟨hk.1.2, hk.1.1.2⟩, hk.2⟩))).1 k_ h_.symm)) ?aF ?aO ?aB ?aS ?aL ?_
    (case aP => exact k31_mkM _ _ _ (⟨l7, (⟨n0, n1, n2, n5⟩ : S26), l8, n6, (⟨n7, n8, o0, o1⟩ : S29)⟩ : S31) (Kd.R_mono (Kd.R_tight rfl (Kd.R_mono (ok' := fun k_ => ((fun k_ => some k_ ≠ (.slice m0 e2.length m1 : Value).ownBlock ∧ some k_ ≠ (.slice k0 d4.length k3 : Value).ownBlock)) k_ ∧ some k_ ≠ (b9 : Value).ownBlock) (Kd.R_apart' (Kd.R_apart' (k9.out) (Kd.R_typed a3.out) (by decide)) (Kd.S_typed a2.out) (by decide)) (fun k_ hk => ⟨⟨hk.1.1.2, hk.1.2⟩, hk.2⟩))) (fun _ h_ => Or.inl h_)) (Kd.R_mono (Kd.R_tight rfl (Kd.R_mono (ok' := fun k_ => ((fun k_ => some k_ ≠ (.slice m0 e2.length m1 : Value).ownBlock ∧ some k_ ≠ (.slice k0 d4.length k3 : Value).ownBlock)) k_ ∧ some k_ ≠ (b9 : Value).ownBlock) (Kd.R_apart' (Kd.R_apart' (l3.out) (Kd.R_typed a5.out) (by decide)) (Kd.S_typed a2.out) (by decide)) (fun k_ hk => ⟨⟨hk.1.2, hk.1.1.2⟩, hk.2⟩))) (fun _ h_ => Or.inr (h_))))
    (case aB => exact bS)
    (case aF => exact (fun k_ hk => ⟨Kd.fresh' (Kd.R_lt (rS a5)) k_ hk, Kd.fresh' (Kd.R_lt (rS a3)) k_ hk⟩))
    (case aO => exact (by exact sT (Kd.S_mono a2.out (fun k_ hk => ⟨⟨hk.1.1.1, hk.1.1.2⟩, fun e_ => e_.elim (fun h_ => hk.1.2 h_) (fun h_ => hk.2 h_)⟩))))
    (case aS => exact (below_size bS))
    (case aL => have := LMc17.out; (try dsimp only at this); omega)
    intro B0 C6 ho hb hg hat
    rw [← Ny234.out] at ho
    have s6 := aM (ho)
    replace a5 := aM (Kd.R_over' (rS a5) (Kd.S_typed (sS a2)) (by decide) hg)
    replace a3 := aM (Kd.R_over' (rS a3) (Kd.S_typed (sS a2)) (by decide) hg)
    replace b1 := aM (blk_grown (g := d5) kS hg (Kd.S_ne a2.out b1.out (by decide)))
    replace b8 := aM (blk_grown (g := d6) kS hg (Kd.S_ne a2.out b8.out (by decide)))
    replace a9 := aM (blk_grown (g := d2) kS hg (Kd.S_ne a2.out a9.out (by decide)))
    replace HB := aM (hb)
    clear a2 k9 l3
    clear ho hb hg hat
    obtain ⟨x6, x7, v3⟩ := Kd.S_slice s6.out
    (first | subst v3 | obtain ⟨rfl, rfl⟩ := slE v3)
    refine hK.out _ _ ⟨(blk_cell a9.out 11).trans rfl, (blk_cell b1.out 11).trans rfl, (cB HB hw218_0), (cB HB hw218_1), (cB HB hw218_2), (cB HB hw218_3), (cB HB hw218_4), (cB HB hw218_5), (cB HB hw218_6), (cB HB hw218_7), (cB HB hw218_8), (cB HB hw218_9), (cB HB hw218_10)⟩ (fun hHeld => ?_)
    clear hK K
    refine norm_ (a' := ?_) ?_ ?_
    rotate_left
    ·show Act.put _ (some 26) _ = _
     simp only [Act.put, List.setIfInBounds_toArray, List.set_cons_zero, List.set_cons_succ, i64_w, i32_w]
     rfl
    refine pU 10 (some 27) (mB 12 2047) ?_
    refine last_ (i := 11) (N := none) (mB 12 4095) rfl rfl (one_of HT_.out (by kernel_rfl)) (by decide) (fun K hK => ?_)
    have hs27 := cg11 a9
    have hfs27 := blk_frozen a9.out 11
    have hns27_0 := nP d0 e6
    have hms27_0 := d1.out
    have hms27_1 := e7.out
    refine skip_ (w1 := ?_) (by rfl) rfl ?_ ?_
    rotate_left
    ·go_simp
     rfl
    refine hK.out _ _ ?_
    clear hK K
    refine done_ (done_of HT_.out (by kernel_rfl)) ?_
    try go_wp2
    go_roundg k1
    case measure => have := x2.out; omega
    case rel => exact ⟨(wrap64 (a7 + 1)), (t2), (.slice x6 t2.length x7), fS, H', ⟨by have := x2.out; omega⟩, ⟨rW [d2] a5 a9⟩, ⟨rW [d2] a3 a9⟩, ⟨sW [d2] s6 a9⟩, ⟨kS⟩, ⟨kS⟩, ⟨kS⟩, ⟨bS⟩⟩
   ·rw [if_neg t1] at H
    have s5 : decide (a7 < (a6.length : Int)) = false := decide_eq_false t1
    clear t1
    have H' := aM H
    clear H
    have hnb28 := nP e0 e1
    have hnb29 := nP d0 d1
    have v6 := cg11 b1
    go_wp2
    go_loopg [5] k1 (fun kq v5 w' => ∃ (b2 : Int) (d3 : List (S60)) (e3 : Value), v5 = .int .i64 b2 ∧ Aside0 (spec_l07Copy.l1 kq b2 g4 h2 h3 h4 h5 g5 h6 h7 h8 h9 e8 a6 b0 e2 i6 i7 i8 i9 d4 j5 j6 j7 j8 j9 b6 d3 = some (r1, r2, r3, r4, r5, r6, r7, r8, r9, t6, t7, t8, t9)) ∧ Aside0 (kq ≤ k1) ∧ Aside0 (Kd.R (Kd.int .i64) 3 w' w.heap.size (fun _ => True) (.slice m0 e2.length m1) e2) ∧ Aside0 (Kd.R k80 80 w' w.heap.size (fun _ => True) (.slice k0 d4.length k3) d4) ∧ Aside0 (Kd.S k31 31 w' w.heap.size (fun k_ => some k_ ≠ ((.slice m0 e2.length m1) : Value).ownBlock ∧ some k_ ≠ ((.slice k0 d4.length k3) : Value).ownBlock) b9 b6) ∧ Aside0 (Kd.S k60 60 w' w.heap.size (fun k_ => some k_ ≠ ((.slice k0 d4.length k3) : Value).ownBlock) e3 d3) ∧ Aside0 (w'.heap[d5]? = some (.cells #[(.slice m2 g4.length m3), .int .i64 h2, .int .i64 h3, .int .i64 h4, .int .i64 h5, (.slice m4 g5.length m5), .int .i64 h6, .int .i64 h7, .int .i64 h8, .int .i64 h9, .int .i64 e8, (.slice i4 a6.length i1), (.slice i5 b0.length i3)] 35 (0, 0))) ∧ Aside0 (w'.heap[d6]? = some (.cells #[(.slice none 0 0), .int .i64 0, .int .i64 0, .int .i64 0, .int .i64 0, (.slice none 0 0), .int .i64 0, .int .i64 0, .int .i64 0, .int .i64 0, .int .i64 0, (.slice none 0 0), (.slice none 0 0)] 35 (0, 0))) ∧ Aside0 (w'.heap[d2]? = some (.cells #[(.slice m0 e2.length m1), .int .i64 i6, .int .i64 i7, .int .i64 i8, .int .i64 i9, (.slice k0 d4.length k3), .int .i64 j5, .int .i64 j6, .int .i64 j7, .int .i64 j8, .int .i64 j9, b9, e3] 35 (0, 0))) ∧ Aside0 (Below w.heap.size w w'))
    case atStart => exact ⟨(0), (([] : List (S60))), (.slice none 0 0), fS, H', ⟨Nat.le_refl _⟩, ⟨rS a5⟩, ⟨rS a3⟩, ⟨sS a2⟩, ⟨by first | exact Kd.S_nil _ _ _ _ _ | exact Kd.N_nil _ _ _ _ _ | exact Kd.V_nil _ _ _ _ _ | exact Kd.Q_nil _ _ _ _ _ | exact Kd.R_nil _ _ _ _ _⟩, ⟨kS⟩, ⟨kS⟩, ⟨kS⟩, ⟨bS⟩⟩
    case round =>
     clear H'
     try clear c1
     try clear c2
     try clear p2
     try clear q2
     try clear C7
     try clear c5
     try clear p6
     try clear c7
     try clear A4
     try clear A5
     try clear t1
     try clear s5
     try clear C9
     try clear u4
     try clear D0
     try clear D1
     try clear D2
     try clear D3
     try clear D4
     try clear D5
     try clear B2
     try clear D6
     try clear D7
     try clear e9
     try clear f5
     try clear e5
     try clear f6
     try clear f7
     try clear f8
     try clear f9
     try clear g0
     try clear g1
     try clear g2
     try clear g3
     try clear p2
     try clear q7
     try clear q8
     obtain ⟨b2, d3, e3, rfl, HA, y7, a5, a3, a2, a8, b1, b8, a9, HB⟩ := hrel
     cases gk with
     | zero => exact absurd HA.out (by simp [spec_l07Copy.l1])
     | succ k2 =>
      have H := HA.out
      clear HA
      simp only [spec_l07Copy.l1] at H
      rcases iD H with ⟨v7, H⟩ | ⟨v7, H⟩
      ·obtain ⟨y8, H⟩ := iT H
       replace H := bN H
       obtain ⟨⟨l9, o8, o9, q0, q3, q4⟩, B8, H⟩ := H
       obtain ⟨LMc34, H⟩ := iL H
       obtain ⟨t3, hy_⟩ : ∃ y_ : List (S60), y_ = (d3 ++ [(⟨l9, o8, (⟨o9, q0, q3, q4⟩ : S29)⟩ : S60)]) := ⟨_, rfl⟩
       replace H : (spec_l07Copy.l1 k2 (wrap64 (b2 + 1)) g4 h2 h3 h4 h5 g5 h6 h7 h8 h9 e8 a6 b0 e2 i6 i7 i8 i9 d4 j5 j6 j7 j8 j9 b6 t3) = some (r1, r2, r3, r4, r5, r6, r7, r8, r9, t6, t7, t8, t9) := yS
       have Ny246 := aM hy_
       clear hy_
       have H' := aM H
       clear H
       have hnb35 := nP e0 e1
       have hnb36 := nP d0 d1
       have v8 := cg12 b1
       try go_wp2
       replace a5 := rD a5
       replace a3 := rD a3
       replace a2 := sD a2
       replace a8 := sD a8
       replace b1 := bD b1
       replace b8 := bD b8
       replace a9 := bD a9
       replace HB := hD HB
       have t4 : 0 ≤ (b2 : Int) := dA
       have t5 : b2 < (b0.length : Int) := dA
       obtain ⟨e4, q5, q6, x8, g6, g7, g8, g9, h0, h1, hl237_0, hi237_0⟩ := at_T60 s9.out b2 t4 t5
       have hw237_5 := h1
       have hw237_4 := h0
       have hw237_3 := g9
       have hw237_2 := g8
       have hw237_1 := g7
       have hw237_0 := g6
       cases x8
       replace g6 := cB HB g6
       replace g7 := cB HB g7
       replace g8 := cB HB g8
       replace g9 := cB HB g9
       replace h0 := cB HB h0
       replace h1 := cB HB h1
       have l4 := aM hi237_0
       have s0 := aM hl237_0
       clear hi237_0 hl237_0
       replace t4 := eq_true t4
       replace t5 := eq_true t5
       refine start_ (n := 12) (S := fun w' => w'.cell? ⟨d2, 12, none⟩ = some (e3) ∧ w'.cell? ⟨d5, 12, none⟩ = some (.slice (some e4) b0.length i3) ∧ w'.cell? (e4.add ((b2).toNat * 6)) = some (.slice q5 ((rd_T60 b0 b2).f0).length q6) ∧ w'.cell? ⟨(e4.add ((b2).toNat * 6)).block, (e4.add ((b2).toNat * 6)).off + 1, none⟩ = some (.int .i64 ((rd_T60 b0 b2).f1)) ∧ w'.cell? ⟨(e4.add ((b2).toNat * 6)).block, (e4.add ((b2).toNat * 6)).off + 2, none⟩ = some (.int .i64 ((rd_T60 b0 b2).f2.f0)) ∧ w'.cell? ⟨(e4.add ((b2).toNat * 6)).block, (e4.add ((b2).toNat * 6)).off + 3, none⟩ = some (.int .i64 ((rd_T60 b0 b2).f2.f1)) ∧ w'.cell? ⟨(e4.add ((b2).toNat * 6)).block, (e4.add ((b2).toNat * 6)).off + 4, none⟩ = some (.int .i64 ((rd_T60 b0 b2).f2.f2)) ∧ w'.cell? ⟨(e4.add ((b2).toNat * 6)).block, (e4.add ((b2).toNat * 6)).off + 5, none⟩ = some (.int .i64 ((rd_T60 b0 b2).f2.f3))) (ds := [11]) (mB 12 0) (by kernel_rfl) rfl rfl ⟨(blk_cell a9.out 12).trans rfl, (blk_cell b1.out 12).trans rfl, (cB HB hw237_0), (cB HB hw237_1), (cB HB hw237_2), (cB HB hw237_3), (cB HB hw237_4), (cB HB hw237_5)⟩ (fun hHeld => ?_); refine with_tabW spec_l07Copy.tab9 spec_l07Copy.bits9 (fun HT_ HW_ => ?_)
       generalize wr.drew = D8 at a5 a3 a2 a8 b1 b8 a9 HB l4 g6 g7 g8 g9 h0 h1 hHeld ⊢
       refine pU 0 (some 35) (mB 12 1) ?_
       refine pU 2 (some 37) (mB 12 5) ?_
       refine pU 4 (some 39) (mB 12 21) ?_
       refine tK 1 (some 36) (mB 12 23) ?_
       refine tK 3 (some 38) (mB 12 31) ?_
       refine pU 5 (some 40) (mB 12 63) ?_
       refine tK 6 (some 41) (mB 12 127) ?_
       refine one_ (i := 7) (N := some 42) (mB 12 255) rfl rfl (one_of HT_.out (by kernel_rfl)) (by decide) (fun K hK => ?_)
       refine goes_ Try.func71 (by kernel_rfl) rfl #[.agg #[.slice q5 ((rd_T60 b0 b2).f0).length q6, .int .i64 ((rd_T60 b0 b2).f1), .int .i64 ((rd_T60 b0 b2).f2.f0), .int .i64 ((rd_T60 b0 b2).f2.f1), .int .i64 ((rd_T60 b0 b2).f2.f2), .int .i64 ((rd_T60 b0 b2).f2.f3)]] (by rfl) rfl rfl mA ?_
       with_reducible refine (spec_l07Shape.calls _ _ ((rd_T60 b0 b2).f0) ((rd_T60 b0 b2).f1) ((rd_T60 b0 b2).f2.f0) ((rd_T60 b0 b2).f2.f1) ((rd_T60 b0 b2).f2.f2) ((rd_T60 b0 b2).f2.f3) l9 o8 o9 q0 q3 q4 _ ?side1 ?side2 B8.out).mono ?_
       (case side1 => exact cS (Kd.C_below l4.out HB.out))
       (case side2 => exact s0.out)
       rintro e D9 ⟨C0, rfl, l6, hb⟩
       refine ⟨_, rfl, ?_⟩
       have l5 := aM (Kd.R_lower (Kd.R_new' l6 (Kd.R_lt (rS a3))) (below_size bS))
       replace a5 := rB a5 hb
       replace a3 := aM (Kd.R_elder' (rS a3) (Kd.R_base l6) hb)
       replace a2 := aM (Kd.S_elder' (sS a2) (Kd.R_base l6) hb)
       replace a8 := aM (Kd.S_elder' (sS a8) (Kd.R_base l6) hb)
       replace b1 := kB_ d5 hb
       replace b8 := kB_ d6 hb
       replace a9 := kB_ d2 hb
       replace HB := hB hb
       (try clear hb)
       (try clear A9)
       (try clear hk)
       (try clear hi)
       (try clear l6)
       obtain ⟨v9, w8, w9⟩ := Kd.R_slice l5.out
       (first | subst w9 | obtain ⟨rfl, rfl⟩ := slE w9)
       refine hK.out _ _ ⟨(blk_cell a9.out 12).trans rfl, (blk_cell b1.out 12).trans rfl, (cB HB hw237_0), (cB HB hw237_1), (cB HB hw237_2), (cB HB hw237_3), (cB HB hw237_4), (cB HB hw237_5)⟩ (fun hHeld => ?_)
       clear hK K
       refine norm_ (a' := ?_) ?_ ?_
       rotate_left
       ·show Act.put _ (some 42) _ = _
        simp only [Act.put, List.setIfInBounds_toArray, List.set_cons_zero, List.set_cons_succ, i64_w, i32_w]
        rfl
       refine one_ (i := 8) (N := some 43) (mB 12 511) rfl rfl (one_of HT_.out (by kernel_rfl)) (by decide) (fun K hK => ?_)
       refine value_ (w1 := ?_) (v := ?_) (by rfl) rfl ?_ ?_
       rotate_left 2
       ·go_simp
        constructor
        ·rfl
        ·rfl
       refine hK.out _ _ ⟨(blk_cell (blk_alloc a9.out _) 12).trans rfl, (blk_cell (blk_alloc b1.out _) 12).trans rfl, (World.cell?_alloc_lt _ _ _ (World.block_lt_of_cell? _ _ ((cB HB hw237_0)))).trans ((cB HB hw237_0)), (World.cell?_alloc_lt _ _ _ (World.block_lt_of_cell? _ _ ((cB HB hw237_1)))).trans ((cB HB hw237_1)), (World.cell?_alloc_lt _ _ _ (World.block_lt_of_cell? _ _ ((cB HB hw237_2)))).trans ((cB HB hw237_2)), (World.cell?_alloc_lt _ _ _ (World.block_lt_of_cell? _ _ ((cB HB hw237_3)))).trans ((cB HB hw237_3)), (World.cell?_alloc_lt _ _ _ (World.block_lt_of_cell? _ _ ((cB HB hw237_4)))).trans ((cB HB hw237_4)), (World.cell?_alloc_lt _ _ _ (World.block_lt_of_cell? _ _ ((cB HB hw237_5)))).trans ((cB HB hw237_5))⟩ (fun hHeld => ?_)
       clear hK K
       refine norm_ (a' := ?_) ?_ ?_
       rotate_left
       ·show Act.put _ (some 43) _ = _
        simp only [Act.put, List.setIfInBounds_toArray, List.set_cons_zero, List.set_cons_succ, i64_w, i32_w]
        rfl
       refine one_ (i := 9) (N := some 44) (mB 12 1023) rfl rfl (one_of HT_.out (by kernel_rfl)) (by decide) (fun K hK => ?_)
       refine Kd.S_append_step k60 (w0 := w) w.heap.size (by rfl) (.tmp 36) (.tmp 43) 33 60 (.agg #[(.slice none 0 0), (.int .i64 0), (.int .i64 0), (.int .i64 0), (.int .i64 0), (.int .i64 0)]) 64 rfl Try.underlying33 info60 rfl (by decide) (by omega) e3 d3 (⟨l9, o8, (⟨o9, q0, q3, q4⟩ : S29)⟩ : S60) [.slice v9 l9.length w8, .int .i64 o8, .int .i64 o9, .int .i64 q0, .int .i64 q3, .int .i64 q4] (fun k_ => some k_ ≠ (.slice k0 d4.length k3 : Value).ownBlock) (fun k_ => some k_ = (.slice v9 l9.length w8 : Value).ownBlock) rfl rfl ?aP (fun k_ hk_ => ((Kd.R_mono (ok' := fun k_ => ((fun k_ => some k_ ≠ (.slice k0 d4.length k3 : Value).ownBlock)) k_ ∧ some k_ ≠ (e3 : Value).ownBlock) (Kd.R_apart' (l5.out) (Kd.S_typed a8.out) (by decide)) (fun k_ hk => ⟨hk.1.2, hk.2⟩))).1 k_ hk_.symm) ?aF ?aO ?aB ?aS ?aL ?_
       (case aP => exact k60_mkM _ _ _ (⟨l9, o8, (⟨o9, q0, q3, q4⟩ : S29)⟩ : S60) (Kd.R_mono (Kd.R_tight rfl (Kd.R_mono (ok' := fun k_ => ((fun k_ => some k_ ≠ (.slice k0 d4.length k3 : Value).ownBlock)) k_ ∧ some k_ ≠ (e3 : Value).ownBlock) (Kd.R_apart' (l5.out) (Kd.S_typed a8.out) (by decide)) (fun k_ hk => ⟨hk.1.2, hk.2⟩))) (fun _ h_ => h_)))
       (case aB => exact bS)
       (case aF => exact (fun k_ hk => Kd.fresh' (Kd.R_lt (rS a3)) k_ hk))
       (case aO => exact (by exact sT (Kd.S_mono a8.out (fun k_ hk => ⟨hk.1, fun e_ => hk.2 e_⟩))))
       (case aS => exact (below_size bS))
       (case aL => have := LMc34.out; (try dsimp only at this); omega)
       intro C2 E0 ho hb hg hat
       rw [← Ny246.out] at ho
       have s7 := aM (ho)
       replace a5 := aM (Kd.R_over' (rS a5) (Kd.S_typed (sS a8)) (by decide) hg)
       replace a3 := aM (Kd.R_over' (rS a3) (Kd.S_typed (sS a8)) (by decide) hg)
       replace a2 := aM (Kd.S_over' (sS a2) (Kd.S_typed (sS a8)) (by decide) hg)
       replace b1 := aM (blk_grown (g := d5) kS hg (Kd.S_ne a8.out b1.out (by decide)))
       replace b8 := aM (blk_grown (g := d6) kS hg (Kd.S_ne a8.out b8.out (by decide)))
       replace a9 := aM (blk_grown (g := d2) kS hg (Kd.S_ne a8.out a9.out (by decide)))
       replace HB := aM (hb)
       clear a8 l5
       clear ho hb hg hat
       obtain ⟨x9, y0, x0⟩ := Kd.S_slice s7.out
       (first | subst x0 | obtain ⟨rfl, rfl⟩ := slE x0)
       refine hK.out _ _ ⟨(blk_cell a9.out 12).trans rfl, (blk_cell b1.out 12).trans rfl, (cB HB hw237_0), (cB HB hw237_1), (cB HB hw237_2), (cB HB hw237_3), (cB HB hw237_4), (cB HB hw237_5)⟩ (fun hHeld => ?_)
       clear hK K
       refine norm_ (a' := ?_) ?_ ?_
       rotate_left
       ·show Act.put _ (some 44) _ = _
        simp only [Act.put, List.setIfInBounds_toArray, List.set_cons_zero, List.set_cons_succ, i64_w, i32_w]
        rfl
       refine pU 10 (some 45) (mB 12 2047) ?_
       refine last_ (i := 11) (N := none) (mB 12 4095) rfl rfl (one_of HT_.out (by kernel_rfl)) (by decide) (fun K hK => ?_)
       have hs43 := cg12 a9
       have hfs43 := blk_frozen a9.out 12
       have hns43_0 := nP d0 e6
       have hms43_0 := d1.out
       have hms43_1 := e7.out
       refine skip_ (w1 := ?_) (by rfl) rfl ?_ ?_
       rotate_left
       ·go_simp
        rfl
       refine hK.out _ _ ?_
       clear hK K
       refine done_ (done_of HT_.out (by kernel_rfl)) ?_
       try go_wp2
       go_roundg k2
       case measure => have := x2.out; have := y7.out; omega
       case rel => exact ⟨(wrap64 (b2 + 1)), (t3), (.slice x9 t3.length y0), fS, H', ⟨by have := x2.out; have := y7.out; omega⟩, ⟨rW [d2] a5 a9⟩, ⟨rW [d2] a3 a9⟩, ⟨sW [d2] a2 a9⟩, ⟨sW [d2] s7 a9⟩, ⟨kS⟩, ⟨kS⟩, ⟨kS⟩, ⟨bS⟩⟩
      ·simp only [Option.some.injEq, Prod.mk.injEq] at H
       obtain ⟨rfl, rfl, rfl, rfl, rfl, rfl, rfl, rfl, rfl, rfl, rfl, rfl, rfl⟩ := H
       have hnb44 := nP e0 e1
       have hnb45 := nP d0 d1
       have x1 := cg12 b1
       have hnb47 := nP e7 e6
       have hz48 := cz13 a9
       have hz49 := cz13 b8
       obtain ⟨y1, y2, y3⟩ := Kd.S_slice a2.out
       subst y3
       obtain ⟨y4, y5, y6⟩ := Kd.S_slice a8.out
       subst y6
       go_wp2
       refine bodyPost_ret (results_cell_row rfl _ _ d6 35 #[.slice m0 e2.length m1, .int .i64 i6, .int .i64 i7, .int .i64 i8, .int .i64 i9, .slice k0 d4.length k3, .int .i64 j5, .int .i64 j6, .int .i64 j7, .int .i64 j8, .int .i64 j9, .slice y1 b6.length y2, .slice y4 d3.length y5] (0, 0) _ rfl kS Try.underlying35 rfl (by kernel_rfl)) rfl ?_
       exact ⟨_, _, _, _, eS, by exact Kd.R_mono (R_on (g := d6) (Kd.R_types a5.out b8.out (by decide)) (fun _ hk => hk.2)) (fun _ hk => trivial), by exact Kd.R_mono (R_on (g := d6) (Kd.R_types a3.out b8.out (by decide)) (fun _ hk => hk.2)) (fun _ hk => trivial), by exact Kd.S_mono (S_on (g := d6) (Kd.S_types a2.out b8.out (by decide)) (fun _ hk => hk.2)) (fun _ hk => ⟨hk.1.1, hk.1.2⟩), by exact Kd.S_mono (S_on (g := d6) (Kd.S_types a8.out b8.out (by decide)) (fun _ hk => hk.2)) (fun _ hk => hk.1), bS⟩

end Go.Proofs.Ytjodcfjaedhpeaa.QFnPages
