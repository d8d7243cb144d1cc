-- Made out of the translation by a program of this session (a changed copy of the print). Not trusted: Lean checks it.
import Derived.Test.YtjodcfjaedhpeaaQFnPagesx0
import Derived.Test.YtjodcfjaedhpeaaQFnPagesx1
import Derived.Test.YtjodcfjaedhpeaaQFnPagesx2
import Derived.Test.YtjodcfjaedhpeaaQFnPagesx12
import Derived.Test.YtjodcfjaedhpeaaQFnPagesx13
import Derived.Test.YtjodcfjaedhpeaaQFnPagesx17
import Derived.Test.YtjodcfjaedhpeaaQFnPagesx18
namespace Go.Proofs.Ytjodcfjaedhpeaa.QFnPages
open Go.RowKit Go.Proofs.YtjodcfjaedhpeaaW.PrintWords Go.Proofs.YtjodcfjaedhpeaaW.PrintLast Go.Proofs.YtjodcfjaedhpeaaW.PrintMore
attribute [local go_sem] max2_int min2_int max_two min_two max_three min_three max_four min_four   -- for this text's walks alone
set_option linter.unusedVariables false
set_option linter.unusedSimpArgs false
set_option maxHeartbeats 64000000
set_option maxRecDepth 100000

attribute [local go_sem high] eqA26
/-! ### laws_FnPages: function 3 -/
mutual
def laws_FnPages.j0 : Nat → Bool → Bool → Bool → Bool → Bool → List Int → Int → Int → Int → Int → List (S80) → Int → Int → Int → Int → Int → List (S31) → List (S60) → List Int → Int → Int → Int → Int → List (S80) → Int → Int → Int → Int → Int → List (S31) → List (S60) → List Int → Int → Int → Int → Int → List (S80) → Int → Int → Int → Int → Int → List (S31) → List (S60) → Option (Bool)
 | 0, _, _, _, _, _, _, _, _, _, _, _, _, _, _, _, _, _, _, _, _, _, _, _, _, _, _, _, _, _, _, _, _, _, _, _, _, _, _, _, _, _, _, _, _ => none
 | k + 1, x5, x7, x8, x10, g3, e1, a9, b0, b1, b2, e2, b6, e3, e4, e5, e6, b7, b8, e7, e8, e9, f0, f3, f4, b9, f5, f6, f7, f8, f9, g0, d0, a3, a5, a6, a7, d1, a8, d2, d3, d4, d5, d6, e0 => if g3 = true then (some false) else (if x5 = true then (if x7 = true then (laws_FnPages.j1 k x10 (!x8) e1 a9 b0 b1 b2 e2 b6 e3 e4 e5 e6 b7 b8 e7 e8 e9 f0 f3 f4 b9 f5 f6 f7 f8 f9 g0 d0 a3 a5 a6 a7 d1 a8 d2 d3 d4 d5 d6 e0) else (laws_FnPages.j1 k x10 true e1 a9 b0 b1 b2 e2 b6 e3 e4 e5 e6 b7 b8 e7 e8 e9 f0 f3 f4 b9 f5 f6 f7 f8 f9 g0 d0 a3 a5 a6 a7 d1 a8 d2 d3 d4 d5 d6 e0)) else (laws_FnPages.j1 k x10 true e1 a9 b0 b1 b2 e2 b6 e3 e4 e5 e6 b7 b8 e7 e8 e9 f0 f3 f4 b9 f5 f6 f7 f8 f9 g0 d0 a3 a5 a6 a7 d1 a8 d2 d3 d4 d5 d6 e0))
def laws_FnPages.j1 : Nat → Bool → Bool → List Int → Int → Int → Int → Int → List (S80) → Int → Int → Int → Int → Int → List (S31) → List (S60) → List Int → Int → Int → Int → Int → List (S80) → Int → Int → Int → Int → Int → List (S31) → List (S60) → List Int → Int → Int → Int → Int → List (S80) → Int → Int → Int → Int → Int → List (S31) → List (S60) → Option (Bool)
 | 0, _, _, _, _, _, _, _, _, _, _, _, _, _, _, _, _, _, _, _, _, _, _, _, _, _, _, _, _, _, _, _, _, _, _, _, _, _, _, _, _, _ => none
 | k + 1, x10, g4, e1, a9, b0, b1, b2, e2, b6, e3, e4, e5, e6, b7, b8, e7, e8, e9, f0, f3, f4, b9, f5, f6, f7, f8, f9, g0, d0, a3, a5, a6, a7, d1, a8, d2, d3, d4, d5, d6, e0 => if g4 = true then (some true) else (if x10 = true then (if b9 = 77 then (if a8 = b6 then (if (d6.length : Int) = (b7.length : Int) then (if (a3 == a9 && (a5 == b0 && (a6 == b1 && (a7 == b2)))) = true then (if (e0.length : Int) = (b8.length : Int) then ((impl_NewPage.f).bind fun a2 => ((impl_PageOk.f k a2.1 a2.2.1 a2.2.2.1 a2.2.2.2.1 a2.2.2.2.2.1 a2.2.2.2.2.2.1 a2.2.2.2.2.2.2.1 a2.2.2.2.2.2.2.2.1 a2.2.2.2.2.2.2.2.2.1 a2.2.2.2.2.2.2.2.2.2.1 a2.2.2.2.2.2.2.2.2.2.2.1 a2.2.2.2.2.2.2.2.2.2.2.2.1 a2.2.2.2.2.2.2.2.2.2.2.2.2).bind fun g1 => (if g1 = true then ((impl_GraphicsOk.f k d0 a3 a5 a6 a7 d1 a8 d2 d3 d4 d5).bind fun g2 => (some g2)) else (some false)))) else (some false)) else (some false)) else (some false)) else (some false)) else (some false)) else (some false))
end
def laws_FnPages.f (k : Nat) (l0 : List Int) : Option (Bool) := (laws_big.f l0).bind fun a8 => (if a8 = true then (some true) else ((spec_DrawPage.f k l0).bind fun a2 => ((impl_ExecToken.f k a2.1 a2.2.1 a2.2.2.1 a2.2.2.2.1 a2.2.2.2.2.1 a2.2.2.2.2.2.1 a2.2.2.2.2.2.2.1 a2.2.2.2.2.2.2.2.1 a2.2.2.2.2.2.2.2.2.1 a2.2.2.2.2.2.2.2.2.2.1 a2.2.2.2.2.2.2.2.2.2.2.1 a2.2.2.2.2.2.2.2.2.2.2.2.1 a2.2.2.2.2.2.2.2.2.2.2.2.2 (⟨#[115, 97, 118, 101]⟩ : ByteArray) 0).bind fun a6 => ((impl_ExecToken.f k a6.1 a6.2.1 a6.2.2.1 a6.2.2.2.1 a6.2.2.2.2.1 a6.2.2.2.2.2.1 a6.2.2.2.2.2.2.1 a6.2.2.2.2.2.2.2.1 a6.2.2.2.2.2.2.2.2.1 a6.2.2.2.2.2.2.2.2.2.1 a6.2.2.2.2.2.2.2.2.2.2.1 a6.2.2.2.2.2.2.2.2.2.2.2.1 a6.2.2.2.2.2.2.2.2.2.2.2.2.1 (⟨#[]⟩ : ByteArray) 77).bind fun a7 => ((impl_ExecToken.f k a7.1 a7.2.1 a7.2.2.1 a7.2.2.2.1 a7.2.2.2.2.1 a7.2.2.2.2.2.1 a7.2.2.2.2.2.2.1 a7.2.2.2.2.2.2.2.1 a7.2.2.2.2.2.2.2.2.1 a7.2.2.2.2.2.2.2.2.2.1 a7.2.2.2.2.2.2.2.2.2.2.1 a7.2.2.2.2.2.2.2.2.2.2.2.1 a7.2.2.2.2.2.2.2.2.2.2.2.2.1 (⟨#[103, 114, 97, 121]⟩ : ByteArray) 0).bind fun a3 => ((impl_ExecToken.f k a3.1 a3.2.1 a3.2.2.1 a3.2.2.2.1 a3.2.2.2.2.1 a3.2.2.2.2.2.1 a3.2.2.2.2.2.2.1 a3.2.2.2.2.2.2.2.1 a3.2.2.2.2.2.2.2.2.1 a3.2.2.2.2.2.2.2.2.2.1 a3.2.2.2.2.2.2.2.2.2.2.1 a3.2.2.2.2.2.2.2.2.2.2.2.1 a3.2.2.2.2.2.2.2.2.2.2.2.2.1 (⟨#[114, 101, 115, 116, 111, 114, 101]⟩ : ByteArray) 0).bind fun a5 => ((impl_PageOk.f k a2.1 a2.2.1 a2.2.2.1 a2.2.2.2.1 a2.2.2.2.2.1 a2.2.2.2.2.2.1 a2.2.2.2.2.2.2.1 a2.2.2.2.2.2.2.2.1 a2.2.2.2.2.2.2.2.2.1 a2.2.2.2.2.2.2.2.2.2.1 a2.2.2.2.2.2.2.2.2.2.2.1 a2.2.2.2.2.2.2.2.2.2.2.2.1 a2.2.2.2.2.2.2.2.2.2.2.2.2).bind fun a9 => (if a9 = true then ((impl_PageOk.f k a6.1 a6.2.1 a6.2.2.1 a6.2.2.2.1 a6.2.2.2.2.1 a6.2.2.2.2.2.1 a6.2.2.2.2.2.2.1 a6.2.2.2.2.2.2.2.1 a6.2.2.2.2.2.2.2.2.1 a6.2.2.2.2.2.2.2.2.2.1 a6.2.2.2.2.2.2.2.2.2.2.1 a6.2.2.2.2.2.2.2.2.2.2.2.1 a6.2.2.2.2.2.2.2.2.2.2.2.2.1).bind fun b0 => (if b0 = true then (laws_FnPages.j0 k a6.2.2.2.2.2.2.2.2.2.2.2.2.2 a7.2.2.2.2.2.2.2.2.2.2.2.2.2 a3.2.2.2.2.2.2.2.2.2.2.2.2.2 a5.2.2.2.2.2.2.2.2.2.2.2.2.2 (a6.2.2.2.2.2.2.2.2.2.2.2.2.2 != (decide ((a2.2.2.2.2.2.2.2.2.2.2.2.1.length : Int) < 4))) a2.1 a2.2.1 a2.2.2.1 a2.2.2.2.1 a2.2.2.2.2.1 a2.2.2.2.2.2.1 a2.2.2.2.2.2.2.1 a2.2.2.2.2.2.2.2.1 a2.2.2.2.2.2.2.2.2.1 a2.2.2.2.2.2.2.2.2.2.1 a2.2.2.2.2.2.2.2.2.2.2.1 a2.2.2.2.2.2.2.2.2.2.2.2.1 a2.2.2.2.2.2.2.2.2.2.2.2.2 a3.1 a3.2.1 a3.2.2.1 a3.2.2.2.1 a3.2.2.2.2.1 a3.2.2.2.2.2.1 a3.2.2.2.2.2.2.1 a3.2.2.2.2.2.2.2.1 a3.2.2.2.2.2.2.2.2.1 a3.2.2.2.2.2.2.2.2.2.1 a3.2.2.2.2.2.2.2.2.2.2.1 a3.2.2.2.2.2.2.2.2.2.2.2.1 a3.2.2.2.2.2.2.2.2.2.2.2.2.1 a5.1 a5.2.1 a5.2.2.1 a5.2.2.2.1 a5.2.2.2.2.1 a5.2.2.2.2.2.1 a5.2.2.2.2.2.2.1 a5.2.2.2.2.2.2.2.1 a5.2.2.2.2.2.2.2.2.1 a5.2.2.2.2.2.2.2.2.2.1 a5.2.2.2.2.2.2.2.2.2.2.1 a5.2.2.2.2.2.2.2.2.2.2.2.1 a5.2.2.2.2.2.2.2.2.2.2.2.2.1) else (laws_FnPages.j0 k a6.2.2.2.2.2.2.2.2.2.2.2.2.2 a7.2.2.2.2.2.2.2.2.2.2.2.2.2 a3.2.2.2.2.2.2.2.2.2.2.2.2.2 a5.2.2.2.2.2.2.2.2.2.2.2.2.2 true a2.1 a2.2.1 a2.2.2.1 a2.2.2.2.1 a2.2.2.2.2.1 a2.2.2.2.2.2.1 a2.2.2.2.2.2.2.1 a2.2.2.2.2.2.2.2.1 a2.2.2.2.2.2.2.2.2.1 a2.2.2.2.2.2.2.2.2.2.1 a2.2.2.2.2.2.2.2.2.2.2.1 a2.2.2.2.2.2.2.2.2.2.2.2.1 a2.2.2.2.2.2.2.2.2.2.2.2.2 a3.1 a3.2.1 a3.2.2.1 a3.2.2.2.1 a3.2.2.2.2.1 a3.2.2.2.2.2.1 a3.2.2.2.2.2.2.1 a3.2.2.2.2.2.2.2.1 a3.2.2.2.2.2.2.2.2.1 a3.2.2.2.2.2.2.2.2.2.1 a3.2.2.2.2.2.2.2.2.2.2.1 a3.2.2.2.2.2.2.2.2.2.2.2.1 a3.2.2.2.2.2.2.2.2.2.2.2.2.1 a5.1 a5.2.1 a5.2.2.1 a5.2.2.2.1 a5.2.2.2.2.1 a5.2.2.2.2.2.1 a5.2.2.2.2.2.2.1 a5.2.2.2.2.2.2.2.1 a5.2.2.2.2.2.2.2.2.1 a5.2.2.2.2.2.2.2.2.2.1 a5.2.2.2.2.2.2.2.2.2.2.1 a5.2.2.2.2.2.2.2.2.2.2.2.1 a5.2.2.2.2.2.2.2.2.2.2.2.2.1))) else (laws_FnPages.j0 k a6.2.2.2.2.2.2.2.2.2.2.2.2.2 a7.2.2.2.2.2.2.2.2.2.2.2.2.2 a3.2.2.2.2.2.2.2.2.2.2.2.2.2 a5.2.2.2.2.2.2.2.2.2.2.2.2.2 true a2.1 a2.2.1 a2.2.2.1 a2.2.2.2.1 a2.2.2.2.2.1 a2.2.2.2.2.2.1 a2.2.2.2.2.2.2.1 a2.2.2.2.2.2.2.2.1 a2.2.2.2.2.2.2.2.2.1 a2.2.2.2.2.2.2.2.2.2.1 a2.2.2.2.2.2.2.2.2.2.2.1 a2.2.2.2.2.2.2.2.2.2.2.2.1 a2.2.2.2.2.2.2.2.2.2.2.2.2 a3.1 a3.2.1 a3.2.2.1 a3.2.2.2.1 a3.2.2.2.2.1 a3.2.2.2.2.2.1 a3.2.2.2.2.2.2.1 a3.2.2.2.2.2.2.2.1 a3.2.2.2.2.2.2.2.2.1 a3.2.2.2.2.2.2.2.2.2.1 a3.2.2.2.2.2.2.2.2.2.2.1 a3.2.2.2.2.2.2.2.2.2.2.2.1 a3.2.2.2.2.2.2.2.2.2.2.2.2.1 a5.1 a5.2.1 a5.2.2.1 a5.2.2.2.1 a5.2.2.2.2.1 a5.2.2.2.2.2.1 a5.2.2.2.2.2.2.1 a5.2.2.2.2.2.2.2.1 a5.2.2.2.2.2.2.2.2.1 a5.2.2.2.2.2.2.2.2.2.1 a5.2.2.2.2.2.2.2.2.2.2.1 a5.2.2.2.2.2.2.2.2.2.2.2.1 a5.2.2.2.2.2.2.2.2.2.2.2.2.1)))))))))
theorem laws_FnPages.calls (k : Nat) (A0 : Option Addr) (c0 : Nat) (l0 : List Int) (r : Bool) (w : World) (hr0 : Kd.C (Kd.int .u8) w A0 l0.length l0) (G8 : l0.length ≤ c0) (h : laws_FnPages.f k l0 = some r) (hT : r = true) :
  Calls Try.prog 3 #[.slice A0 l0.length c0] w fun e w' => e = .returned (.bool r) ∧ Below w.heap.size w w' := by
 have hu35 := Try.underlying35
 have hu40 := Try.underlying40
 have hu26 := Try.underlying26
 have hu31 := Try.underlying31
 have C9 := aM hr0
 have D0 := aM G8
 clear hr0 G8
 have HB := aM (Below.refl w.heap.size w)
 have H := h
 clear h
 unfold laws_FnPages.f at H
 replace H := bN H
 obtain ⟨y2, A2, H⟩ := H
 by_cases c3 : y2 = true
 ·subst c3
  rw [if_pos rfl] at H
  obtain rfl := Option.some.inj H
  (try clear hT)
  go_enter Try.func3, Try.ntmps3
  go_wp2_with (first | ((with_reducible refine gC 4 ?_); refine cL (some 12) Try.func4 #[.slice A0 l0.length c0] ?_; (with_reducible refine (laws_big.calls _ _ l0 _ _ ?side1 ?side2 A2.out).mono ?_); (case side1 => exact cS C9.out); (case side2 => exact D0.out); rintro e w' ⟨rfl, ⟨nd, rfl⟩⟩; refine ⟨_, rfl, ?_⟩))
  go_ret
  exact ⟨eS, bS⟩
 ·obtain rfl := Bool.eq_false_iff.mpr c3
  rw [if_neg nF] at H
  replace H := bN H
  obtain ⟨⟨g7, h5, h6, h7, h8, g8, h9, i6, i7, i8, i9, g4, g5⟩, A4, H⟩ := H
  replace H := bN H
  obtain ⟨⟨j7, m7, m8, m9, n0, j8, n1, n2, n5, n6, n7, j9, k0, r3⟩, A5, H⟩ := H
  replace H := bN H
  obtain ⟨⟨r6, r7, s0, s1, s2, s3, s4, s5, s6, s7, s8, s9, t0, t1⟩, A6, H⟩ := H
  replace H := bN H
  obtain ⟨⟨k1, n8, o0, o1, o4, k2, l9, o5, o6, o7, o8, k3, k4, t2⟩, A7, H⟩ := H
  replace H := bN H
  obtain ⟨⟨l3, m0, m1, m2, m3, l4, m4, o9, q0, q2, q3, j5, j6, r4⟩, A8, H⟩ := H
  have D1 := aM H
  clear H
  go_enter Try.func3, Try.ntmps3
  go_upto_region 8 with (first | ((with_reducible refine gC 4 ?_); refine cL (some 12) Try.func4 #[.slice A0 l0.length c0] ?_; (with_reducible refine (laws_big.calls _ _ l0 _ _ ?side1 ?side2 A2.out).mono ?_); (case side1 => exact cS C9.out); (case side2 => exact D0.out); rintro e w' ⟨rfl, ⟨nd, rfl⟩⟩; refine ⟨_, rfl, ?_⟩) | ((with_reducible refine gC 5 ?_); refine cL (some 14) Try.func5 #[.slice A0 l0.length c0] ?_; (with_reducible refine (spec_DrawPage.calls k _ _ l0 g7 h5 h6 h7 h8 g8 h9 i6 i7 i8 i9 g4 g5 _ ?side1 ?side2 A4.out).mono ?_); (case side1 => exact cS C9.out); (case side2 => exact D0.out); rintro e P4 ⟨G9, H2, H3, H4, rfl, k5, k6, k7, k9, hb⟩; refine ⟨_, rfl, ?_⟩; have a7 := aM (Kd.V_lower (Kd.V_mono (ok' := fun k_ => True) k5 (fun k_ hk_ => trivial)) (below_size bS)); have a8 := aM (Kd.V_lower (Kd.V_mono (ok' := fun k_ => True) k6 (fun k_ hk_ => trivial)) (below_size bS)); have a9 := aM (Kd.V_lower (Kd.V_mono (ok' := fun k_ => True) k7 (fun k_ hk_ => trivial)) (below_size bS)); have b0 := aM (Kd.V_lower (Kd.V_mono (ok' := fun k_ => True) k9 (fun k_ hk_ => trivial)) (below_size bS)); replace HB := hB hb; (try clear hb k5 k6 k7 k9)) | ((with_reducible refine gD 3 ?_); refine bxE #[.slice none 0 0, .int .i64 0, .int .i64 0, .int .i64 0, .int .i64 0, .slice none 0 0, .int .i64 0, .int .i64 0, .int .i64 0, .int .i64 0, .int .i64 0, .slice none 0 0, .slice none 0 0] 35 ?_; intro a5 hg P5 b8 hb; have GE1038 := gE hg; replace a7 := vE (vS [] a7) hg hb; replace a8 := vE (vS [] a8) hg hb; replace a9 := vE (vS [] a9) hg hb; replace b0 := vE (vS [] b0) hg hb; replace HB := hB hb; clear hb hg; obtain ⟨q5, q6, D2⟩ := Kd.V_slice a7.out; subst D2; have hz13 := cz13 b8; obtain ⟨q7, q8, D3⟩ := Kd.V_slice a8.out; subst D3; obtain ⟨q9, r0, D4⟩ := Kd.V_slice a9.out; subst D4; obtain ⟨r1, r2, D5⟩ := Kd.V_slice b0.out; subst D5) | ((with_reducible refine gC 6 ?_); refine cL (some 18) Try.func6 #[.agg #[.slice q5 g7.length q6, .int .i64 h5, .int .i64 h6, .int .i64 h7, .int .i64 h8, .slice q7 g8.length q8, .int .i64 h9, .int .i64 i6, .int .i64 i7, .int .i64 i8, .int .i64 i9, .slice q9 g4.length r0, .slice r1 g5.length r2], .agg #[.string (⟨#[115, 97, 118, 101]⟩ : ByteArray), .int .i64 0]] ?_; (with_reducible refine (impl_ExecToken.calls k _ _ g7 h5 h6 h7 h8 _ _ g8 h9 i6 i7 i8 i9 _ _ g4 _ _ g5 (⟨#[115, 97, 118, 101]⟩ : ByteArray) 0 j7 m7 m8 m9 n0 j8 n1 n2 n5 n6 n7 j9 k0 r3 _ ?side1 ?side2 ?side3 ?side4 ?side5 ?side6 ?side7 ?side8 A5.out).mono ?_); (case side1 => exact vC [a5] a7); (case side2 => exact (Kd.V_reads' a7.out).2.1); (case side3 => exact vC [a5] a8); (case side4 => exact (Kd.V_reads' a8.out).2.1); (case side5 => exact vC [a5] a9); (case side6 => exact (Kd.V_reads' a9.out).2.1); (case side7 => exact vC [a5] b0); (case side8 => exact (Kd.V_reads' b0.out).2.1); rintro e P6 ⟨H5, H6, H7, H8, rfl, k5, k6, k7, k9, hb⟩; refine ⟨_, rfl, ?_⟩; have b1 := aM (Kd.V_lower (Kd.V_mono (ok' := fun k_ => k_ ≠ a5) k5 (fun k_ hk_ => (Kd.freshB (g := a5) kS k_ hk_))) (below_size bS)); have b2 := aM (Kd.V_lower (Kd.V_mono (ok' := fun k_ => k_ ≠ a5) k6 (fun k_ hk_ => (Kd.freshB (g := a5) kS k_ hk_))) (below_size bS)); have b6 := aM (Kd.V_lower (Kd.V_mono (ok' := fun k_ => k_ ≠ a5) k7 (fun k_ hk_ => (Kd.freshB (g := a5) kS k_ hk_))) (below_size bS)); have b7 := aM (Kd.V_lower (Kd.V_mono (ok' := fun k_ => k_ ≠ a5) k9 (fun k_ hk_ => (Kd.freshB (g := a5) kS k_ hk_))) (below_size bS)); replace a7 := vB (vS [a5] a7) hb; replace a8 := vB (vS [a5] a8) hb; replace a9 := vB (vS [a5] a9) hb; replace b0 := vB (vS [a5] b0) hb; replace b8 := kB_ a5 hb; replace HB := hB hb; (try clear hb hk k5 k6 k7 k9)) | ((with_reducible refine gD 4 ?_); refine bxE #[.slice none 0 0, .int .i64 0, .int .i64 0, .int .i64 0, .int .i64 0, .slice none 0 0, .int .i64 0, .int .i64 0, .int .i64 0, .int .i64 0, .int .i64 0, .slice none 0 0, .slice none 0 0] 35 ?_; intro a6 hg P7 f8 hb; have GE1061 := gE hg; have g9 := nL_ a5 hg; have h0 := nG_ a5 hg; replace a7 := vE (vS [] a7) hg hb; replace a8 := vE (vS [] a8) hg hb; replace a9 := vE (vS [] a9) hg hb; replace b0 := vE (vS [] b0) hg hb; replace b1 := vE (vS [] b1) hg hb; replace b2 := vE (vS [] b2) hg hb; replace b6 := vE (vS [] b6) hg hb; replace b7 := vE (vS [] b7) hg hb; replace b8 := kB_ a5 hb; replace HB := hB hb; clear hb hg; obtain ⟨t3, t4, D6⟩ := Kd.V_slice b1.out; subst D6; have hnb20 := nP h0 g9; have hz21 := cz13 f8; obtain ⟨t5, t6, D7⟩ := Kd.V_slice b2.out; subst D7; obtain ⟨t7, t8, D8⟩ := Kd.V_slice b6.out; subst D8; obtain ⟨t9, u0, D9⟩ := Kd.V_slice b7.out; subst D9) | ((with_reducible refine gC 6 ?_); refine cL (some 24) Try.func6 #[.agg #[.slice t3 j7.length t4, .int .i64 m7, .int .i64 m8, .int .i64 m9, .int .i64 n0, .slice t5 j8.length t6, .int .i64 n1, .int .i64 n2, .int .i64 n5, .int .i64 n6, .int .i64 n7, .slice t7 j9.length t8, .slice t9 k0.length u0], .agg #[.string (⟨#[]⟩ : ByteArray), .int .i64 77]] ?_; (with_reducible refine (impl_ExecToken.calls k _ _ j7 m7 m8 m9 n0 _ _ j8 n1 n2 n5 n6 n7 _ _ j9 _ _ k0 (⟨#[]⟩ : ByteArray) 77 r6 r7 s0 s1 s2 s3 s4 s5 s6 s7 s8 s9 t0 t1 _ ?side1 ?side2 ?side3 ?side4 ?side5 ?side6 ?side7 ?side8 A6.out).mono ?_); (case side1 => exact vC [a6] b1); (case side2 => exact (Kd.V_reads' b1.out).2.1); (case side3 => exact vC [a6] b2); (case side4 => exact (Kd.V_reads' b2.out).2.1); (case side5 => exact vC [a6] b6); (case side6 => exact (Kd.V_reads' b6.out).2.1); (case side7 => exact vC [a6] b7); (case side8 => exact (Kd.V_reads' b7.out).2.1); rintro e P8 ⟨H9, I0, I1, I2, rfl, k5, k6, k7, k9, hb⟩; refine ⟨_, rfl, ?_⟩; have d1 := aM (Kd.V_lower (Kd.V_mono (ok' := fun k_ => k_ ≠ a5 ∧ k_ ≠ a6) k5 (fun k_ hk_ => ⟨(Kd.freshB (g := a5) kS k_ hk_), (Kd.freshB (g := a6) kS k_ hk_)⟩)) (below_size bS)); have d2 := aM (Kd.V_lower (Kd.V_mono (ok' := fun k_ => k_ ≠ a5 ∧ k_ ≠ a6) k6 (fun k_ hk_ => ⟨(Kd.freshB (g := a5) kS k_ hk_), (Kd.freshB (g := a6) kS k_ hk_)⟩)) (below_size bS)); have d3 := aM (Kd.V_lower (Kd.V_mono (ok' := fun k_ => k_ ≠ a5 ∧ k_ ≠ a6) k7 (fun k_ hk_ => ⟨(Kd.freshB (g := a5) kS k_ hk_), (Kd.freshB (g := a6) kS k_ hk_)⟩)) (below_size bS)); have d4 := aM (Kd.V_lower (Kd.V_mono (ok' := fun k_ => k_ ≠ a5 ∧ k_ ≠ a6) k9 (fun k_ hk_ => ⟨(Kd.freshB (g := a5) kS k_ hk_), (Kd.freshB (g := a6) kS k_ hk_)⟩)) (below_size bS)); replace a7 := vB (vS [a6] a7) hb; replace a8 := vB (vS [a6] a8) hb; replace a9 := vB (vS [a6] a9) hb; replace b0 := vB (vS [a6] b0) hb; replace b1 := vB (vS [a6] b1) hb; replace b2 := vB (vS [a6] b2) hb; replace b6 := vB (vS [a6] b6) hb; replace b7 := vB (vS [a6] b7) hb; replace b8 := kB_ a5 hb; replace f8 := kB_ a6 hb; replace HB := hB hb; (try clear hb hk k5 k6 k7 k9)) | ((with_reducible refine gD 6 ?_); refine bxE #[.slice none 0 0, .int .i64 0, .int .i64 0, .int .i64 0, .int .i64 0, .slice none 0 0, .int .i64 0, .int .i64 0, .int .i64 0, .int .i64 0, .int .i64 0, .slice none 0 0, .slice none 0 0] 35 ?_; intro a3 hg P9 f9 hb; have GE1084 := gE hg; have h1 := nL_ a5 hg; have h2 := nG_ a5 hg; have i1 := nL_ a6 hg; have i3 := nG_ a6 hg; replace a7 := vE (vS [] a7) hg hb; replace a8 := vE (vS [] a8) hg hb; replace a9 := vE (vS [] a9) hg hb; replace b0 := vE (vS [] b0) hg hb; replace b1 := vE (vS [] b1) hg hb; replace b2 := vE (vS [] b2) hg hb; replace b6 := vE (vS [] b6) hg hb; replace b7 := vE (vS [] b7) hg hb; replace d1 := vE (vS [] d1) hg hb; replace d2 := vE (vS [] d2) hg hb; replace d3 := vE (vS [] d3) hg hb; replace d4 := vE (vS [] d4) hg hb; replace b8 := kB_ a5 hb; replace f8 := kB_ a6 hb; replace HB := hB hb; clear hb hg; obtain ⟨E0, E1, E2⟩ := Kd.V_slice d1.out; subst E2; have hnb28 := nP h2 h1; have hnb29 := nP i3 i1; have hz30 := cz13 f9; obtain ⟨E3, E4, E5⟩ := Kd.V_slice d2.out; subst E5; obtain ⟨E6, E7, E8⟩ := Kd.V_slice d3.out; subst E8; obtain ⟨E9, F2, F3⟩ := Kd.V_slice d4.out; subst F3) | ((with_reducible refine gC 6 ?_); refine cL (some 30) Try.func6 #[.agg #[.slice E0 r6.length E1, .int .i64 r7, .int .i64 s0, .int .i64 s1, .int .i64 s2, .slice E3 s3.length E4, .int .i64 s4, .int .i64 s5, .int .i64 s6, .int .i64 s7, .int .i64 s8, .slice E6 s9.length E7, .slice E9 t0.length F2], .agg #[.string (⟨#[103, 114, 97, 121]⟩ : ByteArray), .int .i64 0]] ?_; (with_reducible refine (impl_ExecToken.calls k _ _ r6 r7 s0 s1 s2 _ _ s3 s4 s5 s6 s7 s8 _ _ s9 _ _ t0 (⟨#[103, 114, 97, 121]⟩ : ByteArray) 0 k1 n8 o0 o1 o4 k2 l9 o5 o6 o7 o8 k3 k4 t2 _ ?side1 ?side2 ?side3 ?side4 ?side5 ?side6 ?side7 ?side8 A7.out).mono ?_); (case side1 => exact vC [a3] d1); (case side2 => exact (Kd.V_reads' d1.out).2.1); (case side3 => exact vC [a3] d2); (case side4 => exact (Kd.V_reads' d2.out).2.1); (case side5 => exact vC [a3] d3); (case side6 => exact (Kd.V_reads' d3.out).2.1); (case side7 => exact vC [a3] d4); (case side8 => exact (Kd.V_reads' d4.out).2.1); rintro e Q0 ⟨I3, I4, I5, I6, rfl, k5, k6, k7, k9, hb⟩; refine ⟨_, rfl, ?_⟩; have f4 := aM (Kd.V_lower (Kd.V_mono (ok' := fun k_ => k_ ≠ a5 ∧ k_ ≠ a6 ∧ k_ ≠ a3) k5 (fun k_ hk_ => ⟨(Kd.freshB (g := a5) kS k_ hk_), (Kd.freshB (g := a6) kS k_ hk_), (Kd.freshB (g := a3) kS k_ hk_)⟩)) (below_size bS)); have f5 := aM (Kd.V_lower (Kd.V_mono (ok' := fun k_ => k_ ≠ a5 ∧ k_ ≠ a6 ∧ k_ ≠ a3) k6 (fun k_ hk_ => ⟨(Kd.freshB (g := a5) kS k_ hk_), (Kd.freshB (g := a6) kS k_ hk_), (Kd.freshB (g := a3) kS k_ hk_)⟩)) (below_size bS)); have f6 := aM (Kd.V_lower (Kd.V_mono (ok' := fun k_ => k_ ≠ a5 ∧ k_ ≠ a6 ∧ k_ ≠ a3) k7 (fun k_ hk_ => ⟨(Kd.freshB (g := a5) kS k_ hk_), (Kd.freshB (g := a6) kS k_ hk_), (Kd.freshB (g := a3) kS k_ hk_)⟩)) (below_size bS)); have f7 := aM (Kd.V_lower (Kd.V_mono (ok' := fun k_ => k_ ≠ a5 ∧ k_ ≠ a6 ∧ k_ ≠ a3) k9 (fun k_ hk_ => ⟨(Kd.freshB (g := a5) kS k_ hk_), (Kd.freshB (g := a6) kS k_ hk_), (Kd.freshB (g := a3) kS k_ hk_)⟩)) (below_size bS)); replace a7 := vB (vS [a3] a7) hb; replace a8 := vB (vS [a3] a8) hb; replace a9 := vB (vS [a3] a9) hb; replace b0 := vB (vS [a3] b0) hb; replace b1 := vB (vS [a3] b1) hb; replace b2 := vB (vS [a3] b2) hb; replace b6 := vB (vS [a3] b6) hb; replace b7 := vB (vS [a3] b7) hb; replace d1 := vB (vS [a3] d1) hb; replace d2 := vB (vS [a3] d2) hb; replace d3 := vB (vS [a3] d3) hb; replace d4 := vB (vS [a3] d4) hb; replace b8 := kB_ a5 hb; replace f8 := kB_ a6 hb; replace f9 := kB_ a3 hb; replace HB := hB hb; (try clear hb hk k5 k6 k7 k9); obtain ⟨u1, u2, F4⟩ := Kd.V_slice f4.out; subst F4; have hz36 := cz13 f9; obtain ⟨u3, u4, F5⟩ := Kd.V_slice f5.out; subst F5; obtain ⟨u5, u6, F6⟩ := Kd.V_slice f6.out; subst F6; obtain ⟨u7, u9, F7⟩ := Kd.V_slice f7.out; subst F7) | ((with_reducible refine gC 6 ?_); refine cL (some 36) Try.func6 #[.agg #[.slice u1 k1.length u2, .int .i64 n8, .int .i64 o0, .int .i64 o1, .int .i64 o4, .slice u3 k2.length u4, .int .i64 l9, .int .i64 o5, .int .i64 o6, .int .i64 o7, .int .i64 o8, .slice u5 k3.length u6, .slice u7 k4.length u9], .agg #[.string (⟨#[114, 101, 115, 116, 111, 114, 101]⟩ : ByteArray), .int .i64 0]] ?_; (with_reducible refine (impl_ExecToken.calls k _ _ k1 n8 o0 o1 o4 _ _ k2 l9 o5 o6 o7 o8 _ _ k3 _ _ k4 (⟨#[114, 101, 115, 116, 111, 114, 101]⟩ : ByteArray) 0 l3 m0 m1 m2 m3 l4 m4 o9 q0 q2 q3 j5 j6 r4 _ ?side1 ?side2 ?side3 ?side4 ?side5 ?side6 ?side7 ?side8 A8.out).mono ?_); (case side1 => exact vC [a3] f4); (case side2 => exact (Kd.V_reads' f4.out).2.1); (case side3 => exact vC [a3] f5); (case side4 => exact (Kd.V_reads' f5.out).2.1); (case side5 => exact vC [a3] f6); (case side6 => exact (Kd.V_reads' f6.out).2.1); (case side7 => exact vC [a3] f7); (case side8 => exact (Kd.V_reads' f7.out).2.1); rintro e Q1 ⟨I7, I8, I9, J0, rfl, k5, k6, k7, k9, hb⟩; refine ⟨_, rfl, ?_⟩; have g0 := aM (Kd.V_lower (Kd.V_mono (ok' := fun k_ => k_ ≠ a5 ∧ k_ ≠ a6 ∧ k_ ≠ a3) k5 (fun k_ hk_ => ⟨(Kd.freshB (g := a5) kS k_ hk_), (Kd.freshB (g := a6) kS k_ hk_), (Kd.freshB (g := a3) kS k_ hk_)⟩)) (below_size bS)); have g1 := aM (Kd.V_lower (Kd.V_mono (ok' := fun k_ => k_ ≠ a5 ∧ k_ ≠ a6 ∧ k_ ≠ a3) k6 (fun k_ hk_ => ⟨(Kd.freshB (g := a5) kS k_ hk_), (Kd.freshB (g := a6) kS k_ hk_), (Kd.freshB (g := a3) kS k_ hk_)⟩)) (below_size bS)); have g2 := aM (Kd.V_lower (Kd.V_mono (ok' := fun k_ => k_ ≠ a5 ∧ k_ ≠ a6 ∧ k_ ≠ a3) k7 (fun k_ hk_ => ⟨(Kd.freshB (g := a5) kS k_ hk_), (Kd.freshB (g := a6) kS k_ hk_), (Kd.freshB (g := a3) kS k_ hk_)⟩)) (below_size bS)); have g3 := aM (Kd.V_lower (Kd.V_mono (ok' := fun k_ => k_ ≠ a5 ∧ k_ ≠ a6 ∧ k_ ≠ a3) k9 (fun k_ hk_ => ⟨(Kd.freshB (g := a5) kS k_ hk_), (Kd.freshB (g := a6) kS k_ hk_), (Kd.freshB (g := a3) kS k_ hk_)⟩)) (below_size bS)); replace a7 := vB (vS [a3] a7) hb; replace a8 := vB (vS [a3] a8) hb; replace a9 := vB (vS [a3] a9) hb; replace b0 := vB (vS [a3] b0) hb; replace b1 := vB (vS [a3] b1) hb; replace b2 := vB (vS [a3] b2) hb; replace b6 := vB (vS [a3] b6) hb; replace b7 := vB (vS [a3] b7) hb; replace d1 := vB (vS [a3] d1) hb; replace d2 := vB (vS [a3] d2) hb; replace d3 := vB (vS [a3] d3) hb; replace d4 := vB (vS [a3] d4) hb; replace f4 := vB (vS [a3] f4) hb; replace f5 := vB (vS [a3] f5) hb; replace f6 := vB (vS [a3] f6) hb; replace f7 := vB (vS [a3] f7) hb; replace b8 := kB_ a5 hb; replace f8 := kB_ a6 hb; replace f9 := kB_ a3 hb; replace HB := hB hb; (try clear hb hk k5 k6 k7 k9)) | ((with_reducible refine gD 9 ?_); refine bxE #[.slice none 0 0, .int .i64 0, .int .i64 0, .int .i64 0, .int .i64 0, .slice none 0 0, .int .i64 0, .int .i64 0, .int .i64 0, .int .i64 0, .int .i64 0, .slice none 0 0, .slice none 0 0] 35 ?_; intro a2 hg Q2 g6 hb; have GE1129 := gE hg; have h3 := nL_ a5 hg; have h4 := nG_ a5 hg; have i4 := nL_ a6 hg; have i5 := nG_ a6 hg; have m5 := nL_ a3 hg; have m6 := nG_ a3 hg; replace a7 := vE (vS [] a7) hg hb; replace a8 := vE (vS [] a8) hg hb; replace a9 := vE (vS [] a9) hg hb; replace b0 := vE (vS [] b0) hg hb; replace b1 := vE (vS [] b1) hg hb; replace b2 := vE (vS [] b2) hg hb; replace b6 := vE (vS [] b6) hg hb; replace b7 := vE (vS [] b7) hg hb; replace d1 := vE (vS [] d1) hg hb; replace d2 := vE (vS [] d2) hg hb; replace d3 := vE (vS [] d3) hg hb; replace d4 := vE (vS [] d4) hg hb; replace f4 := vE (vS [] f4) hg hb; replace f5 := vE (vS [] f5) hg hb; replace f6 := vE (vS [] f6) hg hb; replace f7 := vE (vS [] f7) hg hb; replace g0 := vE (vS [] g0) hg hb; replace g1 := vE (vS [] g1) hg hb; replace g2 := vE (vS [] g2) hg hb; replace g3 := vE (vS [] g3) hg hb; replace b8 := kB_ a5 hb; replace f8 := kB_ a6 hb; replace f9 := kB_ a3 hb; replace HB := hB hb; clear hb hg; obtain ⟨v0, v1, F8⟩ := Kd.V_slice g0.out; subst F8; have hnb43 := nP h4 h3; have hnb44 := nP i5 i4; have hnb45 := nP m6 m5; have hz46 := cz13 g6; obtain ⟨v2, v3, F9⟩ := Kd.V_slice g1.out; subst F9; obtain ⟨v4, v5, G0⟩ := Kd.V_slice g2.out; subst G0; obtain ⟨v6, v7, G1⟩ := Kd.V_slice g3.out; subst G1))
  (try simp only [Act.put, List.setIfInBounds_toArray, List.set_cons_zero, List.set_cons_succ])
  go_cut [54] (fun M6 wc => ∃ (kq : Nat) (r5 : Bool), M6 = .bool r5 ∧ Aside0 (laws_FnPages.j0 kq r3 t1 t2 r4 r5 g7 h5 h6 h7 h8 g8 h9 i6 i7 i8 i9 g4 g5 k1 n8 o0 o1 o4 k2 l9 o5 o6 o7 o8 k3 k4 l3 m0 m1 m2 m3 l4 m4 o9 q0 q2 q3 j5 j6 = some r) ∧ Aside0 (kq ≤ k) ∧ Aside0 (Kd.V (Kd.int .i64) 3 wc w.heap.size (fun k_ => k_ ≠ a5 ∧ k_ ≠ a6 ∧ k_ ≠ a3 ∧ k_ ≠ a2) (.slice q5 g7.length q6) g7) ∧ Aside0 (Kd.V k80 80 wc w.heap.size (fun k_ => k_ ≠ a5 ∧ k_ ≠ a6 ∧ k_ ≠ a3 ∧ k_ ≠ a2) (.slice q7 g8.length q8) g8) ∧ Aside0 (Kd.V k31 31 wc w.heap.size (fun k_ => k_ ≠ a5 ∧ k_ ≠ a6 ∧ k_ ≠ a3 ∧ k_ ≠ a2) (.slice q9 g4.length r0) g4) ∧ Aside0 (Kd.V k60 60 wc w.heap.size (fun k_ => k_ ≠ a5 ∧ k_ ≠ a6 ∧ k_ ≠ a3 ∧ k_ ≠ a2) (.slice r1 g5.length r2) g5) ∧ Aside0 (Kd.V (Kd.int .i64) 3 wc w.heap.size (fun k_ => k_ ≠ a5 ∧ k_ ≠ a6 ∧ k_ ≠ a3 ∧ k_ ≠ a2) (.slice t3 j7.length t4) j7) ∧ Aside0 (Kd.V k80 80 wc w.heap.size (fun k_ => k_ ≠ a5 ∧ k_ ≠ a6 ∧ k_ ≠ a3 ∧ k_ ≠ a2) (.slice t5 j8.length t6) j8) ∧ Aside0 (Kd.V k31 31 wc w.heap.size (fun k_ => k_ ≠ a5 ∧ k_ ≠ a6 ∧ k_ ≠ a3 ∧ k_ ≠ a2) (.slice t7 j9.length t8) j9) ∧ Aside0 (Kd.V k60 60 wc w.heap.size (fun k_ => k_ ≠ a5 ∧ k_ ≠ a6 ∧ k_ ≠ a3 ∧ k_ ≠ a2) (.slice t9 k0.length u0) k0) ∧ Aside0 (Kd.V (Kd.int .i64) 3 wc w.heap.size (fun k_ => k_ ≠ a5 ∧ k_ ≠ a6 ∧ k_ ≠ a3 ∧ k_ ≠ a2) (.slice u1 k1.length u2) k1) ∧ Aside0 (Kd.V k80 80 wc w.heap.size (fun k_ => k_ ≠ a5 ∧ k_ ≠ a6 ∧ k_ ≠ a3 ∧ k_ ≠ a2) (.slice u3 k2.length u4) k2) ∧ Aside0 (Kd.V k31 31 wc w.heap.size (fun k_ => k_ ≠ a5 ∧ k_ ≠ a6 ∧ k_ ≠ a3 ∧ k_ ≠ a2) (.slice u5 k3.length u6) k3) ∧ Aside0 (Kd.V k60 60 wc w.heap.size (fun k_ => k_ ≠ a5 ∧ k_ ≠ a6 ∧ k_ ≠ a3 ∧ k_ ≠ a2) (.slice u7 k4.length u9) k4) ∧ Aside0 (Kd.V (Kd.int .i64) 3 wc w.heap.size (fun k_ => k_ ≠ a5 ∧ k_ ≠ a6 ∧ k_ ≠ a3 ∧ k_ ≠ a2) (.slice v0 l3.length v1) l3) ∧ Aside0 (Kd.V k80 80 wc w.heap.size (fun k_ => k_ ≠ a5 ∧ k_ ≠ a6 ∧ k_ ≠ a3 ∧ k_ ≠ a2) (.slice v2 l4.length v3) l4) ∧ Aside0 (Kd.V k31 31 wc w.heap.size (fun k_ => k_ ≠ a5 ∧ k_ ≠ a6 ∧ k_ ≠ a3 ∧ k_ ≠ a2) (.slice v4 j5.length v5) j5) ∧ Aside0 (Kd.V k60 60 wc w.heap.size (fun k_ => k_ ≠ a5 ∧ k_ ≠ a6 ∧ k_ ≠ a3 ∧ k_ ≠ a2) (.slice v6 j6.length v7) j6) ∧ Aside0 (wc.heap[a5]? = some (.cells #[(.slice q5 g7.length q6), .int .i64 h5, .int .i64 h6, .int .i64 h7, .int .i64 h8, (.slice q7 g8.length q8), .int .i64 h9, .int .i64 i6, .int .i64 i7, .int .i64 i8, .int .i64 i9, (.slice q9 g4.length r0), (.slice r1 g5.length r2)] 35 (0, 0))) ∧ Aside0 (wc.heap[a6]? = some (.cells #[(.slice t3 j7.length t4), .int .i64 m7, .int .i64 m8, .int .i64 m9, .int .i64 n0, (.slice t5 j8.length t6), .int .i64 n1, .int .i64 n2, .int .i64 n5, .int .i64 n6, .int .i64 n7, (.slice t7 j9.length t8), (.slice t9 k0.length u0)] 35 (0, 0))) ∧ Aside0 (wc.heap[a3]? = some (.cells #[(.slice u1 k1.length u2), .int .i64 n8, .int .i64 o0, .int .i64 o1, .int .i64 o4, (.slice u3 k2.length u4), .int .i64 l9, .int .i64 o5, .int .i64 o6, .int .i64 o7, .int .i64 o8, (.slice u5 k3.length u6), (.slice u7 k4.length u9)] 35 (0, 0))) ∧ Aside0 (wc.heap[a2]? = some (.cells #[(.slice v0 l3.length v1), .int .i64 m0, .int .i64 m1, .int .i64 m2, .int .i64 m3, (.slice v2 l4.length v3), .int .i64 m4, .int .i64 o9, .int .i64 q0, .int .i64 q2, .int .i64 q3, (.slice v4 j5.length v5), (.slice v6 j6.length v7)] 35 (0, 0))) ∧ Aside0 (Below w.heap.size w wc))
  case first =>
   have H := D1.out
   clear D1
   replace H := bN H
   obtain ⟨y3, G2, H⟩ := H
   by_cases C4 : y3 = true
   ·subst C4
    rw [if_pos rfl] at H
    replace H := bN H
    obtain ⟨y4, J1, H⟩ := H
    by_cases C5 : y4 = true
    ·subst C5
     rw [if_pos rfl] at H
     have H' := aM H
     clear H
     have hnb54 := nP g9 h0
     have hnb55 := nP h1 h2
     have hnb56 := nP h3 h4
     have hz57 := cz13 b8
     go_wp2_with (first | ((with_reducible refine gC 7 ?_); refine cL (some 40) Try.func7 #[.agg #[.slice q5 g7.length q6, .int .i64 h5, .int .i64 h6, .int .i64 h7, .int .i64 h8, .slice q7 g8.length q8, .int .i64 h9, .int .i64 i6, .int .i64 i7, .int .i64 i8, .int .i64 i9, .slice q9 g4.length r0, .slice r1 g5.length r2]] ?_; (with_reducible refine (impl_PageOk.calls k _ _ g7 h5 h6 h7 h8 _ _ g8 h9 i6 i7 i8 i9 _ _ g4 _ _ g5 _ _ ?side1 ?side2 ?side3 ?side4 ?side5 ?side6 ?side7 ?side8 G2.out).mono ?_); (case side1 => exact vC [a2] a7); (case side2 => exact (Kd.V_reads' a7.out).2.1); (case side3 => exact vC [a2] a8); (case side4 => exact (Kd.V_reads' a8.out).2.1); (case side5 => exact vC [a2] a9); (case side6 => exact (Kd.V_reads' a9.out).2.1); (case side7 => exact vC [a2] b0); (case side8 => exact (Kd.V_reads' b0.out).2.1); rintro e Q3 ⟨rfl, hb⟩; refine ⟨_, rfl, ?_⟩; replace a7 := vB (vS [a2] a7) hb; replace a8 := vB (vS [a2] a8) hb; replace a9 := vB (vS [a2] a9) hb; replace b0 := vB (vS [a2] b0) hb; replace b1 := vB (vS [a2] b1) hb; replace b2 := vB (vS [a2] b2) hb; replace b6 := vB (vS [a2] b6) hb; replace b7 := vB (vS [a2] b7) hb; replace d1 := vB (vS [a2] d1) hb; replace d2 := vB (vS [a2] d2) hb; replace d3 := vB (vS [a2] d3) hb; replace d4 := vB (vS [a2] d4) hb; replace f4 := vB (vS [a2] f4) hb; replace f5 := vB (vS [a2] f5) hb; replace f6 := vB (vS [a2] f6) hb; replace f7 := vB (vS [a2] f7) hb; replace g0 := vB (vS [a2] g0) hb; replace g1 := vB (vS [a2] g1) hb; replace g2 := vB (vS [a2] g2) hb; replace g3 := vB (vS [a2] g3) hb; replace b8 := kB_ a5 hb; replace f8 := kB_ a6 hb; replace f9 := kB_ a3 hb; replace g6 := kB_ a2 hb; replace HB := hB hb; (try clear hb hk); have hnb59 := nP i1 i3; have hnb60 := nP i4 i5; have hz61 := cz13 f8) | (go_at_call 7; (with_reducible refine (impl_PageOk.calls k _ _ j7 m7 m8 m9 n0 _ _ j8 n1 n2 n5 n6 n7 _ _ j9 _ _ k0 _ _ ?side1 ?side2 ?side3 ?side4 ?side5 ?side6 ?side7 ?side8 J1.out).mono ?_); (case side1 => exact cS (Kd.V_reads' b1.out).2.2); (case side2 => exact (Kd.V_reads' b1.out).2.1); (case side3 => exact cS (Kd.V_reads' b2.out).2.2); (case side4 => exact (Kd.V_reads' b2.out).2.1); (case side5 => exact cS (Kd.V_reads' b6.out).2.2); (case side6 => exact (Kd.V_reads' b6.out).2.1); (case side7 => exact cS (Kd.V_reads' b7.out).2.2); (case side8 => exact (Kd.V_reads' b7.out).2.1); rintro e Q4 ⟨rfl, hb⟩; replace a7 := vB (vS [] a7) hb; replace a8 := vB (vS [] a8) hb; replace a9 := vB (vS [] a9) hb; replace b0 := vB (vS [] b0) hb; replace b1 := vB (vS [] b1) hb; replace b2 := vB (vS [] b2) hb; replace b6 := vB (vS [] b6) hb; replace b7 := vB (vS [] b7) hb; replace d1 := vB (vS [] d1) hb; replace d2 := vB (vS [] d2) hb; replace d3 := vB (vS [] d3) hb; replace d4 := vB (vS [] d4) hb; replace f4 := vB (vS [] f4) hb; replace f5 := vB (vS [] f5) hb; replace f6 := vB (vS [] f6) hb; replace f7 := vB (vS [] f7) hb; replace g0 := vB (vS [] g0) hb; replace g1 := vB (vS [] g1) hb; replace g2 := vB (vS [] g2) hb; replace g3 := vB (vS [] g3) hb; replace b8 := kB_ a5 hb; replace f8 := kB_ a6 hb; replace f9 := kB_ a3 hb; replace g6 := kB_ a2 hb; replace HB := hB hb; (try clear hb); have y5 := cg11 b8))
     go_meet
     case rel => exact ⟨_, ((r3 != (decide ((g4.length : Int) < 4)))), fS, H', ⟨by first | omega | exact Nat.le_refl _⟩, ⟨vO [] a7⟩, ⟨vO [] a8⟩, ⟨vO [] a9⟩, ⟨vO [] b0⟩, ⟨vO [] b1⟩, ⟨vO [] b2⟩, ⟨vO [] b6⟩, ⟨vO [] b7⟩, ⟨vO [] f4⟩, ⟨vO [] f5⟩, ⟨vO [] f6⟩, ⟨vO [] f7⟩, ⟨vO [] g0⟩, ⟨vO [] g1⟩, ⟨vO [] g2⟩, ⟨vO [] g3⟩, ⟨kS⟩, ⟨kS⟩, ⟨kS⟩, ⟨kS⟩, ⟨bS⟩⟩
    ·obtain rfl := Bool.eq_false_iff.mpr C5
     rw [if_neg nF] at H
     have H' := aM H
     clear H
     have hnb64 := nP g9 h0
     have hnb65 := nP h1 h2
     have hnb66 := nP h3 h4
     have hz67 := cz13 b8
     go_wp2_with (first | ((with_reducible refine gC 7 ?_); refine cL (some 40) Try.func7 #[.agg #[.slice q5 g7.length q6, .int .i64 h5, .int .i64 h6, .int .i64 h7, .int .i64 h8, .slice q7 g8.length q8, .int .i64 h9, .int .i64 i6, .int .i64 i7, .int .i64 i8, .int .i64 i9, .slice q9 g4.length r0, .slice r1 g5.length r2]] ?_; (with_reducible refine (impl_PageOk.calls k _ _ g7 h5 h6 h7 h8 _ _ g8 h9 i6 i7 i8 i9 _ _ g4 _ _ g5 _ _ ?side1 ?side2 ?side3 ?side4 ?side5 ?side6 ?side7 ?side8 G2.out).mono ?_); (case side1 => exact vC [a2] a7); (case side2 => exact (Kd.V_reads' a7.out).2.1); (case side3 => exact vC [a2] a8); (case side4 => exact (Kd.V_reads' a8.out).2.1); (case side5 => exact vC [a2] a9); (case side6 => exact (Kd.V_reads' a9.out).2.1); (case side7 => exact vC [a2] b0); (case side8 => exact (Kd.V_reads' b0.out).2.1); rintro e Q5 ⟨rfl, hb⟩; refine ⟨_, rfl, ?_⟩; replace a7 := vB (vS [a2] a7) hb; replace a8 := vB (vS [a2] a8) hb; replace a9 := vB (vS [a2] a9) hb; replace b0 := vB (vS [a2] b0) hb; replace b1 := vB (vS [a2] b1) hb; replace b2 := vB (vS [a2] b2) hb; replace b6 := vB (vS [a2] b6) hb; replace b7 := vB (vS [a2] b7) hb; replace d1 := vB (vS [a2] d1) hb; replace d2 := vB (vS [a2] d2) hb; replace d3 := vB (vS [a2] d3) hb; replace d4 := vB (vS [a2] d4) hb; replace f4 := vB (vS [a2] f4) hb; replace f5 := vB (vS [a2] f5) hb; replace f6 := vB (vS [a2] f6) hb; replace f7 := vB (vS [a2] f7) hb; replace g0 := vB (vS [a2] g0) hb; replace g1 := vB (vS [a2] g1) hb; replace g2 := vB (vS [a2] g2) hb; replace g3 := vB (vS [a2] g3) hb; replace b8 := kB_ a5 hb; replace f8 := kB_ a6 hb; replace f9 := kB_ a3 hb; replace g6 := kB_ a2 hb; replace HB := hB hb; (try clear hb hk); have hnb69 := nP i1 i3; have hnb70 := nP i4 i5; have hz71 := cz13 f8) | (go_at_call 7; (with_reducible refine (impl_PageOk.calls k _ _ j7 m7 m8 m9 n0 _ _ j8 n1 n2 n5 n6 n7 _ _ j9 _ _ k0 _ _ ?side1 ?side2 ?side3 ?side4 ?side5 ?side6 ?side7 ?side8 J1.out).mono ?_); (case side1 => exact cS (Kd.V_reads' b1.out).2.2); (case side2 => exact (Kd.V_reads' b1.out).2.1); (case side3 => exact cS (Kd.V_reads' b2.out).2.2); (case side4 => exact (Kd.V_reads' b2.out).2.1); (case side5 => exact cS (Kd.V_reads' b6.out).2.2); (case side6 => exact (Kd.V_reads' b6.out).2.1); (case side7 => exact cS (Kd.V_reads' b7.out).2.2); (case side8 => exact (Kd.V_reads' b7.out).2.1); rintro e Q6 ⟨rfl, hb⟩; replace a7 := vB (vS [] a7) hb; replace a8 := vB (vS [] a8) hb; replace a9 := vB (vS [] a9) hb; replace b0 := vB (vS [] b0) hb; replace b1 := vB (vS [] b1) hb; replace b2 := vB (vS [] b2) hb; replace b6 := vB (vS [] b6) hb; replace b7 := vB (vS [] b7) hb; replace d1 := vB (vS [] d1) hb; replace d2 := vB (vS [] d2) hb; replace d3 := vB (vS [] d3) hb; replace d4 := vB (vS [] d4) hb; replace f4 := vB (vS [] f4) hb; replace f5 := vB (vS [] f5) hb; replace f6 := vB (vS [] f6) hb; replace f7 := vB (vS [] f7) hb; replace g0 := vB (vS [] g0) hb; replace g1 := vB (vS [] g1) hb; replace g2 := vB (vS [] g2) hb; replace g3 := vB (vS [] g3) hb; replace b8 := kB_ a5 hb; replace f8 := kB_ a6 hb; replace f9 := kB_ a3 hb; replace g6 := kB_ a2 hb; replace HB := hB hb; (try clear hb)))
     go_meet
     case rel => exact ⟨_, (true), fS, H', ⟨by first | omega | exact Nat.le_refl _⟩, ⟨vO [] a7⟩, ⟨vO [] a8⟩, ⟨vO [] a9⟩, ⟨vO [] b0⟩, ⟨vO [] b1⟩, ⟨vO [] b2⟩, ⟨vO [] b6⟩, ⟨vO [] b7⟩, ⟨vO [] f4⟩, ⟨vO [] f5⟩, ⟨vO [] f6⟩, ⟨vO [] f7⟩, ⟨vO [] g0⟩, ⟨vO [] g1⟩, ⟨vO [] g2⟩, ⟨vO [] g3⟩, ⟨kS⟩, ⟨kS⟩, ⟨kS⟩, ⟨kS⟩, ⟨bS⟩⟩
   ·obtain rfl := Bool.eq_false_iff.mpr C4
    rw [if_neg nF] at H
    have H' := aM H
    clear H
    have hnb73 := nP g9 h0
    have hnb74 := nP h1 h2
    have hnb75 := nP h3 h4
    have hz76 := cz13 b8
    go_wp2_with (first | ((with_reducible refine gC 7 ?_); refine cL (some 40) Try.func7 #[.agg #[.slice q5 g7.length q6, .int .i64 h5, .int .i64 h6, .int .i64 h7, .int .i64 h8, .slice q7 g8.length q8, .int .i64 h9, .int .i64 i6, .int .i64 i7, .int .i64 i8, .int .i64 i9, .slice q9 g4.length r0, .slice r1 g5.length r2]] ?_; (with_reducible refine (impl_PageOk.calls k _ _ g7 h5 h6 h7 h8 _ _ g8 h9 i6 i7 i8 i9 _ _ g4 _ _ g5 _ _ ?side1 ?side2 ?side3 ?side4 ?side5 ?side6 ?side7 ?side8 G2.out).mono ?_); (case side1 => exact vC [a2] a7); (case side2 => exact (Kd.V_reads' a7.out).2.1); (case side3 => exact vC [a2] a8); (case side4 => exact (Kd.V_reads' a8.out).2.1); (case side5 => exact vC [a2] a9); (case side6 => exact (Kd.V_reads' a9.out).2.1); (case side7 => exact vC [a2] b0); (case side8 => exact (Kd.V_reads' b0.out).2.1); rintro e Q7 ⟨rfl, hb⟩; refine ⟨_, rfl, ?_⟩; replace a7 := vB (vS [a2] a7) hb; replace a8 := vB (vS [a2] a8) hb; replace a9 := vB (vS [a2] a9) hb; replace b0 := vB (vS [a2] b0) hb; replace b1 := vB (vS [a2] b1) hb; replace b2 := vB (vS [a2] b2) hb; replace b6 := vB (vS [a2] b6) hb; replace b7 := vB (vS [a2] b7) hb; replace d1 := vB (vS [a2] d1) hb; replace d2 := vB (vS [a2] d2) hb; replace d3 := vB (vS [a2] d3) hb; replace d4 := vB (vS [a2] d4) hb; replace f4 := vB (vS [a2] f4) hb; replace f5 := vB (vS [a2] f5) hb; replace f6 := vB (vS [a2] f6) hb; replace f7 := vB (vS [a2] f7) hb; replace g0 := vB (vS [a2] g0) hb; replace g1 := vB (vS [a2] g1) hb; replace g2 := vB (vS [a2] g2) hb; replace g3 := vB (vS [a2] g3) hb; replace b8 := kB_ a5 hb; replace f8 := kB_ a6 hb; replace f9 := kB_ a3 hb; replace g6 := kB_ a2 hb; replace HB := hB hb; (try clear hb hk)))
    go_meet
    case rel => exact ⟨_, (true), fS, H', ⟨by first | omega | exact Nat.le_refl _⟩, ⟨vO [] a7⟩, ⟨vO [] a8⟩, ⟨vO [] a9⟩, ⟨vO [] b0⟩, ⟨vO [] b1⟩, ⟨vO [] b2⟩, ⟨vO [] b6⟩, ⟨vO [] b7⟩, ⟨vO [] f4⟩, ⟨vO [] f5⟩, ⟨vO [] f6⟩, ⟨vO [] f7⟩, ⟨vO [] g0⟩, ⟨vO [] g1⟩, ⟨vO [] g2⟩, ⟨vO [] g3⟩, ⟨kS⟩, ⟨kS⟩, ⟨kS⟩, ⟨kS⟩, ⟨bS⟩⟩
  case rest =>
   clear D1
   try clear c2
   try clear p2
   try clear c3
   try clear c4
   try clear c5
   try clear c6
   try clear c7
   try clear M7
   try clear M8
   try clear M9
   try clear N1
   try clear N2
   try clear N3
   try clear C4
   try clear C5
   try clear N4
   try clear N5
   try clear N6
   try clear N7
   try clear N8
   try clear N9
   try clear O0
   try clear O1
   try clear O2
   try clear O3
   try clear O4
   try clear O5
   try clear O6
   obtain ⟨kq, r5, rfl, HA, HJ8, d5, d6, e0, e1, e2, e3, e4, e5, e6, e7, e8, e9, b9, d0, f0, f3, b8, f8, f9, g6, HB⟩ := hcut
   cases kq with
   | zero => exact absurd HA.out (by simp [laws_FnPages.j0])
   | succ kj8 =>
    have H := HA.out
    clear HA
    simp only [laws_FnPages.j0] at H
    by_cases G3 : r5 = true
    ·subst G3
     rw [if_pos rfl] at H
     exact absurd ((Option.some.inj H).trans hT) (by decide)
    ·obtain rfl := Bool.eq_false_iff.mpr G3
     rw [if_neg nF] at H
     have x9 := aM H
     clear H
     go_upto_region 10 with (fail)
     go_cut [64] (fun O7 wc => ∃ (kq : Nat) (q4 : Bool), O7 = .bool q4 ∧ Aside0 (laws_FnPages.j1 kq r4 q4 g7 h5 h6 h7 h8 g8 h9 i6 i7 i8 i9 g4 g5 k1 n8 o0 o1 o4 k2 l9 o5 o6 o7 o8 k3 k4 l3 m0 m1 m2 m3 l4 m4 o9 q0 q2 q3 j5 j6 = some r) ∧ Aside0 (kq ≤ kj8) ∧ Aside0 (Kd.V (Kd.int .i64) 3 wc w.heap.size (fun k_ => k_ ≠ a5 ∧ k_ ≠ a6 ∧ k_ ≠ a3 ∧ k_ ≠ a2) (.slice q5 g7.length q6) g7) ∧ Aside0 (Kd.V k80 80 wc w.heap.size (fun k_ => k_ ≠ a5 ∧ k_ ≠ a6 ∧ k_ ≠ a3 ∧ k_ ≠ a2) (.slice q7 g8.length q8) g8) ∧ Aside0 (Kd.V k31 31 wc w.heap.size (fun k_ => k_ ≠ a5 ∧ k_ ≠ a6 ∧ k_ ≠ a3 ∧ k_ ≠ a2) (.slice q9 g4.length r0) g4) ∧ Aside0 (Kd.V k60 60 wc w.heap.size (fun k_ => k_ ≠ a5 ∧ k_ ≠ a6 ∧ k_ ≠ a3 ∧ k_ ≠ a2) (.slice r1 g5.length r2) g5) ∧ Aside0 (Kd.V (Kd.int .i64) 3 wc w.heap.size (fun k_ => k_ ≠ a5 ∧ k_ ≠ a6 ∧ k_ ≠ a3 ∧ k_ ≠ a2) (.slice t3 j7.length t4) j7) ∧ Aside0 (Kd.V k80 80 wc w.heap.size (fun k_ => k_ ≠ a5 ∧ k_ ≠ a6 ∧ k_ ≠ a3 ∧ k_ ≠ a2) (.slice t5 j8.length t6) j8) ∧ Aside0 (Kd.V k31 31 wc w.heap.size (fun k_ => k_ ≠ a5 ∧ k_ ≠ a6 ∧ k_ ≠ a3 ∧ k_ ≠ a2) (.slice t7 j9.length t8) j9) ∧ Aside0 (Kd.V k60 60 wc w.heap.size (fun k_ => k_ ≠ a5 ∧ k_ ≠ a6 ∧ k_ ≠ a3 ∧ k_ ≠ a2) (.slice t9 k0.length u0) k0) ∧ Aside0 (Kd.V (Kd.int .i64) 3 wc w.heap.size (fun k_ => k_ ≠ a5 ∧ k_ ≠ a6 ∧ k_ ≠ a3 ∧ k_ ≠ a2) (.slice u1 k1.length u2) k1) ∧ Aside0 (Kd.V k80 80 wc w.heap.size (fun k_ => k_ ≠ a5 ∧ k_ ≠ a6 ∧ k_ ≠ a3 ∧ k_ ≠ a2) (.slice u3 k2.length u4) k2) ∧ Aside0 (Kd.V k31 31 wc w.heap.size (fun k_ => k_ ≠ a5 ∧ k_ ≠ a6 ∧ k_ ≠ a3 ∧ k_ ≠ a2) (.slice u5 k3.length u6) k3) ∧ Aside0 (Kd.V k60 60 wc w.heap.size (fun k_ => k_ ≠ a5 ∧ k_ ≠ a6 ∧ k_ ≠ a3 ∧ k_ ≠ a2) (.slice u7 k4.length u9) k4) ∧ Aside0 (Kd.V (Kd.int .i64) 3 wc w.heap.size (fun k_ => k_ ≠ a5 ∧ k_ ≠ a6 ∧ k_ ≠ a3 ∧ k_ ≠ a2) (.slice v0 l3.length v1) l3) ∧ Aside0 (Kd.V k80 80 wc w.heap.size (fun k_ => k_ ≠ a5 ∧ k_ ≠ a6 ∧ k_ ≠ a3 ∧ k_ ≠ a2) (.slice v2 l4.length v3) l4) ∧ Aside0 (Kd.V k31 31 wc w.heap.size (fun k_ => k_ ≠ a5 ∧ k_ ≠ a6 ∧ k_ ≠ a3 ∧ k_ ≠ a2) (.slice v4 j5.length v5) j5) ∧ Aside0 (Kd.V k60 60 wc w.heap.size (fun k_ => k_ ≠ a5 ∧ k_ ≠ a6 ∧ k_ ≠ a3 ∧ k_ ≠ a2) (.slice v6 j6.length v7) j6) ∧ Aside0 (wc.heap[a5]? = some (.cells #[(.slice q5 g7.length q6), .int .i64 h5, .int .i64 h6, .int .i64 h7, .int .i64 h8, (.slice q7 g8.length q8), .int .i64 h9, .int .i64 i6, .int .i64 i7, .int .i64 i8, .int .i64 i9, (.slice q9 g4.length r0), (.slice r1 g5.length r2)] 35 (0, 0))) ∧ Aside0 (wc.heap[a6]? = some (.cells #[(.slice t3 j7.length t4), .int .i64 m7, .int .i64 m8, .int .i64 m9, .int .i64 n0, (.slice t5 j8.length t6), .int .i64 n1, .int .i64 n2, .int .i64 n5, .int .i64 n6, .int .i64 n7, (.slice t7 j9.length t8), (.slice t9 k0.length u0)] 35 (0, 0))) ∧ Aside0 (wc.heap[a3]? = some (.cells #[(.slice u1 k1.length u2), .int .i64 n8, .int .i64 o0, .int .i64 o1, .int .i64 o4, (.slice u3 k2.length u4), .int .i64 l9, .int .i64 o5, .int .i64 o6, .int .i64 o7, .int .i64 o8, (.slice u5 k3.length u6), (.slice u7 k4.length u9)] 35 (0, 0))) ∧ Aside0 (wc.heap[a2]? = some (.cells #[(.slice v0 l3.length v1), .int .i64 m0, .int .i64 m1, .int .i64 m2, .int .i64 m3, (.slice v2 l4.length v3), .int .i64 m4, .int .i64 o9, .int .i64 q0, .int .i64 q2, .int .i64 q3, (.slice v4 j5.length v5), (.slice v6 j6.length v7)] 35 (0, 0))) ∧ Aside0 (Below w.heap.size w wc))
     case first =>
      have H := x9.out
      clear x9
      by_cases G4 : r3 = true
      ·subst G4
       rw [if_pos rfl] at H
       by_cases G5 : t1 = true
       ·subst G5
        rw [if_pos rfl] at H
        have H' := aM H
        clear H
        go_wp2
        go_meet
        case rel => exact ⟨_, (!t2), fS, H', ⟨by have := HJ8.out; first | omega | exact Nat.le_refl _⟩, ⟨vS [] d5⟩, ⟨vS [] d6⟩, ⟨vS [] e0⟩, ⟨vS [] e1⟩, ⟨vS [] e2⟩, ⟨vS [] e3⟩, ⟨vS [] e4⟩, ⟨vS [] e5⟩, ⟨vS [] e6⟩, ⟨vS [] e7⟩, ⟨vS [] e8⟩, ⟨vS [] e9⟩, ⟨vS [] b9⟩, ⟨vS [] d0⟩, ⟨vS [] f0⟩, ⟨vS [] f3⟩, ⟨kS⟩, ⟨kS⟩, ⟨kS⟩, ⟨kS⟩, ⟨bS⟩⟩
       ·obtain rfl := Bool.eq_false_iff.mpr G5
        rw [if_neg nF] at H
        have H' := aM H
        clear H
        go_wp2
        go_meet
        case rel => exact ⟨_, (true), fS, H', ⟨by have := HJ8.out; first | omega | exact Nat.le_refl _⟩, ⟨vS [] d5⟩, ⟨vS [] d6⟩, ⟨vS [] e0⟩, ⟨vS [] e1⟩, ⟨vS [] e2⟩, ⟨vS [] e3⟩, ⟨vS [] e4⟩, ⟨vS [] e5⟩, ⟨vS [] e6⟩, ⟨vS [] e7⟩, ⟨vS [] e8⟩, ⟨vS [] e9⟩, ⟨vS [] b9⟩, ⟨vS [] d0⟩, ⟨vS [] f0⟩, ⟨vS [] f3⟩, ⟨kS⟩, ⟨kS⟩, ⟨kS⟩, ⟨kS⟩, ⟨bS⟩⟩
      ·obtain rfl := Bool.eq_false_iff.mpr G4
       rw [if_neg nF] at H
       have H' := aM H
       clear H
       go_wp2
       go_meet
       case rel => exact ⟨_, (true), fS, H', ⟨by have := HJ8.out; first | omega | exact Nat.le_refl _⟩, ⟨vS [] d5⟩, ⟨vS [] d6⟩, ⟨vS [] e0⟩, ⟨vS [] e1⟩, ⟨vS [] e2⟩, ⟨vS [] e3⟩, ⟨vS [] e4⟩, ⟨vS [] e5⟩, ⟨vS [] e6⟩, ⟨vS [] e7⟩, ⟨vS [] e8⟩, ⟨vS [] e9⟩, ⟨vS [] b9⟩, ⟨vS [] d0⟩, ⟨vS [] f0⟩, ⟨vS [] f3⟩, ⟨kS⟩, ⟨kS⟩, ⟨kS⟩, ⟨kS⟩, ⟨bS⟩⟩
     case rest =>
      clear x9
      try clear c2
      try clear p2
      try clear c3
      try clear c4
      try clear c5
      try clear c6
      try clear c7
      try clear c8
      try clear M7
      try clear M8
      try clear M9
      try clear N1
      try clear N2
      try clear N3
      try clear C4
      try clear C5
      try clear N4
      try clear N5
      try clear N6
      try clear N7
      try clear N8
      try clear N9
      try clear O0
      try clear O1
      try clear O2
      try clear O3
      try clear O4
      try clear O5
      try clear O6
      try clear G3
      try clear G4
      try clear G5
      try clear p2
      obtain ⟨kq, q4, rfl, HA, HJ78, d5, d6, e0, e1, e2, e3, e4, e5, e6, e7, e8, e9, b9, d0, f0, f3, b8, f8, f9, g6, HB⟩ := hcut
      cases kq with
      | zero => exact absurd HA.out (by simp [laws_FnPages.j1])
      | succ kj78 =>
       have H := HA.out
       clear HA
       simp only [laws_FnPages.j1] at H
       by_cases J2 : q4 = true
       ·subst J2
        rw [if_pos rfl] at H
        obtain rfl := Option.some.inj H
        (try clear hT)
        go_wp2
        go_ret
        exact ⟨eS, bS⟩
       ·obtain rfl := Bool.eq_false_iff.mpr J2
        rw [if_neg nF] at H
        by_cases J3 : r4 = true
        ·subst J3
         rw [if_pos rfl] at H
         obtain ⟨G6, H⟩ := iG H hT
         have J4 : (l9 == 77) = true := beq_iff_eq.mpr G6
         have J5 : (l9 != 77) = false := bne_eq_false_iff_eq.mpr G6
         clear G6
         obtain ⟨G7, H⟩ := iG H hT
         have J6 : (m4 == h9) = true := beq_iff_eq.mpr G7
         have J7 : (m4 != h9) = false := bne_eq_false_iff_eq.mpr G7
         clear G7
         obtain ⟨y6, H⟩ := iG H hT
         have J8 : ((j5.length : Int) == (g4.length : Int)) = true := beq_iff_eq.mpr y6
         have J9 : ((j5.length : Int) != (g4.length : Int)) = false := bne_eq_false_iff_eq.mpr y6
         have K0 : (j5.length == g4.length) = true := by first | simpa using y6 | (simp at y6 ⊢; omega)
         clear y6
         obtain ⟨C6, H⟩ := iG H hT
         have K1 : (m0 == h5 && (m1 == h6 && (m2 == h7 && (m3 == h8)))) = true := C6
         (try (have K2 : decide (m0 = h5 && (m1 == h6 && (m2 == h7 && (m3 == h8)))) = true := by simpa using C6))
         (try (have K3 : (m0 == h5 && (m1 == h6 && (m2 == h7 && (m3 == h8)))) = true := by simpa using C6))
         clear C6
         obtain ⟨y7, H⟩ := iG H hT
         have K4 : ((j6.length : Int) == (g5.length : Int)) = true := beq_iff_eq.mpr y7
         have K5 : ((j6.length : Int) != (g5.length : Int)) = false := bne_eq_false_iff_eq.mpr y7
         have K6 : (j6.length == g5.length) = true := by first | simpa using y7 | (simp at y7 ⊢; omega)
         clear y7
         replace H := bN H
         obtain ⟨⟨v8, v9, w8, w9, x0, x1, x2, x3, x4, x5, x6, x7, x8⟩, O8, H⟩ := H
         replace H := bN H
         obtain ⟨y8, O9, H⟩ := H
         by_cases K7 : y8 = true
         ·subst K7
          rw [if_pos rfl] at H
          replace H := bN H
          obtain ⟨y9, P0, H⟩ := H
          obtain rfl := Option.some.inj H
          (try clear hT)
          have hnb93 := nP h2 h1
          have hnb94 := nP i3 i1
          have hnb95 := nP m5 m6
          have C7 := cg6 f9
          have hnb97 := nP h4 h3
          have hnb98 := nP i5 i4
          have hz99 := cz13 g6
          have hnb100 := nP g9 h0
          have A1 := cg1 b8
          have A3 := cg2 b8
          have A9 := cg3 b8
          have B0 := cg4 b8
          have B2 := cg6 b8
          have y0 := cg11 b8
          have y1 := cg12 b8
          go_wp2_with (first | (go_at_call 8; (with_reducible refine (impl_NewPage.calls  v8 v9 w8 w9 x0 x1 x2 x3 x4 x5 x6 x7 x8 _ O8.out).mono ?_); rintro e P1 ⟨K8, K9, L0, L1, rfl, k5, k6, k7, k9, hb⟩; have l5 := aM (Kd.R_lower k5 (below_size bS)); have l6 := aM (Kd.R_lower k6 (below_size bS)); have l7 := aM (Kd.S_lower k7 (below_size bS)); have l8 := aM (Kd.S_lower k9 (below_size bS)); replace d5 := vT4 (vS [] d5) hb (Kd.R_base k5) (Kd.R_base k6) (Kd.S_base k7) (Kd.S_base k9); replace d6 := vT4 (vS [] d6) hb (Kd.R_base k5) (Kd.R_base k6) (Kd.S_base k7) (Kd.S_base k9); replace e0 := vT4 (vS [] e0) hb (Kd.R_base k5) (Kd.R_base k6) (Kd.S_base k7) (Kd.S_base k9); replace e1 := vT4 (vS [] e1) hb (Kd.R_base k5) (Kd.R_base k6) (Kd.S_base k7) (Kd.S_base k9); replace e2 := vT4 (vS [] e2) hb (Kd.R_base k5) (Kd.R_base k6) (Kd.S_base k7) (Kd.S_base k9); replace e3 := vT4 (vS [] e3) hb (Kd.R_base k5) (Kd.R_base k6) (Kd.S_base k7) (Kd.S_base k9); replace e4 := vT4 (vS [] e4) hb (Kd.R_base k5) (Kd.R_base k6) (Kd.S_base k7) (Kd.S_base k9); replace e5 := vT4 (vS [] e5) hb (Kd.R_base k5) (Kd.R_base k6) (Kd.S_base k7) (Kd.S_base k9); replace e6 := vT4 (vS [] e6) hb (Kd.R_base k5) (Kd.R_base k6) (Kd.S_base k7) (Kd.S_base k9); replace e7 := vT4 (vS [] e7) hb (Kd.R_base k5) (Kd.R_base k6) (Kd.S_base k7) (Kd.S_base k9); replace e8 := vT4 (vS [] e8) hb (Kd.R_base k5) (Kd.R_base k6) (Kd.S_base k7) (Kd.S_base k9); replace e9 := vT4 (vS [] e9) hb (Kd.R_base k5) (Kd.R_base k6) (Kd.S_base k7) (Kd.S_base k9); replace b9 := vT4 (vS [] b9) hb (Kd.R_base k5) (Kd.R_base k6) (Kd.S_base k7) (Kd.S_base k9); replace d0 := vT4 (vS [] d0) hb (Kd.R_base k5) (Kd.R_base k6) (Kd.S_base k7) (Kd.S_base k9); replace f0 := vT4 (vS [] f0) hb (Kd.R_base k5) (Kd.R_base k6) (Kd.S_base k7) (Kd.S_base k9); replace f3 := vT4 (vS [] f3) hb (Kd.R_base k5) (Kd.R_base k6) (Kd.S_base k7) (Kd.S_base k9); replace b8 := kB_ a5 hb; replace f8 := kB_ a6 hb; replace f9 := kB_ a3 hb; replace g6 := kB_ a2 hb; replace HB := hB hb; (try clear hb k5 k6 k7 k9); obtain ⟨L2, L6, B8⟩ := Kd.R_slice l5.out; subst B8; obtain ⟨L8, L9, C0⟩ := Kd.R_slice l6.out; subst C0; obtain ⟨M1, M3, C2⟩ := Kd.S_slice l7.out; subst C2; obtain ⟨M4, M5, C3⟩ := Kd.S_slice l8.out; subst C3) | (go_at_call 7; (with_reducible refine (impl_PageOk.calls kj78 _ _ v8 v9 w8 w9 x0 _ _ x1 x2 x3 x4 x5 x6 _ _ x7 _ _ x8 _ _ (cS (Kd.R_reads' l5.out).2.2) ((Kd.R_reads' l5.out).2.1) (cS (Kd.R_reads' l6.out).2.2) ((Kd.R_reads' l6.out).2.1) (cS (Kd.S_reads' l7.out).2.2) ((Kd.S_reads' l7.out).2.1) (cS (Kd.S_reads' l8.out).2.2) ((Kd.S_reads' l8.out).2.1) O9.out).mono ?_); rintro e P2 ⟨rfl, hb⟩; replace d5 := vB (vS [] d5) hb; replace d6 := vB (vS [] d6) hb; replace e0 := vB (vS [] e0) hb; replace e1 := vB (vS [] e1) hb; replace e2 := vB (vS [] e2) hb; replace e3 := vB (vS [] e3) hb; replace e4 := vB (vS [] e4) hb; replace e5 := vB (vS [] e5) hb; replace e6 := vB (vS [] e6) hb; replace e7 := vB (vS [] e7) hb; replace e8 := vB (vS [] e8) hb; replace e9 := vB (vS [] e9) hb; replace b9 := vB (vS [] b9) hb; replace d0 := vB (vS [] d0) hb; replace f0 := vB (vS [] f0) hb; replace f3 := vB (vS [] f3) hb; replace l5 := rB l5 hb; replace l6 := rB l6 hb; replace l7 := sB l7 hb; replace l8 := sB l8 hb; replace b8 := kB_ a5 hb; replace f8 := kB_ a6 hb; replace f9 := kB_ a3 hb; replace g6 := kB_ a2 hb; replace HB := hB hb; (try clear hb); have hz108 := cz13 g6) | (go_at_call 9; (with_reducible refine (impl_GraphicsOk.calls kj78 _ _ l3 m0 m1 m2 m3 _ _ l4 m4 o9 q0 q2 q3 y9 _ ?side1 ?side2 ?side3 ?side4 P0.out).mono ?_); (case side1 => exact cS (Kd.V_reads' b9.out).2.2); (case side2 => exact (Kd.V_reads' b9.out).2.1); (case side3 => exact cS (Kd.V_reads' d0.out).2.2); (case side4 => exact (Kd.V_reads' d0.out).2.1); rintro e P3 ⟨rfl, hb⟩; replace d5 := vB (vS [] d5) hb; replace d6 := vB (vS [] d6) hb; replace e0 := vB (vS [] e0) hb; replace e1 := vB (vS [] e1) hb; replace e2 := vB (vS [] e2) hb; replace e3 := vB (vS [] e3) hb; replace e4 := vB (vS [] e4) hb; replace e5 := vB (vS [] e5) hb; replace e6 := vB (vS [] e6) hb; replace e7 := vB (vS [] e7) hb; replace e8 := vB (vS [] e8) hb; replace e9 := vB (vS [] e9) hb; replace b9 := vB (vS [] b9) hb; replace d0 := vB (vS [] d0) hb; replace f0 := vB (vS [] f0) hb; replace f3 := vB (vS [] f3) hb; replace l5 := rB l5 hb; replace l6 := rB l6 hb; replace l7 := sB l7 hb; replace l8 := sB l8 hb; replace b8 := kB_ a5 hb; replace f8 := kB_ a6 hb; replace f9 := kB_ a3 hb; replace g6 := kB_ a2 hb; replace HB := hB hb; (try clear hb)))
          go_ret
          exact ⟨eS, bS⟩
         ·obtain rfl := Bool.eq_false_iff.mpr K7
          rw [if_neg nF] at H
          exact absurd ((Option.some.inj H).trans hT) (by decide)
        ·obtain rfl := Bool.eq_false_iff.mpr J3
         rw [if_neg nF] at H
         exact absurd ((Option.some.inj H).trans hT) (by decide)

end Go.Proofs.Ytjodcfjaedhpeaa.QFnPages
