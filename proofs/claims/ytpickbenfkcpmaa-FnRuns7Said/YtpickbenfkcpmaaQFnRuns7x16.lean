-- Made out of the translation by a program of this session (a changed copy of the print). Not trusted: Lean checks it.
import Derived.Test.YtpickbenfkcpmaaQFnRuns7x0
import Derived.Test.YtpickbenfkcpmaaQFnRuns7x1
import Derived.Test.YtpickbenfkcpmaaQFnRuns7x2
import Derived.Test.YtpickbenfkcpmaaQFnRuns7x4
import Derived.Test.YtpickbenfkcpmaaQFnRuns7x14
import Derived.Test.YtpickbenfkcpmaaQFnRuns7x15
namespace Go.Proofs.Ytpickbenfkcpmaa.QFnRuns7
open Go.RowKit Go.Proofs.YtpickbenfkcpmaaW.PrintWords Go.Proofs.YtpickbenfkcpmaaW.PrintLast Go.Proofs.YtpickbenfkcpmaaW.PrintMore
attribute [local go_sem] max2_int min2_int max_two min_two max_three min_three max_four min_four   -- for this text's walks alone
set_option linter.unusedVariables false
set_option linter.unusedSimpArgs false
set_option maxHeartbeats 8000000
set_option maxRecDepth 100000

/-! ### laws_FnRuns7: function 3 -/
mutual
def laws_FnRuns7.j0 : Nat → Int → List (S46) → Bool → List Int → Int → Int → Int → Int → List (S90) → Int → Int → Int → Int → Int → List (S33) → List (S82) → Option (Bool)
 | 0, _, _, _, _, _, _, _, _, _, _, _, _, _, _, _, _ => none
 | k + 1, x5, x6, f3, a5, b1, b2, b6, b7, b8, a6, b9, d0, d1, d2, d3, a7 => if f3 = true then (some false) else ((impl_NewPage.f).bind fun a3 => (laws_FnRuns7.l0 k x5 x6 0 a5 b1 b2 b6 b7 b8 a6 b9 d0 d1 d2 d3 a7 a3.1 a3.2.1 a3.2.2.1 a3.2.2.2.1 a3.2.2.2.2.1 a3.2.2.2.2.2.1 a3.2.2.2.2.2.2.1 a3.2.2.2.2.2.2.2.1 a3.2.2.2.2.2.2.2.2.1 a3.2.2.2.2.2.2.2.2.2.1 a3.2.2.2.2.2.2.2.2.2.2.1 a3.2.2.2.2.2.2.2.2.2.2.2.1 a3.2.2.2.2.2.2.2.2.2.2.2.2))
def laws_FnRuns7.l0 : Nat → Int → List (S46) → Int → List Int → Int → Int → Int → Int → List (S90) → Int → Int → Int → Int → Int → List (S33) → List (S82) → List Int → Int → Int → Int → Int → List (S90) → Int → Int → Int → Int → Int → List (S33) → List (S82) → Option (Bool)
 | 0, _, _, _, _, _, _, _, _, _, _, _, _, _, _, _, _, _, _, _, _, _, _, _, _, _, _, _, _, _ => none
 | k + 1, x5, x6, x9, a5, b1, b2, b6, b7, b8, a6, b9, d0, d1, d2, d3, a7, a8, d4, d5, d6, e0, e1, a9, e2, e3, e4, e5, e6, b0 => if x9 < x5 then (if 0 ≤ x9 then (if x9 < (x6.length : Int) then ((impl_ExecToken.f k a8 d4 d5 d6 e0 e1 a9 e2 e3 e4 e5 e6 b0 ((rd_T46 x6 x9).f0) ((rd_T46 x6 x9).f1)).bind fun a2 => (if a2.2.2.2.2.2.2.2.2.2.2.2.2.2 = true then (laws_FnRuns7.l0 k x5 x6 (wrap64 (x9 + 1)) a5 b1 b2 b6 b7 b8 a6 b9 d0 d1 d2 d3 a7 a2.1 a2.2.1 a2.2.2.1 a2.2.2.2.1 a2.2.2.2.2.1 a2.2.2.2.2.2.1 a2.2.2.2.2.2.2.1 a2.2.2.2.2.2.2.2.1 a2.2.2.2.2.2.2.2.2.1 a2.2.2.2.2.2.2.2.2.2.1 a2.2.2.2.2.2.2.2.2.2.2.1 a2.2.2.2.2.2.2.2.2.2.2.2.1 a2.2.2.2.2.2.2.2.2.2.2.2.2.1) else (some false))) else (none)) else (none)) else (if x5 < (x6.length : Int) then (if 0 ≤ x5 then ((impl_ExecToken.f k a8 d4 d5 d6 e0 e1 a9 e2 e3 e4 e5 e6 b0 ((rd_T46 x6 x5).f0) ((rd_T46 x6 x5).f1)).bind fun e7 => (if x5 ≥ 0 then (if x5 ≤ (x6.length : Int) then (if e7.2.2.2.2.2.2.2.2.2.2.2.2.2 = true then (some false) else (if (b0.length : Int) = (a7.length : Int) then ((laws_sameInts.f k a8 a5).bind fun e8 => (if e8 = true then (some (a9 == a6)) else (some false))) else (some false))) else (some false)) else (some false))) else (none)) else (if x5 ≥ 0 then (if x5 ≤ (x6.length : Int) then (if (b0.length : Int) = (a7.length : Int) then ((laws_sameInts.f k a8 a5).bind fun e9 => (if e9 = true then (some (a9 == a6)) else (some false))) else (some false)) else (some false)) else (some false)))
end
def laws_FnRuns7.f (k : Nat) (l0 : List Int) : Option (Bool) := (laws_big.f l0).bind fun a6 => (if a6 = true then (some true) else ((spec_DrawRunPage.f k l0).bind fun a5 => ((impl_RunPage.f k a5).bind fun a2 => ((impl_FlattenBlocks.f k a5).bind fun a3 => (if a3.2 = true then (if a2.2.2.2.2.2.2.2.2.2.2.2.2.2 < 0 then (laws_FnRuns7.j0 k a2.2.2.2.2.2.2.2.2.2.2.2.2.2 a3.1 true a2.1 a2.2.1 a2.2.2.1 a2.2.2.2.1 a2.2.2.2.2.1 a2.2.2.2.2.2.1 a2.2.2.2.2.2.2.1 a2.2.2.2.2.2.2.2.1 a2.2.2.2.2.2.2.2.2.1 a2.2.2.2.2.2.2.2.2.2.1 a2.2.2.2.2.2.2.2.2.2.2.1 a2.2.2.2.2.2.2.2.2.2.2.2.1 a2.2.2.2.2.2.2.2.2.2.2.2.2.1) else (laws_FnRuns7.j0 k a2.2.2.2.2.2.2.2.2.2.2.2.2.2 a3.1 (decide (a2.2.2.2.2.2.2.2.2.2.2.2.2.2 > (a3.1.length : Int))) a2.1 a2.2.1 a2.2.2.1 a2.2.2.2.1 a2.2.2.2.2.1 a2.2.2.2.2.2.1 a2.2.2.2.2.2.2.1 a2.2.2.2.2.2.2.2.1 a2.2.2.2.2.2.2.2.2.1 a2.2.2.2.2.2.2.2.2.2.1 a2.2.2.2.2.2.2.2.2.2.2.1 a2.2.2.2.2.2.2.2.2.2.2.2.1 a2.2.2.2.2.2.2.2.2.2.2.2.2.1)) else (some (a2.2.2.2.2.2.2.2.2.2.2.2.2.2 == (-1))))))))
theorem laws_FnRuns7.lf0 {p : Prop} (h : p := by
 go_enter Try.func3, Try.ntmps3
 go_wp2_with (first | ((with_reducible refine gC 4 ?_); refine cL (some 14) Try.func4 #[.slice A0 l0.length c0] ?_; (with_reducible refine (laws_big.calls _ _ l0 _ _ ?side1 ?side2 A2.out).mono ?_); (case side1 => exact cS x0.out); (case side2 => exact x1.out); rintro e w' ⟨rfl, ⟨nd, rfl⟩⟩; refine ⟨_, rfl, ?_⟩) | ((with_reducible refine gC 5 ?_); refine cL (some 16) Try.func5 #[.slice A0 l0.length c0] ?_; (with_reducible refine (spec_DrawRunPage.calls k _ _ l0 f9 _ ?side1 ?side2 A4.out).mono ?_); (case side1 => exact cS x0.out); (case side2 => exact x1.out); rintro e O2 ⟨y0, rfl, g6, hb⟩; refine ⟨_, rfl, ?_⟩; have e6 := aM (Kd.R_lower g6 (below_size bS)); replace HB := hB hb; (try clear hb g6); obtain ⟨n5, m1, y1⟩ := Kd.R_slice e6.out; subst y1) | ((with_reducible refine gC 6 ?_); refine cM (some 19) Try.func6 (impl_RunPage.calls k _ _ f9 g4 j9 k0 k1 k3 g9 k4 k5 k6 k7 k9 h0 f7 f8 _ (cS (Kd.R_reads' e6.out).2.2) ((Kd.R_reads' e6.out).2.1) A5.out) ?_; rintro e O3 ⟨y2, y3, y4, y5, rfl, g6, h7, h8, h9, hb⟩; refine ⟨_, rfl, ?_⟩; have g0 := aM (Kd.V_lower (Kd.V_mono (ok' := fun k_ => some k_ ≠ (.slice n5 f9.length m1 : Value).ownBlock) g6 (fun k_ hk_ => (Kd.fresh' (Kd.R_lt (rS e6)) k_ hk_))) (below_size bS)); have g1 := aM (Kd.V_lower (Kd.V_mono (ok' := fun k_ => some k_ ≠ (.slice n5 f9.length m1 : Value).ownBlock) h7 (fun k_ hk_ => (Kd.fresh' (Kd.R_lt (rS e6)) k_ hk_))) (below_size bS)); have g2 := aM (Kd.V_lower (Kd.V_mono (ok' := fun k_ => some k_ ≠ (.slice n5 f9.length m1 : Value).ownBlock) h8 (fun k_ hk_ => (Kd.fresh' (Kd.R_lt (rS e6)) k_ hk_))) (below_size bS)); have g3 := aM (Kd.V_lower (Kd.V_mono (ok' := fun k_ => some k_ ≠ (.slice n5 f9.length m1 : Value).ownBlock) h9 (fun k_ hk_ => (Kd.fresh' (Kd.R_lt (rS e6)) k_ hk_))) (below_size bS)); replace e6 := rB e6 hb; replace HB := hB hb; (try clear hb g6 h7 h8 h9)) | ((with_reducible refine gD 4 ?_); refine bxE #[.slice none 0 0, .int .i64 0, .int .i64 0, .int .i64 0, .int .i64 0, .slice none 0 0, .int .i64 0, .int .i64 0, .int .i64 0, .int .i64 0, .int .i64 0, .slice none 0 0, .slice none 0 0] 37 ?_; intro a5 hg K6 d3 hb; have GE894 := gE hg; replace e6 := rB e6 hb; replace g0 := vE (vS [] g0) hg hb; replace g1 := vE (vS [] g1) hg hb; replace g2 := vE (vS [] g2) hg hb; replace g3 := vE (vS [] g3) hg hb; replace HB := hB hb; clear hb hg; obtain ⟨G7, G8, s0⟩ := Kd.V_slice g0.out; subst s0; have hz102 := cz13 d3; obtain ⟨G9, H2, s1⟩ := Kd.V_slice g1.out; subst s1; obtain ⟨H3, H4, s2⟩ := Kd.V_slice g2.out; subst s2; obtain ⟨H5, H6, s3⟩ := Kd.V_slice g3.out; subst s3) | ((with_reducible refine gC 7 ?_); refine cL (some 24) Try.func7 #[.slice n5 f9.length m1] ?_; (with_reducible refine (impl_FlattenBlocks.calls k _ _ f9 e8 _ _ ?side1 ?side2 A6.out).mono ?_); (case side1 => refine (Kd.R_reads' (e := 46) (base := w.heap.size) (ok := fun k_ => True) (n := f9.length) (c := m1) ?_).2.2; exact (by exact rG e6 d3)); (case side2 => exact (Kd.R_reads' e6.out).2.1); rintro e K7 ⟨r1, rfl, g6, hb⟩; refine ⟨_, rfl, ?_⟩; have m3 := aM (Kd.V_lower (Kd.V_mono (ok' := fun k_ => some k_ ≠ (.slice n5 f9.length m1 : Value).ownBlock ∧ k_ ≠ a5) g6 (fun k_ hk_ => ⟨(Kd.fresh' (Kd.R_lt (by exact rG e6 d3)) k_ hk_), (Kd.freshB (g := a5) kS k_ hk_)⟩)) (below_size bS)); replace e6 := aM (Kd.R_below (by exact rG e6 d3) hb); replace g0 := vB (vS [a5] g0) hb; replace g1 := vB (vS [a5] g1) hb; replace g2 := vB (vS [a5] g2) hb; replace g3 := vB (vS [a5] g3) hb; replace d3 := kB_ a5 hb; replace HB := hB hb; (try clear hb hk g6)))
 go_ret
 exact ⟨eS, bS⟩) : p := h
theorem laws_FnRuns7.calls (k : Nat) (A0 : Option Addr) (c0 : Nat) (l0 : List Int) (r : Bool) (w : World) (hr0 : Kd.C (Kd.int .u8) w A0 l0.length l0) (H7 : l0.length ≤ c0) (h : laws_FnRuns7.f k l0 = some r) (hT : r = true) :
  Calls Try.prog 3 #[.slice A0 l0.length c0] w fun e w' => e = .returned (.bool r) ∧ Below w.heap.size w w' := by
 have hu37 := Try.underlying37
 have hu46 := Try.underlying46
 have x0 := aM hr0
 have x1 := aM H7
 clear hr0 H7
 have HB := aM (Below.refl w.heap.size w)
 have H := h
 clear h
 unfold laws_FnRuns7.f at H
 replace H := bN H
 obtain ⟨y6, A2, H⟩ := H
 by_cases c3 : y6 = true
 ·subst c3
  rw [if_pos rfl] at H
  obtain rfl := Option.some.inj H
  (try clear hT)
  exact laws_FnRuns7.lf0
 ·obtain rfl := Bool.eq_false_iff.mpr c3
  rw [if_neg nF] at H
  replace H := bN H
  obtain ⟨f9, A4, H⟩ := H
  replace H := bN H
  obtain ⟨⟨g4, j9, k0, k1, k3, g9, k4, k5, k6, k7, k9, h0, f7, f8⟩, A5, H⟩ := H
  replace H := bN H
  obtain ⟨⟨e8, y7⟩, A6, H⟩ := H
  by_cases c7 : y7 = true
  ·subst c7
   rw [if_pos rfl] at H
   have y8 := aM H
   clear H
   go_enter Try.func3, Try.ntmps3
   go_upto_region 8 with (first | ((with_reducible refine gC 4 ?_); refine cL (some 14) Try.func4 #[.slice A0 l0.length c0] ?_; (with_reducible refine (laws_big.calls _ _ l0 _ _ ?side1 ?side2 A2.out).mono ?_); (case side1 => exact cS x0.out); (case side2 => exact x1.out); rintro e w' ⟨rfl, ⟨nd, rfl⟩⟩; refine ⟨_, rfl, ?_⟩) | ((with_reducible refine gC 5 ?_); refine cL (some 16) Try.func5 #[.slice A0 l0.length c0] ?_; (with_reducible refine (spec_DrawRunPage.calls k _ _ l0 f9 _ ?side1 ?side2 A4.out).mono ?_); (case side1 => exact cS x0.out); (case side2 => exact x1.out); rintro e w9 ⟨y0, rfl, g6, hb⟩; refine ⟨_, rfl, ?_⟩; have e6 := aM (Kd.R_lower g6 (below_size bS)); replace HB := hB hb; (try clear hb g6); obtain ⟨n6, m2, y9⟩ := Kd.R_slice e6.out; subst y9) | ((with_reducible refine gC 6 ?_); refine cM (some 19) Try.func6 (impl_RunPage.calls k _ _ f9 g4 j9 k0 k1 k3 g9 k4 k5 k6 k7 k9 h0 f7 f8 _ (cS (Kd.R_reads' e6.out).2.2) ((Kd.R_reads' e6.out).2.1) A5.out) ?_; rintro e O4 ⟨y2, y3, y4, y5, rfl, g6, h7, h8, h9, hb⟩; refine ⟨_, rfl, ?_⟩; have g0 := aM (Kd.V_lower (Kd.V_mono (ok' := fun k_ => some k_ ≠ (.slice n6 f9.length m2 : Value).ownBlock) g6 (fun k_ hk_ => (Kd.fresh' (Kd.R_lt (rS e6)) k_ hk_))) (below_size bS)); have g1 := aM (Kd.V_lower (Kd.V_mono (ok' := fun k_ => some k_ ≠ (.slice n6 f9.length m2 : Value).ownBlock) h7 (fun k_ hk_ => (Kd.fresh' (Kd.R_lt (rS e6)) k_ hk_))) (below_size bS)); have g2 := aM (Kd.V_lower (Kd.V_mono (ok' := fun k_ => some k_ ≠ (.slice n6 f9.length m2 : Value).ownBlock) h8 (fun k_ hk_ => (Kd.fresh' (Kd.R_lt (rS e6)) k_ hk_))) (below_size bS)); have g3 := aM (Kd.V_lower (Kd.V_mono (ok' := fun k_ => some k_ ≠ (.slice n6 f9.length m2 : Value).ownBlock) h9 (fun k_ hk_ => (Kd.fresh' (Kd.R_lt (rS e6)) k_ hk_))) (below_size bS)); replace e6 := rB e6 hb; replace HB := hB hb; (try clear hb g6 h7 h8 h9)) | ((with_reducible refine gD 4 ?_); refine bxE #[.slice none 0 0, .int .i64 0, .int .i64 0, .int .i64 0, .int .i64 0, .slice none 0 0, .int .i64 0, .int .i64 0, .int .i64 0, .int .i64 0, .int .i64 0, .slice none 0 0, .slice none 0 0] 37 ?_; intro a5 hg O5 d3 hb; have GE894 := gE hg; replace e6 := rB e6 hb; replace g0 := vE (vS [] g0) hg hb; replace g1 := vE (vS [] g1) hg hb; replace g2 := vE (vS [] g2) hg hb; replace g3 := vE (vS [] g3) hg hb; replace HB := hB hb; clear hb hg; obtain ⟨l3, l4, A1⟩ := Kd.V_slice g0.out; subst A1; have hz14 := cz13 d3; obtain ⟨l5, l6, A3⟩ := Kd.V_slice g1.out; subst A3; obtain ⟨l7, l8, A7⟩ := Kd.V_slice g2.out; subst A7; obtain ⟨l9, m0, A8⟩ := Kd.V_slice g3.out; subst A8) | ((with_reducible refine gC 7 ?_); refine cL (some 24) Try.func7 #[.slice n6 f9.length m2] ?_; (with_reducible refine (impl_FlattenBlocks.calls k _ _ f9 e8 _ _ ?side1 ?side2 A6.out).mono ?_); (case side1 => refine (Kd.R_reads' (e := 46) (base := w.heap.size) (ok := fun k_ => True) (n := f9.length) (c := m2) ?_).2.2; exact (by exact rG e6 d3)); (case side2 => exact (Kd.R_reads' e6.out).2.1); rintro e O6 ⟨r1, rfl, g6, hb⟩; refine ⟨_, rfl, ?_⟩; have m3 := aM (Kd.V_lower (Kd.V_mono (ok' := fun k_ => some k_ ≠ (.slice n6 f9.length m2 : Value).ownBlock ∧ k_ ≠ a5) g6 (fun k_ hk_ => ⟨(Kd.fresh' (Kd.R_lt (by exact rG e6 d3)) k_ hk_), (Kd.freshB (g := a5) kS k_ hk_)⟩)) (below_size bS)); replace e6 := aM (Kd.R_below (by exact rG e6 d3) hb); replace g0 := vB (vS [a5] g0) hb; replace g1 := vB (vS [a5] g1) hb; replace g2 := vB (vS [a5] g2) hb; replace g3 := vB (vS [a5] g3) hb; replace d3 := kB_ a5 hb; replace HB := hB hb; (try clear hb hk g6)))
   (try simp only [Act.put, List.setIfInBounds_toArray, List.set_cons_zero, List.set_cons_succ])
   go_cut [38] (fun K8 wc => ∃ (kq : Nat) (m4 : Bool), K8 = .bool m4 ∧ Aside0 (laws_FnRuns7.j0 kq f8 e8 m4 g4 j9 k0 k1 k3 g9 k4 k5 k6 k7 k9 h0 f7 = some r) ∧ Aside0 (kq ≤ k) ∧ Aside0 (Kd.V k46 46 wc w.heap.size (fun k_ => k_ ≠ a5) r1 e8) ∧ Aside0 (Kd.V (Kd.int .i64) 3 wc w.heap.size (fun k_ => k_ ≠ a5) (.slice l3 g4.length l4) g4) ∧ Aside0 (Kd.V k90 90 wc w.heap.size (fun k_ => k_ ≠ a5) (.slice l5 g9.length l6) g9) ∧ Aside0 (Kd.V k33 33 wc w.heap.size (fun k_ => k_ ≠ a5) (.slice l7 h0.length l8) h0) ∧ Aside0 (Kd.V k82 82 wc w.heap.size (fun k_ => k_ ≠ a5) (.slice l9 f7.length m0) f7) ∧ Aside0 (wc.heap[a5]? = some (.cells #[(.slice l3 g4.length l4), .int .i64 j9, .int .i64 k0, .int .i64 k1, .int .i64 k3, (.slice l5 g9.length l6), .int .i64 k4, .int .i64 k5, .int .i64 k6, .int .i64 k7, .int .i64 k9, (.slice l7 h0.length l8), (.slice l9 f7.length m0)] 37 (0, 0))) ∧ Aside0 (Below w.heap.size w wc))
   case first =>
    have H := y8.out
    clear y8
    rcases iD H with ⟨h6, H⟩ | ⟨h6, H⟩
    ·(first | rw [h6] | (simp only [i64_w, i32_w]; rw [h6]) | skip)
     have H' := aM H
     clear H
     go_wp2
     go_meet
     case rel => exact ⟨_, (true), fS, H', ⟨by first | omega | exact Nat.le_refl _⟩, ⟨vO [] m3⟩, ⟨vO [] g0⟩, ⟨vO [] g1⟩, ⟨vO [] g2⟩, ⟨vO [] g3⟩, ⟨kS⟩, ⟨bS⟩⟩
    ·(first | rw [h6] | (simp only [i64_w, i32_w]; rw [h6]) | skip)
     have H' := aM H
     clear H
     obtain ⟨K9, L0, A9⟩ := Kd.V_slice m3.out
     subst A9
     go_wp2
     go_meet
     case rel => exact ⟨_, (decide (f8 > (e8.length : Int))), fS, H', ⟨by first | omega | exact Nat.le_refl _⟩, ⟨vO [] m3⟩, ⟨vO [] g0⟩, ⟨vO [] g1⟩, ⟨vO [] g2⟩, ⟨vO [] g3⟩, ⟨kS⟩, ⟨bS⟩⟩
   case rest =>
    clear y8
    try clear c1
    try clear p2
    try clear c3
    try clear c4
    try clear c5
    try clear c6
    try clear c7
    try clear L1
    try clear h6
    obtain ⟨kq, m4, rfl, HA, HJ7, e9, a7, b1, b2, b6, d3, HB⟩ := hcut
    cases kq with
    | zero => exact absurd HA.out (by simp [laws_FnRuns7.j0])
    | succ kj7 =>
     have H := HA.out
     clear HA
     simp only [laws_FnRuns7.j0] at H
     by_cases B0 : m4 = true
     ·subst B0
      rw [if_pos rfl] at H
      exact absurd ((Option.some.inj H).trans hT) (by decide)
     ·obtain rfl := Bool.eq_false_iff.mpr B0
      rw [if_neg nF] at H
      replace H := bN H
      obtain ⟨⟨r2, s4, s5, s6, s7, r3, s8, s9, t0, t1, t2, r4, r5⟩, L2, H⟩ := H
      have H' := aM H
      clear H
      go_wp2_with (first | ((with_reducible refine gC 8 ?_); refine cM (some 39) Try.func8 (impl_NewPage.calls  r2 s4 s5 s6 s7 r3 s8 s9 t0 t1 t2 r4 r5 _ L2.out) ?_; rintro e O7 ⟨L6, L8, L9, M1, rfl, g6, h7, h8, h9, hb⟩; refine ⟨_, rfl, ?_⟩; have m5 := aM (Kd.R_lower g6 (below_size bS)); have m6 := aM (Kd.R_lower h7 (below_size bS)); have m7 := aM (Kd.S_lower h8 (below_size bS)); have m8 := aM (Kd.S_lower h9 (below_size bS)); replace e9 := vT4 (vS [] e9) hb (Kd.R_base g6) (Kd.R_base h7) (Kd.S_base h8) (Kd.S_base h9); replace a7 := vT4 (vS [] a7) hb (Kd.R_base g6) (Kd.R_base h7) (Kd.S_base h8) (Kd.S_base h9); replace b1 := vT4 (vS [] b1) hb (Kd.R_base g6) (Kd.R_base h7) (Kd.S_base h8) (Kd.S_base h9); replace b2 := vT4 (vS [] b2) hb (Kd.R_base g6) (Kd.R_base h7) (Kd.S_base h8) (Kd.S_base h9); replace b6 := vT4 (vS [] b6) hb (Kd.R_base g6) (Kd.R_base h7) (Kd.S_base h8) (Kd.S_base h9); replace d3 := kB_ a5 hb; replace HB := hB hb; (try clear hb g6 h7 h8 h9)) | ((with_reducible refine gD 8 ?_); refine bxE #[.slice none 0 0, .int .i64 0, .int .i64 0, .int .i64 0, .int .i64 0, .slice none 0 0, .int .i64 0, .int .i64 0, .int .i64 0, .int .i64 0, .int .i64 0, .slice none 0 0, .slice none 0 0] 37 ?_; intro a2 hg O8 a3 hb; have GE920 := gE hg; have g7 := nL_ a5 hg; have g8 := nG_ a5 hg; replace e9 := vE (vS [] e9) hg hb; replace a7 := vE (vS [] a7) hg hb; replace b1 := vE (vS [] b1) hg hb; replace b2 := vE (vS [] b2) hg hb; replace b6 := vE (vS [] b6) hg hb; replace m5 := rB m5 hb; replace m6 := rB m6 hb; replace m7 := sB m7 hb; replace m8 := sB m8 hb; replace d3 := kB_ a5 hb; replace HB := hB hb; clear hb hg; obtain ⟨B2, B7, B8⟩ := Kd.R_slice m5.out; subst B8; have hnb26 := nP g8 g7; have hz27 := cz13 a3; obtain ⟨B9, C0, C2⟩ := Kd.R_slice m6.out; subst C2; obtain ⟨C3, C4, C5⟩ := Kd.S_slice m7.out; subst C5; obtain ⟨C6, C7, C9⟩ := Kd.S_slice m8.out; subst C9))
      go_loopg [9] kj7 (fun kq v9 w' => ∃ (f3 : Int) (b8 : List Int) (d4 : Int) (d5 : Int) (d6 : Int) (e0 : Int) (b9 : List (S90)) (e1 : Int) (e2 : Int) (e3 : Int) (e4 : Int) (e5 : Int) (d0 : List (S33)) (b7 : List (S82)) (i1 : Value) (i3 : Value) (i4 : Value) (i5 : Value), v9 = .int .i64 f3 ∧ Aside0 (laws_FnRuns7.l0 kq f8 e8 f3 g4 j9 k0 k1 k3 g9 k4 k5 k6 k7 k9 h0 f7 b8 d4 d5 d6 e0 b9 e1 e2 e3 e4 e5 d0 b7 = some r) ∧ Aside0 (kq ≤ kj7) ∧ Aside0 (Kd.V k46 46 w' w.heap.size (fun k_ => k_ ≠ a5 ∧ k_ ≠ a2) r1 e8) ∧ Aside0 (Kd.V (Kd.int .i64) 3 w' w.heap.size (fun k_ => k_ ≠ a5 ∧ k_ ≠ a2) (.slice l3 g4.length l4) g4) ∧ Aside0 (Kd.V k90 90 w' w.heap.size (fun k_ => k_ ≠ a5 ∧ k_ ≠ a2) (.slice l5 g9.length l6) g9) ∧ Aside0 (Kd.V k33 33 w' w.heap.size (fun k_ => k_ ≠ a5 ∧ k_ ≠ a2) (.slice l7 h0.length l8) h0) ∧ Aside0 (Kd.V k82 82 w' w.heap.size (fun k_ => k_ ≠ a5 ∧ k_ ≠ a2) (.slice l9 f7.length m0) f7) ∧ Aside0 (Kd.V (Kd.int .i64) 3 w' w.heap.size (fun k_ => k_ ≠ a5 ∧ k_ ≠ a2) i1 b8) ∧ Aside0 (Kd.V k90 90 w' w.heap.size (fun k_ => k_ ≠ a5 ∧ k_ ≠ a2) i3 b9) ∧ Aside0 (Kd.V k33 33 w' w.heap.size (fun k_ => k_ ≠ a5 ∧ k_ ≠ a2) i4 d0) ∧ Aside0 (Kd.V k82 82 w' w.heap.size (fun k_ => k_ ≠ a5 ∧ k_ ≠ a2) i5 b7) ∧ Aside0 (w'.heap[a5]? = some (.cells #[(.slice l3 g4.length l4), .int .i64 j9, .int .i64 k0, .int .i64 k1, .int .i64 k3, (.slice l5 g9.length l6), .int .i64 k4, .int .i64 k5, .int .i64 k6, .int .i64 k7, .int .i64 k9, (.slice l7 h0.length l8), (.slice l9 f7.length m0)] 37 (0, 0))) ∧ Aside0 (w'.heap[a2]? = some (.cells #[i1, .int .i64 d4, .int .i64 d5, .int .i64 d6, .int .i64 e0, i3, .int .i64 e1, .int .i64 e2, .int .i64 e3, .int .i64 e4, .int .i64 e5, i4, i5] 37 (0, 0))) ∧ Aside0 (Below w.heap.size w w'))
      case atStart => exact ⟨(0), (r2), (s4), (s5), (s6), (s7), (r3), (s8), (s9), (t0), (t1), (t2), (r4), (r5), (.slice B2 r2.length B7), (.slice B9 r3.length C0), (.slice C3 r4.length C4), (.slice C6 r5.length C7), fS, H', ⟨Nat.le_refl _⟩, ⟨vO [a2] e9⟩, ⟨vO [a2] a7⟩, ⟨vO [a2] b1⟩, ⟨vO [a2] b2⟩, ⟨vO [a2] b6⟩, ⟨Kd.R_V (by exact Kd.R_mono (R_on (g := a2) (Kd.R_types (Kd.R_types (Kd.R_types m5.out d3.out (by decide)) a3.out (by decide)) a3.out (by decide)) (fun _ hk => hk.2)) (fun _ hk => ⟨hk.1.1.2, hk.1.2⟩))⟩, ⟨Kd.R_V (by exact Kd.R_mono (R_on (g := a2) (Kd.R_types (Kd.R_types (Kd.R_types m6.out d3.out (by decide)) a3.out (by decide)) a3.out (by decide)) (fun _ hk => hk.2)) (fun _ hk => ⟨hk.1.1.2, hk.1.2⟩))⟩, ⟨Kd.S_V (by exact Kd.S_mono (S_on (g := a2) (Kd.S_types (Kd.S_types (Kd.S_types m7.out d3.out (by decide)) a3.out (by decide)) a3.out (by decide)) (fun _ hk => hk.2)) (fun _ hk => ⟨hk.1.1.2, hk.1.2⟩))⟩, ⟨Kd.S_V (by exact Kd.S_mono (S_on (g := a2) (Kd.S_types (Kd.S_types (Kd.S_types m8.out d3.out (by decide)) a3.out (by decide)) a3.out (by decide)) (fun _ hk => hk.2)) (fun _ hk => ⟨hk.1.1.2, hk.1.2⟩))⟩, ⟨kS⟩, ⟨kS⟩, ⟨bS⟩⟩
      case round =>
       clear H'
       try clear c1
       try clear c2
       try clear p2
       try clear c3
       try clear c4
       try clear c5
       try clear c6
       try clear c7
       try clear c8
       try clear L1
       try clear h6
       try clear B0
       try clear O9
       try clear p2
       obtain ⟨f3, b8, d4, d5, d6, e0, b9, e1, e2, e3, e4, e5, d0, b7, i1, i3, i4, i5, rfl, HA, H8, e9, a7, b1, b2, b6, a6, a9, b0, a8, d3, a3, HB⟩ := hrel
       cases gk with
       | zero => exact absurd HA.out (by simp [laws_FnRuns7.l0])
       | succ k2 =>
        have H := HA.out
        clear HA
        simp only [laws_FnRuns7.l0] at H
        rcases iD H with ⟨t3, H⟩ | ⟨t3, H⟩
        ·obtain ⟨H9, H⟩ := iT H
         obtain ⟨I0, H⟩ := iT H
         replace H := bN H
         obtain ⟨⟨n7, n8, o0, o1, o4, o5, o6, o7, o8, o9, q0, q2, q3, D0⟩, I1, H⟩ := H
         by_cases I2 : D0 = true
         ·subst I2
          rw [if_pos rfl] at H
          have H' := aM H
          clear H
          obtain ⟨i6, i7, D1⟩ := Kd.V_slice a6.out
          subst D1
          obtain ⟨i8, i9, D2⟩ := Kd.V_slice a9.out
          subst D2
          obtain ⟨j5, j6, D3⟩ := Kd.V_slice b0.out
          subst D3
          obtain ⟨j7, j8, D4⟩ := Kd.V_slice a8.out
          subst D4
          try go_wp2
          replace e9 := vD e9
          replace a7 := vD a7
          replace b1 := vD b1
          replace b2 := vD b2
          replace b6 := vD b6
          replace a6 := vD a6
          replace a9 := vD a9
          replace b0 := vD b0
          replace a8 := vD a8
          replace d3 := bD d3
          replace a3 := bD a3
          replace HB := hD HB
          obtain ⟨M3, t4, t5⟩ := Kd.V_slice e9.out
          (first | subst t5 | obtain ⟨rfl, rfl⟩ := slE t5)
          have q9 : 0 ≤ (f3 : Int) := dA
          have r0 : f3 < (e8.length : Int) := dA
          obtain ⟨g5, D5, m9, n0⟩ := at_T46 (Kd.V_reads' e9.out).2.2 f3 q9 r0
          cases D5
          replace q9 := eq_true q9
          replace r0 := eq_true r0
          refine start_ (n := 12) (S := fun w' => w'.cell? ⟨a2, 0, none⟩ = some (.slice i6 b8.length i7) ∧ w'.cell? ⟨a2, 1, none⟩ = some (.int .i64 d4) ∧ w'.cell? ⟨a2, 2, none⟩ = some (.int .i64 d5) ∧ w'.cell? ⟨a2, 3, none⟩ = some (.int .i64 d6) ∧ w'.cell? ⟨a2, 4, none⟩ = some (.int .i64 e0) ∧ w'.cell? ⟨a2, 5, none⟩ = some (.slice i8 b9.length i9) ∧ w'.cell? ⟨a2, 6, none⟩ = some (.int .i64 e1) ∧ w'.cell? ⟨a2, 7, none⟩ = some (.int .i64 e2) ∧ w'.cell? ⟨a2, 8, none⟩ = some (.int .i64 e3) ∧ w'.cell? ⟨a2, 9, none⟩ = some (.int .i64 e4) ∧ w'.cell? ⟨a2, 10, none⟩ = some (.int .i64 e5) ∧ w'.cell? ⟨a2, 11, none⟩ = some (.slice j5 d0.length j6) ∧ w'.cell? ⟨a2, 12, none⟩ = some (.slice j7 b7.length j8) ∧ w'.cell? (g5.add ((f3).toNat * 2)) = some (.string ((rd_T46 e8 f3).f0)) ∧ w'.cell? ⟨(g5.add ((f3).toNat * 2)).block, (g5.add ((f3).toNat * 2)).off + 1, none⟩ = some (.int .i64 ((rd_T46 e8 f3).f1))) (ds := []) (mB 12 0) (by kernel_rfl) rfl rfl ⟨(blk_cell a3.out 0).trans rfl, (blk_cell a3.out 1).trans rfl, (blk_cell a3.out 2).trans rfl, (blk_cell a3.out 3).trans rfl, (blk_cell a3.out 4).trans rfl, (blk_cell a3.out 5).trans rfl, (blk_cell a3.out 6).trans rfl, (blk_cell a3.out 7).trans rfl, (blk_cell a3.out 8).trans rfl, (blk_cell a3.out 9).trans rfl, (blk_cell a3.out 10).trans rfl, (blk_cell a3.out 11).trans rfl, (blk_cell a3.out 12).trans rfl, m9, n0⟩ (fun hHeld => ?_)
          generalize wr.drew = P0 at e9 a7 b1 b2 b6 a6 a9 b0 a8 d3 a3 HB m9 n0 hHeld ⊢
          refine pU 1 (some 47) (mB 12 2) ?_
          refine pU 2 (some 48) (mB 12 6) ?_
          refine pU 3 (some 49) (mB 12 14) ?_
          refine tK 0 (some 46) (mB 12 15) ?_
          refine tK 4 (some 50) (mB 12 31) ?_
          refine join_ (σ := Value × Value × Value × Value × Nat) 2 (mB 12 1023) (fun s_ => [(51, .tuple #[.agg #[s_.1, .int .i64 n8, .int .i64 o0, .int .i64 o1, .int .i64 o4, s_.2.1, .int .i64 o6, .int .i64 o7, .int .i64 o8, .int .i64 o9, .int .i64 q0, s_.2.2.1, s_.2.2.2.1], .bool true]), (10, .pointer (some ⟨s_.2.2.2.2, 0, none⟩)), (45, .tuple #[.agg #[s_.1, .int .i64 n8, .int .i64 o0, .int .i64 o1, .int .i64 o4, s_.2.1, .int .i64 o6, .int .i64 o7, .int .i64 o8, .int .i64 o9, .int .i64 q0, s_.2.2.1, s_.2.2.2.1], .bool true]), (52, .agg #[s_.1, .int .i64 n8, .int .i64 o0, .int .i64 o1, .int .i64 o4, s_.2.1, .int .i64 o6, .int .i64 o7, .int .i64 o8, .int .i64 o9, .int .i64 q0, s_.2.2.1, s_.2.2.2.1]), (53, .bool true)]) (fun s_ w' => (w'.cell? ⟨a2, 0, none⟩ = some (.slice i6 b8.length i7) ∧ w'.cell? ⟨a2, 1, none⟩ = some (.int .i64 d4) ∧ w'.cell? ⟨a2, 2, none⟩ = some (.int .i64 d5) ∧ w'.cell? ⟨a2, 3, none⟩ = some (.int .i64 d6) ∧ w'.cell? ⟨a2, 4, none⟩ = some (.int .i64 e0) ∧ w'.cell? ⟨a2, 5, none⟩ = some (.slice i8 b9.length i9) ∧ w'.cell? ⟨a2, 6, none⟩ = some (.int .i64 e1) ∧ w'.cell? ⟨a2, 7, none⟩ = some (.int .i64 e2) ∧ w'.cell? ⟨a2, 8, none⟩ = some (.int .i64 e3) ∧ w'.cell? ⟨a2, 9, none⟩ = some (.int .i64 e4) ∧ w'.cell? ⟨a2, 10, none⟩ = some (.int .i64 e5) ∧ w'.cell? ⟨a2, 11, none⟩ = some (.slice j5 d0.length j6) ∧ w'.cell? ⟨a2, 12, none⟩ = some (.slice j7 b7.length j8) ∧ w'.cell? (g5.add ((f3).toNat * 2)) = some (.string ((rd_T46 e8 f3).f0)) ∧ w'.cell? ⟨(g5.add ((f3).toNat * 2)).block, (g5.add ((f3).toNat * 2)).off + 1, none⟩ = some (.int .i64 ((rd_T46 e8 f3).f1))) ∧ (Kd.V (Kd.int .i64) 3 w' w.heap.size (fun k_ => k_ ≠ a5 ∧ k_ ≠ a2 ∧ k_ ≠ s_.2.2.2.2) s_.1 n7) ∧ (Kd.V k90 90 w' w.heap.size (fun k_ => k_ ≠ a5 ∧ k_ ≠ a2 ∧ k_ ≠ s_.2.2.2.2) s_.2.1 o5) ∧ (Kd.V k33 33 w' w.heap.size (fun k_ => k_ ≠ a5 ∧ k_ ≠ a2 ∧ k_ ≠ s_.2.2.2.2) s_.2.2.1 q2) ∧ (Kd.V k82 82 w' w.heap.size (fun k_ => k_ ≠ a5 ∧ k_ ≠ a2 ∧ k_ ≠ s_.2.2.2.2) s_.2.2.2.1 q3) ∧ (Kd.V k46 46 w' w.heap.size (fun k_ => k_ ≠ a5 ∧ k_ ≠ a2 ∧ k_ ≠ s_.2.2.2.2) (.slice (some g5) e8.length t4) e8) ∧ (Kd.V (Kd.int .i64) 3 w' w.heap.size (fun k_ => k_ ≠ a5 ∧ k_ ≠ a2 ∧ k_ ≠ s_.2.2.2.2) (.slice l3 g4.length l4) g4) ∧ (Kd.V k90 90 w' w.heap.size (fun k_ => k_ ≠ a5 ∧ k_ ≠ a2 ∧ k_ ≠ s_.2.2.2.2) (.slice l5 g9.length l6) g9) ∧ (Kd.V k33 33 w' w.heap.size (fun k_ => k_ ≠ a5 ∧ k_ ≠ a2 ∧ k_ ≠ s_.2.2.2.2) (.slice l7 h0.length l8) h0) ∧ (Kd.V k82 82 w' w.heap.size (fun k_ => k_ ≠ a5 ∧ k_ ≠ a2 ∧ k_ ≠ s_.2.2.2.2) (.slice l9 f7.length m0) f7) ∧ (Kd.V (Kd.int .i64) 3 w' w.heap.size (fun k_ => k_ ≠ a5 ∧ k_ ≠ a2 ∧ k_ ≠ s_.2.2.2.2) (.slice i6 b8.length i7) b8) ∧ (Kd.V k90 90 w' w.heap.size (fun k_ => k_ ≠ a5 ∧ k_ ≠ a2 ∧ k_ ≠ s_.2.2.2.2) (.slice i8 b9.length i9) b9) ∧ (Kd.V k33 33 w' w.heap.size (fun k_ => k_ ≠ a5 ∧ k_ ≠ a2 ∧ k_ ≠ s_.2.2.2.2) (.slice j5 d0.length j6) d0) ∧ (Kd.V k82 82 w' w.heap.size (fun k_ => k_ ≠ a5 ∧ k_ ≠ a2 ∧ k_ ≠ s_.2.2.2.2) (.slice j7 b7.length j8) b7) ∧ (w'.heap[a5]? = some (.cells #[.slice l3 g4.length l4, .int .i64 j9, .int .i64 k0, .int .i64 k1, .int .i64 k3, .slice l5 g9.length l6, .int .i64 k4, .int .i64 k5, .int .i64 k6, .int .i64 k7, .int .i64 k9, .slice l7 h0.length l8, .slice l9 f7.length m0] 37 (0, 0))) ∧ (w'.heap[a2]? = some (.cells #[.slice i6 b8.length i7, .int .i64 d4, .int .i64 d5, .int .i64 d6, .int .i64 e0, .slice i8 b9.length i9, .int .i64 e1, .int .i64 e2, .int .i64 e3, .int .i64 e4, .int .i64 e5, .slice j5 d0.length j6, .slice j7 b7.length j8] 37 (0, 0))) ∧ (w'.heap[s_.2.2.2.2]? = some (.cells #[.slice none 0 0, .int .i64 0, .int .i64 0, .int .i64 0, .int .i64 0, .slice none 0 0, .int .i64 0, .int .i64 0, .int .i64 0, .int .i64 0, .int .i64 0, .slice none 0 0, .slice none 0 0] 37 (0, 0))) ∧ (w.heap.size ≤ s_.2.2.2.2) ∧ (w.heap.size ≤ s_.2.2.2.2) ∧ (a5 ≠ s_.2.2.2.2) ∧ (s_.2.2.2.2 ≠ a5) ∧ (a2 ≠ s_.2.2.2.2) ∧ (s_.2.2.2.2 ≠ a2) ∧ (Below w.heap.size w w')) ?_ ?_
          rotate_left
          ·intro hCont
           refine two_ (i := 5) (j := 9) (Ni := some 51) (Nj := some 10) (mB 12 63) (mB 12 543) rfl rfl rfl rfl (by kernel_rfl) (by decide) (by decide) (fun K hK => ?_) (fun K hK => ?_)
           ·skip
            refine goes_ Try.func9 (by kernel_rfl) rfl #[.agg #[.slice i6 b8.length i7, .int .i64 d4, .int .i64 d5, .int .i64 d6, .int .i64 e0, .slice i8 b9.length i9, .int .i64 e1, .int .i64 e2, .int .i64 e3, .int .i64 e4, .int .i64 e5, .slice j5 d0.length j6, .slice j7 b7.length j8], .agg #[.string ((rd_T46 e8 f3).f0), .int .i64 ((rd_T46 e8 f3).f1)]] (by rfl) rfl rfl mA ?_
            with_reducible refine (impl_ExecToken.calls k2 _ _ b8 d4 d5 d6 e0 _ _ b9 e1 e2 e3 e4 e5 _ _ d0 _ _ b7 ((rd_T46 e8 f3).f0) ((rd_T46 e8 f3).f1) n7 n8 o0 o1 o4 o5 o6 o7 o8 o9 q0 q2 q3 _ _ ?side1 ?side2 ?side3 ?side4 ?side5 ?side6 ?side7 ?side8 I1.out).mono ?_
            (case side1 => exact cS (Kd.V_reads' a6.out).2.2)
            (case side2 => exact (Kd.V_reads' a6.out).2.1)
            (case side3 => exact cS (Kd.V_reads' a9.out).2.2)
            (case side4 => exact (Kd.V_reads' a9.out).2.1)
            (case side5 => exact cS (Kd.V_reads' b0.out).2.2)
            (case side6 => exact (Kd.V_reads' b0.out).2.1)
            (case side7 => exact cS (Kd.V_reads' a8.out).2.2)
            (case side8 => exact (Kd.V_reads' a8.out).2.1)
            rintro e M4 ⟨q4, q5, q6, q7, rfl, g6, h7, h8, h9, hb⟩
            have HS13_ := (hb.cell (World.block_lt_of_cell? _ _ (hHeld.2.2.2.2.2.2.2.2.2.2.2.2.2.1))).trans (hHeld.2.2.2.2.2.2.2.2.2.2.2.2.2.1)
            have HS14_ := (hb.cell (World.block_lt_of_cell? _ _ (hHeld.2.2.2.2.2.2.2.2.2.2.2.2.2.2))).trans (hHeld.2.2.2.2.2.2.2.2.2.2.2.2.2.2)
            refine ⟨_, rfl, ?_⟩
            have h2 := aM (Kd.V_lower (Kd.V_mono (ok' := fun k_ => k_ ≠ a5 ∧ k_ ≠ a2) g6 (fun k_ hk_ => ⟨(Kd.freshB (g := a5) kS k_ hk_), (Kd.freshB (g := a2) kS k_ hk_)⟩)) (below_size bS))
            have h3 := aM (Kd.V_lower (Kd.V_mono (ok' := fun k_ => k_ ≠ a5 ∧ k_ ≠ a2) h7 (fun k_ hk_ => ⟨(Kd.freshB (g := a5) kS k_ hk_), (Kd.freshB (g := a2) kS k_ hk_)⟩)) (below_size bS))
            have h4 := aM (Kd.V_lower (Kd.V_mono (ok' := fun k_ => k_ ≠ a5 ∧ k_ ≠ a2) h8 (fun k_ hk_ => ⟨(Kd.freshB (g := a5) kS k_ hk_), (Kd.freshB (g := a2) kS k_ hk_)⟩)) (below_size bS))
            have h5 := aM (Kd.V_lower (Kd.V_mono (ok' := fun k_ => k_ ≠ a5 ∧ k_ ≠ a2) h9 (fun k_ hk_ => ⟨(Kd.freshB (g := a5) kS k_ hk_), (Kd.freshB (g := a2) kS k_ hk_)⟩)) (below_size bS))
            replace e9 := vB (vS [] e9) hb
            replace a7 := vB (vS [] a7) hb
            replace b1 := vB (vS [] b1) hb
            replace b2 := vB (vS [] b2) hb
            replace b6 := vB (vS [] b6) hb
            replace a6 := vB (vS [] a6) hb
            replace a9 := vB (vS [] a9) hb
            replace b0 := vB (vS [] b0) hb
            replace a8 := vB (vS [] a8) hb
            replace d3 := kB_ a5 hb
            replace a3 := kB_ a2 hb
            replace HB := hB hb
            (try clear hb)
            (try clear I3)
            (try clear hk)
            (try clear hi)
            (try clear g6)
            (try clear h7)
            (try clear h8)
            (try clear h9)
            refine hK.out _ _ ⟨(blk_cell a3.out 0).trans rfl, (blk_cell a3.out 1).trans rfl, (blk_cell a3.out 2).trans rfl, (blk_cell a3.out 3).trans rfl, (blk_cell a3.out 4).trans rfl, (blk_cell a3.out 5).trans rfl, (blk_cell a3.out 6).trans rfl, (blk_cell a3.out 7).trans rfl, (blk_cell a3.out 8).trans rfl, (blk_cell a3.out 9).trans rfl, (blk_cell a3.out 10).trans rfl, (blk_cell a3.out 11).trans rfl, (blk_cell a3.out 12).trans rfl, HS13_, HS14_⟩ (fun hHeld => ?_)
            clear hK K
            refine norm_ (a' := ?_) ?_ ?_
            rotate_left
            ·show Act.put _ (some 51) _ = _
             simp only [Act.put, List.setIfInBounds_toArray, List.set_cons_zero, List.set_cons_succ, i64_w, i32_w]
             rfl
            refine pU 6 (some 45) (mB 12 127) ?_
            refine pU 7 (some 52) (mB 12 255) ?_
            refine pU 8 (some 53) (mB 12 511) ?_
            refine one_ (i := 9) (N := some 10) (mB 12 1023) rfl rfl (by kernel_rfl) (by decide) (fun K hK => ?_)
            refine box_step ?hg (N := 10) ?hd (cs := #[.slice none 0 0, .int .i64 0, .int .i64 0, .int .i64 0, .int .i64 0, .slice none 0 0, .int .i64 0, .int .i64 0, .int .i64 0, .int .i64 0, .int .i64 0, .slice none 0 0, .slice none 0 0]) (t := 37) ?hr ?_; (case hd => rfl); (case hg => rfl); (case hr => first | (go_simp; done) | (go_simp; rfl))
            intro d2 hg M5 hbox hb
            have HS13_ := (hb.cell (World.block_lt_of_cell? _ _ (hHeld.2.2.2.2.2.2.2.2.2.2.2.2.2.1))).trans (hHeld.2.2.2.2.2.2.2.2.2.2.2.2.2.1)
            have HS14_ := (hb.cell (World.block_lt_of_cell? _ _ (hHeld.2.2.2.2.2.2.2.2.2.2.2.2.2.2))).trans (hHeld.2.2.2.2.2.2.2.2.2.2.2.2.2.2)
            have e7 := aM (hbox)
            have GW944 := gE hg
            have GE944 := gE hg
            have f4 := nL_ a5 hg
            have f5 := nG_ a5 hg
            have d1 := nL_ a2 hg
            have f6 := nG_ a2 hg
            replace e9 := vE (vS [] e9) hg hb
            replace a7 := vE (vS [] a7) hg hb
            replace b1 := vE (vS [] b1) hg hb
            replace b2 := vE (vS [] b2) hg hb
            replace b6 := vE (vS [] b6) hg hb
            replace a6 := vE (vS [] a6) hg hb
            replace a9 := vE (vS [] a9) hg hb
            replace b0 := vE (vS [] b0) hg hb
            replace a8 := vE (vS [] a8) hg hb
            replace h2 := vE (vS [] h2) hg hb
            replace h3 := vE (vS [] h3) hg hb
            replace h4 := vE (vS [] h4) hg hb
            replace h5 := vE (vS [] h5) hg hb
            replace d3 := kB_ a5 hb
            replace a3 := kB_ a2 hb
            replace HB := hB hb
            clear hb hg
            refine hK.out _ _ ⟨(blk_cell a3.out 0).trans rfl, (blk_cell a3.out 1).trans rfl, (blk_cell a3.out 2).trans rfl, (blk_cell a3.out 3).trans rfl, (blk_cell a3.out 4).trans rfl, (blk_cell a3.out 5).trans rfl, (blk_cell a3.out 6).trans rfl, (blk_cell a3.out 7).trans rfl, (blk_cell a3.out 8).trans rfl, (blk_cell a3.out 9).trans rfl, (blk_cell a3.out 10).trans rfl, (blk_cell a3.out 11).trans rfl, (blk_cell a3.out 12).trans rfl, HS13_, HS14_⟩ (fun hHeld => ?_)
            clear hK K
            refine norm_ (a' := ?_) ?_ ?_
            rotate_left
            ·show Act.put _ (some 10) _ = _
             simp only [Act.put, List.setIfInBounds_toArray, List.set_cons_zero, List.set_cons_succ, i64_w, i32_w]
             rfl
            exact norm_ (by simp only [putAll, Act.put, List.setIfInBounds_toArray, List.set_cons_zero, List.set_cons_succ]) (hCont (q4, q5, q6, q7, d2) _ ⟨hHeld, (by (with_reducible repeat (first | apply Kd.V_alloc | apply Kd.V_drewN | apply Kd.V_drew)); exact Kd.V_mono h2.out (fun _ hk => ⟨hk.1.1, ⟨hk.1.2, hk.2⟩⟩)), (by (with_reducible repeat (first | apply Kd.V_alloc | apply Kd.V_drewN | apply Kd.V_drew)); exact Kd.V_mono h3.out (fun _ hk => ⟨hk.1.1, ⟨hk.1.2, hk.2⟩⟩)), (by (with_reducible repeat (first | apply Kd.V_alloc | apply Kd.V_drewN | apply Kd.V_drew)); exact Kd.V_mono h4.out (fun _ hk => ⟨hk.1.1, ⟨hk.1.2, hk.2⟩⟩)), (by (with_reducible repeat (first | apply Kd.V_alloc | apply Kd.V_drewN | apply Kd.V_drew)); exact Kd.V_mono h5.out (fun _ hk => ⟨hk.1.1, ⟨hk.1.2, hk.2⟩⟩)), (by (with_reducible repeat (first | apply Kd.V_alloc | apply Kd.V_drewN | apply Kd.V_drew)); exact Kd.V_mono e9.out (fun _ hk => ⟨hk.1.1, ⟨hk.1.2, hk.2⟩⟩)), (by (with_reducible repeat (first | apply Kd.V_alloc | apply Kd.V_drewN | apply Kd.V_drew)); exact Kd.V_mono a7.out (fun _ hk => ⟨hk.1.1, ⟨hk.1.2, hk.2⟩⟩)), (by (with_reducible repeat (first | apply Kd.V_alloc | apply Kd.V_drewN | apply Kd.V_drew)); exact Kd.V_mono b1.out (fun _ hk => ⟨hk.1.1, ⟨hk.1.2, hk.2⟩⟩)), (by (with_reducible repeat (first | apply Kd.V_alloc | apply Kd.V_drewN | apply Kd.V_drew)); exact Kd.V_mono b2.out (fun _ hk => ⟨hk.1.1, ⟨hk.1.2, hk.2⟩⟩)), (by (with_reducible repeat (first | apply Kd.V_alloc | apply Kd.V_drewN | apply Kd.V_drew)); exact Kd.V_mono b6.out (fun _ hk => ⟨hk.1.1, ⟨hk.1.2, hk.2⟩⟩)), (by (with_reducible repeat (first | apply Kd.V_alloc | apply Kd.V_drewN | apply Kd.V_drew)); exact Kd.V_mono a6.out (fun _ hk => ⟨hk.1.1, ⟨hk.1.2, hk.2⟩⟩)), (by (with_reducible repeat (first | apply Kd.V_alloc | apply Kd.V_drewN | apply Kd.V_drew)); exact Kd.V_mono a9.out (fun _ hk => ⟨hk.1.1, ⟨hk.1.2, hk.2⟩⟩)), (by (with_reducible repeat (first | apply Kd.V_alloc | apply Kd.V_drewN | apply Kd.V_drew)); exact Kd.V_mono b0.out (fun _ hk => ⟨hk.1.1, ⟨hk.1.2, hk.2⟩⟩)), (by (with_reducible repeat (first | apply Kd.V_alloc | apply Kd.V_drewN | apply Kd.V_drew)); exact Kd.V_mono a8.out (fun _ hk => ⟨hk.1.1, ⟨hk.1.2, hk.2⟩⟩)), kS, kS, kS, GW944.out, GE944.out, f4.out, f5.out, d1.out, f6.out, bS⟩)
           ·skip
            refine box_step ?hg (N := 10) ?hd (cs := #[.slice none 0 0, .int .i64 0, .int .i64 0, .int .i64 0, .int .i64 0, .slice none 0 0, .int .i64 0, .int .i64 0, .int .i64 0, .int .i64 0, .int .i64 0, .slice none 0 0, .slice none 0 0]) (t := 37) ?hr ?_; (case hd => rfl); (case hg => rfl); (case hr => first | (go_simp; done) | (go_simp; rfl))
            intro d2 hg M4 hbox hb
            have HS13_ := (hb.cell (World.block_lt_of_cell? _ _ (hHeld.2.2.2.2.2.2.2.2.2.2.2.2.2.1))).trans (hHeld.2.2.2.2.2.2.2.2.2.2.2.2.2.1)
            have HS14_ := (hb.cell (World.block_lt_of_cell? _ _ (hHeld.2.2.2.2.2.2.2.2.2.2.2.2.2.2))).trans (hHeld.2.2.2.2.2.2.2.2.2.2.2.2.2.2)
            have e7 := aM (hbox)
            have GW944 := gE hg
            have GE944 := gE hg
            have f4 := nL_ a5 hg
            have f5 := nG_ a5 hg
            have d1 := nL_ a2 hg
            have f6 := nG_ a2 hg
            replace e9 := vE (vS [] e9) hg hb
            replace a7 := vE (vS [] a7) hg hb
            replace b1 := vE (vS [] b1) hg hb
            replace b2 := vE (vS [] b2) hg hb
            replace b6 := vE (vS [] b6) hg hb
            replace a6 := vE (vS [] a6) hg hb
            replace a9 := vE (vS [] a9) hg hb
            replace b0 := vE (vS [] b0) hg hb
            replace a8 := vE (vS [] a8) hg hb
            replace d3 := kB_ a5 hb
            replace a3 := kB_ a2 hb
            replace HB := hB hb
            clear hb hg
            refine hK.out _ _ ⟨(blk_cell a3.out 0).trans rfl, (blk_cell a3.out 1).trans rfl, (blk_cell a3.out 2).trans rfl, (blk_cell a3.out 3).trans rfl, (blk_cell a3.out 4).trans rfl, (blk_cell a3.out 5).trans rfl, (blk_cell a3.out 6).trans rfl, (blk_cell a3.out 7).trans rfl, (blk_cell a3.out 8).trans rfl, (blk_cell a3.out 9).trans rfl, (blk_cell a3.out 10).trans rfl, (blk_cell a3.out 11).trans rfl, (blk_cell a3.out 12).trans rfl, HS13_, HS14_⟩ (fun hHeld => ?_)
            clear hK K
            refine norm_ (a' := ?_) ?_ ?_
            rotate_left
            ·show Act.put _ (some 10) _ = _
             simp only [Act.put, List.setIfInBounds_toArray, List.set_cons_zero, List.set_cons_succ, i64_w, i32_w]
             rfl
            refine one_ (i := 5) (N := some 51) (mB 12 575) rfl rfl (by kernel_rfl) (by decide) (fun K hK => ?_)
            refine goes_ Try.func9 (by kernel_rfl) rfl #[.agg #[.slice i6 b8.length i7, .int .i64 d4, .int .i64 d5, .int .i64 d6, .int .i64 e0, .slice i8 b9.length i9, .int .i64 e1, .int .i64 e2, .int .i64 e3, .int .i64 e4, .int .i64 e5, .slice j5 d0.length j6, .slice j7 b7.length j8], .agg #[.string ((rd_T46 e8 f3).f0), .int .i64 ((rd_T46 e8 f3).f1)]] (by rfl) rfl rfl mA ?_
            with_reducible refine (impl_ExecToken.calls k2 _ _ b8 d4 d5 d6 e0 _ _ b9 e1 e2 e3 e4 e5 _ _ d0 _ _ b7 ((rd_T46 e8 f3).f0) ((rd_T46 e8 f3).f1) n7 n8 o0 o1 o4 o5 o6 o7 o8 o9 q0 q2 q3 _ _ ?side1 ?side2 ?side3 ?side4 ?side5 ?side6 ?side7 ?side8 I1.out).mono ?_
            (case side1 => exact cS (Kd.V_reads' a6.out).2.2)
            (case side2 => exact (Kd.V_reads' a6.out).2.1)
            (case side3 => exact cS (Kd.V_reads' a9.out).2.2)
            (case side4 => exact (Kd.V_reads' a9.out).2.1)
            (case side5 => exact cS (Kd.V_reads' b0.out).2.2)
            (case side6 => exact (Kd.V_reads' b0.out).2.1)
            (case side7 => exact cS (Kd.V_reads' a8.out).2.2)
            (case side8 => exact (Kd.V_reads' a8.out).2.1)
            rintro e M5 ⟨q4, q5, q6, q7, rfl, g6, h7, h8, h9, hb⟩
            have HS13_ := (hb.cell (World.block_lt_of_cell? _ _ (hHeld.2.2.2.2.2.2.2.2.2.2.2.2.2.1))).trans (hHeld.2.2.2.2.2.2.2.2.2.2.2.2.2.1)
            have HS14_ := (hb.cell (World.block_lt_of_cell? _ _ (hHeld.2.2.2.2.2.2.2.2.2.2.2.2.2.2))).trans (hHeld.2.2.2.2.2.2.2.2.2.2.2.2.2.2)
            refine ⟨_, rfl, ?_⟩
            have h2 := aM (Kd.V_lower (Kd.V_mono (ok' := fun k_ => k_ ≠ a5 ∧ k_ ≠ a2 ∧ k_ ≠ d2) g6 (fun k_ hk_ => ⟨(Kd.freshB (g := a5) kS k_ hk_), (Kd.freshB (g := a2) kS k_ hk_), (Kd.freshB (g := d2) kS k_ hk_)⟩)) (below_size bS))
            have h3 := aM (Kd.V_lower (Kd.V_mono (ok' := fun k_ => k_ ≠ a5 ∧ k_ ≠ a2 ∧ k_ ≠ d2) h7 (fun k_ hk_ => ⟨(Kd.freshB (g := a5) kS k_ hk_), (Kd.freshB (g := a2) kS k_ hk_), (Kd.freshB (g := d2) kS k_ hk_)⟩)) (below_size bS))
            have h4 := aM (Kd.V_lower (Kd.V_mono (ok' := fun k_ => k_ ≠ a5 ∧ k_ ≠ a2 ∧ k_ ≠ d2) h8 (fun k_ hk_ => ⟨(Kd.freshB (g := a5) kS k_ hk_), (Kd.freshB (g := a2) kS k_ hk_), (Kd.freshB (g := d2) kS k_ hk_)⟩)) (below_size bS))
            have h5 := aM (Kd.V_lower (Kd.V_mono (ok' := fun k_ => k_ ≠ a5 ∧ k_ ≠ a2 ∧ k_ ≠ d2) h9 (fun k_ hk_ => ⟨(Kd.freshB (g := a5) kS k_ hk_), (Kd.freshB (g := a2) kS k_ hk_), (Kd.freshB (g := d2) kS k_ hk_)⟩)) (below_size bS))
            replace e9 := vB (vS [] e9) hb
            replace a7 := vB (vS [] a7) hb
            replace b1 := vB (vS [] b1) hb
            replace b2 := vB (vS [] b2) hb
            replace b6 := vB (vS [] b6) hb
            replace a6 := vB (vS [] a6) hb
            replace a9 := vB (vS [] a9) hb
            replace b0 := vB (vS [] b0) hb
            replace a8 := vB (vS [] a8) hb
            replace d3 := kB_ a5 hb
            replace a3 := kB_ a2 hb
            replace e7 := kB_ d2 hb
            replace HB := hB hb
            (try clear hb)
            (try clear I3)
            (try clear hk)
            (try clear hi)
            (try clear g6)
            (try clear h7)
            (try clear h8)
            (try clear h9)
            refine hK.out _ _ ⟨(blk_cell a3.out 0).trans rfl, (blk_cell a3.out 1).trans rfl, (blk_cell a3.out 2).trans rfl, (blk_cell a3.out 3).trans rfl, (blk_cell a3.out 4).trans rfl, (blk_cell a3.out 5).trans rfl, (blk_cell a3.out 6).trans rfl, (blk_cell a3.out 7).trans rfl, (blk_cell a3.out 8).trans rfl, (blk_cell a3.out 9).trans rfl, (blk_cell a3.out 10).trans rfl, (blk_cell a3.out 11).trans rfl, (blk_cell a3.out 12).trans rfl, HS13_, HS14_⟩ (fun hHeld => ?_)
            clear hK K
            refine norm_ (a' := ?_) ?_ ?_
            rotate_left
            ·show Act.put _ (some 51) _ = _
             simp only [Act.put, List.setIfInBounds_toArray, List.set_cons_zero, List.set_cons_succ, i64_w, i32_w]
             rfl
            refine pU 6 (some 45) (mB 12 639) ?_
            refine pU 7 (some 52) (mB 12 767) ?_
            refine pU 8 (some 53) (mB 12 1023) ?_
            exact norm_ (by simp only [putAll, Act.put, List.setIfInBounds_toArray, List.set_cons_zero, List.set_cons_succ]) (hCont (q4, q5, q6, q7, d2) _ ⟨hHeld, (by (with_reducible repeat (first | apply Kd.V_alloc | apply Kd.V_drewN | apply Kd.V_drew)); exact h2.out), (by (with_reducible repeat (first | apply Kd.V_alloc | apply Kd.V_drewN | apply Kd.V_drew)); exact h3.out), (by (with_reducible repeat (first | apply Kd.V_alloc | apply Kd.V_drewN | apply Kd.V_drew)); exact h4.out), (by (with_reducible repeat (first | apply Kd.V_alloc | apply Kd.V_drewN | apply Kd.V_drew)); exact h5.out), (by (with_reducible repeat (first | apply Kd.V_alloc | apply Kd.V_drewN | apply Kd.V_drew)); exact Kd.V_mono e9.out (fun _ hk => ⟨hk.1.1, ⟨hk.1.2, hk.2⟩⟩)), (by (with_reducible repeat (first | apply Kd.V_alloc | apply Kd.V_drewN | apply Kd.V_drew)); exact Kd.V_mono a7.out (fun _ hk => ⟨hk.1.1, ⟨hk.1.2, hk.2⟩⟩)), (by (with_reducible repeat (first | apply Kd.V_alloc | apply Kd.V_drewN | apply Kd.V_drew)); exact Kd.V_mono b1.out (fun _ hk => ⟨hk.1.1, ⟨hk.1.2, hk.2⟩⟩)), (by (with_reducible repeat (first | apply Kd.V_alloc | apply Kd.V_drewN | apply Kd.V_drew)); exact Kd.V_mono b2.out (fun _ hk => ⟨hk.1.1, ⟨hk.1.2, hk.2⟩⟩)), (by (with_reducible repeat (first | apply Kd.V_alloc | apply Kd.V_drewN | apply Kd.V_drew)); exact Kd.V_mono b6.out (fun _ hk => ⟨hk.1.1, ⟨hk.1.2, hk.2⟩⟩)), (by (with_reducible repeat (first | apply Kd.V_alloc | apply Kd.V_drewN | apply Kd.V_drew)); exact Kd.V_mono a6.out (fun _ hk => ⟨hk.1.1, ⟨hk.1.2, hk.2⟩⟩)), (by (with_reducible repeat (first | apply Kd.V_alloc | apply Kd.V_drewN | apply Kd.V_drew)); exact Kd.V_mono a9.out (fun _ hk => ⟨hk.1.1, ⟨hk.1.2, hk.2⟩⟩)), (by (with_reducible repeat (first | apply Kd.V_alloc | apply Kd.V_drewN | apply Kd.V_drew)); exact Kd.V_mono b0.out (fun _ hk => ⟨hk.1.1, ⟨hk.1.2, hk.2⟩⟩)), (by (with_reducible repeat (first | apply Kd.V_alloc | apply Kd.V_drewN | apply Kd.V_drew)); exact Kd.V_mono a8.out (fun _ hk => ⟨hk.1.1, ⟨hk.1.2, hk.2⟩⟩)), kS, kS, kS, GW944.out, GE944.out, f4.out, f5.out, d1.out, f6.out, bS⟩)
          rintro ⟨q4, q5, q6, q7, d2⟩ h1 ⟨hS_, h0_, h1_, h2_, h3_, h4_, h5_, h6_, h7_, h8_, h9_, h10_, h11_, h12_, h13_, h14_, h15_, h16_, h17_, h18_, h19_, h20_, h21_, h22_⟩
          have h2 : Aside0 (Kd.V (Kd.int .i64) 3 h1 w.heap.size (fun k_ => k_ ≠ a5 ∧ k_ ≠ a2 ∧ k_ ≠ d2) q4 n7) := ⟨h0_⟩
          have h3 : Aside0 (Kd.V k90 90 h1 w.heap.size (fun k_ => k_ ≠ a5 ∧ k_ ≠ a2 ∧ k_ ≠ d2) q5 o5) := ⟨h1_⟩
          have h4 : Aside0 (Kd.V k33 33 h1 w.heap.size (fun k_ => k_ ≠ a5 ∧ k_ ≠ a2 ∧ k_ ≠ d2) q6 q2) := ⟨h2_⟩
          have h5 : Aside0 (Kd.V k82 82 h1 w.heap.size (fun k_ => k_ ≠ a5 ∧ k_ ≠ a2 ∧ k_ ≠ d2) q7 q3) := ⟨h3_⟩
          have e7 : Aside0 (h1.heap[d2]? = some (.cells #[.slice none 0 0, .int .i64 0, .int .i64 0, .int .i64 0, .int .i64 0, .slice none 0 0, .int .i64 0, .int .i64 0, .int .i64 0, .int .i64 0, .int .i64 0, .slice none 0 0, .slice none 0 0] 37 (0, 0))) := ⟨h15_⟩
          have GW944 : Aside0 (w.heap.size ≤ d2) := ⟨h16_⟩
          have GE944 : Aside0 (w.heap.size ≤ d2) := ⟨h17_⟩
          have f4 : Aside0 (a5 ≠ d2) := ⟨h18_⟩
          have f5 : Aside0 (d2 ≠ a5) := ⟨h19_⟩
          have d1 : Aside0 (a2 ≠ d2) := ⟨h20_⟩
          have f6 : Aside0 (d2 ≠ a2) := ⟨h21_⟩
          replace e9 : Aside0 (Kd.V k46 46 h1 w.heap.size (fun k_ => k_ ≠ a5 ∧ k_ ≠ a2 ∧ k_ ≠ d2) (.slice (some g5) e8.length t4) e8) := ⟨h4_⟩
          replace a7 : Aside0 (Kd.V (Kd.int .i64) 3 h1 w.heap.size (fun k_ => k_ ≠ a5 ∧ k_ ≠ a2 ∧ k_ ≠ d2) (.slice l3 g4.length l4) g4) := ⟨h5_⟩
          replace b1 : Aside0 (Kd.V k90 90 h1 w.heap.size (fun k_ => k_ ≠ a5 ∧ k_ ≠ a2 ∧ k_ ≠ d2) (.slice l5 g9.length l6) g9) := ⟨h6_⟩
          replace b2 : Aside0 (Kd.V k33 33 h1 w.heap.size (fun k_ => k_ ≠ a5 ∧ k_ ≠ a2 ∧ k_ ≠ d2) (.slice l7 h0.length l8) h0) := ⟨h7_⟩
          replace b6 : Aside0 (Kd.V k82 82 h1 w.heap.size (fun k_ => k_ ≠ a5 ∧ k_ ≠ a2 ∧ k_ ≠ d2) (.slice l9 f7.length m0) f7) := ⟨h8_⟩
          replace a6 : Aside0 (Kd.V (Kd.int .i64) 3 h1 w.heap.size (fun k_ => k_ ≠ a5 ∧ k_ ≠ a2 ∧ k_ ≠ d2) (.slice i6 b8.length i7) b8) := ⟨h9_⟩
          replace a9 : Aside0 (Kd.V k90 90 h1 w.heap.size (fun k_ => k_ ≠ a5 ∧ k_ ≠ a2 ∧ k_ ≠ d2) (.slice i8 b9.length i9) b9) := ⟨h10_⟩
          replace b0 : Aside0 (Kd.V k33 33 h1 w.heap.size (fun k_ => k_ ≠ a5 ∧ k_ ≠ a2 ∧ k_ ≠ d2) (.slice j5 d0.length j6) d0) := ⟨h11_⟩
          replace a8 : Aside0 (Kd.V k82 82 h1 w.heap.size (fun k_ => k_ ≠ a5 ∧ k_ ≠ a2 ∧ k_ ≠ d2) (.slice j7 b7.length j8) b7) := ⟨h12_⟩
          replace d3 : Aside0 (h1.heap[a5]? = some (.cells #[.slice l3 g4.length l4, .int .i64 j9, .int .i64 k0, .int .i64 k1, .int .i64 k3, .slice l5 g9.length l6, .int .i64 k4, .int .i64 k5, .int .i64 k6, .int .i64 k7, .int .i64 k9, .slice l7 h0.length l8, .slice l9 f7.length m0] 37 (0, 0))) := ⟨h13_⟩
          replace a3 : Aside0 (h1.heap[a2]? = some (.cells #[.slice i6 b8.length i7, .int .i64 d4, .int .i64 d5, .int .i64 d6, .int .i64 e0, .slice i8 b9.length i9, .int .i64 e1, .int .i64 e2, .int .i64 e3, .int .i64 e4, .int .i64 e5, .slice j5 d0.length j6, .slice j7 b7.length j8] 37 (0, 0))) := ⟨h14_⟩
          replace HB : Aside0 (Below w.heap.size w h1) := ⟨h22_⟩
          clear h0_ h1_ h2_ h3_ h4_ h5_ h6_ h7_ h8_ h9_ h10_ h11_ h12_ h13_ h14_ h15_ h16_ h17_ h18_ h19_ h20_ h21_ h22_
          have hHeld : h1.cell? ⟨a2, 0, none⟩ = some (.slice i6 b8.length i7) ∧ h1.cell? ⟨a2, 1, none⟩ = some (.int .i64 d4) ∧ h1.cell? ⟨a2, 2, none⟩ = some (.int .i64 d5) ∧ h1.cell? ⟨a2, 3, none⟩ = some (.int .i64 d6) ∧ h1.cell? ⟨a2, 4, none⟩ = some (.int .i64 e0) ∧ h1.cell? ⟨a2, 5, none⟩ = some (.slice i8 b9.length i9) ∧ h1.cell? ⟨a2, 6, none⟩ = some (.int .i64 e1) ∧ h1.cell? ⟨a2, 7, none⟩ = some (.int .i64 e2) ∧ h1.cell? ⟨a2, 8, none⟩ = some (.int .i64 e3) ∧ h1.cell? ⟨a2, 9, none⟩ = some (.int .i64 e4) ∧ h1.cell? ⟨a2, 10, none⟩ = some (.int .i64 e5) ∧ h1.cell? ⟨a2, 11, none⟩ = some (.slice j5 d0.length j6) ∧ h1.cell? ⟨a2, 12, none⟩ = some (.slice j7 b7.length j8) ∧ h1.cell? (g5.add ((f3).toNat * 2)) = some (.string ((rd_T46 e8 f3).f0)) ∧ h1.cell? ⟨(g5.add ((f3).toNat * 2)).block, (g5.add ((f3).toNat * 2)).off + 1, none⟩ = some (.int .i64 ((rd_T46 e8 f3).f1)) := hS_
          obtain ⟨D6, D7, t6⟩ := Kd.V_slice h2.out
          (first | subst t6 | obtain ⟨rfl, rfl⟩ := slE t6)
          obtain ⟨D8, D9, t7⟩ := Kd.V_slice h3.out
          (first | subst t7 | obtain ⟨rfl, rfl⟩ := slE t7)
          obtain ⟨E0, E1, t8⟩ := Kd.V_slice h4.out
          (first | subst t8 | obtain ⟨rfl, rfl⟩ := slE t8)
          obtain ⟨E2, E3, t9⟩ := Kd.V_slice h5.out
          (first | subst t9 | obtain ⟨rfl, rfl⟩ := slE t9)
          refine norm_ (a' := ?_) ?_ ?_
          rotate_left
          ·simp only [putAll, Act.put, List.setIfInBounds_toArray, List.set_cons_zero, List.set_cons_succ]
           rfl
          refine one_ (i := 10) (N := none) (mB 12 2047) rfl rfl (by kernel_rfl) (by decide) (fun K hK => ?_)
          have hs46 := cg0 e7
          have hfs46 := blk_frozen e7.out 0
          have hns46_0 := nP f4 d1
          have hms46_0 := f5.out
          have hms46_1 := f6.out
          have hs47 := cg1 e7
          have hfs47 := blk_frozen e7.out 1
          have hs48 := cg2 e7
          have hfs48 := blk_frozen e7.out 2
          have hs49 := cg3 e7
          have hfs49 := blk_frozen e7.out 3
          have hs50 := cg4 e7
          have hfs50 := blk_frozen e7.out 4
          have hs52 := cg5 e7
          have hfs52 := blk_frozen e7.out 5
          have hs53 := cg6 e7
          have hfs53 := blk_frozen e7.out 6
          have hs54 := cg7 e7
          have hfs54 := blk_frozen e7.out 7
          have hs55 := cg8 e7
          have hfs55 := blk_frozen e7.out 8
          have hs56 := cg9 e7
          have hfs56 := blk_frozen e7.out 9
          have hs57 := cg10 e7
          have hfs57 := blk_frozen e7.out 10
          have hs59 := cg11 e7
          have hfs59 := blk_frozen e7.out 11
          have hs61 := cg12 e7
          have hfs61 := blk_frozen e7.out 12
          refine skip_ (w1 := ?_) (by rfl) rfl ?_ ?_
          rotate_left
          ·go_simp
           rfl
          have nd0_ := V_offI e9.out (fun _ hk => hk.2.2) z46 f3 (of_eq_true q9) (of_eq_true r0)
          refine hK.out _ _ (onW (g := d2) (fun on_ => ⟨(cO d1 on_ hHeld.1), (cO d1 on_ hHeld.2.1), (cO d1 on_ hHeld.2.2.1), (cO d1 on_ hHeld.2.2.2.1), (cO d1 on_ hHeld.2.2.2.2.1), (cO d1 on_ hHeld.2.2.2.2.2.1), (cO d1 on_ hHeld.2.2.2.2.2.2.1), (cO d1 on_ hHeld.2.2.2.2.2.2.2.1), (cO d1 on_ hHeld.2.2.2.2.2.2.2.2.1), (cO d1 on_ hHeld.2.2.2.2.2.2.2.2.2.1), (cO d1 on_ hHeld.2.2.2.2.2.2.2.2.2.2.1), (cO d1 on_ hHeld.2.2.2.2.2.2.2.2.2.2.2.1), (cO d1 on_ hHeld.2.2.2.2.2.2.2.2.2.2.2.2.1), (cOq on_ hHeld.2.2.2.2.2.2.2.2.2.2.2.2.2.1 (by first | exact nd0_ | (rw [add_block]; exact nd0_))), (cOq on_ hHeld.2.2.2.2.2.2.2.2.2.2.2.2.2.2 (by first | exact nd0_ | (rw [add_block]; exact nd0_)))⟩)) (fun hHeld => ?_)
          clear hK K
          refine pU 11 (some 11) (mB 12 4095) ?_
          refine done_ (by kernel_rfl) ?_
          have hnb62 := nP f5 f4
          have hnb63 := nP f6 d1
          have hz64 := cz13 e7
          have hnb65 := nP g8 g7
          have hz66 := cz13 a3
          try go_wp2
          go_roundg k2
          case measure => have := HJ7.out; have := H8.out; omega
          case rel => exact ⟨(wrap64 (f3 + 1)), (n7), (n8), (o0), (o1), (o4), (o5), (o6), (o7), (o8), (o9), (q0), (q2), (q3), (.slice D6 n7.length D7), (.slice D8 o5.length D9), (.slice E0 q2.length E1), (.slice E2 q3.length E3), fS, H', ⟨by have := HJ7.out; have := H8.out; omega⟩, ⟨vO [d2, a2] e9⟩, ⟨vO [d2, a2] a7⟩, ⟨vO [d2, a2] b1⟩, ⟨vO [d2, a2] b2⟩, ⟨vO [d2, a2] b6⟩, ⟨vO [d2, a2] h2⟩, ⟨vO [d2, a2] h3⟩, ⟨vO [d2, a2] h4⟩, ⟨vO [d2, a2] h5⟩, ⟨kS⟩, ⟨kS⟩, ⟨bS⟩⟩
         ·obtain rfl := Bool.eq_false_iff.mpr I2
          rw [if_neg nF] at H
          exact absurd ((Option.some.inj H).trans hT) (by decide)
        ·rcases iD H with ⟨u0, H⟩ | ⟨u0, H⟩
         ·obtain ⟨I4, H⟩ := iT H
          replace H := bN H
          obtain ⟨⟨E4, E5, E6, E7, E8, E9, F2, F3, F4, F5, F6, F7, F8, F9⟩, M6, H⟩ := H
          obtain ⟨I5, H⟩ := iG H hT
          have I6 : decide (0 ≤ f8) = true := decide_eq_true I5
          clear I5
          obtain ⟨I7, H⟩ := iG H hT
          have I8 : decide (f8 ≤ (e8.length : Int)) = true := decide_eq_true I7
          clear I7
          by_cases I9 : F9 = true
          ·subst I9
           rw [if_pos rfl] at H
           exact absurd ((Option.some.inj H).trans hT) (by decide)
          ·obtain rfl := Bool.eq_false_iff.mpr I9
           rw [if_neg nF] at H
           obtain ⟨u1, H⟩ := iG H hT
           have J0 : ((b7.length : Int) == (f7.length : Int)) = true := beq_iff_eq.mpr u1
           have J1 : ((b7.length : Int) != (f7.length : Int)) = false := bne_eq_false_iff_eq.mpr u1
           have J2 : (b7.length == f7.length) = true := by first | simpa using u1 | (simp at u1 ⊢; omega)
           clear u1
           replace H := bN H
           obtain ⟨G0, M7, H⟩ := H
           by_cases J3 : G0 = true
           ·subst J3
            rw [if_pos rfl] at H
            obtain rfl := Option.some.inj H
            (try clear hT)
            obtain ⟨M8, M9, G1⟩ := Kd.V_slice e9.out
            subst G1
            try go_wp2
            replace e9 := vD e9
            replace a7 := vD a7
            replace b1 := vD b1
            replace b2 := vD b2
            replace b6 := vD b6
            replace a6 := vD a6
            replace a9 := vD a9
            replace b0 := vD b0
            replace a8 := vD a8
            replace d3 := bD d3
            replace a3 := bD a3
            replace HB := hD HB
            have r6 : 0 ≤ (f8 : Int) := dA
            have r7 : f8 < (e8.length : Int) := dA
            obtain ⟨q8, G2, n1, n2⟩ := at_T46 (Kd.V_reads' e9.out).2.2 f8 r6 r7
            cases G2
            replace r6 := eq_true r6
            replace r7 := eq_true r7
            obtain ⟨u2, u3, u4⟩ := Kd.V_slice a6.out
            (first | subst u4 | obtain ⟨rfl, rfl⟩ := slE u4)
            obtain ⟨u5, u6, u7⟩ := Kd.V_slice a9.out
            (first | subst u7 | obtain ⟨rfl, rfl⟩ := slE u7)
            obtain ⟨u9, v0, v1⟩ := Kd.V_slice b0.out
            (first | subst v1 | obtain ⟨rfl, rfl⟩ := slE v1)
            obtain ⟨v2, v3, v4⟩ := Kd.V_slice a8.out
            (first | subst v4 | obtain ⟨rfl, rfl⟩ := slE v4)
            refine start_ (n := 10) (S := fun w' => w'.cell? ⟨a2, 0, none⟩ = some (.slice u2 b8.length u3) ∧ w'.cell? ⟨a2, 1, none⟩ = some (.int .i64 d4) ∧ w'.cell? ⟨a2, 2, none⟩ = some (.int .i64 d5) ∧ w'.cell? ⟨a2, 3, none⟩ = some (.int .i64 d6) ∧ w'.cell? ⟨a2, 4, none⟩ = some (.int .i64 e0) ∧ w'.cell? ⟨a2, 5, none⟩ = some (.slice u5 b9.length u6) ∧ w'.cell? ⟨a2, 6, none⟩ = some (.int .i64 e1) ∧ w'.cell? ⟨a2, 7, none⟩ = some (.int .i64 e2) ∧ w'.cell? ⟨a2, 8, none⟩ = some (.int .i64 e3) ∧ w'.cell? ⟨a2, 9, none⟩ = some (.int .i64 e4) ∧ w'.cell? ⟨a2, 10, none⟩ = some (.int .i64 e5) ∧ w'.cell? ⟨a2, 11, none⟩ = some (.slice u9 d0.length v0) ∧ w'.cell? ⟨a2, 12, none⟩ = some (.slice v2 b7.length v3) ∧ w'.cell? (q8.add ((f8).toNat * 2)) = some (.string ((rd_T46 e8 f8).f0)) ∧ w'.cell? ⟨(q8.add ((f8).toNat * 2)).block, (q8.add ((f8).toNat * 2)).off + 1, none⟩ = some (.int .i64 ((rd_T46 e8 f8).f1))) (ds := []) (mB 10 0) (by kernel_rfl) rfl rfl ⟨(blk_cell a3.out 0).trans rfl, (blk_cell a3.out 1).trans rfl, (blk_cell a3.out 2).trans rfl, (blk_cell a3.out 3).trans rfl, (blk_cell a3.out 4).trans rfl, (blk_cell a3.out 5).trans rfl, (blk_cell a3.out 6).trans rfl, (blk_cell a3.out 7).trans rfl, (blk_cell a3.out 8).trans rfl, (blk_cell a3.out 9).trans rfl, (blk_cell a3.out 10).trans rfl, (blk_cell a3.out 11).trans rfl, (blk_cell a3.out 12).trans rfl, n1, n2⟩ (fun hHeld => ?_)
            generalize wr.drew = P1 at e9 a7 b1 b2 b6 a6 a9 b0 a8 d3 a3 HB n1 n2 hHeld ⊢
            refine pU 1 (some 63) (mB 10 2) ?_
            refine pU 2 (some 64) (mB 10 6) ?_
            refine pU 3 (some 65) (mB 10 14) ?_
            refine tK 0 (some 62) (mB 10 15) ?_
            refine tK 4 (some 66) (mB 10 31) ?_
            refine one_ (i := 5) (N := some 67) (mB 10 63) rfl rfl (by kernel_rfl) (by decide) (fun K hK => ?_)
            refine goes_ Try.func9 (by kernel_rfl) rfl #[.agg #[.slice u2 b8.length u3, .int .i64 d4, .int .i64 d5, .int .i64 d6, .int .i64 e0, .slice u5 b9.length u6, .int .i64 e1, .int .i64 e2, .int .i64 e3, .int .i64 e4, .int .i64 e5, .slice u9 d0.length v0, .slice v2 b7.length v3], .agg #[.string ((rd_T46 e8 f8).f0), .int .i64 ((rd_T46 e8 f8).f1)]] (by rfl) rfl rfl mA ?_
            with_reducible refine (impl_ExecToken.calls k2 _ _ b8 d4 d5 d6 e0 _ _ b9 e1 e2 e3 e4 e5 _ _ d0 _ _ b7 ((rd_T46 e8 f8).f0) ((rd_T46 e8 f8).f1) E4 E5 E6 E7 E8 E9 F2 F3 F4 F5 F6 F7 F8 _ _ ?side1 ?side2 ?side3 ?side4 ?side5 ?side6 ?side7 ?side8 M6.out).mono ?_
            (case side1 => exact cS (Kd.V_reads' a6.out).2.2)
            (case side2 => exact (Kd.V_reads' a6.out).2.1)
            (case side3 => exact cS (Kd.V_reads' a9.out).2.2)
            (case side4 => exact (Kd.V_reads' a9.out).2.1)
            (case side5 => exact cS (Kd.V_reads' b0.out).2.2)
            (case side6 => exact (Kd.V_reads' b0.out).2.1)
            (case side7 => exact cS (Kd.V_reads' a8.out).2.2)
            (case side8 => exact (Kd.V_reads' a8.out).2.1)
            rintro e P2 ⟨N1, N2, N3, N4, rfl, g6, h7, h8, h9, hb⟩
            have HS13_ := (hb.cell (World.block_lt_of_cell? _ _ (hHeld.2.2.2.2.2.2.2.2.2.2.2.2.2.1))).trans (hHeld.2.2.2.2.2.2.2.2.2.2.2.2.2.1)
            have HS14_ := (hb.cell (World.block_lt_of_cell? _ _ (hHeld.2.2.2.2.2.2.2.2.2.2.2.2.2.2))).trans (hHeld.2.2.2.2.2.2.2.2.2.2.2.2.2.2)
            refine ⟨_, rfl, ?_⟩
            have J4 := aM (Kd.V_lower (Kd.V_mono (ok' := fun k_ => k_ ≠ a5 ∧ k_ ≠ a2) g6 (fun k_ hk_ => ⟨(Kd.freshB (g := a5) kS k_ hk_), (Kd.freshB (g := a2) kS k_ hk_)⟩)) (below_size bS))
            have J5 := aM (Kd.V_lower (Kd.V_mono (ok' := fun k_ => k_ ≠ a5 ∧ k_ ≠ a2) h7 (fun k_ hk_ => ⟨(Kd.freshB (g := a5) kS k_ hk_), (Kd.freshB (g := a2) kS k_ hk_)⟩)) (below_size bS))
            have J6 := aM (Kd.V_lower (Kd.V_mono (ok' := fun k_ => k_ ≠ a5 ∧ k_ ≠ a2) h8 (fun k_ hk_ => ⟨(Kd.freshB (g := a5) kS k_ hk_), (Kd.freshB (g := a2) kS k_ hk_)⟩)) (below_size bS))
            have J7 := aM (Kd.V_lower (Kd.V_mono (ok' := fun k_ => k_ ≠ a5 ∧ k_ ≠ a2) h9 (fun k_ hk_ => ⟨(Kd.freshB (g := a5) kS k_ hk_), (Kd.freshB (g := a2) kS k_ hk_)⟩)) (below_size bS))
            replace e9 := vB (vS [] e9) hb
            replace a7 := vB (vS [] a7) hb
            replace b1 := vB (vS [] b1) hb
            replace b2 := vB (vS [] b2) hb
            replace b6 := vB (vS [] b6) hb
            replace a6 := vB (vS [] a6) hb
            replace a9 := vB (vS [] a9) hb
            replace b0 := vB (vS [] b0) hb
            replace a8 := vB (vS [] a8) hb
            replace d3 := kB_ a5 hb
            replace a3 := kB_ a2 hb
            replace HB := hB hb
            (try clear hb)
            (try clear I3)
            (try clear hk)
            (try clear hi)
            (try clear g6)
            (try clear h7)
            (try clear h8)
            (try clear h9)
            refine hK.out _ _ ⟨(blk_cell a3.out 0).trans rfl, (blk_cell a3.out 1).trans rfl, (blk_cell a3.out 2).trans rfl, (blk_cell a3.out 3).trans rfl, (blk_cell a3.out 4).trans rfl, (blk_cell a3.out 5).trans rfl, (blk_cell a3.out 6).trans rfl, (blk_cell a3.out 7).trans rfl, (blk_cell a3.out 8).trans rfl, (blk_cell a3.out 9).trans rfl, (blk_cell a3.out 10).trans rfl, (blk_cell a3.out 11).trans rfl, (blk_cell a3.out 12).trans rfl, HS13_, HS14_⟩ (fun hHeld => ?_)
            clear hK K
            refine norm_ (a' := ?_) ?_ ?_
            rotate_left
            ·show Act.put _ (some 67) _ = _
             simp only [Act.put, List.setIfInBounds_toArray, List.set_cons_zero, List.set_cons_succ, i64_w, i32_w]
             rfl
            refine pU 6 (some 61) (mB 10 127) ?_
            refine pU 7 (some 68) (mB 10 255) ?_
            refine pU 8 (some 69) (mB 10 511) ?_
            refine pU 9 (some 12) (mB 10 1023) ?_
            refine done_ (by kernel_rfl) ?_
            have hnb83 := nP g8 g7
            have x2 := cg0 a3
            have x3 := cg6 a3
            have v5 := cg12 a3
            have x4 := cg0 d3
            have x5 := cg6 d3
            have v6 := cg12 d3
            try go_wp2_with (first | (go_at_call 10; (with_reducible refine (laws_sameInts.calls k2 _ _ b8 _ _ g4 _ _ ?side1 ?side2 ?side3 ?side4 M7.out).mono ?_); (case side1 => exact cS (Kd.V_reads' a6.out).2.2); (case side2 => exact (Kd.V_reads' a6.out).2.1); (case side3 => exact cS (Kd.V_reads' a7.out).2.2); (case side4 => exact (Kd.V_reads' a7.out).2.1); rintro e w' ⟨rfl, ⟨nd, rfl⟩⟩))
            go_ret
            exact ⟨eS, bS⟩
           ·obtain rfl := Bool.eq_false_iff.mpr J3
            rw [if_neg nF] at H
            exact absurd ((Option.some.inj H).trans hT) (by decide)
         ·obtain ⟨J8, H⟩ := iG H hT
          have J9 : decide (0 ≤ f8) = true := decide_eq_true J8
          clear J8
          obtain ⟨K0, H⟩ := iG H hT
          have K1 : decide (f8 ≤ (e8.length : Int)) = true := decide_eq_true K0
          clear K0
          obtain ⟨v7, H⟩ := iG H hT
          have K2 : ((b7.length : Int) == (f7.length : Int)) = true := beq_iff_eq.mpr v7
          have K3 : ((b7.length : Int) != (f7.length : Int)) = false := bne_eq_false_iff_eq.mpr v7
          have K4 : (b7.length == f7.length) = true := by first | simpa using v7 | (simp at v7 ⊢; omega)
          clear v7
          replace H := bN H
          obtain ⟨G3, N5, H⟩ := H
          by_cases K5 : G3 = true
          ·subst K5
           rw [if_pos rfl] at H
           obtain rfl := Option.some.inj H
           (try clear hT)
           obtain ⟨N6, N7, G4⟩ := Kd.V_slice e9.out
           subst G4
           have hnb92 := nP g8 g7
           have x6 := cg0 a3
           have x7 := cg6 a3
           have v8 := cg12 a3
           obtain ⟨N8, N9, G5⟩ := Kd.V_slice a8.out
           subst G5
           have x8 := cg0 d3
           have x9 := cg6 d3
           have w8 := cg12 d3
           obtain ⟨O0, O1, G6⟩ := Kd.V_slice a6.out
           subst G6
           go_wp2_with (first | (go_at_call 10; (with_reducible refine (laws_sameInts.calls k2 _ _ b8 _ _ g4 _ _ ?side1 ?side2 ?side3 ?side4 N5.out).mono ?_); (case side1 => exact cS (Kd.V_reads' a6.out).2.2); (case side2 => exact (Kd.V_reads' a6.out).2.1); (case side3 => exact cS (Kd.V_reads' a7.out).2.2); (case side4 => exact (Kd.V_reads' a7.out).2.1); rintro e w' ⟨rfl, ⟨nd, rfl⟩⟩))
           go_ret
           exact ⟨eS, bS⟩
          ·obtain rfl := Bool.eq_false_iff.mpr K5
           rw [if_neg nF] at H
           exact absurd ((Option.some.inj H).trans hT) (by decide)
  ·obtain rfl := Bool.eq_false_iff.mpr c7
   rw [if_neg nF] at H
   obtain rfl := Option.some.inj H
   (try clear hT)
   exact laws_FnRuns7.lf0

end Go.Proofs.Ytpickbenfkcpmaa.QFnRuns7
