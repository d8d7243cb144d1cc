/- Walks of functions of the program: each answers what its plain function tells, for every input at which that is told. -/
import Derived.Test.YtjkgponlahfnjaaGreatQFnExactRunPagex0
import Derived.Test.YtjkgponlahfnjaaGreatQFnExactRunPagex5
import Derived.Test.YtjkgponlahfnjaaGreatQFnExactRunPagex11
import Derived.Test.YtjkgponlahfnjaaGreatQFnExactRunPagex13
namespace Go.Proofs.YtjkgponlahfnjaaGreat.QFnExactRunPage
open Go.RowKit Go.Proofs.YtjkgponlahfnjaaGreatW.PrintWords Go.Proofs.YtjkgponlahfnjaaGreatW.PrintLast Go.Proofs.YtjkgponlahfnjaaGreatW.PrintMore
attribute [local go_sem] max2_int min2_int max_two min_two max_three min_three max_four min_four   -- for this text's walks alone
set_option linter.unusedVariables false
set_option linter.unusedSimpArgs false
set_option maxHeartbeats 8000000
set_option maxRecDepth 100000
def spec_BlocksOk.f (k : Nat) (l0 : List (S50)) : Option (Bool) := (spec_BlockDepth.f k l0).bind fun a2 => (some (decide (a2 ≥ 0)))
theorem spec_BlocksOk.calls (k : Nat) (A0 : Option Addr) (c0 : Nat) (l0 : List (S50)) (r : Bool) (w : World) (hr0 : Kd.C k50 w A0 l0.length l0) (a3 : l0.length ≤ c0) (h : spec_BlocksOk.f k l0 = some r) :
  Calls Tryz.prog 121 #[.slice A0 l0.length c0] w fun e w' => e = .returned (.bool r) ∧ Below w.heap.size w w' := by
 have a5 := aM hr0
 have a6 := aM a3
 clear hr0 a3
 have HB := aM (Below.refl w.heap.size w)
 have H := h
 clear h
 unfold spec_BlocksOk.f at H
 replace H := bN H
 obtain ⟨a2, A2, H⟩ := H
 obtain rfl := Option.some.inj H
 go_enter Tryz.func121, Tryz.ntmps121
 go_wp2_with (first | ((with_reducible refine gC 128 ?_); refine cL (some 4) Tryz.func128 #[.slice A0 l0.length c0] ?_; (with_reducible refine (spec_BlockDepth.calls k _ _ l0 a2 _ ?side1 ?side2 A2.out).mono ?_); (case side1 => exact cS a5.out); (case side2 => exact a6.out); rintro e w3 ⟨rfl, hb⟩; refine ⟨_, rfl, ?_⟩; replace HB := hB hb; (try clear hb)))
 go_ret
 exact ⟨eS, bS⟩
def spec_FlatLength.f (k : Nat) (l0 : List (S50)) : Option (Int) := (spec_BlocksOk.f k l0).bind fun a2 => (if a2 = true then ((spec_l06Flat.f k l0).bind fun a3 => (some (a3.length : Int))) else (some (-1)))
theorem spec_FlatLength.lf0 {p : Prop} (h : p := by
 go_enter Tryz.func104, Tryz.ntmps104
 go_wp2_with (first | ((with_reducible refine gC 121 ?_); refine cL (some 4) Tryz.func121 #[.slice A0 l0.length c0] ?_; (with_reducible refine (spec_BlocksOk.calls k _ _ l0 _ _ ?side1 ?side2 A2.out).mono ?_); (case side1 => exact cS a6.out); (case side2 => exact a7.out); rintro e w5 ⟨rfl, hb⟩; refine ⟨_, rfl, ?_⟩; replace HB := hB hb; (try clear hb)) | ((with_reducible refine gC 105 ?_); refine cM (some 7) Tryz.func105 (spec_l06Flat.calls k _ _ l0 a3 _ (cC a6 HB) a7.out A4.out) ?_; rintro e w6 ⟨b0, rfl, a8, hb⟩; refine ⟨_, rfl, ?_⟩; have a2 := aM (Kd.R_lower a8 (below_size bS)); replace HB := hB hb; (try clear hb a8); obtain ⟨b2, b6, b1⟩ := Kd.R_slice a2.out; subst b1))
 go_ret
 exact ⟨eS, bS⟩) : p := h
theorem spec_FlatLength.calls (k : Nat) (A0 : Option Addr) (c0 : Nat) (l0 : List (S50)) (r : Int) (w : World) (hr0 : Kd.C k50 w A0 l0.length l0) (a9 : l0.length ≤ c0) (h : spec_FlatLength.f k l0 = some r) :
  Calls Tryz.prog 104 #[.slice A0 l0.length c0] w fun e w' => e = .returned (.int .i64 r) ∧ Below w.heap.size w w' := by
 have a6 := aM hr0
 have a7 := aM a9
 clear hr0 a9
 have HB := aM (Below.refl w.heap.size w)
 have H := h
 clear h
 unfold spec_FlatLength.f at H
 replace H := bN H
 obtain ⟨a5, A2, H⟩ := H
 by_cases c3 : a5 = true
 ·subst c3
  rw [if_pos rfl] at H
  replace H := bN H
  obtain ⟨a3, A4, H⟩ := H
  obtain rfl := Option.some.inj H
  exact spec_FlatLength.lf0
 ·obtain rfl := Bool.eq_false_iff.mpr c3
  rw [if_neg nF] at H
  obtain rfl := Option.some.inj H
  exact spec_FlatLength.lf0
def spec_FlattenBlocks.f (k : Nat) (l0 : List (S50)) : Option ((List (S50)) × Bool) := (spec_FlatLength.f k l0).bind fun a2 => ((spec_l01In.f a2 0 200).bind fun a3 => (if a3 = true then ((spec_l06Flat.f k l0).bind fun a5 => (some (a5, true))) else (some ((([] : List (S50))), false))))
theorem spec_FlattenBlocks.calls (k : Nat) (A0 : Option Addr) (c0 : Nat) (l0 : List (S50)) (r1 : List (S50)) (r2 : Bool) (w : World) (hr0 : Kd.C k50 w A0 l0.length l0) (b2 : l0.length ≤ c0) (h : spec_FlattenBlocks.f k l0 = some (r1, r2)) :
  Calls Tryz.prog 54 #[.slice A0 l0.length c0] w fun e w' => ∃ v0_ : Value, e = .returned (.tuple #[v0_, .bool r2]) ∧ Kd.R k50 50 w' w.heap.size (fun _ => True) v0_ r1 ∧ Below w.heap.size w w' := by
 have a7 := aM hr0
 have a8 := aM b2
 clear hr0 b2
 have HB := aM (Below.refl w.heap.size w)
 have H := h
 clear h
 unfold spec_FlattenBlocks.f at H
 replace H := bN H
 obtain ⟨a3, A2, H⟩ := H
 replace H := bN H
 obtain ⟨a9, A3, H⟩ := H
 by_cases c4 : a9 = true
 ·subst c4
  rw [if_pos rfl] at H
  replace H := bN H
  obtain ⟨b0, A5, H⟩ := H
  obtain ⟨rfl, rfl⟩ := sI2 H
  go_enter Tryz.func54, Tryz.ntmps54
  go_wp2_with (first | ((with_reducible refine gC 104 ?_); refine cL (some 6) Tryz.func104 #[.slice A0 l0.length c0] ?_; (with_reducible refine (spec_FlatLength.calls k _ _ l0 a3 _ ?side1 ?side2 A2.out).mono ?_); (case side1 => exact cS a7.out); (case side2 => exact a8.out); rintro e w6 ⟨rfl, hb⟩; refine ⟨_, rfl, ?_⟩; replace HB := hB hb; (try clear hb)) | ((with_reducible refine gC 65 ?_); refine cM (some 8) Tryz.func65 (spec_l01In.calls a3 0 200 _ _ A3.out) ?_; rintro e w' ⟨rfl, ⟨nd, rfl⟩⟩; refine ⟨_, rfl, ?_⟩) | ((with_reducible refine gC 105 ?_); refine cM (some 12) Tryz.func105 (spec_l06Flat.calls k _ _ l0 b0 _ (cS (Kd.C_below a7.out bS)) a8.out A5.out) ?_; rintro e w7 ⟨b7, rfl, b6, hb⟩; refine ⟨_, rfl, ?_⟩; have a5 := aM (Kd.R_lower b6 (below_size bS)); replace HB := hB hb; (try clear hb b6)))
  go_ret2
  exact ⟨_, eS, rS a5, bS⟩
 ·obtain rfl := Bool.eq_false_iff.mpr c4
  rw [if_neg nF] at H
  obtain ⟨b1, hy_⟩ : ∃ y_ : List (S50), y_ = (([] : List (S50))) := ⟨_, rfl⟩
  replace H : (some (b1, false)) = some (r1, r2) := yS
  have Ny653 := aM hy_
  clear hy_
  obtain ⟨rfl, rfl⟩ := sI2 H
  go_enter Tryz.func54, Tryz.ntmps54
  go_wp2_with (first | ((with_reducible refine gC 104 ?_); refine cL (some 6) Tryz.func104 #[.slice A0 l0.length c0] ?_; (with_reducible refine (spec_FlatLength.calls k _ _ l0 a3 _ ?side1 ?side2 A2.out).mono ?_); (case side1 => exact cS a7.out); (case side2 => exact a8.out); rintro e w8 ⟨rfl, hb⟩; refine ⟨_, rfl, ?_⟩; replace HB := hB hb; (try clear hb)) | ((with_reducible refine gC 65 ?_); refine cM (some 8) Tryz.func65 (spec_l01In.calls a3 0 200 _ _ A3.out) ?_; rintro e w' ⟨rfl, ⟨nd, rfl⟩⟩; refine ⟨_, rfl, ?_⟩) | ((with_reducible refine gate_dst (N := 10) rfl ?_); refine Kd.R_lit k50 _ 50 ?hg (N := 10) ?hd (xs := ([] : List (S50))) (inner := []) (ok := fun _ => True) (okp := fun _ => True) ?hr ?hp (fun _ hk => hk) trivial (Below.refl _ _) (Nat.le_refl _) (by simp) ?_; (case hd => rfl); (case hg => rfl); (case hr => first | (go_simp; done) | (go_simp; rfl)); (case hp => exact (Reps.none _ _)); intro b8 w9 a2 hb hg_ hnew_; clear hg_ hnew_; (first | rw [← Ny653.out] at a2 | (simp only [Int.reduceToNat] at a2; rw [← Ny653.out] at a2)); have a6 := aM (Kd.R_lower a2 (below_size bS)); replace HB := hB hb; clear hb a2))
  go_ret2
  exact ⟨_, eS, rS a6, bS⟩
def spec_l07Full.f  : Option (Int × Int × Int × Int) := some (0, 0, 32, 32)
theorem spec_l07Full.calls  (r1 : Int) (r2 : Int) (r3 : Int) (r4 : Int) (w : World) (h : spec_l07Full.f  = some (r1, r2, r3, r4)) :
  Calls Tryz.prog 106 #[] w fun e w' => e = .returned (.agg #[.int .i64 r1, .int .i64 r2, .int .i64 r3, .int .i64 r4]) ∧ Below w.heap.size w w' := by
 have hu40 := Tryz.underlying40
 have HB := aM (Below.refl w.heap.size w)
 have H := h
 clear h
 unfold spec_l07Full.f at H
 obtain ⟨rfl, rfl, rfl, rfl⟩ := sI4 H
 go_enter Tryz.func106, Tryz.ntmps106
 go_wp2_with (first | ((with_reducible refine gD 0 ?_); refine bxE #[.int .i64 0, .int .i64 0, .int .i64 0, .int .i64 0] 40 ?_; intro a2 hg w1 a3 hb; have GE656 := gE hg; replace HB := hB hb; clear hb hg; have hz2 := cz4 a3))
 refine bodyPost_ret (results_cell_row rfl _ _ a2 40 #[.int .i64 0, .int .i64 0, .int .i64 32, .int .i64 32] (0, 0) _ rfl kS Tryz.underlying40 rfl (by kernel_rfl)) rfl ?_
 exact ⟨eS, bS⟩
end Go.Proofs.YtjkgponlahfnjaaGreat.QFnExactRunPage
