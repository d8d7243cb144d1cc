/- The law FnExactAddToBand holds for every input: the row, out of the walk and the plain law. -/
import Derived.Test.YtncfipboidmfbaaGreatRows
import Derived.Test.YtncfipboidmfbaaGreatQFnExactAddToBandx7
import Derived.Test.YtncfipboidmfbaaGreatPureFnExactAddToBand
import Derived.Test.YtncfipboidmfbaaGreatOpen
import Derived.WalkKit
import Derived.ProofKit
import Derived.OpenShut
import Derived.ShutString
import Derived.ChangeOld
import Derived.Below
import Derived.SizedLaws
namespace Go.Proofs.YtncfipboidmfbaaGreat.fnExactAddToBand
open Go.ChangeShapes Go.WideShapes Go.ChangeAt Go.RowKit Go.Proofs.YtncfipboidmfbaaGreat.QFnExactAddToBand Go.Proofs.YtncfipboidmfbaaGreatW.PrintWords
open Go.ChangeMaps (open_string shut_string)
set_option linter.unusedVariables false
theorem own : ownKnob Tryz.prog.godebug = none := by kernel_rfl
theorem laidOut : laidOutB Tryz.prog = true := by kernel_rfl
theorem opens153 : Open.Opens Tryz.prog 153 k153 (fun x => (((Lit.int .i64 x.f0).wf = true) ∧ ((Lit.int .i64 x.f1).wf = true))) :=
  Open.opens_iso (fun x : S153 => (x.f0, x.f1)) (fun y => ⟨y.1, y.2⟩) (fun _ => rfl) (Open.opens_struct Tryz.underlying153 (by kernel_rfl) (Open.opensF_cons rfl (by kernel_rfl) (Open.opens_int Tryz.underlying3) (Open.opensF_one rfl (by kernel_rfl) (Open.opens_int Tryz.underlying3))))
theorem opens40 : Open.Opens Tryz.prog 40 k40 (fun x => (((Lit.int .i64 x.f0).wf = true) ∧ ((Lit.int .i64 x.f1).wf = true) ∧ ((Lit.int .i64 x.f2).wf = true) ∧ ((Lit.int .i64 x.f3).wf = true))) :=
  Open.opens_iso (fun x : S40 => (x.f0, x.f1, x.f2, x.f3)) (fun y => ⟨y.1, y.2.1, y.2.2.1, y.2.2.2⟩) (fun _ => rfl) (Open.opens_struct Tryz.underlying40 (by kernel_rfl) (Open.opensF_cons rfl (by kernel_rfl) (Open.opens_int Tryz.underlying3) (Open.opensF_cons rfl (by kernel_rfl) (Open.opens_int Tryz.underlying3) (Open.opensF_cons rfl (by kernel_rfl) (Open.opens_int Tryz.underlying3) (Open.opensF_one rfl (by kernel_rfl) (Open.opens_int Tryz.underlying3))))))
theorem opens42 : Open.Opens Tryz.prog 42 k42 (fun x => ((x.f0.length ≤ maxLen ∧ ∀ y ∈ x.f0, (((Lit.int .i64 y.f0).wf = true) ∧ ((Lit.int .i64 y.f1).wf = true))) ∧ ((Lit.int .i64 x.f1).wf = true) ∧ (((Lit.int .i64 x.f2.f0).wf = true) ∧ ((Lit.int .i64 x.f2.f1).wf = true) ∧ ((Lit.int .i64 x.f2.f2).wf = true) ∧ ((Lit.int .i64 x.f2.f3).wf = true)))) :=
  Open.opens_iso (fun x : S42 => (x.f0, x.f1, x.f2)) (fun y => ⟨y.1, y.2.1, y.2.2⟩) (fun _ => rfl) (Open.opens_struct Tryz.underlying42 (by kernel_rfl) (Open.opensF_cons rfl (by kernel_rfl) (Open.opens_slice Tryz.underlying38 (by kernel_rfl) opens153) (Open.opensF_cons rfl (by kernel_rfl) (Open.opens_int Tryz.underlying3) (Open.opensF_one rfl (by kernel_rfl) opens40))))
set_option maxRecDepth 100000 in
theorem lifted (os : Os) (started : os.Started) (H : Type) (enc : TypeId × Value → H) :
    ReturnsInHanded {} Tryz.checked os 5 .any (Rows.fnExactAddToBandSpec.pre6 enc Tryz.prog Tryz.f5 Rows.fnExactAddToBandRow.domain false) (Rows.fnExactAddToBandSpec.post enc Tryz.prog Tryz.f5 false true false false) := by
  refine returnsInHanded_of_change_sized (C := Tryz.checked) own started (by kernel_rfl) Tryz.func5
    (ChangeSpec.witness6 (enc := enc) (C := Tryz.checked) false ⟨#[], #[.agg #[.int .i64 0, .int .i64 0, .slice none 0 0, .slice none 0 0], .agg #[.slice none 0 0, .int .i64 0, .int .i64 0, .int .i64 0, .int .i64 0, .int .i64 0]], []⟩ 8 (by kernel_rfl) (by kernel_rfl) (by kernel_rfl) (by kernel_rfl)) ?_
  intro W base args ds gs before hval0 hW hcnd hsz0 _
  have hval : ∀ (j : Nat) t v, Tryz.f5.params[j]? = some t → args[j]? = some v → Value.okWide Tryz.prog W .any base t v := hval0
  have hW' := hW
  obtain ⟨p, q, hA0, hV, rfl, hfz, hnd⟩ := hW
  have hA : DataW.TrodAll enc Tryz.prog W 0 (fun _ => true) true Tryz.f5.params.toList args.toList ds p := hA0
  rw [Tryz.params5] at hA hval
  obtain ⟨v0, vs0, d0, ds0, p0, q0, hargs, rfl, rfl, h0, r0⟩ := trodAll_cons hA
  obtain ⟨v1, vs1, d1, ds1, p1, q1, rfl, rfl, rfl, h1, r1⟩ := trodAll_cons r0
  obtain ⟨rfl, rfl, rfl⟩ := trodAll_nil r1
  obtain rfl : args = #[v0, v1] := by cases args; simp_all
  obtain ⟨rfl, rfl⟩ := trodVars_none hV
  have k0 := h0
  have lt0 : ∀ x ∈ p0, x.block < W.heap.size := by obtain ⟨m, hm⟩ := k0; exact DataW.trod_lt m _ _ _ hm
  obtain ⟨x0, cs0, rfl, hK0, hg0⟩ := Open.open_struct_arg (Open.opens_struct Tryz.underlying25 (by kernel_rfl) (Open.opensF_cons rfl (by kernel_rfl) (Open.opens_int Tryz.underlying3) (Open.opensF_cons rfl (by kernel_rfl) (Open.opens_int Tryz.underlying3) (Open.opensF_cons rfl (by kernel_rfl) (Open.opens_slice Tryz.underlying22 (by kernel_rfl) (Open.opens_slice Tryz.underlying54 (by kernel_rfl) (Open.opens_int Tryz.underlying3))) (Open.opensF_one rfl (by kernel_rfl) (Open.opens_slice Tryz.underlying23 (by kernel_rfl) opens42)))))) h0 (okWide_struct Tryz.underlying25 (hval 0 25 v0 rfl rfl))
  obtain ⟨_, _, rfl, rfl, ⟨_, _, rfl, rfl, ⟨_, _, rfl, ⟨A0_2, c0_2, rfl, hl0_2, hC0_2⟩, ⟨A0_3, c0_3, rfl, hl0_3, hC0_3⟩⟩⟩⟩ := hK0
  have k1 := h1
  have lt1 : ∀ x ∈ p1, x.block < W.heap.size := by obtain ⟨m, hm⟩ := k1; exact DataW.trod_lt m _ _ _ hm
  obtain ⟨x1, cs1, rfl, hK1, hg1⟩ := Open.open_struct_arg (Open.opens_struct Tryz.underlying42 (by kernel_rfl) (Open.opensF_cons rfl (by kernel_rfl) (Open.opens_slice Tryz.underlying38 (by kernel_rfl) opens153) (Open.opensF_cons rfl (by kernel_rfl) (Open.opens_int Tryz.underlying3) (Open.opensF_one rfl (by kernel_rfl) (Open.opens_struct Tryz.underlying40 (by kernel_rfl) (Open.opensF_cons rfl (by kernel_rfl) (Open.opens_int Tryz.underlying3) (Open.opensF_cons rfl (by kernel_rfl) (Open.opens_int Tryz.underlying3) (Open.opensF_cons rfl (by kernel_rfl) (Open.opens_int Tryz.underlying3) (Open.opensF_one rfl (by kernel_rfl) (Open.opens_int Tryz.underlying3)))))))))) h1 (okWide_struct Tryz.underlying42 (hval 1 42 v1 rfl rfl))
  obtain ⟨_, _, rfl, ⟨A1_0, c1_0, rfl, hl1_0, hC1_0⟩, ⟨_, _, rfl, rfl, ⟨_, _, rfl, rfl, ⟨_, _, rfl, rfl, ⟨_, _, rfl, rfl, rfl⟩⟩⟩⟩⟩ := hK1
  clear hA0 hval0 hsz0
  obtain ⟨k, hk⟩ := Pure.FnExactAddToBand x0.1 x0.2.1 x0.2.2.1 x0.2.2.2 x1.1 x1.2.1 x1.2.2.1 x1.2.2.2.1 x1.2.2.2.2.1 x1.2.2.2.2.2 hg0 hg1
  refine (laws_FnExactAddToBand.calls k x0.1 x0.2.1 A0_2 c0_2 x0.2.2.1 A0_3 c0_3 x0.2.2.2 A1_0 c1_0 x1.1 x1.2.1 x1.2.2.1 x1.2.2.2.1 x1.2.2.2.2.1 x1.2.2.2.2.2 true W hC0_2 hl0_2 hC0_3 hl0_3 hC1_0 hl1_0 hk rfl).mono fun e W' ⟨he, bel⟩ => ?_
  subst he
  exact ⟨_, rfl, _, _, _, [], _, [], hW', trodAll_mk1 (shut_bool Tryz.underlying4 _), (trodAll_cons_mk (Below.trod laidOut (by kernel_rfl) (of_decide_eq_true (by kernel_rfl)) k0 bel lt0) (trodAll_cons_mk (Below.trod laidOut (by kernel_rfl) (of_decide_eq_true (by kernel_rfl)) k1 bel lt1) trodAll_mk0)), rfl, bel.frame _, fun h => by cases h⟩
theorem over : Rows.fnExactAddToBandRow.holds Tryz.pinned (OpenSpec.ofChange Rows.fnExactAddToBandSpec) :=
  OpenClaim.holds_of_wide 5 Tryz.f5 rfl rfl rfl rfl rfl rfl rfl ⟨rfl, rfl, rfl, rfl, rfl⟩ rfl rfl rfl rfl rfl (by kernel_rfl) Tryz.func5 (by kernel_rfl)
    (of_decide_eq_true (by kernel_rfl)) (by unfold Func.isWrapper; first | (rw [if_pos (by decide +kernel)]; kernel_rfl) | (rw [if_neg (by decide +kernel)]; exact ⟨rfl, rfl⟩))
    (fun os started H enc _ => lifted os started H enc)
theorem proved : Rows.FnExactAddToBandSaid := over
#print axioms proved
end Go.Proofs.YtncfipboidmfbaaGreat.fnExactAddToBand
namespace Go.Proofs.YtncfipboidmfbaaGreat
/-- The row, under a short name, for the claim. -/
theorem fnExactAddToBand_holds : Rows.FnExactAddToBandSaid := fnExactAddToBand.proved
end Go.Proofs.YtncfipboidmfbaaGreat
