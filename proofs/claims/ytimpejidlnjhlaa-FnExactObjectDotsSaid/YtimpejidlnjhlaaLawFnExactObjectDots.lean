/- The law FnExactObjectDots holds for every input: the row, out of the walk and the plain law. -/
import Derived.Test.YtimpejidlnjhlaaRows
import Derived.Test.YtimpejidlnjhlaaQFnExactObjectDotsx10
import Derived.Test.YtimpejidlnjhlaaPureFnExactObjectDots
import Derived.Test.YtimpejidlnjhlaaOpen
import Derived.WalkKit
import Derived.ProofKit
import Derived.OpenShut
import Derived.ShutString
import Derived.ChangeOld
import Derived.Below
import Derived.SizedLaws
namespace Go.Proofs.Ytimpejidlnjhlaa.fnExactObjectDots
open Go.ChangeShapes Go.WideShapes Go.ChangeAt Go.RowKit Go.Proofs.Ytimpejidlnjhlaa.QFnExactObjectDots Go.Proofs.YtimpejidlnjhlaaW.PrintWords
open Go.ChangeMaps (open_string shut_string)
set_option linter.unusedVariables false
theorem own : ownKnob Try.prog.godebug = none := by kernel_rfl
theorem laidOut : laidOutB Try.prog = true := by kernel_rfl
theorem opens180 : Open.Opens Try.prog 180 k180 (fun x => (((Lit.int .i64 x.f0).wf = true) ∧ ((Lit.int .i64 x.f1).wf = true))) :=
  Open.opens_iso (fun x : S180 => (x.f0, x.f1)) (fun y => ⟨y.1, y.2⟩) (fun _ => rfl) (Open.opens_struct Try.underlying180 (by kernel_rfl) (Open.opensF_cons rfl (by kernel_rfl) (Open.opens_int Try.underlying3) (Open.opensF_one rfl (by kernel_rfl) (Open.opens_int Try.underlying3))))
set_option maxRecDepth 100000 in
theorem lifted (os : Os) (started : os.Started) (H : Type) (enc : TypeId × Value → H) :
    ReturnsInHanded {} Try.checked os 12 .any (Rows.fnExactObjectDotsSpec.pre6 enc Try.prog Try.f12 Rows.fnExactObjectDotsRow.domain false) (Rows.fnExactObjectDotsSpec.post enc Try.prog Try.f12 false true false false) := by
  refine returnsInHanded_of_change_sized (C := Try.checked) own started (by kernel_rfl) Try.func12
    (ChangeSpec.witness6 (enc := enc) (C := Try.checked) false ⟨#[], #[.agg #[.slice none 0 0, .int .i64 0, .int .i64 0, .int .i64 0, .int .i64 0, .int .i64 0]], []⟩ 8 (by kernel_rfl) (by kernel_rfl) (by kernel_rfl) (by kernel_rfl)) ?_
  intro W base args ds gs before hval0 hW hcnd hsz0 _
  have hval : ∀ (j : Nat) t v, Try.f12.params[j]? = some t → args[j]? = some v → Value.okWide Try.prog W .any base t v := hval0
  have hW' := hW
  obtain ⟨p, q, hA0, hV, rfl, hfz, hnd⟩ := hW
  have hA : DataW.TrodAll enc Try.prog W 0 (fun _ => true) true Try.f12.params.toList args.toList ds p := hA0
  rw [Try.params12] at hA hval
  obtain ⟨v0, vs0, d0, ds0, p0, q0, hargs, rfl, rfl, h0, r0⟩ := trodAll_cons hA
  obtain ⟨rfl, rfl, rfl⟩ := trodAll_nil r0
  obtain rfl : args = #[v0] := by cases args; simp_all
  obtain ⟨rfl, rfl⟩ := trodVars_none hV
  have k0 := h0
  have lt0 : ∀ x ∈ p0, x.block < W.heap.size := by obtain ⟨m, hm⟩ := k0; exact DataW.trod_lt m _ _ _ hm
  obtain ⟨x0, cs0, rfl, hK0, hg0⟩ := Open.open_struct_arg (Open.opens_struct Try.underlying91 (by kernel_rfl) (Open.opensF_cons rfl (by kernel_rfl) (Open.opens_slice Try.underlying88 (by kernel_rfl) opens180) (Open.opensF_cons rfl (by kernel_rfl) (Open.opens_int Try.underlying3) (Open.opensF_one rfl (by kernel_rfl) (Open.opens_struct Try.underlying89 (by kernel_rfl) (Open.opensF_cons rfl (by kernel_rfl) (Open.opens_int Try.underlying3) (Open.opensF_cons rfl (by kernel_rfl) (Open.opens_int Try.underlying3) (Open.opensF_cons rfl (by kernel_rfl) (Open.opens_int Try.underlying3) (Open.opensF_one rfl (by kernel_rfl) (Open.opens_int Try.underlying3)))))))))) h0 (okWide_struct Try.underlying91 (hval 0 91 v0 rfl rfl))
  obtain ⟨_, _, rfl, ⟨A0_0, c0_0, rfl, hl0_0, hC0_0⟩, ⟨_, _, rfl, rfl, ⟨_, _, rfl, rfl, ⟨_, _, rfl, rfl, ⟨_, _, rfl, rfl, rfl⟩⟩⟩⟩⟩ := hK0
  clear hA0 hval0 hsz0
  obtain ⟨k, hk⟩ := Pure.FnExactObjectDots x0.1 x0.2.1 x0.2.2.1 x0.2.2.2.1 x0.2.2.2.2.1 x0.2.2.2.2.2 hg0
  refine (laws_FnExactObjectDots.calls k A0_0 c0_0 x0.1 x0.2.1 x0.2.2.1 x0.2.2.2.1 x0.2.2.2.2.1 x0.2.2.2.2.2 true W hC0_0 hl0_0 hk).mono fun e W' ⟨he, bel⟩ => ?_
  subst he
  exact ⟨_, rfl, _, _, _, [], _, [], hW', trodAll_mk1 (shut_bool Try.underlying4 _), (trodAll_cons_mk (Below.trod laidOut (by kernel_rfl) (of_decide_eq_true (by kernel_rfl)) k0 bel lt0) trodAll_mk0), rfl, bel.frame _, fun h => by cases h⟩
theorem over : Rows.fnExactObjectDotsRow.holds Try.pinned (OpenSpec.ofChange Rows.fnExactObjectDotsSpec) :=
  OpenClaim.holds_of_wide 12 Try.f12 rfl rfl rfl rfl rfl rfl rfl ⟨rfl, rfl, rfl, rfl, rfl⟩ rfl rfl rfl rfl rfl (by kernel_rfl) Try.func12 (by kernel_rfl)
    (of_decide_eq_true (by kernel_rfl)) (by unfold Func.isWrapper; first | (rw [if_pos (by decide +kernel)]; kernel_rfl) | (rw [if_neg (by decide +kernel)]; exact ⟨rfl, rfl⟩))
    (fun os started H enc _ => lifted os started H enc)
theorem proved : Rows.FnExactObjectDotsSaid := over
#print axioms proved
end Go.Proofs.Ytimpejidlnjhlaa.fnExactObjectDots
namespace Go.Proofs.Ytimpejidlnjhlaa
/-- The row, under a short name, for the claim. -/
theorem fnExactObjectDots_holds : Rows.FnExactObjectDotsSaid := fnExactObjectDots.proved
end Go.Proofs.Ytimpejidlnjhlaa
