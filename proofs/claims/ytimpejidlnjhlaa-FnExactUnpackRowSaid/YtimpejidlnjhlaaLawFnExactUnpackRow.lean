/- The law FnExactUnpackRow holds for every input: the row, out of the walk and the plain law. -/
import Derived.Test.YtimpejidlnjhlaaRows
import Derived.Test.YtimpejidlnjhlaaQFnExactUnpackRowx9
import Derived.Test.YtimpejidlnjhlaaPureFnExactUnpackRow
import Derived.Test.YtimpejidlnjhlaaOpen
import Derived.WalkKit
import Derived.ProofKit
import Derived.OpenShut
import Derived.ShutString
import Derived.ChangeOld
import Derived.Below
import Derived.SizedLaws
namespace Go.Proofs.Ytimpejidlnjhlaa.fnExactUnpackRow
open Go.ChangeShapes Go.WideShapes Go.ChangeAt Go.RowKit Go.Proofs.Ytimpejidlnjhlaa.QFnExactUnpackRow Go.Proofs.YtimpejidlnjhlaaW.PrintWords
open Go.ChangeMaps (open_string shut_string)
set_option linter.unusedVariables false
theorem own : ownKnob Try.prog.godebug = none := by kernel_rfl
theorem laidOut : laidOutB Try.prog = true := by kernel_rfl
set_option maxRecDepth 100000 in
theorem lifted (os : Os) (started : os.Started) (H : Type) (enc : TypeId × Value → H) :
    ReturnsInHanded {} Try.checked os 3 .any (Rows.fnExactUnpackRowSpec.pre6 enc Try.prog Try.f3 Rows.fnExactUnpackRowRow.domain false) (Rows.fnExactUnpackRowSpec.post enc Try.prog Try.f3 false true false false) := by
  refine returnsInHanded_of_change_sized (C := Try.checked) own started (by kernel_rfl) Try.func3
    (ChangeSpec.witness6 (enc := enc) (C := Try.checked) false ⟨#[], #[.agg #[.bool false, .slice none 0 0]], []⟩ 8 (by kernel_rfl) (by kernel_rfl) (by kernel_rfl) (by kernel_rfl)) ?_
  intro W base args ds gs before hval0 hW hcnd hsz0 _
  have hval : ∀ (j : Nat) t v, Try.f3.params[j]? = some t → args[j]? = some v → Value.okWide Try.prog W .any base t v := hval0
  have hW' := hW
  obtain ⟨p, q, hA0, hV, rfl, hfz, hnd⟩ := hW
  have hA : DataW.TrodAll enc Try.prog W 0 (fun _ => true) true Try.f3.params.toList args.toList ds p := hA0
  rw [Try.params3] at hA hval
  obtain ⟨v0, vs0, d0, ds0, p0, q0, hargs, rfl, rfl, h0, r0⟩ := trodAll_cons hA
  obtain ⟨rfl, rfl, rfl⟩ := trodAll_nil r0
  obtain rfl : args = #[v0] := by cases args; simp_all
  obtain ⟨rfl, rfl⟩ := trodVars_none hV
  have k0 := h0
  have lt0 : ∀ x ∈ p0, x.block < W.heap.size := by obtain ⟨m, hm⟩ := k0; exact DataW.trod_lt m _ _ _ hm
  obtain ⟨x0, cs0, rfl, hK0, hg0⟩ := Open.open_struct_arg (Open.opens_struct Try.underlying24 (by kernel_rfl) (Open.opensF_cons rfl (by kernel_rfl) (Open.opens_bool Try.underlying4) (Open.opensF_one rfl (by kernel_rfl) (Open.opens_slice Try.underlying22 (by kernel_rfl) (Open.opens_int Try.underlying3))))) h0 (okWide_struct Try.underlying24 (hval 0 24 v0 rfl rfl))
  obtain ⟨_, _, rfl, rfl, ⟨A0_1, c0_1, rfl, hl0_1, hC0_1⟩⟩ := hK0
  clear hA0 hval0 hsz0
  obtain ⟨k, hk⟩ := Pure.FnExactUnpackRow x0.1 x0.2 hg0
  refine (laws_FnExactUnpackRow.calls k x0.1 A0_1 c0_1 x0.2 true W hC0_1 hl0_1 hk).mono fun e W' ⟨he, bel⟩ => ?_
  subst he
  exact ⟨_, rfl, _, _, _, [], _, [], hW', trodAll_mk1 (shut_bool Try.underlying4 _), (trodAll_cons_mk (Below.trod laidOut (by kernel_rfl) (of_decide_eq_true (by kernel_rfl)) k0 bel lt0) trodAll_mk0), rfl, bel.frame _, fun h => by cases h⟩
theorem over : Rows.fnExactUnpackRowRow.holds Try.pinned (OpenSpec.ofChange Rows.fnExactUnpackRowSpec) :=
  OpenClaim.holds_of_wide 3 Try.f3 rfl rfl rfl rfl rfl rfl rfl ⟨rfl, rfl, rfl, rfl, rfl⟩ rfl rfl rfl rfl rfl (by kernel_rfl) Try.func3 (by kernel_rfl)
    (of_decide_eq_true (by kernel_rfl)) (by unfold Func.isWrapper; first | (rw [if_pos (by decide +kernel)]; kernel_rfl) | (rw [if_neg (by decide +kernel)]; exact ⟨rfl, rfl⟩))
    (fun os started H enc _ => lifted os started H enc)
theorem proved : Rows.FnExactUnpackRowSaid := over
#print axioms proved
end Go.Proofs.Ytimpejidlnjhlaa.fnExactUnpackRow
namespace Go.Proofs.Ytimpejidlnjhlaa
/-- The row, under a short name, for the claim. -/
theorem fnExactUnpackRow_holds : Rows.FnExactUnpackRowSaid := fnExactUnpackRow.proved
end Go.Proofs.Ytimpejidlnjhlaa
