/- The law FnExactSameRows holds for every input: the row, out of the walk and the plain law. -/
import Derived.Test.YtbpekdhafniodaaRows
import Derived.Test.YtbpekdhafniodaaQFnExactSameRowsx2
import Derived.Test.YtbpekdhafniodaaPureFnExactSameRows
import Derived.Test.YtbpekdhafniodaaOpen
import Derived.WalkKit
import Derived.ProofKit
import Derived.OpenShut
import Derived.ShutString
import Derived.ChangeOld
import Derived.Below
import Derived.SizedLaws
namespace Go.Proofs.Ytbpekdhafniodaa.fnExactSameRows
open Go.ChangeShapes Go.WideShapes Go.ChangeAt Go.RowKit Go.Proofs.Ytbpekdhafniodaa.QFnExactSameRows Go.Proofs.YtbpekdhafniodaaW.PrintWords
open Go.ChangeMaps (open_string shut_string)
set_option linter.unusedVariables false
theorem own : ownKnob Try.prog.godebug = none := by kernel_rfl
theorem laidOut : laidOutB Try.prog = true := by kernel_rfl
set_option maxRecDepth 100000 in
theorem lifted (os : Os) (started : os.Started) (H : Type) (enc : TypeId × Value → H) :
    ReturnsInHanded {} Try.checked os 11 .any (Rows.fnExactSameRowsSpec.pre6 enc Try.prog Try.f11 Rows.fnExactSameRowsRow.domain false) (Rows.fnExactSameRowsSpec.post enc Try.prog Try.f11 false true false false) := by
  refine returnsInHanded_of_change_sized (C := Try.checked) own started (by kernel_rfl) Try.func11
    (ChangeSpec.witness6 (enc := enc) (C := Try.checked) false ⟨#[], #[.slice none 0 0, .slice none 0 0], []⟩ 8 (by kernel_rfl) (by kernel_rfl) (by kernel_rfl) (by kernel_rfl)) ?_
  intro W base args ds gs before hval0 hW hcnd hsz0 _
  have hval : ∀ (j : Nat) t v, Try.f11.params[j]? = some t → args[j]? = some v → Value.okWide Try.prog W .any base t v := hval0
  have hW' := hW
  obtain ⟨p, q, hA0, hV, rfl, hfz, hnd⟩ := hW
  have hA : DataW.TrodAll enc Try.prog W 0 (fun _ => true) true Try.f11.params.toList args.toList ds p := hA0
  rw [Try.params11] at hA hval
  obtain ⟨v0, vs0, d0, ds0, p0, q0, hargs, rfl, rfl, h0, r0⟩ := trodAll_cons hA
  obtain ⟨v1, vs1, d1, ds1, p1, q1, rfl, rfl, rfl, h1, r1⟩ := trodAll_cons r0
  obtain ⟨rfl, rfl, rfl⟩ := trodAll_nil r1
  obtain rfl : args = #[v0, v1] := by cases args; simp_all
  obtain ⟨rfl, rfl⟩ := trodVars_none hV
  have k0 := h0
  have lt0 : ∀ x ∈ p0, x.block < W.heap.size := by obtain ⟨m, hm⟩ := k0; exact DataW.trod_lt m _ _ _ hm
  obtain ⟨A0, c0, l0, rfl, hC0, hl0, hg0⟩ := Open.open_slice_arg (Open.opens_slice Try.underlying32 (by kernel_rfl) (Open.opens_slice Try.underlying47 (by kernel_rfl) (Open.opens_int Try.underlying3))) h0 (okWide_slice Try.underlying32 (hval 0 32 v0 rfl rfl))
  replace hg0 : (l0.length ≤ maxLen ∧ ∀ y ∈ l0, (y.length ≤ maxLen ∧ ∀ yy ∈ y, ((Lit.int .i64 yy).wf = true))) := hg0
  have k1 := h1
  have lt1 : ∀ x ∈ p1, x.block < W.heap.size := by obtain ⟨m, hm⟩ := k1; exact DataW.trod_lt m _ _ _ hm
  obtain ⟨A1, c1, l1, rfl, hC1, hl1, hg1⟩ := Open.open_slice_arg (Open.opens_slice Try.underlying32 (by kernel_rfl) (Open.opens_slice Try.underlying47 (by kernel_rfl) (Open.opens_int Try.underlying3))) h1 (okWide_slice Try.underlying32 (hval 1 32 v1 rfl rfl))
  replace hg1 : (l1.length ≤ maxLen ∧ ∀ y ∈ l1, (y.length ≤ maxLen ∧ ∀ yy ∈ y, ((Lit.int .i64 yy).wf = true))) := hg1
  clear hA0 hval0 hsz0
  obtain ⟨k, hk⟩ := Pure.FnExactSameRows l0 l1 hg0 hg1
  refine (laws_FnExactSameRows.calls k A0 c0 l0 A1 c1 l1 true W hC0 hl0 hC1 hl1 hk).mono fun e W' ⟨he, bel⟩ => ?_
  subst he
  exact ⟨_, rfl, _, _, _, [], _, [], hW', trodAll_mk1 (shut_bool Try.underlying4 _), (trodAll_cons_mk (Below.trod laidOut (by kernel_rfl) (of_decide_eq_true (by kernel_rfl)) k0 bel lt0) (trodAll_cons_mk (Below.trod laidOut (by kernel_rfl) (of_decide_eq_true (by kernel_rfl)) k1 bel lt1) trodAll_mk0)), rfl, bel.frame _, fun h => by cases h⟩
theorem over : Rows.fnExactSameRowsRow.holds Try.pinned (OpenSpec.ofChange Rows.fnExactSameRowsSpec) :=
  OpenClaim.holds_of_wide 11 Try.f11 rfl rfl rfl rfl rfl rfl rfl ⟨rfl, rfl, rfl, rfl, rfl⟩ rfl rfl rfl rfl rfl (by kernel_rfl) Try.func11 (by kernel_rfl)
    (of_decide_eq_true (by kernel_rfl)) (by unfold Func.isWrapper; first | (rw [if_pos (by decide +kernel)]; kernel_rfl) | (rw [if_neg (by decide +kernel)]; exact ⟨rfl, rfl⟩))
    (fun os started H enc _ => lifted os started H enc)
theorem proved : Rows.FnExactSameRowsSaid := over
#print axioms proved
end Go.Proofs.Ytbpekdhafniodaa.fnExactSameRows
namespace Go.Proofs.Ytbpekdhafniodaa
/-- The row, under a short name, for the claim. -/
theorem fnExactSameRows_holds : Rows.FnExactSameRowsSaid := fnExactSameRows.proved
end Go.Proofs.Ytbpekdhafniodaa
