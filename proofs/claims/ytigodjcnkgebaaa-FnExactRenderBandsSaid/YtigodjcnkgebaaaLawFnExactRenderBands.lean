/- The law FnExactRenderBands holds for every input: the row, out of the walk and the plain law. -/
import Derived.Test.YtigodjcnkgebaaaRows
import Derived.Test.YtigodjcnkgebaaaQFnExactRenderBandsx17
import Derived.Test.YtigodjcnkgebaaaPureFnExactRenderBands
import Derived.Test.YtigodjcnkgebaaaOpen
import Derived.WalkKit
import Derived.ProofKit
import Derived.OpenShut
import Derived.ShutString
import Derived.ChangeOld
import Derived.Below
import Derived.SizedLaws
namespace Go.Proofs.Ytigodjcnkgebaaa.fnExactRenderBands
open Go.ChangeShapes Go.WideShapes Go.ChangeAt Go.RowKit Go.Proofs.Ytigodjcnkgebaaa.QFnExactRenderBands Go.Proofs.YtigodjcnkgebaaaW.PrintWords
open Go.ChangeMaps (open_string shut_string)
set_option linter.unusedVariables false
theorem own : ownKnob Try.prog.godebug = none := by kernel_rfl
theorem laidOut : laidOutB Try.prog = true := by kernel_rfl
theorem opens173 : Open.Opens Try.prog 173 k173 (fun x => (((Lit.int .i64 x.f0).wf = true) ∧ ((Lit.int .i64 x.f1).wf = true))) :=
  Open.opens_iso (fun x : S173 => (x.f0, x.f1)) (fun y => ⟨y.1, y.2⟩) (fun _ => rfl) (Open.opens_struct Try.underlying173 (by kernel_rfl) (Open.opensF_cons rfl (by kernel_rfl) (Open.opens_int Try.underlying3) (Open.opensF_one rfl (by kernel_rfl) (Open.opens_int Try.underlying3))))
theorem opens36 : Open.Opens Try.prog 36 k36 (fun x => (((Lit.int .i64 x.f0).wf = true) ∧ ((Lit.int .i64 x.f1).wf = true) ∧ ((Lit.int .i64 x.f2).wf = true) ∧ ((Lit.int .i64 x.f3).wf = true))) :=
  Open.opens_iso (fun x : S36 => (x.f0, x.f1, x.f2, x.f3)) (fun y => ⟨y.1, y.2.1, y.2.2.1, y.2.2.2⟩) (fun _ => rfl) (Open.opens_struct Try.underlying36 (by kernel_rfl) (Open.opensF_cons rfl (by kernel_rfl) (Open.opens_int Try.underlying3) (Open.opensF_cons rfl (by kernel_rfl) (Open.opens_int Try.underlying3) (Open.opensF_cons rfl (by kernel_rfl) (Open.opens_int Try.underlying3) (Open.opensF_one rfl (by kernel_rfl) (Open.opens_int Try.underlying3))))))
theorem opens38 : Open.Opens Try.prog 38 k38 (fun x => ((x.f0.length ≤ maxLen ∧ ∀ y ∈ x.f0, (((Lit.int .i64 y.f0).wf = true) ∧ ((Lit.int .i64 y.f1).wf = true))) ∧ ((Lit.int .i64 x.f1).wf = true) ∧ (((Lit.int .i64 x.f2.f0).wf = true) ∧ ((Lit.int .i64 x.f2.f1).wf = true) ∧ ((Lit.int .i64 x.f2.f2).wf = true) ∧ ((Lit.int .i64 x.f2.f3).wf = true)))) :=
  Open.opens_iso (fun x : S38 => (x.f0, x.f1, x.f2)) (fun y => ⟨y.1, y.2.1, y.2.2⟩) (fun _ => rfl) (Open.opens_struct Try.underlying38 (by kernel_rfl) (Open.opensF_cons rfl (by kernel_rfl) (Open.opens_slice Try.underlying34 (by kernel_rfl) opens173) (Open.opensF_cons rfl (by kernel_rfl) (Open.opens_int Try.underlying3) (Open.opensF_one rfl (by kernel_rfl) opens36))))
set_option maxRecDepth 100000 in
theorem lifted (os : Os) (started : os.Started) (H : Type) (enc : TypeId × Value → H) :
    ReturnsInHanded {} Try.checked os 13 .any (Rows.fnExactRenderBandsSpec.pre6 enc Try.prog Try.f13 Rows.fnExactRenderBandsRow.domain false) (Rows.fnExactRenderBandsSpec.post enc Try.prog Try.f13 false true false false) := by
  refine returnsInHanded_of_change_sized (C := Try.checked) own started (by kernel_rfl) Try.func13
    (ChangeSpec.witness6 (enc := enc) (C := Try.checked) false ⟨#[], #[.slice none 0 0, .int .i64 0], []⟩ 8 (by kernel_rfl) (by kernel_rfl) (by kernel_rfl) (by kernel_rfl)) ?_
  intro W base args ds gs before hval0 hW hcnd hsz0 _
  have hval : ∀ (j : Nat) t v, Try.f13.params[j]? = some t → args[j]? = some v → Value.okWide Try.prog W .any base t v := hval0
  have hW' := hW
  obtain ⟨p, q, hA0, hV, rfl, hfz, hnd⟩ := hW
  have hA : DataW.TrodAll enc Try.prog W 0 (fun _ => true) true Try.f13.params.toList args.toList ds p := hA0
  rw [Try.params13] at hA hval
  obtain ⟨v0, vs0, d0, ds0, p0, q0, hargs, rfl, rfl, h0, r0⟩ := trodAll_cons hA
  obtain ⟨v1, vs1, d1, ds1, p1, q1, rfl, rfl, rfl, h1, r1⟩ := trodAll_cons r0
  obtain ⟨rfl, rfl, rfl⟩ := trodAll_nil r1
  obtain rfl : args = #[v0, v1] := by cases args; simp_all
  obtain ⟨rfl, rfl⟩ := trodVars_none hV
  have k0 := h0
  have lt0 : ∀ x ∈ p0, x.block < W.heap.size := by obtain ⟨m, hm⟩ := k0; exact DataW.trod_lt m _ _ _ hm
  obtain ⟨A0, c0, l0, rfl, hC0, hl0, hg0⟩ := Open.open_slice_arg (Open.opens_slice Try.underlying52 (by kernel_rfl) opens38) h0 (okWide_slice Try.underlying52 (hval 0 52 v0 rfl rfl))
  replace hg0 : (l0.length ≤ maxLen ∧ ∀ y ∈ l0, ((y.f0.length ≤ maxLen ∧ ∀ yy ∈ y.f0, (((Lit.int .i64 yy.f0).wf = true) ∧ ((Lit.int .i64 yy.f1).wf = true))) ∧ ((Lit.int .i64 y.f1).wf = true) ∧ (((Lit.int .i64 y.f2.f0).wf = true) ∧ ((Lit.int .i64 y.f2.f1).wf = true) ∧ ((Lit.int .i64 y.f2.f2).wf = true) ∧ ((Lit.int .i64 y.f2.f3).wf = true)))) := hg0
  obtain ⟨a1, rfl, rfl, rfl, w1⟩ := open_int Try.underlying3 (hval 1 3 v1 rfl rfl) h1
  clear hA0 hval0 hsz0
  obtain ⟨k, hk⟩ := Pure.FnExactRenderBands l0 a1 hg0 w1
  refine (laws_FnExactRenderBands.calls k A0 c0 l0 a1 true W hC0 hl0 hk rfl).mono fun e W' ⟨he, bel⟩ => ?_
  subst he
  exact ⟨_, rfl, _, _, _, [], _, [], hW', trodAll_mk1 (shut_bool Try.underlying4 _), (trodAll_cons_mk (Below.trod laidOut (by kernel_rfl) (of_decide_eq_true (by kernel_rfl)) k0 bel lt0) (trodAll_cons_mk (shut_int Try.underlying3 w1) trodAll_mk0)), rfl, bel.frame _, fun h => by cases h⟩
theorem over : Rows.fnExactRenderBandsRow.holds Try.pinned (OpenSpec.ofChange Rows.fnExactRenderBandsSpec) :=
  OpenClaim.holds_of_wide 13 Try.f13 rfl rfl rfl rfl rfl rfl rfl ⟨rfl, rfl, rfl, rfl, rfl⟩ rfl rfl rfl rfl rfl (by kernel_rfl) Try.func13 (by kernel_rfl)
    (of_decide_eq_true (by kernel_rfl)) (by unfold Func.isWrapper; first | (rw [if_pos (by decide +kernel)]; kernel_rfl) | (rw [if_neg (by decide +kernel)]; exact ⟨rfl, rfl⟩))
    (fun os started H enc _ => lifted os started H enc)
theorem proved : Rows.FnExactRenderBandsSaid := over
#print axioms proved
end Go.Proofs.Ytigodjcnkgebaaa.fnExactRenderBands
namespace Go.Proofs.Ytigodjcnkgebaaa
/-- The row, under a short name, for the claim. -/
theorem fnExactRenderBands_holds : Rows.FnExactRenderBandsSaid := fnExactRenderBands.proved
end Go.Proofs.Ytigodjcnkgebaaa
