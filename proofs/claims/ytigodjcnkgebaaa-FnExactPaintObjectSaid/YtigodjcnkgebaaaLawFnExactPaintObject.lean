/- The law FnExactPaintObject holds for every input: the row, out of the walk and the plain law. -/
import Derived.Test.YtigodjcnkgebaaaRows
import Derived.Test.YtigodjcnkgebaaaQFnExactPaintObjectx15
import Derived.Test.YtigodjcnkgebaaaPureFnExactPaintObject
import Derived.Test.YtigodjcnkgebaaaOpen
import Derived.WalkKit
import Derived.ProofKit
import Derived.OpenShut
import Derived.ShutString
import Derived.ChangeOld
import Derived.Below
import Derived.SizedLaws
namespace Go.Proofs.Ytigodjcnkgebaaa.fnExactPaintObject
open Go.ChangeShapes Go.WideShapes Go.ChangeAt Go.RowKit Go.Proofs.Ytigodjcnkgebaaa.QFnExactPaintObject Go.Proofs.YtigodjcnkgebaaaW.PrintWords
open Go.ChangeMaps (open_string shut_string)
set_option linter.unusedVariables false
theorem own : ownKnob Try.prog.godebug = none := by kernel_rfl
theorem laidOut : laidOutB Try.prog = true := by kernel_rfl
theorem opens173 : Open.Opens Try.prog 173 k173 (fun x => (((Lit.int .i64 x.f0).wf = true) ∧ ((Lit.int .i64 x.f1).wf = true))) :=
  Open.opens_iso (fun x : S173 => (x.f0, x.f1)) (fun y => ⟨y.1, y.2⟩) (fun _ => rfl) (Open.opens_struct Try.underlying173 (by kernel_rfl) (Open.opensF_cons rfl (by kernel_rfl) (Open.opens_int Try.underlying3) (Open.opensF_one rfl (by kernel_rfl) (Open.opens_int Try.underlying3))))
set_option maxRecDepth 100000 in
theorem lifted (os : Os) (started : os.Started) (H : Type) (enc : TypeId × Value → H) :
    ReturnsInHanded {} Try.checked os 9 .any (Rows.fnExactPaintObjectSpec.pre6 enc Try.prog Try.f9 Rows.fnExactPaintObjectRow.domain false) (Rows.fnExactPaintObjectSpec.post enc Try.prog Try.f9 false true false false) := by
  refine returnsInHanded_of_change_sized (C := Try.checked) own started (by kernel_rfl) Try.func9
    (ChangeSpec.witness6 (enc := enc) (C := Try.checked) false ⟨#[], #[.slice none 0 0, .int .i64 0, .agg #[.slice none 0 0, .int .i64 0, .int .i64 0, .int .i64 0, .int .i64 0, .int .i64 0]], []⟩ 8 (by kernel_rfl) (by kernel_rfl) (by kernel_rfl) (by kernel_rfl)) ?_
  intro W base args ds gs before hval0 hW hcnd hsz0 _
  have hval : ∀ (j : Nat) t v, Try.f9.params[j]? = some t → args[j]? = some v → Value.okWide Try.prog W .any base t v := hval0
  have hW' := hW
  obtain ⟨p, q, hA0, hV, rfl, hfz, hnd⟩ := hW
  have hA : DataW.TrodAll enc Try.prog W 0 (fun _ => true) true Try.f9.params.toList args.toList ds p := hA0
  rw [Try.params9] at hA hval
  obtain ⟨v0, vs0, d0, ds0, p0, q0, hargs, rfl, rfl, h0, r0⟩ := trodAll_cons hA
  obtain ⟨v1, vs1, d1, ds1, p1, q1, rfl, rfl, rfl, h1, r1⟩ := trodAll_cons r0
  obtain ⟨v2, vs2, d2, ds2, p2, q2, rfl, rfl, rfl, h2, r2⟩ := trodAll_cons r1
  obtain ⟨rfl, rfl, rfl⟩ := trodAll_nil r2
  obtain rfl : args = #[v0, v1, v2] := by cases args; simp_all
  obtain ⟨rfl, rfl⟩ := trodVars_none hV
  have k0 := h0
  have lt0 : ∀ x ∈ p0, x.block < W.heap.size := by obtain ⟨m, hm⟩ := k0; exact DataW.trod_lt m _ _ _ hm
  obtain ⟨A0, c0, l0, rfl, hC0, hl0, hg0⟩ := Open.open_slice_arg (Open.opens_slice Try.underlying27 (by kernel_rfl) (Open.opens_slice Try.underlying71 (by kernel_rfl) (Open.opens_int Try.underlying3))) h0 (okWide_slice Try.underlying27 (hval 0 27 v0 rfl rfl))
  replace hg0 : (l0.length ≤ maxLen ∧ ∀ y ∈ l0, (y.length ≤ maxLen ∧ ∀ yy ∈ y, ((Lit.int .i64 yy).wf = true))) := hg0
  obtain ⟨a1, rfl, rfl, rfl, w1⟩ := open_int Try.underlying3 (hval 1 3 v1 rfl rfl) h1
  have k2 := h2
  have lt2 : ∀ x ∈ p2, x.block < W.heap.size := by obtain ⟨m, hm⟩ := k2; exact DataW.trod_lt m _ _ _ hm
  obtain ⟨x2, cs2, rfl, hK2, hg2⟩ := Open.open_struct_arg (Open.opens_struct Try.underlying38 (by kernel_rfl) (Open.opensF_cons rfl (by kernel_rfl) (Open.opens_slice Try.underlying34 (by kernel_rfl) opens173) (Open.opensF_cons rfl (by kernel_rfl) (Open.opens_int Try.underlying3) (Open.opensF_one rfl (by kernel_rfl) (Open.opens_struct Try.underlying36 (by kernel_rfl) (Open.opensF_cons rfl (by kernel_rfl) (Open.opens_int Try.underlying3) (Open.opensF_cons rfl (by kernel_rfl) (Open.opens_int Try.underlying3) (Open.opensF_cons rfl (by kernel_rfl) (Open.opens_int Try.underlying3) (Open.opensF_one rfl (by kernel_rfl) (Open.opens_int Try.underlying3)))))))))) h2 (okWide_struct Try.underlying38 (hval 2 38 v2 rfl rfl))
  obtain ⟨_, _, rfl, ⟨A2_0, c2_0, rfl, hl2_0, hC2_0⟩, ⟨_, _, rfl, rfl, ⟨_, _, rfl, rfl, ⟨_, _, rfl, rfl, ⟨_, _, rfl, rfl, rfl⟩⟩⟩⟩⟩ := hK2
  clear hA0 hval0 hsz0
  obtain ⟨k, hk⟩ := Pure.FnExactPaintObject l0 a1 x2.1 x2.2.1 x2.2.2.1 x2.2.2.2.1 x2.2.2.2.2.1 x2.2.2.2.2.2 hg0 w1 hg2
  refine (laws_FnExactPaintObject.calls k A0 c0 l0 a1 A2_0 c2_0 x2.1 x2.2.1 x2.2.2.1 x2.2.2.2.1 x2.2.2.2.2.1 x2.2.2.2.2.2 true W hC0 hl0 hC2_0 hl2_0 hk).mono fun e W' ⟨he, bel⟩ => ?_
  subst he
  exact ⟨_, rfl, _, _, _, [], _, [], hW', trodAll_mk1 (shut_bool Try.underlying4 _), (trodAll_cons_mk (Below.trod laidOut (by kernel_rfl) (of_decide_eq_true (by kernel_rfl)) k0 bel lt0) (trodAll_cons_mk (shut_int Try.underlying3 w1) (trodAll_cons_mk (Below.trod laidOut (by kernel_rfl) (of_decide_eq_true (by kernel_rfl)) k2 bel lt2) trodAll_mk0))), rfl, bel.frame _, fun h => by cases h⟩
theorem over : Rows.fnExactPaintObjectRow.holds Try.pinned (OpenSpec.ofChange Rows.fnExactPaintObjectSpec) :=
  OpenClaim.holds_of_wide 9 Try.f9 rfl rfl rfl rfl rfl rfl rfl ⟨rfl, rfl, rfl, rfl, rfl⟩ rfl rfl rfl rfl rfl (by kernel_rfl) Try.func9 (by kernel_rfl)
    (of_decide_eq_true (by kernel_rfl)) (by unfold Func.isWrapper; first | (rw [if_pos (by decide +kernel)]; kernel_rfl) | (rw [if_neg (by decide +kernel)]; exact ⟨rfl, rfl⟩))
    (fun os started H enc _ => lifted os started H enc)
theorem proved : Rows.FnExactPaintObjectSaid := over
#print axioms proved
end Go.Proofs.Ytigodjcnkgebaaa.fnExactPaintObject
namespace Go.Proofs.Ytigodjcnkgebaaa
/-- The row, under a short name, for the claim. -/
theorem fnExactPaintObject_holds : Rows.FnExactPaintObjectSaid := fnExactPaintObject.proved
end Go.Proofs.Ytigodjcnkgebaaa
