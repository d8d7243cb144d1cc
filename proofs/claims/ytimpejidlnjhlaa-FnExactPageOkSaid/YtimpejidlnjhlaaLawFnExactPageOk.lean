/- The law FnExactPageOk holds for every input: the row, out of the walk and the plain law. -/
import Derived.Test.YtimpejidlnjhlaaRows
import Derived.Test.YtimpejidlnjhlaaQFnExactPageOkx9
import Derived.Test.YtimpejidlnjhlaaPureFnExactPageOk
import Derived.Test.YtimpejidlnjhlaaOpen
import Derived.WalkKit
import Derived.ProofKit
import Derived.OpenShut
import Derived.ShutString
import Derived.ChangeOld
import Derived.Below
import Derived.SizedLaws
namespace Go.Proofs.Ytimpejidlnjhlaa.fnExactPageOk
open Go.ChangeShapes Go.WideShapes Go.ChangeAt Go.RowKit Go.Proofs.Ytimpejidlnjhlaa.QFnExactPageOk Go.Proofs.YtimpejidlnjhlaaW.PrintWords
open Go.ChangeMaps (open_string shut_string)
set_option linter.unusedVariables false
theorem own : ownKnob Try.prog.godebug = none := by kernel_rfl
theorem laidOut : laidOutB Try.prog = true := by kernel_rfl
theorem opens180 : Open.Opens Try.prog 180 k180 (fun x => (((Lit.int .i64 x.f0).wf = true) ∧ ((Lit.int .i64 x.f1).wf = true))) :=
  Open.opens_iso (fun x : S180 => (x.f0, x.f1)) (fun y => ⟨y.1, y.2⟩) (fun _ => rfl) (Open.opens_struct Try.underlying180 (by kernel_rfl) (Open.opensF_cons rfl (by kernel_rfl) (Open.opens_int Try.underlying3) (Open.opensF_one rfl (by kernel_rfl) (Open.opens_int Try.underlying3))))
theorem opens97 : Open.Opens Try.prog 97 k97 (fun x => (((Lit.int .i64 x.f0).wf = true) ∧ ((Lit.int .i64 x.f1).wf = true) ∧ ((Lit.int .i64 x.f2).wf = true) ∧ ((Lit.int .i64 x.f3).wf = true))) :=
  Open.opens_iso (fun x : S97 => (x.f0, x.f1, x.f2, x.f3)) (fun y => ⟨y.1, y.2.1, y.2.2.1, y.2.2.2⟩) (fun _ => rfl) (Open.opens_struct Try.underlying97 (by kernel_rfl) (Open.opensF_cons rfl (by kernel_rfl) (Open.opens_int Try.underlying3) (Open.opensF_cons rfl (by kernel_rfl) (Open.opens_int Try.underlying3) (Open.opensF_cons rfl (by kernel_rfl) (Open.opens_int Try.underlying3) (Open.opensF_one rfl (by kernel_rfl) (Open.opens_int Try.underlying3))))))
theorem opens89 : Open.Opens Try.prog 89 k89 (fun x => (((Lit.int .i64 x.f0).wf = true) ∧ ((Lit.int .i64 x.f1).wf = true) ∧ ((Lit.int .i64 x.f2).wf = true) ∧ ((Lit.int .i64 x.f3).wf = true))) :=
  Open.opens_iso (fun x : S89 => (x.f0, x.f1, x.f2, x.f3)) (fun y => ⟨y.1, y.2.1, y.2.2.1, y.2.2.2⟩) (fun _ => rfl) (Open.opens_struct Try.underlying89 (by kernel_rfl) (Open.opensF_cons rfl (by kernel_rfl) (Open.opens_int Try.underlying3) (Open.opensF_cons rfl (by kernel_rfl) (Open.opens_int Try.underlying3) (Open.opensF_cons rfl (by kernel_rfl) (Open.opens_int Try.underlying3) (Open.opensF_one rfl (by kernel_rfl) (Open.opens_int Try.underlying3))))))
theorem opens99 : Open.Opens Try.prog 99 k99 (fun x => ((x.f0.length ≤ maxLen ∧ ∀ y ∈ x.f0, ((Lit.int .i64 y).wf = true)) ∧ (((Lit.int .i64 x.f1.f0).wf = true) ∧ ((Lit.int .i64 x.f1.f1).wf = true) ∧ ((Lit.int .i64 x.f1.f2).wf = true) ∧ ((Lit.int .i64 x.f1.f3).wf = true)) ∧ (x.f2.length ≤ maxLen ∧ ∀ y ∈ x.f2, (((Lit.int .i64 y.f0).wf = true) ∧ ((Lit.int .i64 y.f1).wf = true))) ∧ ((Lit.int .i64 x.f3).wf = true) ∧ (((Lit.int .i64 x.f4.f0).wf = true) ∧ ((Lit.int .i64 x.f4.f1).wf = true) ∧ ((Lit.int .i64 x.f4.f2).wf = true) ∧ ((Lit.int .i64 x.f4.f3).wf = true)))) :=
  Open.opens_iso (fun x : S99 => (x.f0, x.f1, x.f2, x.f3, x.f4)) (fun y => ⟨y.1, y.2.1, y.2.2.1, y.2.2.2.1, y.2.2.2.2⟩) (fun _ => rfl) (Open.opens_struct Try.underlying99 (by kernel_rfl) (Open.opensF_cons rfl (by kernel_rfl) (Open.opens_slice Try.underlying22 (by kernel_rfl) (Open.opens_int Try.underlying3)) (Open.opensF_cons rfl (by kernel_rfl) opens97 (Open.opensF_cons rfl (by kernel_rfl) (Open.opens_slice Try.underlying88 (by kernel_rfl) opens180) (Open.opensF_cons rfl (by kernel_rfl) (Open.opens_int Try.underlying3) (Open.opensF_one rfl (by kernel_rfl) opens89))))))
theorem opens91 : Open.Opens Try.prog 91 k91 (fun x => ((x.f0.length ≤ maxLen ∧ ∀ y ∈ x.f0, (((Lit.int .i64 y.f0).wf = true) ∧ ((Lit.int .i64 y.f1).wf = true))) ∧ ((Lit.int .i64 x.f1).wf = true) ∧ (((Lit.int .i64 x.f2.f0).wf = true) ∧ ((Lit.int .i64 x.f2.f1).wf = true) ∧ ((Lit.int .i64 x.f2.f2).wf = true) ∧ ((Lit.int .i64 x.f2.f3).wf = true)))) :=
  Open.opens_iso (fun x : S91 => (x.f0, x.f1, x.f2)) (fun y => ⟨y.1, y.2.1, y.2.2⟩) (fun _ => rfl) (Open.opens_struct Try.underlying91 (by kernel_rfl) (Open.opensF_cons rfl (by kernel_rfl) (Open.opens_slice Try.underlying88 (by kernel_rfl) opens180) (Open.opensF_cons rfl (by kernel_rfl) (Open.opens_int Try.underlying3) (Open.opensF_one rfl (by kernel_rfl) opens89))))
set_option maxRecDepth 100000 in
theorem lifted (os : Os) (started : os.Started) (H : Type) (enc : TypeId × Value → H) :
    ReturnsInHanded {} Try.checked os 14 .any (Rows.fnExactPageOkSpec.pre6 enc Try.prog Try.f14 Rows.fnExactPageOkRow.domain false) (Rows.fnExactPageOkSpec.post enc Try.prog Try.f14 false true false false) := by
  refine returnsInHanded_of_change_sized (C := Try.checked) own started (by kernel_rfl) Try.func14
    (ChangeSpec.witness6 (enc := enc) (C := Try.checked) false ⟨#[], #[.agg #[.slice none 0 0, .int .i64 0, .int .i64 0, .int .i64 0, .int .i64 0, .slice none 0 0, .int .i64 0, .int .i64 0, .int .i64 0, .int .i64 0, .int .i64 0, .slice none 0 0, .slice none 0 0]], []⟩ 8 (by kernel_rfl) (by kernel_rfl) (by kernel_rfl) (by kernel_rfl)) ?_
  intro W base args ds gs before hval0 hW hcnd hsz0 _
  have hval : ∀ (j : Nat) t v, Try.f14.params[j]? = some t → args[j]? = some v → Value.okWide Try.prog W .any base t v := hval0
  have hW' := hW
  obtain ⟨p, q, hA0, hV, rfl, hfz, hnd⟩ := hW
  have hA : DataW.TrodAll enc Try.prog W 0 (fun _ => true) true Try.f14.params.toList args.toList ds p := hA0
  rw [Try.params14] at hA hval
  obtain ⟨v0, vs0, d0, ds0, p0, q0, hargs, rfl, rfl, h0, r0⟩ := trodAll_cons hA
  obtain ⟨rfl, rfl, rfl⟩ := trodAll_nil r0
  obtain rfl : args = #[v0] := by cases args; simp_all
  obtain ⟨rfl, rfl⟩ := trodVars_none hV
  have k0 := h0
  have lt0 : ∀ x ∈ p0, x.block < W.heap.size := by obtain ⟨m, hm⟩ := k0; exact DataW.trod_lt m _ _ _ hm
  obtain ⟨x0, cs0, rfl, hK0, hg0⟩ := Open.open_struct_arg (Open.opens_struct Try.underlying102 (by kernel_rfl) (Open.opensF_cons rfl (by kernel_rfl) (Open.opens_struct Try.underlying99 (by kernel_rfl) (Open.opensF_cons rfl (by kernel_rfl) (Open.opens_slice Try.underlying22 (by kernel_rfl) (Open.opens_int Try.underlying3)) (Open.opensF_cons rfl (by kernel_rfl) (Open.opens_struct Try.underlying97 (by kernel_rfl) (Open.opensF_cons rfl (by kernel_rfl) (Open.opens_int Try.underlying3) (Open.opensF_cons rfl (by kernel_rfl) (Open.opens_int Try.underlying3) (Open.opensF_cons rfl (by kernel_rfl) (Open.opens_int Try.underlying3) (Open.opensF_one rfl (by kernel_rfl) (Open.opens_int Try.underlying3)))))) (Open.opensF_cons rfl (by kernel_rfl) (Open.opens_slice Try.underlying88 (by kernel_rfl) opens180) (Open.opensF_cons rfl (by kernel_rfl) (Open.opens_int Try.underlying3) (Open.opensF_one rfl (by kernel_rfl) (Open.opens_struct Try.underlying89 (by kernel_rfl) (Open.opensF_cons rfl (by kernel_rfl) (Open.opens_int Try.underlying3) (Open.opensF_cons rfl (by kernel_rfl) (Open.opens_int Try.underlying3) (Open.opensF_cons rfl (by kernel_rfl) (Open.opens_int Try.underlying3) (Open.opensF_one rfl (by kernel_rfl) (Open.opens_int Try.underlying3)))))))))))) (Open.opensF_cons rfl (by kernel_rfl) (Open.opens_slice Try.underlying100 (by kernel_rfl) opens99) (Open.opensF_one rfl (by kernel_rfl) (Open.opens_slice Try.underlying51 (by kernel_rfl) opens91))))) h0 (okWide_struct Try.underlying102 (hval 0 102 v0 rfl rfl))
  obtain ⟨_, _, rfl, ⟨_, _, rfl, ⟨A0_0, c0_0, rfl, hl0_0, hC0_0⟩, ⟨_, _, rfl, ⟨_, _, rfl, rfl, ⟨_, _, rfl, rfl, ⟨_, _, rfl, rfl, rfl⟩⟩⟩, ⟨_, _, rfl, ⟨A0_5, c0_5, rfl, hl0_5, hC0_5⟩, ⟨_, _, rfl, rfl, ⟨_, _, rfl, rfl, ⟨_, _, rfl, rfl, ⟨_, _, rfl, rfl, rfl⟩⟩⟩⟩⟩⟩⟩, ⟨_, _, rfl, ⟨A0_11, c0_11, rfl, hl0_11, hC0_11⟩, ⟨A0_12, c0_12, rfl, hl0_12, hC0_12⟩⟩⟩ := hK0
  clear hA0 hval0 hsz0
  obtain ⟨k, hk⟩ := Pure.FnExactPageOk x0.1.1 x0.1.2.1.1 x0.1.2.1.2.1 x0.1.2.1.2.2.1 x0.1.2.1.2.2.2 x0.1.2.2.1 x0.1.2.2.2.1 x0.1.2.2.2.2.1 x0.1.2.2.2.2.2.1 x0.1.2.2.2.2.2.2.1 x0.1.2.2.2.2.2.2.2 x0.2.1 x0.2.2 hg0
  refine (laws_FnExactPageOk.calls k A0_0 c0_0 x0.1.1 x0.1.2.1.1 x0.1.2.1.2.1 x0.1.2.1.2.2.1 x0.1.2.1.2.2.2 A0_5 c0_5 x0.1.2.2.1 x0.1.2.2.2.1 x0.1.2.2.2.2.1 x0.1.2.2.2.2.2.1 x0.1.2.2.2.2.2.2.1 x0.1.2.2.2.2.2.2.2 A0_11 c0_11 x0.2.1 A0_12 c0_12 x0.2.2 true W hC0_0 hl0_0 hC0_5 hl0_5 hC0_11 hl0_11 hC0_12 hl0_12 hk rfl).mono fun e W' ⟨he, bel⟩ => ?_
  subst he
  exact ⟨_, rfl, _, _, _, [], _, [], hW', trodAll_mk1 (shut_bool Try.underlying4 _), (trodAll_cons_mk (Below.trod laidOut (by kernel_rfl) (of_decide_eq_true (by kernel_rfl)) k0 bel lt0) trodAll_mk0), rfl, bel.frame _, fun h => by cases h⟩
theorem over : Rows.fnExactPageOkRow.holds Try.pinned (OpenSpec.ofChange Rows.fnExactPageOkSpec) :=
  OpenClaim.holds_of_wide 14 Try.f14 rfl rfl rfl rfl rfl rfl rfl ⟨rfl, rfl, rfl, rfl, rfl⟩ rfl rfl rfl rfl rfl (by kernel_rfl) Try.func14 (by kernel_rfl)
    (of_decide_eq_true (by kernel_rfl)) (by unfold Func.isWrapper; first | (rw [if_pos (by decide +kernel)]; kernel_rfl) | (rw [if_neg (by decide +kernel)]; exact ⟨rfl, rfl⟩))
    (fun os started H enc _ => lifted os started H enc)
theorem proved : Rows.FnExactPageOkSaid := over
#print axioms proved
end Go.Proofs.Ytimpejidlnjhlaa.fnExactPageOk
namespace Go.Proofs.Ytimpejidlnjhlaa
/-- The row, under a short name, for the claim. -/
theorem fnExactPageOk_holds : Rows.FnExactPageOkSaid := fnExactPageOk.proved
end Go.Proofs.Ytimpejidlnjhlaa
