/- The law FnExactExecToken holds for every input: the row, out of the walk and the plain law. -/
import Derived.WalkKit
import Derived.ProofKit
import Derived.OpenShut
import Derived.ShutString
import Derived.ChangeOld
import Derived.Below
import Derived.SizedLaws
import Derived.Test.YtjkgponlahfnjaaGreatRows
import Derived.Test.YtjkgponlahfnjaaGreatExLa
import Derived.Test.YtjkgponlahfnjaaGreatPureFnExactExecToken
import Derived.Test.YtjkgponlahfnjaaGreatOpen
namespace Go.Proofs.YtjkgponlahfnjaaGreat.fnExactExecToken
open Go.ChangeShapes Go.WideShapes Go.ChangeAt Go.RowKit Go.Proofs.YtjkgponlahfnjaaGreat.QFnExactExecToken Go.Proofs.YtjkgponlahfnjaaGreatW.PrintWords
open Go.ChangeMaps (open_string shut_string)
set_option linter.unusedVariables false
theorem own : ownKnob Tryz.prog.godebug = none := by kernel_rfl
theorem laidOut : laidOutB Tryz.prog = true := by kernel_rfl
theorem opens142 : Open.Opens Tryz.prog 142 k142 (fun x => (((Lit.int .i64 x.f0).wf = true) ∧ ((Lit.int .i64 x.f1).wf = true))) :=
  Open.opens_iso (fun x : S142 => (x.f0, x.f1)) (fun y => ⟨y.1, y.2⟩) (fun _ => rfl) (Open.opens_struct Tryz.underlying142 (by kernel_rfl) (Open.opensF_cons rfl (by kernel_rfl) (Open.opens_int Tryz.underlying3) (Open.opensF_one rfl (by kernel_rfl) (Open.opens_int Tryz.underlying3))))
theorem opens24 : Open.Opens Tryz.prog 24 k24 (fun x => (((Lit.int .i64 x.f0).wf = true) ∧ ((Lit.int .i64 x.f1).wf = true) ∧ ((Lit.int .i64 x.f2).wf = true) ∧ ((Lit.int .i64 x.f3).wf = true))) :=
  Open.opens_iso (fun x : S24 => (x.f0, x.f1, x.f2, x.f3)) (fun y => ⟨y.1, y.2.1, y.2.2.1, y.2.2.2⟩) (fun _ => rfl) (Open.opens_struct Tryz.underlying24 (by kernel_rfl) (Open.opensF_cons rfl (by kernel_rfl) (Open.opens_int Tryz.underlying3) (Open.opensF_cons rfl (by kernel_rfl) (Open.opens_int Tryz.underlying3) (Open.opensF_cons rfl (by kernel_rfl) (Open.opens_int Tryz.underlying3) (Open.opensF_one rfl (by kernel_rfl) (Open.opens_int Tryz.underlying3))))))
theorem opens27 : Open.Opens Tryz.prog 27 k27 (fun x => (((Lit.int .i64 x.f0).wf = true) ∧ ((Lit.int .i64 x.f1).wf = true) ∧ ((Lit.int .i64 x.f2).wf = true) ∧ ((Lit.int .i64 x.f3).wf = true))) :=
  Open.opens_iso (fun x : S27 => (x.f0, x.f1, x.f2, x.f3)) (fun y => ⟨y.1, y.2.1, y.2.2.1, y.2.2.2⟩) (fun _ => rfl) (Open.opens_struct Tryz.underlying27 (by kernel_rfl) (Open.opensF_cons rfl (by kernel_rfl) (Open.opens_int Tryz.underlying3) (Open.opensF_cons rfl (by kernel_rfl) (Open.opens_int Tryz.underlying3) (Open.opensF_cons rfl (by kernel_rfl) (Open.opens_int Tryz.underlying3) (Open.opensF_one rfl (by kernel_rfl) (Open.opens_int Tryz.underlying3))))))
theorem opens29 : Open.Opens Tryz.prog 29 k29 (fun x => ((x.f0.length ≤ maxLen ∧ ∀ y ∈ x.f0, ((Lit.int .i64 y).wf = true)) ∧ (((Lit.int .i64 x.f1.f0).wf = true) ∧ ((Lit.int .i64 x.f1.f1).wf = true) ∧ ((Lit.int .i64 x.f1.f2).wf = true) ∧ ((Lit.int .i64 x.f1.f3).wf = true)) ∧ (x.f2.length ≤ maxLen ∧ ∀ y ∈ x.f2, (((Lit.int .i64 y.f0).wf = true) ∧ ((Lit.int .i64 y.f1).wf = true))) ∧ ((Lit.int .i64 x.f3).wf = true) ∧ (((Lit.int .i64 x.f4.f0).wf = true) ∧ ((Lit.int .i64 x.f4.f1).wf = true) ∧ ((Lit.int .i64 x.f4.f2).wf = true) ∧ ((Lit.int .i64 x.f4.f3).wf = true)))) :=
  Open.opens_iso (fun x : S29 => (x.f0, x.f1, x.f2, x.f3, x.f4)) (fun y => ⟨y.1, y.2.1, y.2.2.1, y.2.2.2.1, y.2.2.2.2⟩) (fun _ => rfl) (Open.opens_struct Tryz.underlying29 (by kernel_rfl) (Open.opensF_cons rfl (by kernel_rfl) (Open.opens_slice Tryz.underlying22 (by kernel_rfl) (Open.opens_int Tryz.underlying3)) (Open.opensF_cons rfl (by kernel_rfl) opens24 (Open.opensF_cons rfl (by kernel_rfl) (Open.opens_slice Tryz.underlying25 (by kernel_rfl) opens142) (Open.opensF_cons rfl (by kernel_rfl) (Open.opens_int Tryz.underlying3) (Open.opensF_one rfl (by kernel_rfl) opens27))))))
theorem opens99 : Open.Opens Tryz.prog 99 k99 (fun x => ((x.f0.length ≤ maxLen ∧ ∀ y ∈ x.f0, (((Lit.int .i64 y.f0).wf = true) ∧ ((Lit.int .i64 y.f1).wf = true))) ∧ ((Lit.int .i64 x.f1).wf = true) ∧ (((Lit.int .i64 x.f2.f0).wf = true) ∧ ((Lit.int .i64 x.f2.f1).wf = true) ∧ ((Lit.int .i64 x.f2.f2).wf = true) ∧ ((Lit.int .i64 x.f2.f3).wf = true)))) :=
  Open.opens_iso (fun x : S99 => (x.f0, x.f1, x.f2)) (fun y => ⟨y.1, y.2.1, y.2.2⟩) (fun _ => rfl) (Open.opens_struct Tryz.underlying99 (by kernel_rfl) (Open.opensF_cons rfl (by kernel_rfl) (Open.opens_slice Tryz.underlying25 (by kernel_rfl) opens142) (Open.opensF_cons rfl (by kernel_rfl) (Open.opens_int Tryz.underlying3) (Open.opensF_one rfl (by kernel_rfl) opens27))))
set_option maxRecDepth 100000 in
theorem lifted (os : Os) (started : os.Started) (H : Type) (enc : TypeId × Value → H) :
    ReturnsInHanded {} Tryz.checked os 3 .any (Rows.fnExactExecTokenSpec.pre6 enc Tryz.prog Tryz.f3 Rows.fnExactExecTokenRow.domain false) (Rows.fnExactExecTokenSpec.post enc Tryz.prog Tryz.f3 false true false false) := by
  refine returnsInHanded_of_change_sized (C := Tryz.checked) own started (by kernel_rfl) Tryz.func3
    (ChangeSpec.witness6 (enc := enc) (C := Tryz.checked) false ⟨#[], #[.agg #[.slice none 0 0, .int .i64 0, .int .i64 0, .int .i64 0, .int .i64 0, .slice none 0 0, .int .i64 0, .int .i64 0, .int .i64 0, .int .i64 0, .int .i64 0, .slice none 0 0, .slice none 0 0], .agg #[.string ByteArray.empty, .int .i64 0]], []⟩ 8 (by kernel_rfl) (by kernel_rfl) (by kernel_rfl) (by kernel_rfl)) ?_
  intro W base args ds gs before hval0 hW hcnd hsz0 _
  have hval : ∀ (j : Nat) t v, Tryz.f3.params[j]? = some t → args[j]? = some v → Value.okWide Tryz.prog W .any base t v := hval0
  have hW' := hW
  obtain ⟨p, q, hA0, hV, rfl, hfz, hnd⟩ := hW
  have hA : DataW.TrodAll enc Tryz.prog W 0 (fun _ => true) true Tryz.f3.params.toList args.toList ds p := hA0
  rw [Tryz.params3] at hA hval
  obtain ⟨v0, vs0, d0, ds0, p0, q0, hargs, rfl, rfl, h0, r0⟩ := trodAll_cons hA
  obtain ⟨v1, vs1, d1, ds1, p1, q1, rfl, rfl, rfl, h1, r1⟩ := trodAll_cons r0
  obtain ⟨rfl, rfl, rfl⟩ := trodAll_nil r1
  obtain rfl : args = #[v0, v1] := by cases args; simp_all
  obtain ⟨rfl, rfl⟩ := trodVars_none hV
  have k0 := h0
  have lt0 : ∀ x ∈ p0, x.block < W.heap.size := by obtain ⟨m, hm⟩ := k0; exact DataW.trod_lt m _ _ _ hm
  obtain ⟨x0, cs0, rfl, hK0, hg0⟩ := Open.open_struct_arg (Open.opens_struct Tryz.underlying33 (by kernel_rfl) (Open.opensF_cons rfl (by kernel_rfl) (Open.opens_struct Tryz.underlying29 (by kernel_rfl) (Open.opensF_cons rfl (by kernel_rfl) (Open.opens_slice Tryz.underlying22 (by kernel_rfl) (Open.opens_int Tryz.underlying3)) (Open.opensF_cons rfl (by kernel_rfl) (Open.opens_struct Tryz.underlying24 (by kernel_rfl) (Open.opensF_cons rfl (by kernel_rfl) (Open.opens_int Tryz.underlying3) (Open.opensF_cons rfl (by kernel_rfl) (Open.opens_int Tryz.underlying3) (Open.opensF_cons rfl (by kernel_rfl) (Open.opens_int Tryz.underlying3) (Open.opensF_one rfl (by kernel_rfl) (Open.opens_int Tryz.underlying3)))))) (Open.opensF_cons rfl (by kernel_rfl) (Open.opens_slice Tryz.underlying25 (by kernel_rfl) opens142) (Open.opensF_cons rfl (by kernel_rfl) (Open.opens_int Tryz.underlying3) (Open.opensF_one rfl (by kernel_rfl) (Open.opens_struct Tryz.underlying27 (by kernel_rfl) (Open.opensF_cons rfl (by kernel_rfl) (Open.opens_int Tryz.underlying3) (Open.opensF_cons rfl (by kernel_rfl) (Open.opens_int Tryz.underlying3) (Open.opensF_cons rfl (by kernel_rfl) (Open.opens_int Tryz.underlying3) (Open.opensF_one rfl (by kernel_rfl) (Open.opens_int Tryz.underlying3)))))))))))) (Open.opensF_cons rfl (by kernel_rfl) (Open.opens_slice Tryz.underlying30 (by kernel_rfl) opens29) (Open.opensF_one rfl (by kernel_rfl) (Open.opens_slice Tryz.underlying31 (by kernel_rfl) opens99))))) h0 (okWide_struct Tryz.underlying33 (hval 0 33 v0 rfl rfl))
  obtain ⟨_, _, rfl, ⟨_, _, rfl, ⟨A0_0, c0_0, rfl, hl0_0, hC0_0⟩, ⟨_, _, rfl, ⟨_, _, rfl, rfl, ⟨_, _, rfl, rfl, ⟨_, _, rfl, rfl, rfl⟩⟩⟩, ⟨_, _, rfl, ⟨A0_5, c0_5, rfl, hl0_5, hC0_5⟩, ⟨_, _, rfl, rfl, ⟨_, _, rfl, rfl, ⟨_, _, rfl, rfl, ⟨_, _, rfl, rfl, rfl⟩⟩⟩⟩⟩⟩⟩, ⟨_, _, rfl, ⟨A0_11, c0_11, rfl, hl0_11, hC0_11⟩, ⟨A0_12, c0_12, rfl, hl0_12, hC0_12⟩⟩⟩ := hK0
  have k1 := h1
  have lt1 : ∀ x ∈ p1, x.block < W.heap.size := by obtain ⟨m, hm⟩ := k1; exact DataW.trod_lt m _ _ _ hm
  obtain ⟨x1, cs1, rfl, hK1, hg1⟩ := Open.open_struct_arg (Open.opens_struct Tryz.underlying35 (by kernel_rfl) (Open.opensF_cons rfl (by kernel_rfl) (Open.opens_string Tryz.underlying9) (Open.opensF_one rfl (by kernel_rfl) (Open.opens_int Tryz.underlying3)))) h1 (okWide_struct Tryz.underlying35 (hval 1 35 v1 rfl rfl))
  obtain ⟨_, _, rfl, rfl, rfl⟩ := hK1
  clear hA0 hval0 hsz0
  refine (Ex.law_h A0_0 c0_0 x0.1.1 x0.1.2.1.1 x0.1.2.1.2.1 x0.1.2.1.2.2.1 x0.1.2.1.2.2.2 A0_5 c0_5 x0.1.2.2.1 x0.1.2.2.2.1 x0.1.2.2.2.2.1 x0.1.2.2.2.2.2.1 x0.1.2.2.2.2.2.2.1 x0.1.2.2.2.2.2.2.2 A0_11 c0_11 x0.2.1 A0_12 c0_12 x0.2.2 x1.1 x1.2 W hC0_0 hl0_0 hC0_5 hl0_5 hC0_11 hl0_11 hC0_12 hl0_12 hg0 hg1).mono fun e W' ⟨he, bel⟩ => ?_
  subst he
  exact ⟨_, rfl, _, _, _, [], _, [], hW', trodAll_mk1 (shut_bool Tryz.underlying4 _), (trodAll_cons_mk (Below.trod laidOut (by kernel_rfl) (of_decide_eq_true (by kernel_rfl)) k0 bel lt0) (trodAll_cons_mk (Below.trod laidOut (by kernel_rfl) (of_decide_eq_true (by kernel_rfl)) k1 bel lt1) trodAll_mk0)), rfl, bel.frame _, fun h => by cases h⟩
theorem over : Rows.fnExactExecTokenRow.holds Tryz.pinned (OpenSpec.ofChange Rows.fnExactExecTokenSpec) :=
  OpenClaim.holds_of_wide 3 Tryz.f3 rfl rfl rfl rfl rfl rfl rfl ⟨rfl, rfl, rfl, rfl, rfl⟩ rfl rfl rfl rfl rfl (by kernel_rfl) Tryz.func3 (by kernel_rfl)
    (of_decide_eq_true (by kernel_rfl)) (by unfold Func.isWrapper; first | (rw [if_pos (by decide +kernel)]; kernel_rfl) | (rw [if_neg (by decide +kernel)]; exact ⟨rfl, rfl⟩))
    (fun os started H enc _ => lifted os started H enc)
theorem proved : Rows.FnExactExecTokenSaid := over
#print axioms proved
end Go.Proofs.YtjkgponlahfnjaaGreat.fnExactExecToken
namespace Go.Proofs.YtjkgponlahfnjaaGreat
theorem fnExactExecToken_holds : Rows.FnExactExecTokenSaid := fnExactExecToken.proved
end Go.Proofs.YtjkgponlahfnjaaGreat
