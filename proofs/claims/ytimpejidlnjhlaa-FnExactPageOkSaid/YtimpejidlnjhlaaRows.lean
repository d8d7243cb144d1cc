/-
  No cell of these rows narrows 'for every input' (looked for: loops, veiled, ifaces, maps, wideKeys, modest, calm, conditions, laid).
  DERIVED. THE GIVEN ROWS OF THIS SEAT. 12 by the template 'for every input the law returns true; each argument reads behind the call as it read before'; 0 by the template 'total and deterministic' (their statements: YtimpejidlnjhlaaTotals.lean).
  GIVEN WITH THE SEED: the statements are not yours to turn. If you find one false, say at which input.
  Laid BY PROGRAM, IN A SANDBOX (cutbox-rows.mjs): the forced cells as the released guide's own fill.sh prints them over the translation 33eca932f70b26e2… (all of the seat's roots in one cut). By AI agents, Wed Nov 11 2026. No macro, syntax, notation, axiom, sorry.
-/
import Derived.Test.YtimpejidlnjhlaaChecked
import GoSem.Claim
import GoSem.ClaimJoined
import GoSem.ClaimMapViews
import Derived.JoinedTies
import Derived.KernelRfl
namespace Go.Proofs.Ytimpejidlnjhlaa
/- THE CELL 'sum', in the pinned program and in every row, IS THE sha256 OF THE DUMP (.gsa) THAT YtimpejidlnjhlaaProg.lean LOADS. Nothing in Lean hashes anything: it is a label: what it is worth is what the hold of that sum in a sandbox is worth. -/
noncomputable def Try.pinned : Pinned := { name := "ytimpejidlnjhlaa", sum := "33eca932f70b26e2a0c0c2372834f4eafc300ffbf25b22631844a80d3c83546d", checked := Try.checked }
namespace Rows
def none {H : Type} : Left H := { results := [], args := [] }

/-- 'laws.FnExactUnpackRow': WHATEVER THE INPUT: true; the input reads as it did. -/
def fnExactUnpackRowSpec : ChangeSpec := { name := "fnExactUnpackRow", fn := fun _ => fun
  | [d] => { results := [.lit (.bool true)], args := [d] }
  | _ => none }
def fnExactUnpackRowRow : OpenClaim := { program := "ytimpejidlnjhlaa", sum := "33eca932f70b26e2a0c0c2372834f4eafc300ffbf25b22631844a80d3c83546d", func := "loop.example/g00987/laws.FnExactUnpackRow", spec := "fnExactUnpackRow", apart := false }
def FnExactUnpackRowSaid : Prop := fnExactUnpackRowRow.holds Try.pinned (OpenSpec.ofChange fnExactUnpackRowSpec)

/-- ITS FALSE NEIGHBOUR: 'it returns false'. Refute it at one input. -/
def fnExactUnpackRowWrong : ChangeSpec := { name := "fnExactUnpackRow", fn := fun _ => fun
  | [d] => { results := [.lit (.bool false)], args := [d] }
  | _ => none }
def FnExactUnpackRowWrongFalsely : Prop := fnExactUnpackRowRow.holds Try.pinned (OpenSpec.ofChange fnExactUnpackRowWrong)

/-- 'laws.FnEstimates': WHATEVER THE INPUT: true; the input reads as it did. -/
def fnEstimatesSpec : ChangeSpec := { name := "fnEstimates", fn := fun _ => fun
  | [d] => { results := [.lit (.bool true)], args := [d] }
  | _ => none }
def fnEstimatesRow : OpenClaim := { program := "ytimpejidlnjhlaa", sum := "33eca932f70b26e2a0c0c2372834f4eafc300ffbf25b22631844a80d3c83546d", func := "loop.example/g00987/laws.FnEstimates", spec := "fnEstimates", apart := false }
def FnEstimatesSaid : Prop := fnEstimatesRow.holds Try.pinned (OpenSpec.ofChange fnEstimatesSpec)

/-- ITS FALSE NEIGHBOUR: 'it returns false'. Refute it at one input. -/
def fnEstimatesWrong : ChangeSpec := { name := "fnEstimates", fn := fun _ => fun
  | [d] => { results := [.lit (.bool false)], args := [d] }
  | _ => none }
def FnEstimatesWrongFalsely : Prop := fnEstimatesRow.holds Try.pinned (OpenSpec.ofChange fnEstimatesWrong)

/-- 'laws.FnExactBandEstimate': WHATEVER THE INPUT: true; the input reads as it did. -/
def fnExactBandEstimateSpec : ChangeSpec := { name := "fnExactBandEstimate", fn := fun _ => fun
  | [d1, d2, d3] => { results := [.lit (.bool true)], args := [d1, d2, d3] }
  | _ => none }
def fnExactBandEstimateRow : OpenClaim := { program := "ytimpejidlnjhlaa", sum := "33eca932f70b26e2a0c0c2372834f4eafc300ffbf25b22631844a80d3c83546d", func := "loop.example/g00987/laws.FnExactBandEstimate", spec := "fnExactBandEstimate", apart := false }
def FnExactBandEstimateSaid : Prop := fnExactBandEstimateRow.holds Try.pinned (OpenSpec.ofChange fnExactBandEstimateSpec)

/-- ITS FALSE NEIGHBOUR: 'it returns false'. Refute it at one input. -/
def fnExactBandEstimateWrong : ChangeSpec := { name := "fnExactBandEstimate", fn := fun _ => fun
  | [d1, d2, d3] => { results := [.lit (.bool false)], args := [d1, d2, d3] }
  | _ => none }
def FnExactBandEstimateWrongFalsely : Prop := fnExactBandEstimateRow.holds Try.pinned (OpenSpec.ofChange fnExactBandEstimateWrong)

/-- 'laws.FnPaints': WHATEVER THE INPUT: true; the input reads as it did. -/
def fnPaintsSpec : ChangeSpec := { name := "fnPaints", fn := fun _ => fun
  | [d] => { results := [.lit (.bool true)], args := [d] }
  | _ => none }
def fnPaintsRow : OpenClaim := { program := "ytimpejidlnjhlaa", sum := "33eca932f70b26e2a0c0c2372834f4eafc300ffbf25b22631844a80d3c83546d", func := "loop.example/g00987/laws.FnPaints", spec := "fnPaints", unfollowed := true, recurses := true, apart := false }
def FnPaintsSaid : Prop := fnPaintsRow.holds Try.pinned (OpenSpec.ofChange fnPaintsSpec)

/-- ITS FALSE NEIGHBOUR: 'it returns false'. Refute it at one input. -/
def fnPaintsWrong : ChangeSpec := { name := "fnPaints", fn := fun _ => fun
  | [d] => { results := [.lit (.bool false)], args := [d] }
  | _ => none }
def FnPaintsWrongFalsely : Prop := fnPaintsRow.holds Try.pinned (OpenSpec.ofChange fnPaintsWrong)

/-- 'laws.FnExactNewBand': WHATEVER THE INPUT: true; the input reads as it did. -/
def fnExactNewBandSpec : ChangeSpec := { name := "fnExactNewBand", fn := fun _ => fun
  | [d1, d2] => { results := [.lit (.bool true)], args := [d1, d2] }
  | _ => none }
def fnExactNewBandRow : OpenClaim := { program := "ytimpejidlnjhlaa", sum := "33eca932f70b26e2a0c0c2372834f4eafc300ffbf25b22631844a80d3c83546d", func := "loop.example/g00987/laws.FnExactNewBand", spec := "fnExactNewBand", apart := false }
def FnExactNewBandSaid : Prop := fnExactNewBandRow.holds Try.pinned (OpenSpec.ofChange fnExactNewBandSpec)

/-- ITS FALSE NEIGHBOUR: 'it returns false'. Refute it at one input. -/
def fnExactNewBandWrong : ChangeSpec := { name := "fnExactNewBand", fn := fun _ => fun
  | [d1, d2] => { results := [.lit (.bool false)], args := [d1, d2] }
  | _ => none }
def FnExactNewBandWrongFalsely : Prop := fnExactNewBandRow.holds Try.pinned (OpenSpec.ofChange fnExactNewBandWrong)

/-- 'laws.FnPageDots': WHATEVER THE INPUT: true; the input reads as it did. -/
def fnPageDotsSpec : ChangeSpec := { name := "fnPageDots", fn := fun _ => fun
  | [d] => { results := [.lit (.bool true)], args := [d] }
  | _ => none }
def fnPageDotsRow : OpenClaim := { program := "ytimpejidlnjhlaa", sum := "33eca932f70b26e2a0c0c2372834f4eafc300ffbf25b22631844a80d3c83546d", func := "loop.example/g00987/laws.FnPageDots", spec := "fnPageDots", apart := false }
def FnPageDotsSaid : Prop := fnPageDotsRow.holds Try.pinned (OpenSpec.ofChange fnPageDotsSpec)

/-- ITS FALSE NEIGHBOUR: 'it returns false'. Refute it at one input. -/
def fnPageDotsWrong : ChangeSpec := { name := "fnPageDots", fn := fun _ => fun
  | [d] => { results := [.lit (.bool false)], args := [d] }
  | _ => none }
def FnPageDotsWrongFalsely : Prop := fnPageDotsRow.holds Try.pinned (OpenSpec.ofChange fnPageDotsWrong)

/-- 'laws.FnTouches': WHATEVER THE INPUT: true; the input reads as it did. -/
def fnTouchesSpec : ChangeSpec := { name := "fnTouches", fn := fun _ => fun
  | [d] => { results := [.lit (.bool true)], args := [d] }
  | _ => none }
def fnTouchesRow : OpenClaim := { program := "ytimpejidlnjhlaa", sum := "33eca932f70b26e2a0c0c2372834f4eafc300ffbf25b22631844a80d3c83546d", func := "loop.example/g00987/laws.FnTouches", spec := "fnTouches", unfollowed := true, recurses := true, apart := false }
def FnTouchesSaid : Prop := fnTouchesRow.holds Try.pinned (OpenSpec.ofChange fnTouchesSpec)

/-- ITS FALSE NEIGHBOUR: 'it returns false'. Refute it at one input. -/
def fnTouchesWrong : ChangeSpec := { name := "fnTouches", fn := fun _ => fun
  | [d] => { results := [.lit (.bool false)], args := [d] }
  | _ => none }
def FnTouchesWrongFalsely : Prop := fnTouchesRow.holds Try.pinned (OpenSpec.ofChange fnTouchesWrong)

/-- 'laws.FnExactUnpackRows': WHATEVER THE INPUT: true; the input reads as it did. -/
def fnExactUnpackRowsSpec : ChangeSpec := { name := "fnExactUnpackRows", fn := fun _ => fun
  | [d] => { results := [.lit (.bool true)], args := [d] }
  | _ => none }
def fnExactUnpackRowsRow : OpenClaim := { program := "ytimpejidlnjhlaa", sum := "33eca932f70b26e2a0c0c2372834f4eafc300ffbf25b22631844a80d3c83546d", func := "loop.example/g00987/laws.FnExactUnpackRows", spec := "fnExactUnpackRows", apart := false }
def FnExactUnpackRowsSaid : Prop := fnExactUnpackRowsRow.holds Try.pinned (OpenSpec.ofChange fnExactUnpackRowsSpec)

/-- ITS FALSE NEIGHBOUR: 'it returns false'. Refute it at one input. -/
def fnExactUnpackRowsWrong : ChangeSpec := { name := "fnExactUnpackRows", fn := fun _ => fun
  | [d] => { results := [.lit (.bool false)], args := [d] }
  | _ => none }
def FnExactUnpackRowsWrongFalsely : Prop := fnExactUnpackRowsRow.holds Try.pinned (OpenSpec.ofChange fnExactUnpackRowsWrong)

/-- 'laws.FnExactObjectsOfBand': WHATEVER THE INPUT: true; the input reads as it did. -/
def fnExactObjectsOfBandSpec : ChangeSpec := { name := "fnExactObjectsOfBand", fn := fun _ => fun
  | [d1, d2, d3] => { results := [.lit (.bool true)], args := [d1, d2, d3] }
  | _ => none }
def fnExactObjectsOfBandRow : OpenClaim := { program := "ytimpejidlnjhlaa", sum := "33eca932f70b26e2a0c0c2372834f4eafc300ffbf25b22631844a80d3c83546d", func := "loop.example/g00987/laws.FnExactObjectsOfBand", spec := "fnExactObjectsOfBand", apart := false }
def FnExactObjectsOfBandSaid : Prop := fnExactObjectsOfBandRow.holds Try.pinned (OpenSpec.ofChange fnExactObjectsOfBandSpec)

/-- ITS FALSE NEIGHBOUR: 'it returns false'. Refute it at one input. -/
def fnExactObjectsOfBandWrong : ChangeSpec := { name := "fnExactObjectsOfBand", fn := fun _ => fun
  | [d1, d2, d3] => { results := [.lit (.bool false)], args := [d1, d2, d3] }
  | _ => none }
def FnExactObjectsOfBandWrongFalsely : Prop := fnExactObjectsOfBandRow.holds Try.pinned (OpenSpec.ofChange fnExactObjectsOfBandWrong)

/-- 'laws.FnExactObjectDots': WHATEVER THE INPUT: true; the input reads as it did. -/
def fnExactObjectDotsSpec : ChangeSpec := { name := "fnExactObjectDots", fn := fun _ => fun
  | [d] => { results := [.lit (.bool true)], args := [d] }
  | _ => none }
def fnExactObjectDotsRow : OpenClaim := { program := "ytimpejidlnjhlaa", sum := "33eca932f70b26e2a0c0c2372834f4eafc300ffbf25b22631844a80d3c83546d", func := "loop.example/g00987/laws.FnExactObjectDots", spec := "fnExactObjectDots", apart := false }
def FnExactObjectDotsSaid : Prop := fnExactObjectDotsRow.holds Try.pinned (OpenSpec.ofChange fnExactObjectDotsSpec)

/-- ITS FALSE NEIGHBOUR: 'it returns false'. Refute it at one input. -/
def fnExactObjectDotsWrong : ChangeSpec := { name := "fnExactObjectDots", fn := fun _ => fun
  | [d] => { results := [.lit (.bool false)], args := [d] }
  | _ => none }
def FnExactObjectDotsWrongFalsely : Prop := fnExactObjectDotsRow.holds Try.pinned (OpenSpec.ofChange fnExactObjectDotsWrong)

/-- 'laws.FnExactSlowBands': WHATEVER THE INPUT: true; the input reads as it did. -/
def fnExactSlowBandsSpec : ChangeSpec := { name := "fnExactSlowBands", fn := fun _ => fun
  | [d1, d2, d3] => { results := [.lit (.bool true)], args := [d1, d2, d3] }
  | _ => none }
def fnExactSlowBandsRow : OpenClaim := { program := "ytimpejidlnjhlaa", sum := "33eca932f70b26e2a0c0c2372834f4eafc300ffbf25b22631844a80d3c83546d", func := "loop.example/g00987/laws.FnExactSlowBands", spec := "fnExactSlowBands", apart := false }
def FnExactSlowBandsSaid : Prop := fnExactSlowBandsRow.holds Try.pinned (OpenSpec.ofChange fnExactSlowBandsSpec)

/-- ITS FALSE NEIGHBOUR: 'it returns false'. Refute it at one input. -/
def fnExactSlowBandsWrong : ChangeSpec := { name := "fnExactSlowBands", fn := fun _ => fun
  | [d1, d2, d3] => { results := [.lit (.bool false)], args := [d1, d2, d3] }
  | _ => none }
def FnExactSlowBandsWrongFalsely : Prop := fnExactSlowBandsRow.holds Try.pinned (OpenSpec.ofChange fnExactSlowBandsWrong)

/-- 'laws.FnExactPageOk': WHATEVER THE INPUT: true; the input reads as it did. -/
def fnExactPageOkSpec : ChangeSpec := { name := "fnExactPageOk", fn := fun _ => fun
  | [d] => { results := [.lit (.bool true)], args := [d] }
  | _ => none }
def fnExactPageOkRow : OpenClaim := { program := "ytimpejidlnjhlaa", sum := "33eca932f70b26e2a0c0c2372834f4eafc300ffbf25b22631844a80d3c83546d", func := "loop.example/g00987/laws.FnExactPageOk", spec := "fnExactPageOk", apart := false }
def FnExactPageOkSaid : Prop := fnExactPageOkRow.holds Try.pinned (OpenSpec.ofChange fnExactPageOkSpec)

/-- ITS FALSE NEIGHBOUR: 'it returns false'. Refute it at one input. -/
def fnExactPageOkWrong : ChangeSpec := { name := "fnExactPageOk", fn := fun _ => fun
  | [d] => { results := [.lit (.bool false)], args := [d] }
  | _ => none }
def FnExactPageOkWrongFalsely : Prop := fnExactPageOkRow.holds Try.pinned (OpenSpec.ofChange fnExactPageOkWrong)

/- THE SECOND FORM. 'bulk': how many values and letters a reading holds, each counted each time it is reached (what is shared counts as often as it is met; a slice's spare places count too). A statement '..UptoSaid' is the law's where the arguments, and the package variables that the reading takes, are together of bulk at most 1048576: NARROWER than '..Said'. Prove '..Said' where nothing that the law and all that it calls make is longer than what came in: it says more and counts as full. Else prove '..UptoSaid'. A law counts once. -/
mutual
def uptoBulk {H : Type} : DataW H → Nat
  | .lit (.string bytes) => bytes.length + 1
  | .lit _ => 1
  | .nil => 1
  | .ptr d => uptoBulk d + 1
  | .slice elems spare => uptoBulkAll elems + uptoBulkAll spare + 1
  | .agg parts => uptoBulkAll parts + 1
  | .iface _ d => uptoBulk d + 1
  | .map entries => uptoBulkEntries entries + 1
  | .held _ => 1
def uptoBulkAll {H : Type} : List (DataW H) → Nat
  | [] => 0
  | d :: r => uptoBulk d + uptoBulkAll r
def uptoBulkEntries {H : Type} : List (Lit × DataW H) → Nat
  | [] => 0
  | x :: r => uptoBulkEntry x + uptoBulkEntries r
def uptoBulkEntry {H : Type} : Lit × DataW H → Nat
  | (.string bytes, d) => bytes.length + uptoBulk d + 1
  | (_, d) => uptoBulk d + 1
 end
def uptoSmall : (H : Type) → List (DataW H) → Bool := fun _ ds => decide (uptoBulkAll ds ≤ 1048576)
def OpenSpec.upto (s : _root_.Go.ChangeSpec) : _root_.Go.OpenSpec := { _root_.Go.OpenSpec.ofChange s with cond := some uptoSmall }

/-- 'laws.FnExactUnpackRow', WHERE WHAT IT READS IS OF BULK AT MOST 1048576: true; the input reads as it did. -/
def fnExactUnpackRowUptoRow : OpenClaim := { program := "ytimpejidlnjhlaa", sum := "33eca932f70b26e2a0c0c2372834f4eafc300ffbf25b22631844a80d3c83546d", func := "loop.example/g00987/laws.FnExactUnpackRow", spec := "fnExactUnpackRow", apart := false, narrowed := true }
def FnExactUnpackRowUptoSaid : Prop := fnExactUnpackRowUptoRow.holds Try.pinned (OpenSpec.upto fnExactUnpackRowSpec)

/-- 'laws.FnEstimates', WHERE WHAT IT READS IS OF BULK AT MOST 1048576: true; the input reads as it did. -/
def fnEstimatesUptoRow : OpenClaim := { program := "ytimpejidlnjhlaa", sum := "33eca932f70b26e2a0c0c2372834f4eafc300ffbf25b22631844a80d3c83546d", func := "loop.example/g00987/laws.FnEstimates", spec := "fnEstimates", apart := false, narrowed := true }
def FnEstimatesUptoSaid : Prop := fnEstimatesUptoRow.holds Try.pinned (OpenSpec.upto fnEstimatesSpec)

/-- 'laws.FnExactBandEstimate', WHERE WHAT IT READS IS OF BULK AT MOST 1048576: true; the input reads as it did. -/
def fnExactBandEstimateUptoRow : OpenClaim := { program := "ytimpejidlnjhlaa", sum := "33eca932f70b26e2a0c0c2372834f4eafc300ffbf25b22631844a80d3c83546d", func := "loop.example/g00987/laws.FnExactBandEstimate", spec := "fnExactBandEstimate", apart := false, narrowed := true }
def FnExactBandEstimateUptoSaid : Prop := fnExactBandEstimateUptoRow.holds Try.pinned (OpenSpec.upto fnExactBandEstimateSpec)

/-- 'laws.FnPaints', WHERE WHAT IT READS IS OF BULK AT MOST 1048576: true; the input reads as it did. -/
def fnPaintsUptoRow : OpenClaim := { program := "ytimpejidlnjhlaa", sum := "33eca932f70b26e2a0c0c2372834f4eafc300ffbf25b22631844a80d3c83546d", func := "loop.example/g00987/laws.FnPaints", spec := "fnPaints", unfollowed := true, recurses := true, apart := false, narrowed := true }
def FnPaintsUptoSaid : Prop := fnPaintsUptoRow.holds Try.pinned (OpenSpec.upto fnPaintsSpec)

/-- 'laws.FnExactNewBand', WHERE WHAT IT READS IS OF BULK AT MOST 1048576: true; the input reads as it did. -/
def fnExactNewBandUptoRow : OpenClaim := { program := "ytimpejidlnjhlaa", sum := "33eca932f70b26e2a0c0c2372834f4eafc300ffbf25b22631844a80d3c83546d", func := "loop.example/g00987/laws.FnExactNewBand", spec := "fnExactNewBand", apart := false, narrowed := true }
def FnExactNewBandUptoSaid : Prop := fnExactNewBandUptoRow.holds Try.pinned (OpenSpec.upto fnExactNewBandSpec)

/-- 'laws.FnPageDots', WHERE WHAT IT READS IS OF BULK AT MOST 1048576: true; the input reads as it did. -/
def fnPageDotsUptoRow : OpenClaim := { program := "ytimpejidlnjhlaa", sum := "33eca932f70b26e2a0c0c2372834f4eafc300ffbf25b22631844a80d3c83546d", func := "loop.example/g00987/laws.FnPageDots", spec := "fnPageDots", apart := false, narrowed := true }
def FnPageDotsUptoSaid : Prop := fnPageDotsUptoRow.holds Try.pinned (OpenSpec.upto fnPageDotsSpec)

/-- 'laws.FnTouches', WHERE WHAT IT READS IS OF BULK AT MOST 1048576: true; the input reads as it did. -/
def fnTouchesUptoRow : OpenClaim := { program := "ytimpejidlnjhlaa", sum := "33eca932f70b26e2a0c0c2372834f4eafc300ffbf25b22631844a80d3c83546d", func := "loop.example/g00987/laws.FnTouches", spec := "fnTouches", unfollowed := true, recurses := true, apart := false, narrowed := true }
def FnTouchesUptoSaid : Prop := fnTouchesUptoRow.holds Try.pinned (OpenSpec.upto fnTouchesSpec)

/-- 'laws.FnExactUnpackRows', WHERE WHAT IT READS IS OF BULK AT MOST 1048576: true; the input reads as it did. -/
def fnExactUnpackRowsUptoRow : OpenClaim := { program := "ytimpejidlnjhlaa", sum := "33eca932f70b26e2a0c0c2372834f4eafc300ffbf25b22631844a80d3c83546d", func := "loop.example/g00987/laws.FnExactUnpackRows", spec := "fnExactUnpackRows", apart := false, narrowed := true }
def FnExactUnpackRowsUptoSaid : Prop := fnExactUnpackRowsUptoRow.holds Try.pinned (OpenSpec.upto fnExactUnpackRowsSpec)

/-- 'laws.FnExactObjectsOfBand', WHERE WHAT IT READS IS OF BULK AT MOST 1048576: true; the input reads as it did. -/
def fnExactObjectsOfBandUptoRow : OpenClaim := { program := "ytimpejidlnjhlaa", sum := "33eca932f70b26e2a0c0c2372834f4eafc300ffbf25b22631844a80d3c83546d", func := "loop.example/g00987/laws.FnExactObjectsOfBand", spec := "fnExactObjectsOfBand", apart := false, narrowed := true }
def FnExactObjectsOfBandUptoSaid : Prop := fnExactObjectsOfBandUptoRow.holds Try.pinned (OpenSpec.upto fnExactObjectsOfBandSpec)

/-- 'laws.FnExactObjectDots', WHERE WHAT IT READS IS OF BULK AT MOST 1048576: true; the input reads as it did. -/
def fnExactObjectDotsUptoRow : OpenClaim := { program := "ytimpejidlnjhlaa", sum := "33eca932f70b26e2a0c0c2372834f4eafc300ffbf25b22631844a80d3c83546d", func := "loop.example/g00987/laws.FnExactObjectDots", spec := "fnExactObjectDots", apart := false, narrowed := true }
def FnExactObjectDotsUptoSaid : Prop := fnExactObjectDotsUptoRow.holds Try.pinned (OpenSpec.upto fnExactObjectDotsSpec)

/-- 'laws.FnExactSlowBands', WHERE WHAT IT READS IS OF BULK AT MOST 1048576: true; the input reads as it did. -/
def fnExactSlowBandsUptoRow : OpenClaim := { program := "ytimpejidlnjhlaa", sum := "33eca932f70b26e2a0c0c2372834f4eafc300ffbf25b22631844a80d3c83546d", func := "loop.example/g00987/laws.FnExactSlowBands", spec := "fnExactSlowBands", apart := false, narrowed := true }
def FnExactSlowBandsUptoSaid : Prop := fnExactSlowBandsUptoRow.holds Try.pinned (OpenSpec.upto fnExactSlowBandsSpec)

/-- 'laws.FnExactPageOk', WHERE WHAT IT READS IS OF BULK AT MOST 1048576: true; the input reads as it did. -/
def fnExactPageOkUptoRow : OpenClaim := { program := "ytimpejidlnjhlaa", sum := "33eca932f70b26e2a0c0c2372834f4eafc300ffbf25b22631844a80d3c83546d", func := "loop.example/g00987/laws.FnExactPageOk", spec := "fnExactPageOk", apart := false, narrowed := true }
def FnExactPageOkUptoSaid : Prop := fnExactPageOkUptoRow.holds Try.pinned (OpenSpec.upto fnExactPageOkSpec)

end Rows
end Go.Proofs.Ytimpejidlnjhlaa
