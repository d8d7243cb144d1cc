/-
  No cell of these rows narrows 'for every input' (looked for: loops, veiled, ifaces, maps, wideKeys, modest, calm, conditions, laid).
  DERIVED. THE GIVEN ROWS OF THIS SEAT. 12 by the template 'for every input the law returns true; each argument reads behind the call as it read before'; 0 by the template 'total and deterministic' (their statements: YtcalgoembdmlkaaTotals.lean).
  GIVEN WITH THE SEED: the statements are not yours to turn. If you find one false, say at which input.
  Laid BY PROGRAM, IN A SANDBOX (cutbox-rows.mjs): the forced cells as the released guide's own fill.sh prints them over the translation e8e5b9da048ab7b5… (all of the seat's roots in one cut). By AI agents, Wed Nov 11 2026. No macro, syntax, notation, axiom, sorry.
-/
import Derived.Test.YtcalgoembdmlkaaChecked
import GoSem.Claim
import GoSem.ClaimJoined
import GoSem.ClaimMapViews
import Derived.JoinedTies
import Derived.KernelRfl
namespace Go.Proofs.Ytcalgoembdmlkaa
/- THE CELL 'sum', in the pinned program and in every row, IS THE sha256 OF THE DUMP (.gsa) THAT YtcalgoembdmlkaaProg.lean LOADS. Nothing in Lean hashes anything: it is a label: what it is worth is what the hold of that sum in a sandbox is worth. -/
noncomputable def Try.pinned : Pinned := { name := "ytcalgoembdmlkaa", sum := "e8e5b9da048ab7b58a04b75b3b5df2fab4055ddc16a3eb1e6ad293933a6f013e", checked := Try.checked }
namespace Rows
def none {H : Type} : Left H := { results := [], args := [] }

/-- 'laws.FnExactRowOf': WHATEVER THE INPUT: true; the input reads as it did. -/
def fnExactRowOfSpec : ChangeSpec := { name := "fnExactRowOf", fn := fun _ => fun
  | [d] => { results := [.lit (.bool true)], args := [d] }
  | _ => none }
def fnExactRowOfRow : OpenClaim := { program := "ytcalgoembdmlkaa", sum := "e8e5b9da048ab7b58a04b75b3b5df2fab4055ddc16a3eb1e6ad293933a6f013e", func := "loop.example/g00987/laws.FnExactRowOf", spec := "fnExactRowOf", apart := false }
def FnExactRowOfSaid : Prop := fnExactRowOfRow.holds Try.pinned (OpenSpec.ofChange fnExactRowOfSpec)

/-- ITS FALSE NEIGHBOUR: 'it returns false'. Refute it at one input. -/
def fnExactRowOfWrong : ChangeSpec := { name := "fnExactRowOf", fn := fun _ => fun
  | [d] => { results := [.lit (.bool false)], args := [d] }
  | _ => none }
def FnExactRowOfWrongFalsely : Prop := fnExactRowOfRow.holds Try.pinned (OpenSpec.ofChange fnExactRowOfWrong)

/-- 'laws.FnRuns': WHATEVER THE INPUT: true; the input reads as it did. -/
def fnRunsSpec : ChangeSpec := { name := "fnRuns", fn := fun _ => fun
  | [d] => { results := [.lit (.bool true)], args := [d] }
  | _ => none }
def fnRunsRow : OpenClaim := { program := "ytcalgoembdmlkaa", sum := "e8e5b9da048ab7b58a04b75b3b5df2fab4055ddc16a3eb1e6ad293933a6f013e", func := "loop.example/g00987/laws.FnRuns", spec := "fnRuns", apart := false }
def FnRunsSaid : Prop := fnRunsRow.holds Try.pinned (OpenSpec.ofChange fnRunsSpec)

/-- ITS FALSE NEIGHBOUR: 'it returns false'. Refute it at one input. -/
def fnRunsWrong : ChangeSpec := { name := "fnRuns", fn := fun _ => fun
  | [d] => { results := [.lit (.bool false)], args := [d] }
  | _ => none }
def FnRunsWrongFalsely : Prop := fnRunsRow.holds Try.pinned (OpenSpec.ofChange fnRunsWrong)

/-- 'laws.FnExactPackRow': WHATEVER THE INPUT: true; the input reads as it did. -/
def fnExactPackRowSpec : ChangeSpec := { name := "fnExactPackRow", fn := fun _ => fun
  | [d] => { results := [.lit (.bool true)], args := [d] }
  | _ => none }
def fnExactPackRowRow : OpenClaim := { program := "ytcalgoembdmlkaa", sum := "e8e5b9da048ab7b58a04b75b3b5df2fab4055ddc16a3eb1e6ad293933a6f013e", func := "loop.example/g00987/laws.FnExactPackRow", spec := "fnExactPackRow", apart := false }
def FnExactPackRowSaid : Prop := fnExactPackRowRow.holds Try.pinned (OpenSpec.ofChange fnExactPackRowSpec)

/-- ITS FALSE NEIGHBOUR: 'it returns false'. Refute it at one input. -/
def fnExactPackRowWrong : ChangeSpec := { name := "fnExactPackRow", fn := fun _ => fun
  | [d] => { results := [.lit (.bool false)], args := [d] }
  | _ => none }
def FnExactPackRowWrongFalsely : Prop := fnExactPackRowRow.holds Try.pinned (OpenSpec.ofChange fnExactPackRowWrong)

/-- 'laws.FnExactObjectBox': WHATEVER THE INPUT: true; the input reads as it did. -/
def fnExactObjectBoxSpec : ChangeSpec := { name := "fnExactObjectBox", fn := fun _ => fun
  | [d] => { results := [.lit (.bool true)], args := [d] }
  | _ => none }
def fnExactObjectBoxRow : OpenClaim := { program := "ytcalgoembdmlkaa", sum := "e8e5b9da048ab7b58a04b75b3b5df2fab4055ddc16a3eb1e6ad293933a6f013e", func := "loop.example/g00987/laws.FnExactObjectBox", spec := "fnExactObjectBox", apart := false }
def FnExactObjectBoxSaid : Prop := fnExactObjectBoxRow.holds Try.pinned (OpenSpec.ofChange fnExactObjectBoxSpec)

/-- ITS FALSE NEIGHBOUR: 'it returns false'. Refute it at one input. -/
def fnExactObjectBoxWrong : ChangeSpec := { name := "fnExactObjectBox", fn := fun _ => fun
  | [d] => { results := [.lit (.bool false)], args := [d] }
  | _ => none }
def FnExactObjectBoxWrongFalsely : Prop := fnExactObjectBoxRow.holds Try.pinned (OpenSpec.ofChange fnExactObjectBoxWrong)

/-- 'laws.FnExactSpansAt': WHATEVER THE INPUT: true; the input reads as it did. -/
def fnExactSpansAtSpec : ChangeSpec := { name := "fnExactSpansAt", fn := fun _ => fun
  | [d1, d2] => { results := [.lit (.bool true)], args := [d1, d2] }
  | _ => none }
def fnExactSpansAtRow : OpenClaim := { program := "ytcalgoembdmlkaa", sum := "e8e5b9da048ab7b58a04b75b3b5df2fab4055ddc16a3eb1e6ad293933a6f013e", func := "loop.example/g00987/laws.FnExactSpansAt", spec := "fnExactSpansAt", apart := false }
def FnExactSpansAtSaid : Prop := fnExactSpansAtRow.holds Try.pinned (OpenSpec.ofChange fnExactSpansAtSpec)

/-- ITS FALSE NEIGHBOUR: 'it returns false'. Refute it at one input. -/
def fnExactSpansAtWrong : ChangeSpec := { name := "fnExactSpansAt", fn := fun _ => fun
  | [d1, d2] => { results := [.lit (.bool false)], args := [d1, d2] }
  | _ => none }
def FnExactSpansAtWrongFalsely : Prop := fnExactSpansAtRow.holds Try.pinned (OpenSpec.ofChange fnExactSpansAtWrong)

/-- 'laws.FnExactMoveObject': WHATEVER THE INPUT: true; the input reads as it did. -/
def fnExactMoveObjectSpec : ChangeSpec := { name := "fnExactMoveObject", fn := fun _ => fun
  | [d1, d2, d3] => { results := [.lit (.bool true)], args := [d1, d2, d3] }
  | _ => none }
def fnExactMoveObjectRow : OpenClaim := { program := "ytcalgoembdmlkaa", sum := "e8e5b9da048ab7b58a04b75b3b5df2fab4055ddc16a3eb1e6ad293933a6f013e", func := "loop.example/g00987/laws.FnExactMoveObject", spec := "fnExactMoveObject", apart := false }
def FnExactMoveObjectSaid : Prop := fnExactMoveObjectRow.holds Try.pinned (OpenSpec.ofChange fnExactMoveObjectSpec)

/-- ITS FALSE NEIGHBOUR: 'it returns false'. Refute it at one input. -/
def fnExactMoveObjectWrong : ChangeSpec := { name := "fnExactMoveObject", fn := fun _ => fun
  | [d1, d2, d3] => { results := [.lit (.bool false)], args := [d1, d2, d3] }
  | _ => none }
def FnExactMoveObjectWrongFalsely : Prop := fnExactMoveObjectRow.holds Try.pinned (OpenSpec.ofChange fnExactMoveObjectWrong)

/-- 'laws.FnExactTouchesBand': WHATEVER THE INPUT: true; the input reads as it did. -/
def fnExactTouchesBandSpec : ChangeSpec := { name := "fnExactTouchesBand", fn := fun _ => fun
  | [d1, d2, d3] => { results := [.lit (.bool true)], args := [d1, d2, d3] }
  | _ => none }
def fnExactTouchesBandRow : OpenClaim := { program := "ytcalgoembdmlkaa", sum := "e8e5b9da048ab7b58a04b75b3b5df2fab4055ddc16a3eb1e6ad293933a6f013e", func := "loop.example/g00987/laws.FnExactTouchesBand", spec := "fnExactTouchesBand", apart := false }
def FnExactTouchesBandSaid : Prop := fnExactTouchesBandRow.holds Try.pinned (OpenSpec.ofChange fnExactTouchesBandSpec)

/-- ITS FALSE NEIGHBOUR: 'it returns false'. Refute it at one input. -/
def fnExactTouchesBandWrong : ChangeSpec := { name := "fnExactTouchesBand", fn := fun _ => fun
  | [d1, d2, d3] => { results := [.lit (.bool false)], args := [d1, d2, d3] }
  | _ => none }
def FnExactTouchesBandWrongFalsely : Prop := fnExactTouchesBandRow.holds Try.pinned (OpenSpec.ofChange fnExactTouchesBandWrong)

/-- 'laws.FnExactBandCells': WHATEVER THE INPUT: true; the input reads as it did. -/
def fnExactBandCellsSpec : ChangeSpec := { name := "fnExactBandCells", fn := fun _ => fun
  | [d] => { results := [.lit (.bool true)], args := [d] }
  | _ => none }
def fnExactBandCellsRow : OpenClaim := { program := "ytcalgoembdmlkaa", sum := "e8e5b9da048ab7b58a04b75b3b5df2fab4055ddc16a3eb1e6ad293933a6f013e", func := "loop.example/g00987/laws.FnExactBandCells", spec := "fnExactBandCells", apart := false }
def FnExactBandCellsSaid : Prop := fnExactBandCellsRow.holds Try.pinned (OpenSpec.ofChange fnExactBandCellsSpec)

/-- ITS FALSE NEIGHBOUR: 'it returns false'. Refute it at one input. -/
def fnExactBandCellsWrong : ChangeSpec := { name := "fnExactBandCells", fn := fun _ => fun
  | [d] => { results := [.lit (.bool false)], args := [d] }
  | _ => none }
def FnExactBandCellsWrongFalsely : Prop := fnExactBandCellsRow.holds Try.pinned (OpenSpec.ofChange fnExactBandCellsWrong)

/-- 'laws.FnStores': WHATEVER THE INPUT: true; the input reads as it did. -/
def fnStoresSpec : ChangeSpec := { name := "fnStores", fn := fun _ => fun
  | [d] => { results := [.lit (.bool true)], args := [d] }
  | _ => none }
def fnStoresRow : OpenClaim := { program := "ytcalgoembdmlkaa", sum := "e8e5b9da048ab7b58a04b75b3b5df2fab4055ddc16a3eb1e6ad293933a6f013e", func := "loop.example/g00987/laws.FnStores", spec := "fnStores", unfollowed := true, recurses := true, apart := false }
def FnStoresSaid : Prop := fnStoresRow.holds Try.pinned (OpenSpec.ofChange fnStoresSpec)

/-- ITS FALSE NEIGHBOUR: 'it returns false'. Refute it at one input. -/
def fnStoresWrong : ChangeSpec := { name := "fnStores", fn := fun _ => fun
  | [d] => { results := [.lit (.bool false)], args := [d] }
  | _ => none }
def FnStoresWrongFalsely : Prop := fnStoresRow.holds Try.pinned (OpenSpec.ofChange fnStoresWrong)

/-- 'laws.FnExactEstimateTime': WHATEVER THE INPUT: true; the input reads as it did. -/
def fnExactEstimateTimeSpec : ChangeSpec := { name := "fnExactEstimateTime", fn := fun _ => fun
  | [d1, d2, d3] => { results := [.lit (.bool true)], args := [d1, d2, d3] }
  | _ => none }
def fnExactEstimateTimeRow : OpenClaim := { program := "ytcalgoembdmlkaa", sum := "e8e5b9da048ab7b58a04b75b3b5df2fab4055ddc16a3eb1e6ad293933a6f013e", func := "loop.example/g00987/laws.FnExactEstimateTime", spec := "fnExactEstimateTime", apart := false }
def FnExactEstimateTimeSaid : Prop := fnExactEstimateTimeRow.holds Try.pinned (OpenSpec.ofChange fnExactEstimateTimeSpec)

/-- ITS FALSE NEIGHBOUR: 'it returns false'. Refute it at one input. -/
def fnExactEstimateTimeWrong : ChangeSpec := { name := "fnExactEstimateTime", fn := fun _ => fun
  | [d1, d2, d3] => { results := [.lit (.bool false)], args := [d1, d2, d3] }
  | _ => none }
def FnExactEstimateTimeWrongFalsely : Prop := fnExactEstimateTimeRow.holds Try.pinned (OpenSpec.ofChange fnExactEstimateTimeWrong)

/-- 'laws.FnExactPackRows': WHATEVER THE INPUT: true; the input reads as it did. -/
def fnExactPackRowsSpec : ChangeSpec := { name := "fnExactPackRows", fn := fun _ => fun
  | [d] => { results := [.lit (.bool true)], args := [d] }
  | _ => none }
def fnExactPackRowsRow : OpenClaim := { program := "ytcalgoembdmlkaa", sum := "e8e5b9da048ab7b58a04b75b3b5df2fab4055ddc16a3eb1e6ad293933a6f013e", func := "loop.example/g00987/laws.FnExactPackRows", spec := "fnExactPackRows", apart := false }
def FnExactPackRowsSaid : Prop := fnExactPackRowsRow.holds Try.pinned (OpenSpec.ofChange fnExactPackRowsSpec)

/-- ITS FALSE NEIGHBOUR: 'it returns false'. Refute it at one input. -/
def fnExactPackRowsWrong : ChangeSpec := { name := "fnExactPackRows", fn := fun _ => fun
  | [d] => { results := [.lit (.bool false)], args := [d] }
  | _ => none }
def FnExactPackRowsWrongFalsely : Prop := fnExactPackRowsRow.holds Try.pinned (OpenSpec.ofChange fnExactPackRowsWrong)

/-- 'laws.FnObjects': WHATEVER THE INPUT: true; the input reads as it did. -/
def fnObjectsSpec : ChangeSpec := { name := "fnObjects", fn := fun _ => fun
  | [d] => { results := [.lit (.bool true)], args := [d] }
  | _ => none }
def fnObjectsRow : OpenClaim := { program := "ytcalgoembdmlkaa", sum := "e8e5b9da048ab7b58a04b75b3b5df2fab4055ddc16a3eb1e6ad293933a6f013e", func := "loop.example/g00987/laws.FnObjects", spec := "fnObjects", apart := false }
def FnObjectsSaid : Prop := fnObjectsRow.holds Try.pinned (OpenSpec.ofChange fnObjectsSpec)

/-- ITS FALSE NEIGHBOUR: 'it returns false'. Refute it at one input. -/
def fnObjectsWrong : ChangeSpec := { name := "fnObjects", fn := fun _ => fun
  | [d] => { results := [.lit (.bool false)], args := [d] }
  | _ => none }
def FnObjectsWrongFalsely : Prop := fnObjectsRow.holds Try.pinned (OpenSpec.ofChange fnObjectsWrong)

/- THE SECOND FORM. 'bulk': how many values and letters a reading holds, each counted each time it is reached (what is shared counts as often as it is met; a slice's spare places count too). A statement '..UptoSaid' is the law's where the arguments, and the package variables that the reading takes, are together of bulk at most 1048576: NARROWER than '..Said'. Prove '..Said' where nothing that the law and all that it calls make is longer than what came in: it says more and counts as full. Else prove '..UptoSaid'. A law counts once. -/
mutual
def uptoBulk {H : Type} : DataW H → Nat
  | .lit (.string bytes) => bytes.length + 1
  | .lit _ => 1
  | .nil => 1
  | .ptr d => uptoBulk d + 1
  | .slice elems spare => uptoBulkAll elems + uptoBulkAll spare + 1
  | .agg parts => uptoBulkAll parts + 1
  | .iface _ d => uptoBulk d + 1
  | .map entries => uptoBulkEntries entries + 1
  | .held _ => 1
def uptoBulkAll {H : Type} : List (DataW H) → Nat
  | [] => 0
  | d :: r => uptoBulk d + uptoBulkAll r
def uptoBulkEntries {H : Type} : List (Lit × DataW H) → Nat
  | [] => 0
  | x :: r => uptoBulkEntry x + uptoBulkEntries r
def uptoBulkEntry {H : Type} : Lit × DataW H → Nat
  | (.string bytes, d) => bytes.length + uptoBulk d + 1
  | (_, d) => uptoBulk d + 1
 end
def uptoSmall : (H : Type) → List (DataW H) → Bool := fun _ ds => decide (uptoBulkAll ds ≤ 1048576)
def OpenSpec.upto (s : _root_.Go.ChangeSpec) : _root_.Go.OpenSpec := { _root_.Go.OpenSpec.ofChange s with cond := some uptoSmall }

/-- 'laws.FnExactRowOf', WHERE WHAT IT READS IS OF BULK AT MOST 1048576: true; the input reads as it did. -/
def fnExactRowOfUptoRow : OpenClaim := { program := "ytcalgoembdmlkaa", sum := "e8e5b9da048ab7b58a04b75b3b5df2fab4055ddc16a3eb1e6ad293933a6f013e", func := "loop.example/g00987/laws.FnExactRowOf", spec := "fnExactRowOf", apart := false, narrowed := true }
def FnExactRowOfUptoSaid : Prop := fnExactRowOfUptoRow.holds Try.pinned (OpenSpec.upto fnExactRowOfSpec)

/-- 'laws.FnRuns', WHERE WHAT IT READS IS OF BULK AT MOST 1048576: true; the input reads as it did. -/
def fnRunsUptoRow : OpenClaim := { program := "ytcalgoembdmlkaa", sum := "e8e5b9da048ab7b58a04b75b3b5df2fab4055ddc16a3eb1e6ad293933a6f013e", func := "loop.example/g00987/laws.FnRuns", spec := "fnRuns", apart := false, narrowed := true }
def FnRunsUptoSaid : Prop := fnRunsUptoRow.holds Try.pinned (OpenSpec.upto fnRunsSpec)

/-- 'laws.FnExactPackRow', WHERE WHAT IT READS IS OF BULK AT MOST 1048576: true; the input reads as it did. -/
def fnExactPackRowUptoRow : OpenClaim := { program := "ytcalgoembdmlkaa", sum := "e8e5b9da048ab7b58a04b75b3b5df2fab4055ddc16a3eb1e6ad293933a6f013e", func := "loop.example/g00987/laws.FnExactPackRow", spec := "fnExactPackRow", apart := false, narrowed := true }
def FnExactPackRowUptoSaid : Prop := fnExactPackRowUptoRow.holds Try.pinned (OpenSpec.upto fnExactPackRowSpec)

/-- 'laws.FnExactObjectBox', WHERE WHAT IT READS IS OF BULK AT MOST 1048576: true; the input reads as it did. -/
def fnExactObjectBoxUptoRow : OpenClaim := { program := "ytcalgoembdmlkaa", sum := "e8e5b9da048ab7b58a04b75b3b5df2fab4055ddc16a3eb1e6ad293933a6f013e", func := "loop.example/g00987/laws.FnExactObjectBox", spec := "fnExactObjectBox", apart := false, narrowed := true }
def FnExactObjectBoxUptoSaid : Prop := fnExactObjectBoxUptoRow.holds Try.pinned (OpenSpec.upto fnExactObjectBoxSpec)

/-- 'laws.FnExactSpansAt', WHERE WHAT IT READS IS OF BULK AT MOST 1048576: true; the input reads as it did. -/
def fnExactSpansAtUptoRow : OpenClaim := { program := "ytcalgoembdmlkaa", sum := "e8e5b9da048ab7b58a04b75b3b5df2fab4055ddc16a3eb1e6ad293933a6f013e", func := "loop.example/g00987/laws.FnExactSpansAt", spec := "fnExactSpansAt", apart := false, narrowed := true }
def FnExactSpansAtUptoSaid : Prop := fnExactSpansAtUptoRow.holds Try.pinned (OpenSpec.upto fnExactSpansAtSpec)

/-- 'laws.FnExactMoveObject', WHERE WHAT IT READS IS OF BULK AT MOST 1048576: true; the input reads as it did. -/
def fnExactMoveObjectUptoRow : OpenClaim := { program := "ytcalgoembdmlkaa", sum := "e8e5b9da048ab7b58a04b75b3b5df2fab4055ddc16a3eb1e6ad293933a6f013e", func := "loop.example/g00987/laws.FnExactMoveObject", spec := "fnExactMoveObject", apart := false, narrowed := true }
def FnExactMoveObjectUptoSaid : Prop := fnExactMoveObjectUptoRow.holds Try.pinned (OpenSpec.upto fnExactMoveObjectSpec)

/-- 'laws.FnExactTouchesBand', WHERE WHAT IT READS IS OF BULK AT MOST 1048576: true; the input reads as it did. -/
def fnExactTouchesBandUptoRow : OpenClaim := { program := "ytcalgoembdmlkaa", sum := "e8e5b9da048ab7b58a04b75b3b5df2fab4055ddc16a3eb1e6ad293933a6f013e", func := "loop.example/g00987/laws.FnExactTouchesBand", spec := "fnExactTouchesBand", apart := false, narrowed := true }
def FnExactTouchesBandUptoSaid : Prop := fnExactTouchesBandUptoRow.holds Try.pinned (OpenSpec.upto fnExactTouchesBandSpec)

/-- 'laws.FnExactBandCells', WHERE WHAT IT READS IS OF BULK AT MOST 1048576: true; the input reads as it did. -/
def fnExactBandCellsUptoRow : OpenClaim := { program := "ytcalgoembdmlkaa", sum := "e8e5b9da048ab7b58a04b75b3b5df2fab4055ddc16a3eb1e6ad293933a6f013e", func := "loop.example/g00987/laws.FnExactBandCells", spec := "fnExactBandCells", apart := false, narrowed := true }
def FnExactBandCellsUptoSaid : Prop := fnExactBandCellsUptoRow.holds Try.pinned (OpenSpec.upto fnExactBandCellsSpec)

/-- 'laws.FnStores', WHERE WHAT IT READS IS OF BULK AT MOST 1048576: true; the input reads as it did. -/
def fnStoresUptoRow : OpenClaim := { program := "ytcalgoembdmlkaa", sum := "e8e5b9da048ab7b58a04b75b3b5df2fab4055ddc16a3eb1e6ad293933a6f013e", func := "loop.example/g00987/laws.FnStores", spec := "fnStores", unfollowed := true, recurses := true, apart := false, narrowed := true }
def FnStoresUptoSaid : Prop := fnStoresUptoRow.holds Try.pinned (OpenSpec.upto fnStoresSpec)

/-- 'laws.FnExactEstimateTime', WHERE WHAT IT READS IS OF BULK AT MOST 1048576: true; the input reads as it did. -/
def fnExactEstimateTimeUptoRow : OpenClaim := { program := "ytcalgoembdmlkaa", sum := "e8e5b9da048ab7b58a04b75b3b5df2fab4055ddc16a3eb1e6ad293933a6f013e", func := "loop.example/g00987/laws.FnExactEstimateTime", spec := "fnExactEstimateTime", apart := false, narrowed := true }
def FnExactEstimateTimeUptoSaid : Prop := fnExactEstimateTimeUptoRow.holds Try.pinned (OpenSpec.upto fnExactEstimateTimeSpec)

/-- 'laws.FnExactPackRows', WHERE WHAT IT READS IS OF BULK AT MOST 1048576: true; the input reads as it did. -/
def fnExactPackRowsUptoRow : OpenClaim := { program := "ytcalgoembdmlkaa", sum := "e8e5b9da048ab7b58a04b75b3b5df2fab4055ddc16a3eb1e6ad293933a6f013e", func := "loop.example/g00987/laws.FnExactPackRows", spec := "fnExactPackRows", apart := false, narrowed := true }
def FnExactPackRowsUptoSaid : Prop := fnExactPackRowsUptoRow.holds Try.pinned (OpenSpec.upto fnExactPackRowsSpec)

/-- 'laws.FnObjects', WHERE WHAT IT READS IS OF BULK AT MOST 1048576: true; the input reads as it did. -/
def fnObjectsUptoRow : OpenClaim := { program := "ytcalgoembdmlkaa", sum := "e8e5b9da048ab7b58a04b75b3b5df2fab4055ddc16a3eb1e6ad293933a6f013e", func := "loop.example/g00987/laws.FnObjects", spec := "fnObjects", apart := false, narrowed := true }
def FnObjectsUptoSaid : Prop := fnObjectsUptoRow.holds Try.pinned (OpenSpec.upto fnObjectsSpec)

end Rows
end Go.Proofs.Ytcalgoembdmlkaa
