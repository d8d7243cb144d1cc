/-
  No cell of these rows narrows 'for every input' (looked for: loops, veiled, ifaces, maps, wideKeys, modest, calm, conditions, laid).
  DERIVED. THE GIVEN ROWS OF THIS SEAT. 12 by the template 'for every input the law returns true; each argument reads behind the call as it read before'; 0 by the template 'total and deterministic' (their statements: YtbpekdhafniodaaTotals.lean).
  GIVEN WITH THE SEED: the statements are not yours to turn. If you find one false, say at which input.
  Laid BY PROGRAM, IN A SANDBOX (cutbox-rows.mjs): the forced cells as the released guide's own fill.sh prints them over the translation 3406e3e882eba299… (all of the seat's roots in one cut). By AI agents, Wed Nov 11 2026. No macro, syntax, notation, axiom, sorry.
-/
import Derived.Test.YtbpekdhafniodaaChecked
import GoSem.Claim
import GoSem.ClaimJoined
import GoSem.ClaimMapViews
import Derived.JoinedTies
import Derived.KernelRfl
namespace Go.Proofs.Ytbpekdhafniodaa
/- THE CELL 'sum', in the pinned program and in every row, IS THE sha256 OF THE DUMP (.gsa) THAT YtbpekdhafniodaaProg.lean LOADS. Nothing in Lean hashes anything: it is a label: what it is worth is what the hold of that sum in a sandbox is worth. -/
noncomputable def Try.pinned : Pinned := { name := "ytbpekdhafniodaa", sum := "3406e3e882eba2995f91dd95f8abfdeafb55e317ef839cea0c671e80adb9dcdb", checked := Try.checked }
namespace Rows
def none {H : Type} : Left H := { results := [], args := [] }

/-- 'laws.FnExactIsHeight': WHATEVER THE INPUT: true; the input reads as it did. -/
def fnExactIsHeightSpec : ChangeSpec := { name := "fnExactIsHeight", fn := fun _ => fun
  | [d] => { results := [.lit (.bool true)], args := [d] }
  | _ => none }
def fnExactIsHeightRow : OpenClaim := { program := "ytbpekdhafniodaa", sum := "3406e3e882eba2995f91dd95f8abfdeafb55e317ef839cea0c671e80adb9dcdb", func := "loop.example/g00987/laws.FnExactIsHeight", spec := "fnExactIsHeight", apart := false }
def FnExactIsHeightSaid : Prop := fnExactIsHeightRow.holds Try.pinned (OpenSpec.ofChange fnExactIsHeightSpec)

/-- ITS FALSE NEIGHBOUR: 'it returns false'. Refute it at one input. -/
def fnExactIsHeightWrong : ChangeSpec := { name := "fnExactIsHeight", fn := fun _ => fun
  | [d] => { results := [.lit (.bool false)], args := [d] }
  | _ => none }
def FnExactIsHeightWrongFalsely : Prop := fnExactIsHeightRow.holds Try.pinned (OpenSpec.ofChange fnExactIsHeightWrong)

/-- 'laws.FnExactCountBands': WHATEVER THE INPUT: true; the input reads as it did. -/
def fnExactCountBandsSpec : ChangeSpec := { name := "fnExactCountBands", fn := fun _ => fun
  | [d] => { results := [.lit (.bool true)], args := [d] }
  | _ => none }
def fnExactCountBandsRow : OpenClaim := { program := "ytbpekdhafniodaa", sum := "3406e3e882eba2995f91dd95f8abfdeafb55e317ef839cea0c671e80adb9dcdb", func := "loop.example/g00987/laws.FnExactCountBands", spec := "fnExactCountBands", apart := false }
def FnExactCountBandsSaid : Prop := fnExactCountBandsRow.holds Try.pinned (OpenSpec.ofChange fnExactCountBandsSpec)

/-- ITS FALSE NEIGHBOUR: 'it returns false'. Refute it at one input. -/
def fnExactCountBandsWrong : ChangeSpec := { name := "fnExactCountBands", fn := fun _ => fun
  | [d] => { results := [.lit (.bool false)], args := [d] }
  | _ => none }
def FnExactCountBandsWrongFalsely : Prop := fnExactCountBandsRow.holds Try.pinned (OpenSpec.ofChange fnExactCountBandsWrong)

/-- 'laws.FnExactRunsLength': WHATEVER THE INPUT: true; the input reads as it did. -/
def fnExactRunsLengthSpec : ChangeSpec := { name := "fnExactRunsLength", fn := fun _ => fun
  | [d] => { results := [.lit (.bool true)], args := [d] }
  | _ => none }
def fnExactRunsLengthRow : OpenClaim := { program := "ytbpekdhafniodaa", sum := "3406e3e882eba2995f91dd95f8abfdeafb55e317ef839cea0c671e80adb9dcdb", func := "loop.example/g00987/laws.FnExactRunsLength", spec := "fnExactRunsLength", apart := false }
def FnExactRunsLengthSaid : Prop := fnExactRunsLengthRow.holds Try.pinned (OpenSpec.ofChange fnExactRunsLengthSpec)

/-- ITS FALSE NEIGHBOUR: 'it returns false'. Refute it at one input. -/
def fnExactRunsLengthWrong : ChangeSpec := { name := "fnExactRunsLength", fn := fun _ => fun
  | [d] => { results := [.lit (.bool false)], args := [d] }
  | _ => none }
def FnExactRunsLengthWrongFalsely : Prop := fnExactRunsLengthRow.holds Try.pinned (OpenSpec.ofChange fnExactRunsLengthWrong)

/-- 'laws.FnExactRunsOk': WHATEVER THE INPUT: true; the input reads as it did. -/
def fnExactRunsOkSpec : ChangeSpec := { name := "fnExactRunsOk", fn := fun _ => fun
  | [d] => { results := [.lit (.bool true)], args := [d] }
  | _ => none }
def fnExactRunsOkRow : OpenClaim := { program := "ytbpekdhafniodaa", sum := "3406e3e882eba2995f91dd95f8abfdeafb55e317ef839cea0c671e80adb9dcdb", func := "loop.example/g00987/laws.FnExactRunsOk", spec := "fnExactRunsOk", apart := false }
def FnExactRunsOkSaid : Prop := fnExactRunsOkRow.holds Try.pinned (OpenSpec.ofChange fnExactRunsOkSpec)

/-- ITS FALSE NEIGHBOUR: 'it returns false'. Refute it at one input. -/
def fnExactRunsOkWrong : ChangeSpec := { name := "fnExactRunsOk", fn := fun _ => fun
  | [d] => { results := [.lit (.bool false)], args := [d] }
  | _ => none }
def FnExactRunsOkWrongFalsely : Prop := fnExactRunsOkRow.holds Try.pinned (OpenSpec.ofChange fnExactRunsOkWrong)

/-- 'laws.FnExactCountValue': WHATEVER THE INPUT: true; the input reads as it did. -/
def fnExactCountValueSpec : ChangeSpec := { name := "fnExactCountValue", fn := fun _ => fun
  | [d1, d2] => { results := [.lit (.bool true)], args := [d1, d2] }
  | _ => none }
def fnExactCountValueRow : OpenClaim := { program := "ytbpekdhafniodaa", sum := "3406e3e882eba2995f91dd95f8abfdeafb55e317ef839cea0c671e80adb9dcdb", func := "loop.example/g00987/laws.FnExactCountValue", spec := "fnExactCountValue", apart := false }
def FnExactCountValueSaid : Prop := fnExactCountValueRow.holds Try.pinned (OpenSpec.ofChange fnExactCountValueSpec)

/-- ITS FALSE NEIGHBOUR: 'it returns false'. Refute it at one input. -/
def fnExactCountValueWrong : ChangeSpec := { name := "fnExactCountValue", fn := fun _ => fun
  | [d1, d2] => { results := [.lit (.bool false)], args := [d1, d2] }
  | _ => none }
def FnExactCountValueWrongFalsely : Prop := fnExactCountValueRow.holds Try.pinned (OpenSpec.ofChange fnExactCountValueWrong)

/-- 'laws.FnExactRunAt': WHATEVER THE INPUT: true; the input reads as it did. -/
def fnExactRunAtSpec : ChangeSpec := { name := "fnExactRunAt", fn := fun _ => fun
  | [d1, d2] => { results := [.lit (.bool true)], args := [d1, d2] }
  | _ => none }
def fnExactRunAtRow : OpenClaim := { program := "ytbpekdhafniodaa", sum := "3406e3e882eba2995f91dd95f8abfdeafb55e317ef839cea0c671e80adb9dcdb", func := "loop.example/g00987/laws.FnExactRunAt", spec := "fnExactRunAt", apart := false }
def FnExactRunAtSaid : Prop := fnExactRunAtRow.holds Try.pinned (OpenSpec.ofChange fnExactRunAtSpec)

/-- ITS FALSE NEIGHBOUR: 'it returns false'. Refute it at one input. -/
def fnExactRunAtWrong : ChangeSpec := { name := "fnExactRunAt", fn := fun _ => fun
  | [d1, d2] => { results := [.lit (.bool false)], args := [d1, d2] }
  | _ => none }
def FnExactRunAtWrongFalsely : Prop := fnExactRunAtRow.holds Try.pinned (OpenSpec.ofChange fnExactRunAtWrong)

/-- 'laws.FnExactStoreSize': WHATEVER THE INPUT: true; the input reads as it did. -/
def fnExactStoreSizeSpec : ChangeSpec := { name := "fnExactStoreSize", fn := fun _ => fun
  | [d] => { results := [.lit (.bool true)], args := [d] }
  | _ => none }
def fnExactStoreSizeRow : OpenClaim := { program := "ytbpekdhafniodaa", sum := "3406e3e882eba2995f91dd95f8abfdeafb55e317ef839cea0c671e80adb9dcdb", func := "loop.example/g00987/laws.FnExactStoreSize", spec := "fnExactStoreSize", apart := false }
def FnExactStoreSizeSaid : Prop := fnExactStoreSizeRow.holds Try.pinned (OpenSpec.ofChange fnExactStoreSizeSpec)

/-- ITS FALSE NEIGHBOUR: 'it returns false'. Refute it at one input. -/
def fnExactStoreSizeWrong : ChangeSpec := { name := "fnExactStoreSize", fn := fun _ => fun
  | [d] => { results := [.lit (.bool false)], args := [d] }
  | _ => none }
def FnExactStoreSizeWrongFalsely : Prop := fnExactStoreSizeRow.holds Try.pinned (OpenSpec.ofChange fnExactStoreSizeWrong)

/-- 'laws.FnExactRowsOk': WHATEVER THE INPUT: true; the input reads as it did. -/
def fnExactRowsOkSpec : ChangeSpec := { name := "fnExactRowsOk", fn := fun _ => fun
  | [d] => { results := [.lit (.bool true)], args := [d] }
  | _ => none }
def fnExactRowsOkRow : OpenClaim := { program := "ytbpekdhafniodaa", sum := "3406e3e882eba2995f91dd95f8abfdeafb55e317ef839cea0c671e80adb9dcdb", func := "loop.example/g00987/laws.FnExactRowsOk", spec := "fnExactRowsOk", apart := false }
def FnExactRowsOkSaid : Prop := fnExactRowsOkRow.holds Try.pinned (OpenSpec.ofChange fnExactRowsOkSpec)

/-- ITS FALSE NEIGHBOUR: 'it returns false'. Refute it at one input. -/
def fnExactRowsOkWrong : ChangeSpec := { name := "fnExactRowsOk", fn := fun _ => fun
  | [d] => { results := [.lit (.bool false)], args := [d] }
  | _ => none }
def FnExactRowsOkWrongFalsely : Prop := fnExactRowsOkRow.holds Try.pinned (OpenSpec.ofChange fnExactRowsOkWrong)

/-- 'laws.FnExactSameRows': WHATEVER THE INPUT: true; the input reads as it did. -/
def fnExactSameRowsSpec : ChangeSpec := { name := "fnExactSameRows", fn := fun _ => fun
  | [d1, d2] => { results := [.lit (.bool true)], args := [d1, d2] }
  | _ => none }
def fnExactSameRowsRow : OpenClaim := { program := "ytbpekdhafniodaa", sum := "3406e3e882eba2995f91dd95f8abfdeafb55e317ef839cea0c671e80adb9dcdb", func := "loop.example/g00987/laws.FnExactSameRows", spec := "fnExactSameRows", unfollowed := true, recurses := true, apart := false }
def FnExactSameRowsSaid : Prop := fnExactSameRowsRow.holds Try.pinned (OpenSpec.ofChange fnExactSameRowsSpec)

/-- ITS FALSE NEIGHBOUR: 'it returns false'. Refute it at one input. -/
def fnExactSameRowsWrong : ChangeSpec := { name := "fnExactSameRows", fn := fun _ => fun
  | [d1, d2] => { results := [.lit (.bool false)], args := [d1, d2] }
  | _ => none }
def FnExactSameRowsWrongFalsely : Prop := fnExactSameRowsRow.holds Try.pinned (OpenSpec.ofChange fnExactSameRowsWrong)

/-- 'laws.FnExactRunsOf': WHATEVER THE INPUT: true; the input reads as it did. -/
def fnExactRunsOfSpec : ChangeSpec := { name := "fnExactRunsOf", fn := fun _ => fun
  | [d] => { results := [.lit (.bool true)], args := [d] }
  | _ => none }
def fnExactRunsOfRow : OpenClaim := { program := "ytbpekdhafniodaa", sum := "3406e3e882eba2995f91dd95f8abfdeafb55e317ef839cea0c671e80adb9dcdb", func := "loop.example/g00987/laws.FnExactRunsOf", spec := "fnExactRunsOf", apart := false }
def FnExactRunsOfSaid : Prop := fnExactRunsOfRow.holds Try.pinned (OpenSpec.ofChange fnExactRunsOfSpec)

/-- ITS FALSE NEIGHBOUR: 'it returns false'. Refute it at one input. -/
def fnExactRunsOfWrong : ChangeSpec := { name := "fnExactRunsOf", fn := fun _ => fun
  | [d] => { results := [.lit (.bool false)], args := [d] }
  | _ => none }
def FnExactRunsOfWrongFalsely : Prop := fnExactRunsOfRow.holds Try.pinned (OpenSpec.ofChange fnExactRunsOfWrong)

/-- 'laws.FnExactWhiteRows': WHATEVER THE INPUT: true; the input reads as it did. -/
def fnExactWhiteRowsSpec : ChangeSpec := { name := "fnExactWhiteRows", fn := fun _ => fun
  | [d] => { results := [.lit (.bool true)], args := [d] }
  | _ => none }
def fnExactWhiteRowsRow : OpenClaim := { program := "ytbpekdhafniodaa", sum := "3406e3e882eba2995f91dd95f8abfdeafb55e317ef839cea0c671e80adb9dcdb", func := "loop.example/g00987/laws.FnExactWhiteRows", spec := "fnExactWhiteRows", apart := false }
def FnExactWhiteRowsSaid : Prop := fnExactWhiteRowsRow.holds Try.pinned (OpenSpec.ofChange fnExactWhiteRowsSpec)

/-- ITS FALSE NEIGHBOUR: 'it returns false'. Refute it at one input. -/
def fnExactWhiteRowsWrong : ChangeSpec := { name := "fnExactWhiteRows", fn := fun _ => fun
  | [d] => { results := [.lit (.bool false)], args := [d] }
  | _ => none }
def FnExactWhiteRowsWrongFalsely : Prop := fnExactWhiteRowsRow.holds Try.pinned (OpenSpec.ofChange fnExactWhiteRowsWrong)

/-- 'laws.FnExactObjectOk': WHATEVER THE INPUT: true; the input reads as it did. -/
def fnExactObjectOkSpec : ChangeSpec := { name := "fnExactObjectOk", fn := fun _ => fun
  | [d] => { results := [.lit (.bool true)], args := [d] }
  | _ => none }
def fnExactObjectOkRow : OpenClaim := { program := "ytbpekdhafniodaa", sum := "3406e3e882eba2995f91dd95f8abfdeafb55e317ef839cea0c671e80adb9dcdb", func := "loop.example/g00987/laws.FnExactObjectOk", spec := "fnExactObjectOk", apart := false }
def FnExactObjectOkSaid : Prop := fnExactObjectOkRow.holds Try.pinned (OpenSpec.ofChange fnExactObjectOkSpec)

/-- ITS FALSE NEIGHBOUR: 'it returns false'. Refute it at one input. -/
def fnExactObjectOkWrong : ChangeSpec := { name := "fnExactObjectOk", fn := fun _ => fun
  | [d] => { results := [.lit (.bool false)], args := [d] }
  | _ => none }
def FnExactObjectOkWrongFalsely : Prop := fnExactObjectOkRow.holds Try.pinned (OpenSpec.ofChange fnExactObjectOkWrong)

/- THE SECOND FORM. 'bulk': how many values and letters a reading holds, each counted each time it is reached (what is shared counts as often as it is met; a slice's spare places count too). A statement '..UptoSaid' is the law's where the arguments, and the package variables that the reading takes, are together of bulk at most 1048576: NARROWER than '..Said'. Prove '..Said' where nothing that the law and all that it calls make is longer than what came in: it says more and counts as full. Else prove '..UptoSaid'. A law counts once. -/
mutual
def uptoBulk {H : Type} : DataW H → Nat
  | .lit (.string bytes) => bytes.length + 1
  | .lit _ => 1
  | .nil => 1
  | .ptr d => uptoBulk d + 1
  | .slice elems spare => uptoBulkAll elems + uptoBulkAll spare + 1
  | .agg parts => uptoBulkAll parts + 1
  | .iface _ d => uptoBulk d + 1
  | .map entries => uptoBulkEntries entries + 1
  | .held _ => 1
def uptoBulkAll {H : Type} : List (DataW H) → Nat
  | [] => 0
  | d :: r => uptoBulk d + uptoBulkAll r
def uptoBulkEntries {H : Type} : List (Lit × DataW H) → Nat
  | [] => 0
  | x :: r => uptoBulkEntry x + uptoBulkEntries r
def uptoBulkEntry {H : Type} : Lit × DataW H → Nat
  | (.string bytes, d) => bytes.length + uptoBulk d + 1
  | (_, d) => uptoBulk d + 1
 end
def uptoSmall : (H : Type) → List (DataW H) → Bool := fun _ ds => decide (uptoBulkAll ds ≤ 1048576)
def OpenSpec.upto (s : _root_.Go.ChangeSpec) : _root_.Go.OpenSpec := { _root_.Go.OpenSpec.ofChange s with cond := some uptoSmall }

/-- 'laws.FnExactIsHeight', WHERE WHAT IT READS IS OF BULK AT MOST 1048576: true; the input reads as it did. -/
def fnExactIsHeightUptoRow : OpenClaim := { program := "ytbpekdhafniodaa", sum := "3406e3e882eba2995f91dd95f8abfdeafb55e317ef839cea0c671e80adb9dcdb", func := "loop.example/g00987/laws.FnExactIsHeight", spec := "fnExactIsHeight", apart := false, narrowed := true }
def FnExactIsHeightUptoSaid : Prop := fnExactIsHeightUptoRow.holds Try.pinned (OpenSpec.upto fnExactIsHeightSpec)

/-- 'laws.FnExactCountBands', WHERE WHAT IT READS IS OF BULK AT MOST 1048576: true; the input reads as it did. -/
def fnExactCountBandsUptoRow : OpenClaim := { program := "ytbpekdhafniodaa", sum := "3406e3e882eba2995f91dd95f8abfdeafb55e317ef839cea0c671e80adb9dcdb", func := "loop.example/g00987/laws.FnExactCountBands", spec := "fnExactCountBands", apart := false, narrowed := true }
def FnExactCountBandsUptoSaid : Prop := fnExactCountBandsUptoRow.holds Try.pinned (OpenSpec.upto fnExactCountBandsSpec)

/-- 'laws.FnExactRunsLength', WHERE WHAT IT READS IS OF BULK AT MOST 1048576: true; the input reads as it did. -/
def fnExactRunsLengthUptoRow : OpenClaim := { program := "ytbpekdhafniodaa", sum := "3406e3e882eba2995f91dd95f8abfdeafb55e317ef839cea0c671e80adb9dcdb", func := "loop.example/g00987/laws.FnExactRunsLength", spec := "fnExactRunsLength", apart := false, narrowed := true }
def FnExactRunsLengthUptoSaid : Prop := fnExactRunsLengthUptoRow.holds Try.pinned (OpenSpec.upto fnExactRunsLengthSpec)

/-- 'laws.FnExactRunsOk', WHERE WHAT IT READS IS OF BULK AT MOST 1048576: true; the input reads as it did. -/
def fnExactRunsOkUptoRow : OpenClaim := { program := "ytbpekdhafniodaa", sum := "3406e3e882eba2995f91dd95f8abfdeafb55e317ef839cea0c671e80adb9dcdb", func := "loop.example/g00987/laws.FnExactRunsOk", spec := "fnExactRunsOk", apart := false, narrowed := true }
def FnExactRunsOkUptoSaid : Prop := fnExactRunsOkUptoRow.holds Try.pinned (OpenSpec.upto fnExactRunsOkSpec)

/-- 'laws.FnExactCountValue', WHERE WHAT IT READS IS OF BULK AT MOST 1048576: true; the input reads as it did. -/
def fnExactCountValueUptoRow : OpenClaim := { program := "ytbpekdhafniodaa", sum := "3406e3e882eba2995f91dd95f8abfdeafb55e317ef839cea0c671e80adb9dcdb", func := "loop.example/g00987/laws.FnExactCountValue", spec := "fnExactCountValue", apart := false, narrowed := true }
def FnExactCountValueUptoSaid : Prop := fnExactCountValueUptoRow.holds Try.pinned (OpenSpec.upto fnExactCountValueSpec)

/-- 'laws.FnExactRunAt', WHERE WHAT IT READS IS OF BULK AT MOST 1048576: true; the input reads as it did. -/
def fnExactRunAtUptoRow : OpenClaim := { program := "ytbpekdhafniodaa", sum := "3406e3e882eba2995f91dd95f8abfdeafb55e317ef839cea0c671e80adb9dcdb", func := "loop.example/g00987/laws.FnExactRunAt", spec := "fnExactRunAt", apart := false, narrowed := true }
def FnExactRunAtUptoSaid : Prop := fnExactRunAtUptoRow.holds Try.pinned (OpenSpec.upto fnExactRunAtSpec)

/-- 'laws.FnExactStoreSize', WHERE WHAT IT READS IS OF BULK AT MOST 1048576: true; the input reads as it did. -/
def fnExactStoreSizeUptoRow : OpenClaim := { program := "ytbpekdhafniodaa", sum := "3406e3e882eba2995f91dd95f8abfdeafb55e317ef839cea0c671e80adb9dcdb", func := "loop.example/g00987/laws.FnExactStoreSize", spec := "fnExactStoreSize", apart := false, narrowed := true }
def FnExactStoreSizeUptoSaid : Prop := fnExactStoreSizeUptoRow.holds Try.pinned (OpenSpec.upto fnExactStoreSizeSpec)

/-- 'laws.FnExactRowsOk', WHERE WHAT IT READS IS OF BULK AT MOST 1048576: true; the input reads as it did. -/
def fnExactRowsOkUptoRow : OpenClaim := { program := "ytbpekdhafniodaa", sum := "3406e3e882eba2995f91dd95f8abfdeafb55e317ef839cea0c671e80adb9dcdb", func := "loop.example/g00987/laws.FnExactRowsOk", spec := "fnExactRowsOk", apart := false, narrowed := true }
def FnExactRowsOkUptoSaid : Prop := fnExactRowsOkUptoRow.holds Try.pinned (OpenSpec.upto fnExactRowsOkSpec)

/-- 'laws.FnExactSameRows', WHERE WHAT IT READS IS OF BULK AT MOST 1048576: true; the input reads as it did. -/
def fnExactSameRowsUptoRow : OpenClaim := { program := "ytbpekdhafniodaa", sum := "3406e3e882eba2995f91dd95f8abfdeafb55e317ef839cea0c671e80adb9dcdb", func := "loop.example/g00987/laws.FnExactSameRows", spec := "fnExactSameRows", unfollowed := true, recurses := true, apart := false, narrowed := true }
def FnExactSameRowsUptoSaid : Prop := fnExactSameRowsUptoRow.holds Try.pinned (OpenSpec.upto fnExactSameRowsSpec)

/-- 'laws.FnExactRunsOf', WHERE WHAT IT READS IS OF BULK AT MOST 1048576: true; the input reads as it did. -/
def fnExactRunsOfUptoRow : OpenClaim := { program := "ytbpekdhafniodaa", sum := "3406e3e882eba2995f91dd95f8abfdeafb55e317ef839cea0c671e80adb9dcdb", func := "loop.example/g00987/laws.FnExactRunsOf", spec := "fnExactRunsOf", apart := false, narrowed := true }
def FnExactRunsOfUptoSaid : Prop := fnExactRunsOfUptoRow.holds Try.pinned (OpenSpec.upto fnExactRunsOfSpec)

/-- 'laws.FnExactWhiteRows', WHERE WHAT IT READS IS OF BULK AT MOST 1048576: true; the input reads as it did. -/
def fnExactWhiteRowsUptoRow : OpenClaim := { program := "ytbpekdhafniodaa", sum := "3406e3e882eba2995f91dd95f8abfdeafb55e317ef839cea0c671e80adb9dcdb", func := "loop.example/g00987/laws.FnExactWhiteRows", spec := "fnExactWhiteRows", apart := false, narrowed := true }
def FnExactWhiteRowsUptoSaid : Prop := fnExactWhiteRowsUptoRow.holds Try.pinned (OpenSpec.upto fnExactWhiteRowsSpec)

/-- 'laws.FnExactObjectOk', WHERE WHAT IT READS IS OF BULK AT MOST 1048576: true; the input reads as it did. -/
def fnExactObjectOkUptoRow : OpenClaim := { program := "ytbpekdhafniodaa", sum := "3406e3e882eba2995f91dd95f8abfdeafb55e317ef839cea0c671e80adb9dcdb", func := "loop.example/g00987/laws.FnExactObjectOk", spec := "fnExactObjectOk", apart := false, narrowed := true }
def FnExactObjectOkUptoSaid : Prop := fnExactObjectOkUptoRow.holds Try.pinned (OpenSpec.upto fnExactObjectOkSpec)

end Rows
end Go.Proofs.Ytbpekdhafniodaa
