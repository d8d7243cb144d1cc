/-
  No cell of these rows narrows 'for every input' (looked for: loops, veiled, ifaces, maps, wideKeys, modest, calm, conditions, laid).
  DERIVED. THE GIVEN ROWS OF THIS SEAT. 12 by the template 'for every input the law returns true; each argument reads behind the call as it read before'; 0 by the template 'total and deterministic' (their statements: YtigodjcnkgebaaaTotals.lean).
  GIVEN WITH THE SEED: the statements are not yours to turn. If you find one false, say at which input.
  Laid BY PROGRAM, IN A SANDBOX (cutbox-rows.mjs): the forced cells as the released guide's own fill.sh prints them over the translation 0a09cee41192dcaa… (all of the seat's roots in one cut). By AI agents, Wed Nov 11 2026. No macro, syntax, notation, axiom, sorry.
-/
import Derived.Test.YtigodjcnkgebaaaChecked
import GoSem.Claim
import GoSem.ClaimJoined
import GoSem.ClaimMapViews
import Derived.JoinedTies
import Derived.KernelRfl
namespace Go.Proofs.Ytigodjcnkgebaaa
/- THE CELL 'sum', in the pinned program and in every row, IS THE sha256 OF THE DUMP (.gsa) THAT YtigodjcnkgebaaaProg.lean LOADS. Nothing in Lean hashes anything: it is a label: what it is worth is what the hold of that sum in a sandbox is worth. -/
noncomputable def Try.pinned : Pinned := { name := "ytigodjcnkgebaaa", sum := "0a09cee41192dcaaab9861d11847359a7ed60422fbcc8c7cb4e10a987c50d855", checked := Try.checked }
namespace Rows
def none {H : Type} : Left H := { results := [], args := [] }

/-- 'laws.FnBands': WHATEVER THE INPUT: true; the input reads as it did. -/
def fnBandsSpec : ChangeSpec := { name := "fnBands", fn := fun _ => fun
  | [d] => { results := [.lit (.bool true)], args := [d] }
  | _ => none }
def fnBandsRow : OpenClaim := { program := "ytigodjcnkgebaaa", sum := "0a09cee41192dcaaab9861d11847359a7ed60422fbcc8c7cb4e10a987c50d855", func := "loop.example/g00987/laws.FnBands", spec := "fnBands", unfollowed := true, recurses := true, apart := false }
def FnBandsSaid : Prop := fnBandsRow.holds Try.pinned (OpenSpec.ofChange fnBandsSpec)

/-- ITS FALSE NEIGHBOUR: 'it returns false'. Refute it at one input. -/
def fnBandsWrong : ChangeSpec := { name := "fnBands", fn := fun _ => fun
  | [d] => { results := [.lit (.bool false)], args := [d] }
  | _ => none }
def FnBandsWrongFalsely : Prop := fnBandsRow.holds Try.pinned (OpenSpec.ofChange fnBandsWrong)

/-- 'laws.FnExactObjectRow': WHATEVER THE INPUT: true; the input reads as it did. -/
def fnExactObjectRowSpec : ChangeSpec := { name := "fnExactObjectRow", fn := fun _ => fun
  | [d1, d2] => { results := [.lit (.bool true)], args := [d1, d2] }
  | _ => none }
def fnExactObjectRowRow : OpenClaim := { program := "ytigodjcnkgebaaa", sum := "0a09cee41192dcaaab9861d11847359a7ed60422fbcc8c7cb4e10a987c50d855", func := "loop.example/g00987/laws.FnExactObjectRow", spec := "fnExactObjectRow", apart := false }
def FnExactObjectRowSaid : Prop := fnExactObjectRowRow.holds Try.pinned (OpenSpec.ofChange fnExactObjectRowSpec)

/-- ITS FALSE NEIGHBOUR: 'it returns false'. Refute it at one input. -/
def fnExactObjectRowWrong : ChangeSpec := { name := "fnExactObjectRow", fn := fun _ => fun
  | [d1, d2] => { results := [.lit (.bool false)], args := [d1, d2] }
  | _ => none }
def FnExactObjectRowWrongFalsely : Prop := fnExactObjectRowRow.holds Try.pinned (OpenSpec.ofChange fnExactObjectRowWrong)

/-- 'laws.FnExactBandOk': WHATEVER THE INPUT: true; the input reads as it did. -/
def fnExactBandOkSpec : ChangeSpec := { name := "fnExactBandOk", fn := fun _ => fun
  | [d] => { results := [.lit (.bool true)], args := [d] }
  | _ => none }
def fnExactBandOkRow : OpenClaim := { program := "ytigodjcnkgebaaa", sum := "0a09cee41192dcaaab9861d11847359a7ed60422fbcc8c7cb4e10a987c50d855", func := "loop.example/g00987/laws.FnExactBandOk", spec := "fnExactBandOk", apart := false }
def FnExactBandOkSaid : Prop := fnExactBandOkRow.holds Try.pinned (OpenSpec.ofChange fnExactBandOkSpec)

/-- ITS FALSE NEIGHBOUR: 'it returns false'. Refute it at one input. -/
def fnExactBandOkWrong : ChangeSpec := { name := "fnExactBandOk", fn := fun _ => fun
  | [d] => { results := [.lit (.bool false)], args := [d] }
  | _ => none }
def FnExactBandOkWrongFalsely : Prop := fnExactBandOkRow.holds Try.pinned (OpenSpec.ofChange fnExactBandOkWrong)

/-- 'laws.FnExactPaintTime': WHATEVER THE INPUT: true; the input reads as it did. -/
def fnExactPaintTimeSpec : ChangeSpec := { name := "fnExactPaintTime", fn := fun _ => fun
  | [d1, d2, d3] => { results := [.lit (.bool true)], args := [d1, d2, d3] }
  | _ => none }
def fnExactPaintTimeRow : OpenClaim := { program := "ytigodjcnkgebaaa", sum := "0a09cee41192dcaaab9861d11847359a7ed60422fbcc8c7cb4e10a987c50d855", func := "loop.example/g00987/laws.FnExactPaintTime", spec := "fnExactPaintTime", apart := false }
def FnExactPaintTimeSaid : Prop := fnExactPaintTimeRow.holds Try.pinned (OpenSpec.ofChange fnExactPaintTimeSpec)

/-- ITS FALSE NEIGHBOUR: 'it returns false'. Refute it at one input. -/
def fnExactPaintTimeWrong : ChangeSpec := { name := "fnExactPaintTime", fn := fun _ => fun
  | [d1, d2, d3] => { results := [.lit (.bool false)], args := [d1, d2, d3] }
  | _ => none }
def FnExactPaintTimeWrongFalsely : Prop := fnExactPaintTimeRow.holds Try.pinned (OpenSpec.ofChange fnExactPaintTimeWrong)

/-- 'laws.FnExactBandTime': WHATEVER THE INPUT: true; the input reads as it did. -/
def fnExactBandTimeSpec : ChangeSpec := { name := "fnExactBandTime", fn := fun _ => fun
  | [d1, d2, d3] => { results := [.lit (.bool true)], args := [d1, d2, d3] }
  | _ => none }
def fnExactBandTimeRow : OpenClaim := { program := "ytigodjcnkgebaaa", sum := "0a09cee41192dcaaab9861d11847359a7ed60422fbcc8c7cb4e10a987c50d855", func := "loop.example/g00987/laws.FnExactBandTime", spec := "fnExactBandTime", apart := false }
def FnExactBandTimeSaid : Prop := fnExactBandTimeRow.holds Try.pinned (OpenSpec.ofChange fnExactBandTimeSpec)

/-- ITS FALSE NEIGHBOUR: 'it returns false'. Refute it at one input. -/
def fnExactBandTimeWrong : ChangeSpec := { name := "fnExactBandTime", fn := fun _ => fun
  | [d1, d2, d3] => { results := [.lit (.bool false)], args := [d1, d2, d3] }
  | _ => none }
def FnExactBandTimeWrongFalsely : Prop := fnExactBandTimeRow.holds Try.pinned (OpenSpec.ofChange fnExactBandTimeWrong)

/-- 'laws.FnRuns7': WHATEVER THE INPUT: true; the input reads as it did. -/
def fnRuns7Spec : ChangeSpec := { name := "fnRuns7", fn := fun _ => fun
  | [d] => { results := [.lit (.bool true)], args := [d] }
  | _ => none }
def fnRuns7Row : OpenClaim := { program := "ytigodjcnkgebaaa", sum := "0a09cee41192dcaaab9861d11847359a7ed60422fbcc8c7cb4e10a987c50d855", func := "loop.example/g00987/laws.FnRuns7", spec := "fnRuns7", recurses := true, apart := false }
def FnRuns7Said : Prop := fnRuns7Row.holds Try.pinned (OpenSpec.ofChange fnRuns7Spec)

/-- ITS FALSE NEIGHBOUR: 'it returns false'. Refute it at one input. -/
def fnRuns7Wrong : ChangeSpec := { name := "fnRuns7", fn := fun _ => fun
  | [d] => { results := [.lit (.bool false)], args := [d] }
  | _ => none }
def FnRuns7WrongFalsely : Prop := fnRuns7Row.holds Try.pinned (OpenSpec.ofChange fnRuns7Wrong)

/-- 'laws.FnExactPaintObject': WHATEVER THE INPUT: true; the input reads as it did. -/
def fnExactPaintObjectSpec : ChangeSpec := { name := "fnExactPaintObject", fn := fun _ => fun
  | [d1, d2, d3] => { results := [.lit (.bool true)], args := [d1, d2, d3] }
  | _ => none }
def fnExactPaintObjectRow : OpenClaim := { program := "ytigodjcnkgebaaa", sum := "0a09cee41192dcaaab9861d11847359a7ed60422fbcc8c7cb4e10a987c50d855", func := "loop.example/g00987/laws.FnExactPaintObject", spec := "fnExactPaintObject", apart := false }
def FnExactPaintObjectSaid : Prop := fnExactPaintObjectRow.holds Try.pinned (OpenSpec.ofChange fnExactPaintObjectSpec)

/-- ITS FALSE NEIGHBOUR: 'it returns false'. Refute it at one input. -/
def fnExactPaintObjectWrong : ChangeSpec := { name := "fnExactPaintObject", fn := fun _ => fun
  | [d1, d2, d3] => { results := [.lit (.bool false)], args := [d1, d2, d3] }
  | _ => none }
def FnExactPaintObjectWrongFalsely : Prop := fnExactPaintObjectRow.holds Try.pinned (OpenSpec.ofChange fnExactPaintObjectWrong)

/-- 'laws.FnExactPaintAll': WHATEVER THE INPUT: true; the input reads as it did. -/
def fnExactPaintAllSpec : ChangeSpec := { name := "fnExactPaintAll", fn := fun _ => fun
  | [d] => { results := [.lit (.bool true)], args := [d] }
  | _ => none }
def fnExactPaintAllRow : OpenClaim := { program := "ytigodjcnkgebaaa", sum := "0a09cee41192dcaaab9861d11847359a7ed60422fbcc8c7cb4e10a987c50d855", func := "loop.example/g00987/laws.FnExactPaintAll", spec := "fnExactPaintAll", apart := false }
def FnExactPaintAllSaid : Prop := fnExactPaintAllRow.holds Try.pinned (OpenSpec.ofChange fnExactPaintAllSpec)

/-- ITS FALSE NEIGHBOUR: 'it returns false'. Refute it at one input. -/
def fnExactPaintAllWrong : ChangeSpec := { name := "fnExactPaintAll", fn := fun _ => fun
  | [d] => { results := [.lit (.bool false)], args := [d] }
  | _ => none }
def FnExactPaintAllWrongFalsely : Prop := fnExactPaintAllRow.holds Try.pinned (OpenSpec.ofChange fnExactPaintAllWrong)

/-- 'laws.FnExactRenderBand': WHATEVER THE INPUT: true; the input reads as it did. -/
def fnExactRenderBandSpec : ChangeSpec := { name := "fnExactRenderBand", fn := fun _ => fun
  | [d1, d2, d3] => { results := [.lit (.bool true)], args := [d1, d2, d3] }
  | _ => none }
def fnExactRenderBandRow : OpenClaim := { program := "ytigodjcnkgebaaa", sum := "0a09cee41192dcaaab9861d11847359a7ed60422fbcc8c7cb4e10a987c50d855", func := "loop.example/g00987/laws.FnExactRenderBand", spec := "fnExactRenderBand", apart := false }
def FnExactRenderBandSaid : Prop := fnExactRenderBandRow.holds Try.pinned (OpenSpec.ofChange fnExactRenderBandSpec)

/-- ITS FALSE NEIGHBOUR: 'it returns false'. Refute it at one input. -/
def fnExactRenderBandWrong : ChangeSpec := { name := "fnExactRenderBand", fn := fun _ => fun
  | [d1, d2, d3] => { results := [.lit (.bool false)], args := [d1, d2, d3] }
  | _ => none }
def FnExactRenderBandWrongFalsely : Prop := fnExactRenderBandRow.holds Try.pinned (OpenSpec.ofChange fnExactRenderBandWrong)

/-- 'laws.FnMerges': WHATEVER THE INPUT: true; the input reads as it did. -/
def fnMergesSpec : ChangeSpec := { name := "fnMerges", fn := fun _ => fun
  | [d] => { results := [.lit (.bool true)], args := [d] }
  | _ => none }
def fnMergesRow : OpenClaim := { program := "ytigodjcnkgebaaa", sum := "0a09cee41192dcaaab9861d11847359a7ed60422fbcc8c7cb4e10a987c50d855", func := "loop.example/g00987/laws.FnMerges", spec := "fnMerges", unfollowed := true, recurses := true, apart := false }
def FnMergesSaid : Prop := fnMergesRow.holds Try.pinned (OpenSpec.ofChange fnMergesSpec)

/-- ITS FALSE NEIGHBOUR: 'it returns false'. Refute it at one input. -/
def fnMergesWrong : ChangeSpec := { name := "fnMerges", fn := fun _ => fun
  | [d] => { results := [.lit (.bool false)], args := [d] }
  | _ => none }
def FnMergesWrongFalsely : Prop := fnMergesRow.holds Try.pinned (OpenSpec.ofChange fnMergesWrong)

/-- 'laws.FnExactRenderBands': WHATEVER THE INPUT: true; the input reads as it did. -/
def fnExactRenderBandsSpec : ChangeSpec := { name := "fnExactRenderBands", fn := fun _ => fun
  | [d1, d2] => { results := [.lit (.bool true)], args := [d1, d2] }
  | _ => none }
def fnExactRenderBandsRow : OpenClaim := { program := "ytigodjcnkgebaaa", sum := "0a09cee41192dcaaab9861d11847359a7ed60422fbcc8c7cb4e10a987c50d855", func := "loop.example/g00987/laws.FnExactRenderBands", spec := "fnExactRenderBands", apart := false }
def FnExactRenderBandsSaid : Prop := fnExactRenderBandsRow.holds Try.pinned (OpenSpec.ofChange fnExactRenderBandsSpec)

/-- ITS FALSE NEIGHBOUR: 'it returns false'. Refute it at one input. -/
def fnExactRenderBandsWrong : ChangeSpec := { name := "fnExactRenderBands", fn := fun _ => fun
  | [d1, d2] => { results := [.lit (.bool false)], args := [d1, d2] }
  | _ => none }
def FnExactRenderBandsWrongFalsely : Prop := fnExactRenderBandsRow.holds Try.pinned (OpenSpec.ofChange fnExactRenderBandsWrong)

/-- 'laws.FnMemory': WHATEVER THE INPUT: true; the input reads as it did. -/
def fnMemorySpec : ChangeSpec := { name := "fnMemory", fn := fun _ => fun
  | [d] => { results := [.lit (.bool true)], args := [d] }
  | _ => none }
def fnMemoryRow : OpenClaim := { program := "ytigodjcnkgebaaa", sum := "0a09cee41192dcaaab9861d11847359a7ed60422fbcc8c7cb4e10a987c50d855", func := "loop.example/g00987/laws.FnMemory", spec := "fnMemory", unfollowed := true, recurses := true, apart := false }
def FnMemorySaid : Prop := fnMemoryRow.holds Try.pinned (OpenSpec.ofChange fnMemorySpec)

/-- ITS FALSE NEIGHBOUR: 'it returns false'. Refute it at one input. -/
def fnMemoryWrong : ChangeSpec := { name := "fnMemory", fn := fun _ => fun
  | [d] => { results := [.lit (.bool false)], args := [d] }
  | _ => none }
def FnMemoryWrongFalsely : Prop := fnMemoryRow.holds Try.pinned (OpenSpec.ofChange fnMemoryWrong)

/- THE SECOND FORM. 'bulk': how many values and letters a reading holds, each counted each time it is reached (what is shared counts as often as it is met; a slice's spare places count too). A statement '..UptoSaid' is the law's where the arguments, and the package variables that the reading takes, are together of bulk at most 1048576: NARROWER than '..Said'. Prove '..Said' where nothing that the law and all that it calls make is longer than what came in: it says more and counts as full. Else prove '..UptoSaid'. A law counts once. -/
mutual
def uptoBulk {H : Type} : DataW H → Nat
  | .lit (.string bytes) => bytes.length + 1
  | .lit _ => 1
  | .nil => 1
  | .ptr d => uptoBulk d + 1
  | .slice elems spare => uptoBulkAll elems + uptoBulkAll spare + 1
  | .agg parts => uptoBulkAll parts + 1
  | .iface _ d => uptoBulk d + 1
  | .map entries => uptoBulkEntries entries + 1
  | .held _ => 1
def uptoBulkAll {H : Type} : List (DataW H) → Nat
  | [] => 0
  | d :: r => uptoBulk d + uptoBulkAll r
def uptoBulkEntries {H : Type} : List (Lit × DataW H) → Nat
  | [] => 0
  | x :: r => uptoBulkEntry x + uptoBulkEntries r
def uptoBulkEntry {H : Type} : Lit × DataW H → Nat
  | (.string bytes, d) => bytes.length + uptoBulk d + 1
  | (_, d) => uptoBulk d + 1
 end
def uptoSmall : (H : Type) → List (DataW H) → Bool := fun _ ds => decide (uptoBulkAll ds ≤ 1048576)
def OpenSpec.upto (s : _root_.Go.ChangeSpec) : _root_.Go.OpenSpec := { _root_.Go.OpenSpec.ofChange s with cond := some uptoSmall }

/-- 'laws.FnBands', WHERE WHAT IT READS IS OF BULK AT MOST 1048576: true; the input reads as it did. -/
def fnBandsUptoRow : OpenClaim := { program := "ytigodjcnkgebaaa", sum := "0a09cee41192dcaaab9861d11847359a7ed60422fbcc8c7cb4e10a987c50d855", func := "loop.example/g00987/laws.FnBands", spec := "fnBands", unfollowed := true, recurses := true, apart := false, narrowed := true }
def FnBandsUptoSaid : Prop := fnBandsUptoRow.holds Try.pinned (OpenSpec.upto fnBandsSpec)

/-- 'laws.FnExactObjectRow', WHERE WHAT IT READS IS OF BULK AT MOST 1048576: true; the input reads as it did. -/
def fnExactObjectRowUptoRow : OpenClaim := { program := "ytigodjcnkgebaaa", sum := "0a09cee41192dcaaab9861d11847359a7ed60422fbcc8c7cb4e10a987c50d855", func := "loop.example/g00987/laws.FnExactObjectRow", spec := "fnExactObjectRow", apart := false, narrowed := true }
def FnExactObjectRowUptoSaid : Prop := fnExactObjectRowUptoRow.holds Try.pinned (OpenSpec.upto fnExactObjectRowSpec)

/-- 'laws.FnExactBandOk', WHERE WHAT IT READS IS OF BULK AT MOST 1048576: true; the input reads as it did. -/
def fnExactBandOkUptoRow : OpenClaim := { program := "ytigodjcnkgebaaa", sum := "0a09cee41192dcaaab9861d11847359a7ed60422fbcc8c7cb4e10a987c50d855", func := "loop.example/g00987/laws.FnExactBandOk", spec := "fnExactBandOk", apart := false, narrowed := true }
def FnExactBandOkUptoSaid : Prop := fnExactBandOkUptoRow.holds Try.pinned (OpenSpec.upto fnExactBandOkSpec)

/-- 'laws.FnExactPaintTime', WHERE WHAT IT READS IS OF BULK AT MOST 1048576: true; the input reads as it did. -/
def fnExactPaintTimeUptoRow : OpenClaim := { program := "ytigodjcnkgebaaa", sum := "0a09cee41192dcaaab9861d11847359a7ed60422fbcc8c7cb4e10a987c50d855", func := "loop.example/g00987/laws.FnExactPaintTime", spec := "fnExactPaintTime", apart := false, narrowed := true }
def FnExactPaintTimeUptoSaid : Prop := fnExactPaintTimeUptoRow.holds Try.pinned (OpenSpec.upto fnExactPaintTimeSpec)

/-- 'laws.FnExactBandTime', WHERE WHAT IT READS IS OF BULK AT MOST 1048576: true; the input reads as it did. -/
def fnExactBandTimeUptoRow : OpenClaim := { program := "ytigodjcnkgebaaa", sum := "0a09cee41192dcaaab9861d11847359a7ed60422fbcc8c7cb4e10a987c50d855", func := "loop.example/g00987/laws.FnExactBandTime", spec := "fnExactBandTime", apart := false, narrowed := true }
def FnExactBandTimeUptoSaid : Prop := fnExactBandTimeUptoRow.holds Try.pinned (OpenSpec.upto fnExactBandTimeSpec)

/-- 'laws.FnRuns7', WHERE WHAT IT READS IS OF BULK AT MOST 1048576: true; the input reads as it did. -/
def fnRuns7UptoRow : OpenClaim := { program := "ytigodjcnkgebaaa", sum := "0a09cee41192dcaaab9861d11847359a7ed60422fbcc8c7cb4e10a987c50d855", func := "loop.example/g00987/laws.FnRuns7", spec := "fnRuns7", recurses := true, apart := false, narrowed := true }
def FnRuns7UptoSaid : Prop := fnRuns7UptoRow.holds Try.pinned (OpenSpec.upto fnRuns7Spec)

/-- 'laws.FnExactPaintObject', WHERE WHAT IT READS IS OF BULK AT MOST 1048576: true; the input reads as it did. -/
def fnExactPaintObjectUptoRow : OpenClaim := { program := "ytigodjcnkgebaaa", sum := "0a09cee41192dcaaab9861d11847359a7ed60422fbcc8c7cb4e10a987c50d855", func := "loop.example/g00987/laws.FnExactPaintObject", spec := "fnExactPaintObject", apart := false, narrowed := true }
def FnExactPaintObjectUptoSaid : Prop := fnExactPaintObjectUptoRow.holds Try.pinned (OpenSpec.upto fnExactPaintObjectSpec)

/-- 'laws.FnExactPaintAll', WHERE WHAT IT READS IS OF BULK AT MOST 1048576: true; the input reads as it did. -/
def fnExactPaintAllUptoRow : OpenClaim := { program := "ytigodjcnkgebaaa", sum := "0a09cee41192dcaaab9861d11847359a7ed60422fbcc8c7cb4e10a987c50d855", func := "loop.example/g00987/laws.FnExactPaintAll", spec := "fnExactPaintAll", apart := false, narrowed := true }
def FnExactPaintAllUptoSaid : Prop := fnExactPaintAllUptoRow.holds Try.pinned (OpenSpec.upto fnExactPaintAllSpec)

/-- 'laws.FnExactRenderBand', WHERE WHAT IT READS IS OF BULK AT MOST 1048576: true; the input reads as it did. -/
def fnExactRenderBandUptoRow : OpenClaim := { program := "ytigodjcnkgebaaa", sum := "0a09cee41192dcaaab9861d11847359a7ed60422fbcc8c7cb4e10a987c50d855", func := "loop.example/g00987/laws.FnExactRenderBand", spec := "fnExactRenderBand", apart := false, narrowed := true }
def FnExactRenderBandUptoSaid : Prop := fnExactRenderBandUptoRow.holds Try.pinned (OpenSpec.upto fnExactRenderBandSpec)

/-- 'laws.FnMerges', WHERE WHAT IT READS IS OF BULK AT MOST 1048576: true; the input reads as it did. -/
def fnMergesUptoRow : OpenClaim := { program := "ytigodjcnkgebaaa", sum := "0a09cee41192dcaaab9861d11847359a7ed60422fbcc8c7cb4e10a987c50d855", func := "loop.example/g00987/laws.FnMerges", spec := "fnMerges", unfollowed := true, recurses := true, apart := false, narrowed := true }
def FnMergesUptoSaid : Prop := fnMergesUptoRow.holds Try.pinned (OpenSpec.upto fnMergesSpec)

/-- 'laws.FnExactRenderBands', WHERE WHAT IT READS IS OF BULK AT MOST 1048576: true; the input reads as it did. -/
def fnExactRenderBandsUptoRow : OpenClaim := { program := "ytigodjcnkgebaaa", sum := "0a09cee41192dcaaab9861d11847359a7ed60422fbcc8c7cb4e10a987c50d855", func := "loop.example/g00987/laws.FnExactRenderBands", spec := "fnExactRenderBands", apart := false, narrowed := true }
def FnExactRenderBandsUptoSaid : Prop := fnExactRenderBandsUptoRow.holds Try.pinned (OpenSpec.upto fnExactRenderBandsSpec)

/-- 'laws.FnMemory', WHERE WHAT IT READS IS OF BULK AT MOST 1048576: true; the input reads as it did. -/
def fnMemoryUptoRow : OpenClaim := { program := "ytigodjcnkgebaaa", sum := "0a09cee41192dcaaab9861d11847359a7ed60422fbcc8c7cb4e10a987c50d855", func := "loop.example/g00987/laws.FnMemory", spec := "fnMemory", unfollowed := true, recurses := true, apart := false, narrowed := true }
def FnMemoryUptoSaid : Prop := fnMemoryUptoRow.holds Try.pinned (OpenSpec.upto fnMemorySpec)

end Rows
end Go.Proofs.Ytigodjcnkgebaaa
