/-
  No cell of these rows narrows 'for every input' (looked for: loops, veiled, ifaces, maps, wideKeys, modest, calm, conditions, laid).
  DERIVED. THE GIVEN ROWS OF THIS SEAT. 5 by the template 'for every input the law returns true; each argument reads behind the call as it read before'; 0 by the template 'total and deterministic' (their statements: YtncfipboidmfbaaGreatTotals.lean).
  GIVEN WITH THE SEED: the statements are not yours to turn. If you find one false, say at which input.
  Laid BY PROGRAM, IN A SANDBOX (cutbox-rows.mjs): the forced cells as the released guide's own fill.sh prints them over the translation 1db974c89a58874a… (all of the seat's roots in one cut). By AI agents, Wed Nov 11 2026. No macro, syntax, notation, axiom, sorry.
-/
import Derived.Test.YtncfipboidmfbaaGreatChecked
import GoSem.Claim
import GoSem.ClaimJoined
import GoSem.ClaimMapViews
import Derived.JoinedTies
import Derived.KernelRfl
namespace Go.Proofs.YtncfipboidmfbaaGreat
/- THE CELL 'sum', in the pinned program and in every row, IS THE sha256 OF THE DUMP (.gsa) THAT YtncfipboidmfbaaGreatProg.lean LOADS. Nothing in Lean hashes anything: it is a label: what it is worth is what the hold of that sum in a sandbox is worth. -/
noncomputable def Tryz.pinned : Pinned := { name := "ytncfipboidmfbaagreat", sum := "1db974c89a58874a0836a88a5fb2a803d04219b73a4fa6af0320a339b29e7fed", checked := Tryz.checked }
namespace Rows
def none {H : Type} : Left H := { results := [], args := [] }

/-- 'laws.FnExactRowsOfBand': WHATEVER THE INPUT: true; the input reads as it did. -/
def fnExactRowsOfBandSpec : ChangeSpec := { name := "fnExactRowsOfBand", fn := fun _ => fun
  | [d] => { results := [.lit (.bool true)], args := [d] }
  | _ => none }
def fnExactRowsOfBandRow : OpenClaim := { program := "ytncfipboidmfbaagreat", sum := "1db974c89a58874a0836a88a5fb2a803d04219b73a4fa6af0320a339b29e7fed", func := "loop.example/g00987/laws.FnExactRowsOfBand", spec := "fnExactRowsOfBand", apart := false }
def FnExactRowsOfBandSaid : Prop := fnExactRowsOfBandRow.holds Tryz.pinned (OpenSpec.ofChange fnExactRowsOfBandSpec)

/-- ITS FALSE NEIGHBOUR: 'it returns false'. Refute it at one input. -/
def fnExactRowsOfBandWrong : ChangeSpec := { name := "fnExactRowsOfBand", fn := fun _ => fun
  | [d] => { results := [.lit (.bool false)], args := [d] }
  | _ => none }
def FnExactRowsOfBandWrongFalsely : Prop := fnExactRowsOfBandRow.holds Tryz.pinned (OpenSpec.ofChange fnExactRowsOfBandWrong)

/-- 'laws.FnExactMergeBand': WHATEVER THE INPUT: true; the input reads as it did. -/
def fnExactMergeBandSpec : ChangeSpec := { name := "fnExactMergeBand", fn := fun _ => fun
  | [d] => { results := [.lit (.bool true)], args := [d] }
  | _ => none }
def fnExactMergeBandRow : OpenClaim := { program := "ytncfipboidmfbaagreat", sum := "1db974c89a58874a0836a88a5fb2a803d04219b73a4fa6af0320a339b29e7fed", func := "loop.example/g00987/laws.FnExactMergeBand", spec := "fnExactMergeBand", apart := false }
def FnExactMergeBandSaid : Prop := fnExactMergeBandRow.holds Tryz.pinned (OpenSpec.ofChange fnExactMergeBandSpec)

/-- ITS FALSE NEIGHBOUR: 'it returns false'. Refute it at one input. -/
def fnExactMergeBandWrong : ChangeSpec := { name := "fnExactMergeBand", fn := fun _ => fun
  | [d] => { results := [.lit (.bool false)], args := [d] }
  | _ => none }
def FnExactMergeBandWrongFalsely : Prop := fnExactMergeBandRow.holds Tryz.pinned (OpenSpec.ofChange fnExactMergeBandWrong)

/-- 'laws.FnExactAddToBand': WHATEVER THE INPUT: true; the input reads as it did. -/
def fnExactAddToBandSpec : ChangeSpec := { name := "fnExactAddToBand", fn := fun _ => fun
  | [d1, d2] => { results := [.lit (.bool true)], args := [d1, d2] }
  | _ => none }
def fnExactAddToBandRow : OpenClaim := { program := "ytncfipboidmfbaagreat", sum := "1db974c89a58874a0836a88a5fb2a803d04219b73a4fa6af0320a339b29e7fed", func := "loop.example/g00987/laws.FnExactAddToBand", spec := "fnExactAddToBand", apart := false }
def FnExactAddToBandSaid : Prop := fnExactAddToBandRow.holds Tryz.pinned (OpenSpec.ofChange fnExactAddToBandSpec)

/-- ITS FALSE NEIGHBOUR: 'it returns false'. Refute it at one input. -/
def fnExactAddToBandWrong : ChangeSpec := { name := "fnExactAddToBand", fn := fun _ => fun
  | [d1, d2] => { results := [.lit (.bool false)], args := [d1, d2] }
  | _ => none }
def FnExactAddToBandWrongFalsely : Prop := fnExactAddToBandRow.holds Tryz.pinned (OpenSpec.ofChange fnExactAddToBandWrong)

/-- 'laws.FnExactExecToken': WHATEVER THE INPUT: true; the input reads as it did. -/
def fnExactExecTokenSpec : ChangeSpec := { name := "fnExactExecToken", fn := fun _ => fun
  | [d1, d2] => { results := [.lit (.bool true)], args := [d1, d2] }
  | _ => none }
def fnExactExecTokenRow : OpenClaim := { program := "ytncfipboidmfbaagreat", sum := "1db974c89a58874a0836a88a5fb2a803d04219b73a4fa6af0320a339b29e7fed", func := "loop.example/g00987/laws.FnExactExecToken", spec := "fnExactExecToken", apart := false }
def FnExactExecTokenSaid : Prop := fnExactExecTokenRow.holds Tryz.pinned (OpenSpec.ofChange fnExactExecTokenSpec)

/-- ITS FALSE NEIGHBOUR: 'it returns false'. Refute it at one input. -/
def fnExactExecTokenWrong : ChangeSpec := { name := "fnExactExecToken", fn := fun _ => fun
  | [d1, d2] => { results := [.lit (.bool false)], args := [d1, d2] }
  | _ => none }
def FnExactExecTokenWrongFalsely : Prop := fnExactExecTokenRow.holds Tryz.pinned (OpenSpec.ofChange fnExactExecTokenWrong)

/-- 'laws.FnExactRunPage': WHATEVER THE INPUT: true; the input reads as it did. -/
def fnExactRunPageSpec : ChangeSpec := { name := "fnExactRunPage", fn := fun _ => fun
  | [d] => { results := [.lit (.bool true)], args := [d] }
  | _ => none }
def fnExactRunPageRow : OpenClaim := { program := "ytncfipboidmfbaagreat", sum := "1db974c89a58874a0836a88a5fb2a803d04219b73a4fa6af0320a339b29e7fed", func := "loop.example/g00987/laws.FnExactRunPage", spec := "fnExactRunPage", recurses := true, apart := false }
def FnExactRunPageSaid : Prop := fnExactRunPageRow.holds Tryz.pinned (OpenSpec.ofChange fnExactRunPageSpec)

/-- ITS FALSE NEIGHBOUR: 'it returns false'. Refute it at one input. -/
def fnExactRunPageWrong : ChangeSpec := { name := "fnExactRunPage", fn := fun _ => fun
  | [d] => { results := [.lit (.bool false)], args := [d] }
  | _ => none }
def FnExactRunPageWrongFalsely : Prop := fnExactRunPageRow.holds Tryz.pinned (OpenSpec.ofChange fnExactRunPageWrong)

/- THE SECOND FORM. 'bulk': how many values and letters a reading holds, each counted each time it is reached (what is shared counts as often as it is met; a slice's spare places count too). A statement '..UptoSaid' is the law's where the arguments, and the package variables that the reading takes, are together of bulk at most 1048576: NARROWER than '..Said'. Prove '..Said' where nothing that the law and all that it calls make is longer than what came in: it says more and counts as full. Else prove '..UptoSaid'. A law counts once. -/
mutual
def uptoBulk {H : Type} : DataW H → Nat
  | .lit (.string bytes) => bytes.length + 1
  | .lit _ => 1
  | .nil => 1
  | .ptr d => uptoBulk d + 1
  | .slice elems spare => uptoBulkAll elems + uptoBulkAll spare + 1
  | .agg parts => uptoBulkAll parts + 1
  | .iface _ d => uptoBulk d + 1
  | .map entries => uptoBulkEntries entries + 1
  | .held _ => 1
def uptoBulkAll {H : Type} : List (DataW H) → Nat
  | [] => 0
  | d :: r => uptoBulk d + uptoBulkAll r
def uptoBulkEntries {H : Type} : List (Lit × DataW H) → Nat
  | [] => 0
  | x :: r => uptoBulkEntry x + uptoBulkEntries r
def uptoBulkEntry {H : Type} : Lit × DataW H → Nat
  | (.string bytes, d) => bytes.length + uptoBulk d + 1
  | (_, d) => uptoBulk d + 1
 end
def uptoSmall : (H : Type) → List (DataW H) → Bool := fun _ ds => decide (uptoBulkAll ds ≤ 1048576)
def OpenSpec.upto (s : _root_.Go.ChangeSpec) : _root_.Go.OpenSpec := { _root_.Go.OpenSpec.ofChange s with cond := some uptoSmall }

/-- 'laws.FnExactRowsOfBand', WHERE WHAT IT READS IS OF BULK AT MOST 1048576: true; the input reads as it did. -/
def fnExactRowsOfBandUptoRow : OpenClaim := { program := "ytncfipboidmfbaagreat", sum := "1db974c89a58874a0836a88a5fb2a803d04219b73a4fa6af0320a339b29e7fed", func := "loop.example/g00987/laws.FnExactRowsOfBand", spec := "fnExactRowsOfBand", apart := false, narrowed := true }
def FnExactRowsOfBandUptoSaid : Prop := fnExactRowsOfBandUptoRow.holds Tryz.pinned (OpenSpec.upto fnExactRowsOfBandSpec)

/-- 'laws.FnExactMergeBand', WHERE WHAT IT READS IS OF BULK AT MOST 1048576: true; the input reads as it did. -/
def fnExactMergeBandUptoRow : OpenClaim := { program := "ytncfipboidmfbaagreat", sum := "1db974c89a58874a0836a88a5fb2a803d04219b73a4fa6af0320a339b29e7fed", func := "loop.example/g00987/laws.FnExactMergeBand", spec := "fnExactMergeBand", apart := false, narrowed := true }
def FnExactMergeBandUptoSaid : Prop := fnExactMergeBandUptoRow.holds Tryz.pinned (OpenSpec.upto fnExactMergeBandSpec)

/-- 'laws.FnExactAddToBand', WHERE WHAT IT READS IS OF BULK AT MOST 1048576: true; the input reads as it did. -/
def fnExactAddToBandUptoRow : OpenClaim := { program := "ytncfipboidmfbaagreat", sum := "1db974c89a58874a0836a88a5fb2a803d04219b73a4fa6af0320a339b29e7fed", func := "loop.example/g00987/laws.FnExactAddToBand", spec := "fnExactAddToBand", apart := false, narrowed := true }
def FnExactAddToBandUptoSaid : Prop := fnExactAddToBandUptoRow.holds Tryz.pinned (OpenSpec.upto fnExactAddToBandSpec)

/-- 'laws.FnExactExecToken', WHERE WHAT IT READS IS OF BULK AT MOST 1048576: true; the input reads as it did. -/
def fnExactExecTokenUptoRow : OpenClaim := { program := "ytncfipboidmfbaagreat", sum := "1db974c89a58874a0836a88a5fb2a803d04219b73a4fa6af0320a339b29e7fed", func := "loop.example/g00987/laws.FnExactExecToken", spec := "fnExactExecToken", apart := false, narrowed := true }
def FnExactExecTokenUptoSaid : Prop := fnExactExecTokenUptoRow.holds Tryz.pinned (OpenSpec.upto fnExactExecTokenSpec)

/-- 'laws.FnExactRunPage', WHERE WHAT IT READS IS OF BULK AT MOST 1048576: true; the input reads as it did. -/
def fnExactRunPageUptoRow : OpenClaim := { program := "ytncfipboidmfbaagreat", sum := "1db974c89a58874a0836a88a5fb2a803d04219b73a4fa6af0320a339b29e7fed", func := "loop.example/g00987/laws.FnExactRunPage", spec := "fnExactRunPage", recurses := true, apart := false, narrowed := true }
def FnExactRunPageUptoSaid : Prop := fnExactRunPageUptoRow.holds Tryz.pinned (OpenSpec.upto fnExactRunPageSpec)

end Rows
end Go.Proofs.YtncfipboidmfbaaGreat
