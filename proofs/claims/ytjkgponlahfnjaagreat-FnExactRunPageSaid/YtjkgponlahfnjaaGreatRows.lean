/-
  No cell of these rows narrows 'for every input' (looked for: loops, veiled, ifaces, maps, wideKeys, modest, calm, conditions, laid).
  DERIVED. THE GIVEN ROWS OF THIS SEAT. 2 by the template 'for every input the law returns true; each argument reads behind the call as it read before'; 0 by the template 'total and deterministic' (their statements: YtjkgponlahfnjaaGreatTotals.lean).
  GIVEN WITH THE SEED: the statements are not yours to turn. If you find one false, say at which input.
  Laid BY PROGRAM, IN A SANDBOX (cutbox-rows.mjs): the forced cells as the released guide's own fill.sh prints them over the translation 6828df426a57d260… (all of the seat's roots in one cut). By AI agents, Wed Nov 11 2026. No macro, syntax, notation, axiom, sorry.
-/
import Derived.Test.YtjkgponlahfnjaaGreatChecked
import GoSem.Claim
import GoSem.ClaimJoined
import GoSem.ClaimMapViews
import Derived.JoinedTies
import Derived.KernelRfl
namespace Go.Proofs.YtjkgponlahfnjaaGreat
/- THE CELL 'sum', in the pinned program and in every row, IS THE sha256 OF THE DUMP (.gsa) THAT YtjkgponlahfnjaaGreatProg.lean LOADS. Nothing in Lean hashes anything: it is a label: what it is worth is what the hold of that sum in a sandbox is worth. -/
noncomputable def Tryz.pinned : Pinned := { name := "ytjkgponlahfnjaagreat", sum := "6828df426a57d260480ad7b5694b48033e2ebcdced6226bf45355a4f8bcfd563", checked := Tryz.checked }
namespace Rows
def none {H : Type} : Left H := { results := [], args := [] }

/-- 'laws.FnExactExecToken': WHATEVER THE INPUT: true; the input reads as it did. -/
def fnExactExecTokenSpec : ChangeSpec := { name := "fnExactExecToken", fn := fun _ => fun
  | [d1, d2] => { results := [.lit (.bool true)], args := [d1, d2] }
  | _ => none }
def fnExactExecTokenRow : OpenClaim := { program := "ytjkgponlahfnjaagreat", sum := "6828df426a57d260480ad7b5694b48033e2ebcdced6226bf45355a4f8bcfd563", func := "loop.example/g00987/laws.FnExactExecToken", spec := "fnExactExecToken", apart := false }
def FnExactExecTokenSaid : Prop := fnExactExecTokenRow.holds Tryz.pinned (OpenSpec.ofChange fnExactExecTokenSpec)

/-- ITS FALSE NEIGHBOUR: 'it returns false'. Refute it at one input. -/
def fnExactExecTokenWrong : ChangeSpec := { name := "fnExactExecToken", fn := fun _ => fun
  | [d1, d2] => { results := [.lit (.bool false)], args := [d1, d2] }
  | _ => none }
def FnExactExecTokenWrongFalsely : Prop := fnExactExecTokenRow.holds Tryz.pinned (OpenSpec.ofChange fnExactExecTokenWrong)

/-- 'laws.FnExactRunPage': WHATEVER THE INPUT: true; the input reads as it did. -/
def fnExactRunPageSpec : ChangeSpec := { name := "fnExactRunPage", fn := fun _ => fun
  | [d] => { results := [.lit (.bool true)], args := [d] }
  | _ => none }
def fnExactRunPageRow : OpenClaim := { program := "ytjkgponlahfnjaagreat", sum := "6828df426a57d260480ad7b5694b48033e2ebcdced6226bf45355a4f8bcfd563", func := "loop.example/g00987/laws.FnExactRunPage", spec := "fnExactRunPage", recurses := true, apart := false }
def FnExactRunPageSaid : Prop := fnExactRunPageRow.holds Tryz.pinned (OpenSpec.ofChange fnExactRunPageSpec)

/-- ITS FALSE NEIGHBOUR: 'it returns false'. Refute it at one input. -/
def fnExactRunPageWrong : ChangeSpec := { name := "fnExactRunPage", fn := fun _ => fun
  | [d] => { results := [.lit (.bool false)], args := [d] }
  | _ => none }
def FnExactRunPageWrongFalsely : Prop := fnExactRunPageRow.holds Tryz.pinned (OpenSpec.ofChange fnExactRunPageWrong)

/- THE SECOND FORM. 'bulk': how many values and letters a reading holds, each counted each time it is reached (what is shared counts as often as it is met; a slice's spare places count too). A statement '..UptoSaid' is the law's where the arguments, and the package variables that the reading takes, are together of bulk at most 1048576: NARROWER than '..Said'. Prove '..Said' where nothing that the law and all that it calls make is longer than what came in: it says more and counts as full. Else prove '..UptoSaid'. A law counts once. -/
mutual
def uptoBulk {H : Type} : DataW H → Nat
  | .lit (.string bytes) => bytes.length + 1
  | .lit _ => 1
  | .nil => 1
  | .ptr d => uptoBulk d + 1
  | .slice elems spare => uptoBulkAll elems + uptoBulkAll spare + 1
  | .agg parts => uptoBulkAll parts + 1
  | .iface _ d => uptoBulk d + 1
  | .map entries => uptoBulkEntries entries + 1
  | .held _ => 1
def uptoBulkAll {H : Type} : List (DataW H) → Nat
  | [] => 0
  | d :: r => uptoBulk d + uptoBulkAll r
def uptoBulkEntries {H : Type} : List (Lit × DataW H) → Nat
  | [] => 0
  | x :: r => uptoBulkEntry x + uptoBulkEntries r
def uptoBulkEntry {H : Type} : Lit × DataW H → Nat
  | (.string bytes, d) => bytes.length + uptoBulk d + 1
  | (_, d) => uptoBulk d + 1
 end
def uptoSmall : (H : Type) → List (DataW H) → Bool := fun _ ds => decide (uptoBulkAll ds ≤ 1048576)
def OpenSpec.upto (s : _root_.Go.ChangeSpec) : _root_.Go.OpenSpec := { _root_.Go.OpenSpec.ofChange s with cond := some uptoSmall }

/-- 'laws.FnExactExecToken', WHERE WHAT IT READS IS OF BULK AT MOST 1048576: true; the input reads as it did. -/
def fnExactExecTokenUptoRow : OpenClaim := { program := "ytjkgponlahfnjaagreat", sum := "6828df426a57d260480ad7b5694b48033e2ebcdced6226bf45355a4f8bcfd563", func := "loop.example/g00987/laws.FnExactExecToken", spec := "fnExactExecToken", apart := false, narrowed := true }
def FnExactExecTokenUptoSaid : Prop := fnExactExecTokenUptoRow.holds Tryz.pinned (OpenSpec.upto fnExactExecTokenSpec)

/-- 'laws.FnExactRunPage', WHERE WHAT IT READS IS OF BULK AT MOST 1048576: true; the input reads as it did. -/
def fnExactRunPageUptoRow : OpenClaim := { program := "ytjkgponlahfnjaagreat", sum := "6828df426a57d260480ad7b5694b48033e2ebcdced6226bf45355a4f8bcfd563", func := "loop.example/g00987/laws.FnExactRunPage", spec := "fnExactRunPage", recurses := true, apart := false, narrowed := true }
def FnExactRunPageUptoSaid : Prop := fnExactRunPageUptoRow.holds Tryz.pinned (OpenSpec.upto fnExactRunPageSpec)

end Rows
end Go.Proofs.YtjkgponlahfnjaaGreat
