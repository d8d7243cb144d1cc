-- PRINTED BY print.sh 35421559b90ae4d0a3588c463048766b98c2df88dd9212a6774a882060cdf62d: not written by this session
import Derived.Test.YtbpekdhafniodaaProg
import Derived.Below
import Derived.Deep.Draws
import Derived.Deep.AppendLies
import Derived.Maps.AppendAt
import Derived.OwnWalk
import Derived.Laws.BytesArg
import Derived.Laws.MakeOwn
import Derived.Laws.OwnMore
import Derived.Deep.OwnRows
import Derived.Tactics
import Derived.Lib.ConvBytes
import Derived.Laws.Slices
import Derived.WalkKit
import Derived.KernelRfl
import Derived.RowKit3
import Derived.Deep.LoopGhost
import Derived.Deep.QuietTactic
import Derived.BigQuiet
import Derived.WideLaws
import Derived.Deep.DeepCutAuto
import Derived.Deep.CutBlock
import Derived.Deep.RegionHeld3
import Derived.Laws.Rows
import Derived.Lib.AppendStr
import Derived.ArgAppend
import Derived.Laws.IdiomCopy
import Derived.OrdersHeld
import Derived.Laws.BitsLemmas
import Derived.RowKit
import Derived.Test.YtbpekdhafniodaaWWords
import Derived.Test.YtbpekdhafniodaaWLast
import Derived.Test.YtbpekdhafniodaaWTab
import Derived.Test.YtbpekdhafniodaaWFour
import Derived.Test.YtbpekdhafniodaaWQPut
import Derived.Test.YtbpekdhafniodaaWApart
import Derived.Test.YtbpekdhafniodaaWArr
import Derived.Test.YtbpekdhafniodaaWZeros
import Derived.Test.YtbpekdhafniodaaWFoot
import Derived.Test.YtbpekdhafniodaaWKept
import Derived.Test.YtbpekdhafniodaaWShare
import Derived.Test.YtbpekdhafniodaaWN
import Derived.Test.YtbpekdhafniodaaWFootNe
import Derived.Test.YtbpekdhafniodaaWAt
import Derived.Test.YtbpekdhafniodaaWEqStruct
import Derived.Test.YtbpekdhafniodaaWRepsOne
import Derived.Test.YtbpekdhafniodaaWInv
import Derived.Test.YtbpekdhafniodaaWInvWords
import Derived.Test.YtbpekdhafniodaaWGuard
import Derived.Test.YtbpekdhafniodaaWNEv
import Derived.Test.YtbpekdhafniodaaWMore
namespace Go.Proofs.Ytbpekdhafniodaa.PFnExactIsHeight
open Go.RowKit Go.Proofs.YtbpekdhafniodaaW.PrintWords Go.Proofs.YtbpekdhafniodaaW.PrintLast Go.Proofs.YtbpekdhafniodaaW.PrintMore
attribute [local go_sem] max2_int min2_int max_two min_two max_three min_three max_four min_four   -- for this text's walks alone
set_option linter.unusedVariables false
set_option linter.unusedSimpArgs false



def errW : Option Int → Value
  | none => .nilIface
  | some c => .iface 0 (.int .i64 c)
theorem errW_none : errW none = .nilIface := rfl
theorem errW_some (c : Int) : errW (some c) = .iface 0 (.int .i64 c) := rfl

-- the values' own types

end Go.Proofs.Ytbpekdhafniodaa.PFnExactIsHeight
