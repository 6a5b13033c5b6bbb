-- PRINTED BY print.sh 35421559b90ae4d0a3588c463048766b98c2df88dd9212a6774a882060cdf62d: not written by this session
import Derived.Test.YtheobaaegpfbjaaProg
import Derived.Below
import Derived.Deep.Draws
import Derived.Deep.AppendLies
import Derived.Maps.AppendAt
import Derived.OwnWalk
import Derived.Laws.BytesArg
import Derived.Laws.MakeOwn
import Derived.Laws.OwnMore
import Derived.Deep.OwnRows
import Derived.Tactics
import Derived.Lib.ConvBytes
import Derived.Laws.Slices
import Derived.WalkKit
import Derived.KernelRfl
import Derived.RowKit3
import Derived.Deep.LoopGhost
import Derived.Deep.QuietTactic
import Derived.BigQuiet
import Derived.WideLaws
import Derived.Deep.DeepCutAuto
import Derived.Deep.CutBlock
import Derived.Deep.RegionHeld3
import Derived.Laws.Rows
import Derived.Lib.AppendStr
import Derived.ArgAppend
import Derived.Laws.IdiomCopy
import Derived.OrdersHeld
import Derived.Laws.BitsLemmas
import Derived.RowKit
import Derived.Test.YtheobaaegpfbjaaWWords
import Derived.Test.YtheobaaegpfbjaaWLast
import Derived.Test.YtheobaaegpfbjaaWTab
import Derived.Test.YtheobaaegpfbjaaWFour
import Derived.Test.YtheobaaegpfbjaaWQPut
import Derived.Test.YtheobaaegpfbjaaWApart
import Derived.Test.YtheobaaegpfbjaaWArr
import Derived.Test.YtheobaaegpfbjaaWZeros
import Derived.Test.YtheobaaegpfbjaaWFoot
import Derived.Test.YtheobaaegpfbjaaWKept
import Derived.Test.YtheobaaegpfbjaaWShare
import Derived.Test.YtheobaaegpfbjaaWN
import Derived.Test.YtheobaaegpfbjaaWFootNe
import Derived.Test.YtheobaaegpfbjaaWAt
import Derived.Test.YtheobaaegpfbjaaWEqStruct
import Derived.Test.YtheobaaegpfbjaaWRepsOne
import Derived.Test.YtheobaaegpfbjaaWInv
import Derived.Test.YtheobaaegpfbjaaWInvWords
import Derived.Test.YtheobaaegpfbjaaWGuard
import Derived.Test.YtheobaaegpfbjaaWNEv
import Derived.Test.YtheobaaegpfbjaaWMore
namespace Go.Proofs.Ytheobaaegpfbjaa.PTumbleOne
open Go.RowKit Go.Proofs.YtheobaaegpfbjaaW.PrintWords Go.Proofs.YtheobaaegpfbjaaW.PrintLast Go.Proofs.YtheobaaegpfbjaaW.PrintMore
attribute [local go_sem] max2_int min2_int max_two min_two max_three min_three max_four min_four   -- for this text's walks alone
set_option linter.unusedVariables false
set_option linter.unusedSimpArgs false



def errW : Option Int → Value
  | none => .nilIface
  | some c => .iface 0 (.int .i64 c)
theorem errW_none : errW none = .nilIface := rfl
theorem errW_some (c : Int) : errW (some c) = .iface 0 (.int .i64 c) := rfl

-- the values' own types

end Go.Proofs.Ytheobaaegpfbjaa.PTumbleOne
