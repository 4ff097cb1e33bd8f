-- By gen.py, a program of this session's, over the print's forms: not the print's own text.
import Derived.Test.YtienccbadjhcpaaProg
import Derived.Below
import Derived.Deep.Draws
import Derived.Deep.AppendLies
import Derived.Maps.AppendAt
import Derived.OwnWalk
import Derived.Laws.BytesArg
import Derived.Laws.MakeOwn
import Derived.Laws.OwnMore
import Derived.Deep.OwnRows
import Derived.Tactics
import Derived.Lib.ConvBytes
import Derived.Laws.Slices
import Derived.WalkKit
import Derived.KernelRfl
import Derived.RowKit3
import Derived.Deep.LoopGhost
import Derived.Deep.QuietTactic
import Derived.BigQuiet
import Derived.WideLaws
import Derived.Deep.DeepCutAuto
import Derived.Deep.CutBlock
import Derived.Deep.RegionHeld3
import Derived.Laws.Rows
import Derived.Lib.AppendStr
import Derived.ArgAppend
import Derived.Laws.IdiomCopy
import Derived.OrdersHeld
import Derived.Laws.BitsLemmas
import Derived.RowKit
import Derived.Test.YtienccbadjhcpaaB0
import Derived.Test.YtienccbadjhcpaaWWords
import Derived.Test.YtienccbadjhcpaaWLast
import Derived.Test.YtienccbadjhcpaaWTab
import Derived.Test.YtienccbadjhcpaaWFour
import Derived.Test.YtienccbadjhcpaaWQPut
import Derived.Test.YtienccbadjhcpaaWApart
import Derived.Test.YtienccbadjhcpaaWArr
import Derived.Test.YtienccbadjhcpaaWZeros
import Derived.Test.YtienccbadjhcpaaWFoot
import Derived.Test.YtienccbadjhcpaaWKept
import Derived.Test.YtienccbadjhcpaaWShare
import Derived.Test.YtienccbadjhcpaaWN
import Derived.Test.YtienccbadjhcpaaWFootNe
import Derived.Test.YtienccbadjhcpaaWAt
import Derived.Test.YtienccbadjhcpaaWEqStruct
import Derived.Test.YtienccbadjhcpaaWRepsOne
import Derived.Test.YtienccbadjhcpaaWInv
import Derived.Test.YtienccbadjhcpaaWInvWords
import Derived.Test.YtienccbadjhcpaaWGuard
import Derived.Test.YtienccbadjhcpaaWNEv
import Derived.Test.YtienccbadjhcpaaWMore
namespace Go.Proofs.Ytienccbadjhcpaa.A
open Go.RowKit Go.Proofs.Ytienccbadjhcpaa.B Go.Proofs.YtienccbadjhcpaaW.PrintWords Go.Proofs.YtienccbadjhcpaaW.PrintLast Go.Proofs.YtienccbadjhcpaaW.PrintMore
attribute [local go_sem] max2_int min2_int max_two min_two max_three min_three max_four min_four   -- for this text's walks alone
set_option linter.unusedVariables false
set_option linter.unusedSimpArgs false



def errW : Option Int → Value
  | none => .nilIface
  | some c => .iface 0 (.int .i64 c)
theorem errW_none : errW none = .nilIface := rfl
theorem errW_some (c : Int) : errW (some c) = .iface 0 (.int .i64 c) := rfl

theorem info3 : (Try.prog.info? 3).map (fun i => (i.zero, i.size, i.bytes)) = some (some (.int .i64 0), 1, 8) := by kernel_rfl
-- the values' own types

end Go.Proofs.Ytienccbadjhcpaa.A
