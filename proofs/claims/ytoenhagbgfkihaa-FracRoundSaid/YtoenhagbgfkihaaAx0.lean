-- By gen.py, a program of this session's, over the print's forms: not the print's own text.
import Derived.Test.YtoenhagbgfkihaaProg
import Derived.Below
import Derived.Deep.Draws
import Derived.Deep.AppendLies
import Derived.Maps.AppendAt
import Derived.OwnWalk
import Derived.Laws.BytesArg
import Derived.Laws.MakeOwn
import Derived.Laws.OwnMore
import Derived.Deep.OwnRows
import Derived.Tactics
import Derived.Lib.ConvBytes
import Derived.Laws.Slices
import Derived.WalkKit
import Derived.KernelRfl
import Derived.RowKit3
import Derived.Deep.LoopGhost
import Derived.Deep.QuietTactic
import Derived.BigQuiet
import Derived.WideLaws
import Derived.Deep.DeepCutAuto
import Derived.Deep.CutBlock
import Derived.Deep.RegionHeld3
import Derived.Laws.Rows
import Derived.Lib.AppendStr
import Derived.ArgAppend
import Derived.Laws.IdiomCopy
import Derived.OrdersHeld
import Derived.Laws.BitsLemmas
import Derived.RowKit
import Derived.Test.YtoenhagbgfkihaaB0
import Derived.Test.YtoenhagbgfkihaaB9
import Derived.Test.YtoenhagbgfkihaaB1
import Derived.Test.YtoenhagbgfkihaaB3
import Derived.Test.YtoenhagbgfkihaaB10
import Derived.Test.YtoenhagbgfkihaaWWords
import Derived.Test.YtoenhagbgfkihaaWLast
import Derived.Test.YtoenhagbgfkihaaWTab
import Derived.Test.YtoenhagbgfkihaaWFour
import Derived.Test.YtoenhagbgfkihaaWQPut
import Derived.Test.YtoenhagbgfkihaaWApart
import Derived.Test.YtoenhagbgfkihaaWArr
import Derived.Test.YtoenhagbgfkihaaWZeros
import Derived.Test.YtoenhagbgfkihaaWFoot
import Derived.Test.YtoenhagbgfkihaaWKept
import Derived.Test.YtoenhagbgfkihaaWShare
import Derived.Test.YtoenhagbgfkihaaWN
import Derived.Test.YtoenhagbgfkihaaWFootNe
import Derived.Test.YtoenhagbgfkihaaWAt
import Derived.Test.YtoenhagbgfkihaaWEqStruct
import Derived.Test.YtoenhagbgfkihaaWRepsOne
import Derived.Test.YtoenhagbgfkihaaWInv
import Derived.Test.YtoenhagbgfkihaaWInvWords
import Derived.Test.YtoenhagbgfkihaaWGuard
import Derived.Test.YtoenhagbgfkihaaWNEv
import Derived.Test.YtoenhagbgfkihaaWMore
namespace Go.Proofs.Ytoenhagbgfkihaa.A
open Go.RowKit Go.Proofs.Ytoenhagbgfkihaa.B Go.Proofs.YtoenhagbgfkihaaW.PrintWords Go.Proofs.YtoenhagbgfkihaaW.PrintLast Go.Proofs.YtoenhagbgfkihaaW.PrintMore
attribute [local go_sem] max2_int min2_int max_two min_two max_three min_three max_four min_four   -- for this text's walks alone
set_option linter.unusedVariables false
set_option linter.unusedSimpArgs false



def errW : Option Int → Value
  | none => .nilIface
  | some c => .iface 0 (.int .i64 c)
theorem errW_none : errW none = .nilIface := rfl
theorem errW_some (c : Int) : errW (some c) = .iface 0 (.int .i64 c) := rfl

theorem info5 : (Try.prog.info? 5).map (fun i => (i.zero, i.size, i.bytes)) = some (some (.int .u8 0), 1, 1) := by kernel_rfl
-- the values' own types

end Go.Proofs.Ytoenhagbgfkihaa.A
