-- By pack.py, a program of this session's.
import Derived.Test.YtmlcdpfcafmmcaaDoorX1
set_option linter.unusedVariables false
set_option linter.unusedSimpArgs false
namespace Go.Proofs.YtmlcdpfcafmmcaaDoor.A
open Go.RowKit B WW WL WM
theorem div_wrap (L y:Nat) (h:L≤9223372036854775808):IntKind.u64.wrap (Int.tdiv (L:Int) (y:Int))=((L / y:Nat):Int):=by
  rw [Int.tdiv_eq_ediv_of_nonneg (by omega),← Int.natCast_ediv,wu64];have:=Nat.div_le_self L y;generalize L / y=q at *;omega
end Go.Proofs.YtmlcdpfcafmmcaaDoor.A
