-- By pack.py, a program of this session's.
import Derived.Test.YtmlcdpfcafmmcaaDoorX2
set_option linter.unusedVariables false
set_option linter.unusedSimpArgs false
namespace Go.Proofs.YtmlcdpfcafmmcaaDoor.A
open Go.RowKit B WW WL WM
theorem isPrn_iff (c:UInt8):isPrn c=true ↔ 32≤c.toNat∧c.toNat≤126:=by unfold isPrn;simp only [Bool.and_eq_true,decide_eq_true_iff]
end Go.Proofs.YtmlcdpfcafmmcaaDoor.A
