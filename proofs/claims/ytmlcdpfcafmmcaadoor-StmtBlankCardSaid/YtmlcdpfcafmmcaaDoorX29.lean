-- By pack.py, a program of this session's.
import Derived.Test.YtmlcdpfcafmmcaaDoorX4
set_option linter.unusedVariables false
set_option linter.unusedSimpArgs false
namespace Go.Proofs.YtmlcdpfcafmmcaaDoor.A
open Go.RowKit B WW WL WM
theorem zq30 {P:Prop} (h:P:=by have:=HJ2.out;first | omega | exact Nat.le_refl _):P:=h
theorem zq35 {P:Prop} (h:P:=by repeat (first | exact (Kd.C_below HR1.out HB.out) | (with_reducible refine Kd.C_alloc ?_ _) | (with_reducible refine Kd.C_drewN ?_ _) | (with_reducible refine Kd.C_drew ?_))):P:=h
end Go.Proofs.YtmlcdpfcafmmcaaDoor.A
