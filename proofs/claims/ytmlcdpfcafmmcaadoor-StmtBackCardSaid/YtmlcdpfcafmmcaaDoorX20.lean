-- By pack.py, a program of this session's.
import Derived.Test.YtmlcdpfcafmmcaaDoorX15
set_option linter.unusedVariables false
set_option linter.unusedSimpArgs false
namespace Go.Proofs.YtmlcdpfcafmmcaaDoor.B
open Go.Deep Go.ChangeShapes Go.WideShapes Go.ChangeAt Go.Joins WW
theorem Opens.bool {P:Program} {t:TypeId} (ht:P.underlying t=some .bool) (hc:P.cellsOf t=1):Opens P t Kd.bool (fun _=>True) where
  size:=hc
  get h _:=by
    obtain ⟨x,rfl,_⟩:=DataW.trod_bool ht h;exact ⟨x,rfl,trivial⟩
end Go.Proofs.YtmlcdpfcafmmcaaDoor.B
