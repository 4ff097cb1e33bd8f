-- By pack.py, a program of this session's.
import Derived.Test.YtmlcdpfcafmmcaaDoorX15
set_option linter.unusedVariables false
set_option linter.unusedSimpArgs false
namespace Go.Proofs.YtmlcdpfcafmmcaaDoor.B
open Go.Deep Go.ChangeShapes Go.WideShapes Go.ChangeAt Go.Joins WW
theorem Opens.agg {α:Type} {P:Program} {t:TypeId} {fs:Array Field} {d:Kd α} {G:α→Prop} (h:Opens P t d G) (ht:P.underlying t=some (.struct fs)) {H:Type} {enc:TypeId×Value→H} {W:World} {base b0:Nat} {spare:Nat→Bool} {held:Bool} {r:Reach} {v:Value} {y:DataW H} {p:List MemPlace}
    (hv:Value.okWide P W r b0 t v) (hh:DataW.Trod enc P W base spare held t v y p) (hw:∀ x∈y.weights P t,x≤reachBytes):∃ (cs:Array Value) (a:α),v=.agg cs∧d.K W a cs.toList∧G a:=by
  obtain ⟨cs,rfl,_⟩:=okWide_struct ht hv;obtain ⟨n,hn⟩:=hh;obtain ⟨a,ha,hg⟩:=h.get hn hw;exact ⟨cs,a,rfl,ha,hg⟩
end Go.Proofs.YtmlcdpfcafmmcaaDoor.B
