-- By pack.py, a program of this session's.
import Derived.Test.YtkbgkekegjfkfaaGreatDoorX20
set_option linter.unusedVariables false
set_option linter.unusedSimpArgs false
namespace Go.Proofs.YtkbgkekegjfkfaaGreatDoor.A
open Go.ChangeShapes Go.WideShapes Go.ChangeAt Go.Joins Go.RowKit B WW
set_option maxRecDepth 100000 in
theorem open_rule {H:Type} {enc:TypeId×Value→H} {W:World} {base b0:Nat} {spare:Nat→Bool} {held:Bool} {r:Reach} {v:Value} {y:DataW H} {p:List MemPlace}
    (hv:Value.okWide Tryz.prog W r b0 25 v) (hh:DataW.Trod enc Tryz.prog W base spare held 25 v y p) (hw:∀ x∈y.weights Tryz.prog 25,x≤reachBytes) :
    ∃ (nm acc par:ByteArray) (A1:Option Addr) (c1:Nat) (cs:List S48) (A4:Option Addr) (c4:Nat) (tg:List S50),v=.agg #[.string nm,.slice A1 cs.length c1,.string acc,.string par,.slice A4 tg.length c4]∧(cs.length≤c1∧Kd.C k48 W A1 cs.length cs∧tg.length≤c4∧Kd.C k50 W A4 tg.length tg) ∧
      ((nm.size≤140737488351232∧acc.size≤140737488351232∧par.size≤140737488351232)∧(∀ x∈cs,x.f2.size≤140737488351232)∧∀ x∈tg,x.f0.size≤140737488351232∧x.f1.size≤140737488351232)∧∀ x∈cs,I64 x.f0∧I64 x.f1∧I64 x.f3:=by
  obtain ⟨cv,⟨nm,cs,acc,par,tg⟩,rfl,⟨_,_,hcs,rfl,_,_,rfl,⟨A1,c1,rfl,h1,h2⟩,_,_,rfl,rfl,_,_,rfl,rfl,A4,c4,rfl,h3,h4⟩,g1,⟨g2,_,_⟩,g3,g4,g5,_,_⟩:=opens_rule.agg Tryz.underlying25 hv hh hw;obtain ⟨l⟩:=cv;obtain rfl:l=_:=hcs;exact ⟨nm,acc,par,A1,c1,cs,A4,c4,tg,rfl,⟨h1,h2,h3,h4⟩,⟨⟨g1,g3,g4⟩,fun x hx=>(g2 x hx).2.2.1,g5⟩,fun x hx=>⟨bounds_i64 (g2 x hx).1,bounds_i64 (g2 x hx).2.1,bounds_i64 (g2 x hx).2.2.2⟩⟩
end Go.Proofs.YtkbgkekegjfkfaaGreatDoor.A
