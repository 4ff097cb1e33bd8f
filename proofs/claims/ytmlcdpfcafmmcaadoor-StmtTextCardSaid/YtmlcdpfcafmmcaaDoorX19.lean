-- By pack.py, a program of this session's.
import Derived.Test.YtmlcdpfcafmmcaaDoorX1
set_option linter.unusedVariables false
set_option linter.unusedSimpArgs false
namespace Go.Proofs.YtmlcdpfcafmmcaaDoor.A
open Go.RowKit B WW WL WM
theorem oL_size (l:List UInt8):(oL l).size=l.length:=by show l.toArray.size=_;rw [List.size_toArray]
theorem bt_oL (l:List UInt8) (i:Nat):bt (oL l) (i:Int)=((l.getD i 0).toNat:Int):=by rw [bt_eq,Int.toNat_natCast];rfl
theorem isDig_range (c:UInt8):isDig c=true ↔ (48≤c.toNat∧c.toNat≤57):=by
  rw [isDig_iff];omega
end Go.Proofs.YtmlcdpfcafmmcaaDoor.A
