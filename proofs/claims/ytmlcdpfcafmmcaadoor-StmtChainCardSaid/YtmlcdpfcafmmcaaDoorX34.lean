-- By pack.py, a program of this session's.
import Derived.Test.YtmlcdpfcafmmcaaDoorX14
import Derived.Test.YtmlcdpfcafmmcaaDoorX15
set_option linter.unusedVariables false
set_option linter.unusedSimpArgs false
namespace Go.Proofs.YtmlcdpfcafmmcaaDoor.A
open Go.RowKit B WW WL WM
def followsS (a b:ByteArray×ByteArray×Int×Int×Int×List S44):Bool :=
  decide (checkS a.1 a.2.1 a.2.2.1 a.2.2.2.1 a.2.2.2.2.1 a.2.2.2.2.2=0∧checkS b.1 b.2.1 b.2.2.1 b.2.2.2.1 b.2.2.2.2.1 b.2.2.2.2.2=0∧a.1.toList=b.1.toList∧a.2.1.toList=b.2.1.toList∧b.2.2.1=wrap64 (a.2.2.1+1)∧b.2.2.2.1=a.2.2.2.2.1)
theorem stmt_Follows_ev (a b:ByteArray×ByteArray×Int×Int×Int×List S44) (ha:a.1.size≤1000000∧a.2.1.size≤1000000∧Short a.2.2.2.2.2) (hb:b.1.size≤1000000∧b.2.1.size≤1000000∧Short b.2.2.2.2.2) :
    Ev (fun k=>stmt_Follows.f k a.1 a.2.1 a.2.2.1 a.2.2.2.1 a.2.2.2.2.1 a.2.2.2.2.2 b.1 b.2.1 b.2.2.1 b.2.2.2.1 b.2.2.2.2.1 b.2.2.2.2.2) (followsS a b):=by
  unfold stmt_Follows.f followsS;refine Ev.bind (stmt_Check_ev _ _ _ _ _ _ ha.1 ha.2.1 ha.2.2) (Ev.both (fun e1=>Ev.bind (stmt_Check_ev _ _ _ _ _ _ hb.1 hb.2.1 hb.2.2) (Ev.both (fun e2=>?_) (fun e2=>Ev.is ?_))) (fun e1=>Ev.is ?_))
  · refine Ev.both (fun e3=>Ev.both (fun e4=>Ev.both (fun e5=>Ev.is ?_) (fun e5=>Ev.is ?_)) (fun e4=>Ev.is ?_)) (fun e3=>Ev.is ?_)
    · rw [Bool.eq_iff_iff,decide_eq_true_iff,beq_iff_eq]
      exact ⟨fun h=>⟨e1,e2,e3,e4,e5,h⟩,fun h=>h.2.2.2.2.2⟩
    · exact (decide_eq_false (fun h=>e5 h.2.2.2.2.1)).symm
    · exact (decide_eq_false (fun h=>e4 h.2.2.2.1)).symm
    · exact (decide_eq_false (fun h=>e3 h.2.2.1)).symm
  · exact (decide_eq_false (fun h=>e2 h.2.1)).symm
  · exact (decide_eq_false (fun h=>e1 h.1)).symm
end Go.Proofs.YtmlcdpfcafmmcaaDoor.A
