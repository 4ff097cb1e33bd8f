-- By pack.py, a program of this session's.
import Derived.Test.YtmlcdpfcafmmcaaDoorX2
set_option linter.unusedVariables false
set_option linter.unusedSimpArgs false
namespace Go.Proofs.YtmlcdpfcafmmcaaDoor.A
open Go.RowKit B WW WL WM
def rtF (l:List S77):Nat→Nat→Bool
  | 0,_=>true
  | d+1,i=>if codeL (rd_T77 l (i:Int)).f0.data.toList=true then (if (rd_T77 l (i:Int)).f1 < 0 then false else if 4 < (rd_T77 l (i:Int)).f1 then false else
      if 0 < i then (if Op.bytesLess (rd_T77 l ((i:Int) - 1)).f0.toList (rd_T77 l (i:Int)).f0.toList=true then rtF l d (i+1) else false) else rtF l d (i+1)) else false
def dgF (l:List S77) (s:ByteArray):Nat→Nat→Int×Bool
  | 0,_=>(0,false)
  | d+1,i=>if (rd_T77 l (i:Int)).f0.toList=s.toList then ((rd_T77 l (i:Int)).f1,true) else dgF l s d (i+1)
def rtL (l:List S77):Bool:=if 40 < l.length then false else rtF l l.length 0
def dgL (l:List S77) (s:ByteArray):Int×Bool:=if rtL l=true then dgF l s l.length 0 else (0,false)
end Go.Proofs.YtmlcdpfcafmmcaaDoor.A
