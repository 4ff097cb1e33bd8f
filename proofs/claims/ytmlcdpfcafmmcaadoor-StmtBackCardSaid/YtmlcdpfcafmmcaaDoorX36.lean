-- By pack.py, a program of this session's.
import Derived.Test.YtmlcdpfcafmmcaaDoorX28
set_option linter.unusedVariables false
set_option linter.unusedSimpArgs false
namespace Go.Proofs.YtmlcdpfcafmmcaaDoor.A
open Go.RowKit B WW WL WM
theorem Cuts.cutW {R:List UInt8} {ps:List (Nat×List UInt8)} (h:Cuts R ps) (hl:R.length≤400):∃ ws j,Go.Proofs.YtmlcdpfcafmmcaaDoor.A.cutW R=(ws,j,0)∧ws.map (fun (x:S93)=>(x.f0,x.f1))=ps.map (fun p=>((p.1:Int),oL p.2)):=by
  obtain ⟨ws,j,h1,h2⟩:=h R.length 0 (Nat.le_refl _);refine ⟨ws,(j:Int),?_,h2⟩;unfold Go.Proofs.YtmlcdpfcafmmcaaDoor.A.cutW;rw [if_neg (by omega),h1];rfl
theorem split_line (l:List UInt8) (hl:∀ c∈l,c.toNat≠10):∀ (acc r:List UInt8),splL (l++10 :: r) acc=(acc++l) :: splL r []:=by
  induction l with
  | nil=>intro acc r;show splL (10 :: r) acc=_;rw [splL,if_pos (by decide),List.append_nil]
  | cons c l ih =>
    intro acc r;show splL (c :: (l++10 :: r)) acc=_
    rw [splL,if_neg (hl c List.mem_cons_self),ih (fun x hx=>hl x (List.mem_cons_of_mem _ hx)),List.append_assoc];rfl
theorem ba_app (x y:ByteArray):(x++y).data.toList=x.data.toList++y.data.toList:=by rw [ByteArray.data_append,Array.toList_append]
end Go.Proofs.YtmlcdpfcafmmcaaDoor.A
