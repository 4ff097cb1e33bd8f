-- By pack.py, a program of this session's.
import Derived.Test.YtmlcdpfcafmmcaaDoorX12
import Derived.Test.YtmlcdpfcafmmcaaDoorX15
import Derived.Test.YtmlcdpfcafmmcaaDoorX23
set_option linter.unusedVariables false
set_option linter.unusedSimpArgs false
namespace Go.Proofs.YtmlcdpfcafmmcaaDoor.A
open Go.RowKit B WW WL WM
theorem ba_ext {s t:ByteArray} (h:s.data.toList=t.data.toList):s=t:=by
  cases s;cases t;simp only [ByteArray.mk.injEq];exact Array.toList_inj.mp h
theorem ba_of {s:ByteArray} {l:List UInt8} (h:s.data.toList=l):s=⟨l.toArray⟩:=ba_ext (by rw [h])
theorem ba_append (s t:ByteArray):(s++t).data.toList=s.data.toList++t.data.toList:=by simp
theorem Ev.const {α:Type} {x:Option α} {v:α} (h:x=some v):Ev (fun _=>x) v:=⟨0,fun _ _=>h⟩
theorem rd_mem (l:List S77) (i:Nat) (h:i < l.length):rd_T77 l (i:Int)∈l:=by
  unfold rd_T77;rw [Int.toNat_natCast,List.getD_eq_getElem?_getD,List.getElem?_eq_getElem h];exact List.getElem_mem h
theorem nx (i:Nat) (h:i≤1000):wrap64 ((i:Int)+1)=((i+1:Nat):Int):=by unfold wrap64;omega
theorem pv (i:Nat) (h:i≤1000):wrap64 ((i:Int) - 1)=(i:Int) - 1:=by unfold wrap64;omega
theorem money_Right_l0 (l:List S77) (hl:l.length≤60) (hs:∀ x∈l,x.f0.size≤140737488351232) (d:Nat):∀ i:Nat,i+d=l.length→Ev (fun k=>money_Right.l0 k l l (l.length:Int) (i:Int)) (rtF l d i):=by
  induction d with
  | zero =>
    intro i hi;refine Ev.step (fun k=>by rw [money_Right.l0]) ?_;exact Ev.no (by omega) (Ev.is rfl)
  | succ d ih =>
    intro i hi;have hil:i < l.length:=by omega
    refine Ev.step (fun k=>by rw [money_Right.l0]) (Ev.yes (by omega) (Ev.yes (by omega) (Ev.yes (by omega) ?_)));rw [code_ev _ (hs _ (rd_mem l i hil)),nx i (by omega),pv i (by omega)];have hn:=ih (i+1) (by omega);unfold rtF money_fits.f;simp only [Option.bind_some]
    refine Ev.both (fun h1=>?_) (fun h1=>Ev.is (by rw [if_neg h1]));rw [if_pos h1];by_cases g1:(rd_T77 l (i:Int)).f1 < 0
    · rw [if_pos g1,if_neg (by omega)]
      simp only [Option.bind_some]
      exact Ev.no (by decide) (Ev.is rfl)
    rw [if_neg g1,if_pos (by omega)];simp only [Option.bind_some]
    refine Ev.both (fun h2=>?_) (fun h2=>Ev.is ?_)
    · rw [decide_eq_true_iff] at h2
      rw [if_neg (by omega)];refine Ev.both (fun h3=>?_) (fun h3=>?_)
      · rw [if_pos (by omega)]
        exact Ev.yes (by omega) (Ev.yes (by omega) (Ev.both (fun h4=>by rw [if_pos h4];exact hn) (fun h4=>Ev.is (by rw [if_neg h4]))))
      · rw [if_neg (by omega)];exact hn
    · rw [decide_eq_true_iff] at h2
      rw [if_pos (by omega)]
theorem money_Right_ev (l:List S77) (hl:l.length≤60) (hs:∀ x∈l,x.f0.size≤140737488351232):Ev (fun k=>money_Right.f k l) (rtL l):=by
  unfold money_Right.f rtL;refine Ev.both (fun h=>Ev.is (by rw [if_pos (by omega)])) (fun h=>?_);rw [if_neg (by omega)];exact money_Right_l0 l hl hs l.length 0 (by omega)
theorem money_Digits_l0 (l:List S77) (s:ByteArray) (hl:l.length≤60) (d:Nat):∀ i:Nat,i+d=l.length→Ev (fun k=>money_Digits.l0 k s l (l.length:Int) (i:Int)) (dgF l s d i):=by
  induction d with
  | zero =>
    intro i hi;refine Ev.step (fun k=>by rw [money_Digits.l0]) ?_;exact Ev.no (by omega) (Ev.is rfl)
  | succ d ih =>
    intro i hi;refine Ev.step (fun k=>by rw [money_Digits.l0]) (Ev.yes (by omega) (Ev.yes (by omega) (Ev.yes (by omega) ?_)));rw [nx i (by omega)];unfold dgF;exact Ev.both (fun h=>Ev.is (by rw [if_pos h])) (fun h=>by rw [if_neg h];exact ih (i+1) (by omega))
theorem money_Digits_ev (l:List S77) (s:ByteArray) (hl:l.length≤60) (hs:∀ x∈l,x.f0.size≤140737488351232):Ev (fun k=>money_Digits.f k l s) (dgL l s):=by
  unfold money_Digits.f dgL;exact Ev.bind (money_Right_ev l hl hs) (Ev.both (fun h=>by rw [if_pos h];exact money_Digits_l0 l s hl l.length 0 (by omega)) (fun h=>Ev.is (by rw [if_neg h])))
end Go.Proofs.YtmlcdpfcafmmcaaDoor.A
namespace Go.Proofs.YtmlcdpfcafmmcaaDoor.A
open Go.RowKit B WW WL WM
theorem drop_at {L:List UInt8} {i:Nat} {c:UInt8} {r:List UInt8} (h:L.drop i=c :: r):i < L.length∧L.getD i 0=c∧L.drop (i+1)=r:=by
  have hlt:i < L.length:=by
    rcases Nat.lt_or_ge i L.length with h1 | h1
    · exact h1
    · rw [List.drop_eq_nil_of_le h1] at h;cases h
  rw [List.drop_eq_getElem_cons hlt] at h;obtain ⟨h1,h2⟩:=List.cons.inj h;exact ⟨hlt,by rw [List.getD_eq_getElem?_getD,List.getElem?_eq_getElem hlt,← h1];rfl,h2⟩
theorem drop_end {L:List UInt8} {i:Nat} (h:L.drop i=[]):L.length≤i:=List.drop_eq_nil_iff.mp h
def toI (l:List UInt8):List Int:=l.map (fun c=>(c.toNat:Int))
theorem toI_len (l:List UInt8):(toI l).length=l.length:=by unfold toI;rw [List.length_map]
theorem toI_snoc (l:List UInt8) (c:UInt8):toI l++[(c.toNat:Int)]=toI (l++[c]):=by unfold toI;rw [List.map_append];rfl
theorem strOf_toI (l:List UInt8):strOfNums (toI l)=oL l:=by
  unfold toI oL;simp only [strOfNums,List.map_map]
  congr 2
  conv=>rhs;rw [← List.map_id l]
  refine List.map_congr_left fun b _=>?_
  simp
end Go.Proofs.YtmlcdpfcafmmcaaDoor.A
namespace Go.Proofs.YtmlcdpfcafmmcaaDoor.B
open Go.Deep Go.ChangeShapes Go.WideShapes Go.ChangeAt Go.Joins WW
theorem Opens.arg {α:Type} {P:Program} {t e:TypeId} {d:Kd α} {G:List α→Prop} (h:Opens P t (Kd.slice e d) G) (ht:P.underlying t=some (.slice e)) {H:Type} {enc:TypeId×Value→H} {W:World} {base b0:Nat} {spare:Nat→Bool} {held:Bool} {r:Reach} {v:Value} {y:DataW H} {p:List MemPlace}
    (hv:Value.okWide P W r b0 t v) (hh:DataW.Trod enc P W base spare held t v y p) (hw:∀ x∈y.weights P t,x≤reachBytes):∃ (A:Option Addr) (c:Nat) (xs:List α),v=.slice A xs.length c∧xs.length≤c∧Kd.C d W A xs.length xs∧G xs:=by
  obtain ⟨a,len,cap,rfl⟩:=okWide_slice ht hv;obtain ⟨n,hn⟩:=hh;obtain ⟨xs,⟨A,c,he,hl,hC⟩,hG⟩:=h.get hn hw
  have he':Value.slice a len cap=.slice A xs.length c:=by
    have h2:(Value.slice a len cap).cells.toList=[.slice a len cap]:=rfl;rw [h2] at he;exact List.head_eq_of_cons_eq he
  exact ⟨A,c,xs,he',hl,hC,hG⟩
end Go.Proofs.YtmlcdpfcafmmcaaDoor.B
namespace Go.Proofs.YtmlcdpfcafmmcaaDoor.A
open Go.RowKit B WW WL WM
attribute [local go_sem] max2_int min2_int max_two min_two max_three min_three max_four min_four
set_option maxHeartbeats 8000000
set_option maxRecDepth 100000
def PSt.rd (p:PSt) (C v:Value):Array Value:=#[.string p.acc,.string p.cur,.int .i64 p.no,.int .i64 p.op,.int .i64 p.cl,v,C,.int .i64 p.dg,.int .i64 p.part]
end Go.Proofs.YtmlcdpfcafmmcaaDoor.A
namespace Go.Proofs.YtmlcdpfcafmmcaaDoor.A
open Go.ChangeShapes Go.WideShapes Go.ChangeAt Go.Joins B WW
set_option maxRecDepth 100000 in
theorem opens_curs:Opens Tryd.prog 31 (Kd.slice 77 k77) (fun xs=>(∀ x∈xs,x.f0.size≤140737488351232∧(Lit.int .i64 x.f1).wf=true)∧xs.length≤maxLen∧xs.length * Tryd.prog.bytesOf 77≤140737488351232) :=
  Opens.slice (by kernel_rfl) (by kernel_rfl)
    (Opens.iso (Opens.struct (fs := #[⟨"Code", 9, 0, false, "", "", 0⟩, ⟨"Digits", 3, 1, false, "", "", 16⟩]) (by kernel_rfl) (by kernel_rfl)
      (OpensF.cons (Opens.string Tryd.underlying9 (by kernel_rfl)) rfl (OpensF.one (Opens.int Tryd.underlying3 (by kernel_rfl)) rfl) rfl))
      (fun x:S77=>(x.f0,x.f1)) (fun p=>⟨p.1,p.2⟩) (fun _=>rfl) (fun _ h=>h))
set_option maxRecDepth 100000 in
theorem open_curs {H:Type} {enc:TypeId×Value→H} {W:World} {base b0:Nat} {spare:Nat→Bool} {held:Bool} {r:Reach} {v:Value} {y:DataW H} {p:List MemPlace}
    (hv:Value.okWide Tryd.prog W r b0 31 v) (hh:DataW.Trod enc Tryd.prog W base spare held 31 v y p) (hw:∀ x∈y.weights Tryd.prog 31,x≤reachBytes) :
    ∃ (a:Option Addr) (c:Nat) (xs:List S77),v=.slice a xs.length c∧xs.length≤c∧Kd.C k77 W a xs.length xs∧∀ x∈xs,x.f0.size≤140737488351232:=by
  obtain ⟨a,c,xs,h1,h2,h3,h4,_⟩:=opens_curs.arg (by kernel_rfl) hv hh hw;exact ⟨a,c,xs,h1,h2,h3,fun x hx=>(h4 x hx).1⟩
end Go.Proofs.YtmlcdpfcafmmcaaDoor.A
