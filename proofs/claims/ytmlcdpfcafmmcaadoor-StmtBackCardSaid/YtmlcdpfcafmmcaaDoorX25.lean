-- By pack.py, a program of this session's.
import Derived.Test.YtmlcdpfcafmmcaaDoorX15
import Derived.Test.YtmlcdpfcafmmcaaDoorX23
set_option linter.unusedVariables false
set_option linter.unusedSimpArgs false
namespace Go.Proofs.YtmlcdpfcafmmcaaDoor.A
open Go.RowKit B WW WL WM
def isPrint (c:UInt8):Bool:=decide (32≤c.toNat) && decide (c.toNat≤126)
def isPt (c:UInt8):Bool:=decide (c.toNat=46) || (decide (c.toNat=47) || decide (c.toNat=45))
def headDig:List UInt8→Bool
  | []=>false
  | c :: _=>isDig c
def nameN:List UInt8→Nat
  | []=>0
  | c :: r=>if isLet c=true∨isDig c=true then nameN r+1 else 0
def numN:List UInt8→Nat
  | []=>0
  | c :: r=>if isPt c=true then (if headDig r=true then numN r+1 else 0) else if isLet c=true∨isDig c=true then numN r+1 else 0
def quoS (a:Nat):List UInt8→Nat→List UInt8→List UInt8×Nat×Nat×Nat
  | [],_,_=>([],0,a,6)
  | c :: r,i,acc=>if c.toNat=34 then (acc,i+1,0,0) else if c.toNat=92 then (match r with
      | []=>([],0,i,5)
      | d :: r'=>if d.toNat=34∨d.toNat=92 then quoS a r' (i+2) (acc++[d]) else ([],0,i,5))
    else if isPrint c=true then quoS a r (i+1) (acc++[c]) else ([],0,i,5)
def twoSg (c d:UInt8):Bool:=decide ([c,d]=[60,61]) || (decide ([c,d]=[62,61]) || (decide ([c,d]=[33,61]) || decide ([c,d]=[46,46])))
def oneSg (c:UInt8):Nat:=if c.toNat∈[40,41,123,125,91,93,44,59,58,61,43,45,42,47,60,62,124,38,33,64,37] then 1 else 0
def signN:List UInt8→Nat
  | []=>0
  | c :: r=>match r with
    | []=>oneSg c
    | d :: _=>if twoSg c d=true then 2 else oneSg c
def gS (kind:Nat) (R:List UInt8) (i n most:Nat):Nat×List UInt8×Nat×Nat×Nat:=(kind,R.take n,i+n,if most < n then i else 0,if most < n then 9 else 0)
def qS (i:Nat) (q:List UInt8×Nat×Nat×Nat):Nat×List UInt8×Nat×Nat×Nat:=if q.2.2.2=0 then (3,q.1,q.2.1,if 60 < q.1.length then i else q.2.2.1,if 60 < q.1.length then 9 else 0) else (3,q.1,q.2.1,q.2.2.1,q.2.2.2)
def wordH (R:List UInt8) (i:Nat):Nat×List UInt8×Nat×Nat×Nat:=if signN R=0 then (4,[],i,i,5) else gS 4 R i (signN R) 60
def wordS:List UInt8→Nat→Nat×List UInt8×Nat×Nat×Nat
  | [],i=>(0,[],i,i,5)
  | c :: r,i=>if isLet c=true then gS 1 (c :: r) i (nameN (c :: r)) 12 else
    if isDig c=true∨(c.toNat=45∧headDig r=true) then gS 2 (c :: r) i (numN r+1) 60 else
    if c.toNat=34 then qS i (quoS i r (i+1) []) else wordH (c :: r) i
theorem wordS_cons (c:UInt8) (r:List UInt8) (i:Nat):wordS (c :: r) i=if isLet c=true then gS 1 (c :: r) i (nameN (c :: r)) 12 else
    if isDig c=true∨(c.toNat=45∧headDig r=true) then gS 2 (c :: r) i (numN r+1) 60 else
    if c.toNat=34 then qS i (quoS i r (i+1) []) else wordH (c :: r) i:=rfl
def wdOf (w:Nat×List UInt8×Nat×Nat×Nat) (i:Nat):S93:=⟨(w.1:Int),oL w.2.1,(i:Int)⟩
def cutR:Nat→List UInt8→Nat→List S93×Nat×Nat
  | 0,R,i=>([],i+R.length,0)
  | _+1,[],i=>([],i,0)
  | f+1,c :: r,i=>if c.toNat=35 then ([],i+(r.length+1),0) else if c.toNat=32 then cutR f r (i+1) else
    if (wordS (c :: r) i).2.2.2.2=0 then pre (wdOf (wordS (c :: r) i) i) (cutR f ((c :: r).drop ((wordS (c :: r) i).2.2.1 - i)) (wordS (c :: r) i).2.2.1) else ([],(wordS (c :: r) i).2.2.2.1,(wordS (c :: r) i).2.2.2.2)
structure Inv (cs:List S77) (p:PSt) (i:Nat):Prop where
  acc:p.acc.size≤60
  cur:p.cur.size≤60
  ls:∀ x∈p.ls,x.f2.size≤60∧x.f3.size≤60
  len:p.ls.length≤i
  lo:0≤p.part
  hi:p.part≤3
  dg:p.part≠0→(dgL cs p.cur).2=true∧p.dg=(dgL cs p.cur).1
theorem Inv.zero (cs:List S77):Inv cs pst0 0:=⟨Nat.zero_le _,Nat.zero_le _,fun x hx=>(by cases hx),Nat.le_refl _,Int.le_refl _,by decide,fun h=>absurd rfl h⟩
def Brk (r:List UInt8):Prop:=r=[]∨∃ q,r=32 :: q
theorem Brk.nil:Brk []:=Or.inl rfl
theorem name_brk {r:List UInt8} (h:Brk r):nameN r=0:=by
  rcases h with rfl | ⟨q,rfl⟩
  · rfl
  · rw [nameN,if_neg (by decide)]
theorem isWd_or {c:UInt8} (h:isWdB c=true):isLet c=true∨isDig c=true:=by
  rw [isWdB_eq,Bool.or_eq_true] at h;exact h
theorem name_app (w r:List UInt8) (hw:w.all isWdB=true) (h:Brk r):nameN (w++r)=w.length:=by
  induction w with
  | nil=>exact name_brk h
  | cons c w ih =>
    rw [List.all_cons,Bool.and_eq_true] at hw;show nameN (c :: (w++r))=_
    rw [nameN,if_pos (isWd_or hw.1),ih hw.2];rfl
def IsW (w:List UInt8) (k:Nat) (t:List UInt8):Prop:=w≠[]∧(∀ c r,w=c :: r→c.toNat≠35∧c.toNat≠32)∧∀ r i,Brk r→∃ z,wordS (w++r) i=(k,t,i+w.length,z,0)
theorem IsW.name {c:UInt8} {w:List UInt8} (hc:isLet c=true) (hw:w.all isWdB=true) (hl:w.length≤11):IsW (c :: w) 1 (c :: w):=by
  have hx:c.toNat≠35∧c.toNat≠32:=by
    unfold isLet at hc;simp only [Bool.or_eq_true,Bool.and_eq_true,decide_eq_true_iff] at hc
    omega
  refine ⟨by simp,fun a r h=>(by obtain ⟨rfl,rfl⟩:=List.cons.inj h;exact hx),fun r i hr=>⟨0,?_⟩⟩;show wordS (c :: (w++r)) i=_
  have e:nameN (c :: (w++r))=w.length+1:=by rw [nameN,if_pos (Or.inl hc),name_app w r hw hr]
  rw [wordS_cons,if_pos hc,e,gS,if_neg (by omega),if_neg (by omega)];rw [show (c :: (w++r)).take (w.length+1)=c :: w from by rw [List.take_succ_cons,List.take_left]];rfl
def Cuts (R:List UInt8) (ps:List (Nat×List UInt8)):Prop:=∀ f i,R.length≤f→∃ ws j,cutR f R i=(ws,j,0)∧ws.map (fun (x:S93)=>(x.f0,x.f1))=ps.map (fun p=>((p.1:Int),oL p.2))
theorem Cuts.nil:Cuts [] []:=fun f i _=>by
  cases f with
  | zero=>exact ⟨[],_,rfl,rfl⟩
  | succ f=>exact ⟨[],_,rfl,rfl⟩
def NoF (l:List UInt8):Prop:=∀ c∈l,c.toNat≠10
theorem NoF.cons {c:UInt8} {b:List UInt8} (hc:c.toNat≠10) (hb:NoF b):NoF (c :: b):=fun x hx=>(List.mem_cons.mp hx).elim (fun e=>e ▸ hc) (hb x)
theorem NoF.nil:NoF []:=fun c hc=>(by cases hc)
end Go.Proofs.YtmlcdpfcafmmcaaDoor.A
namespace Go.Proofs.YtmlcdpfcafmmcaaDoor.WL
def up (b:Nat→Bool) (i:Nat):Nat→Bool:=fun j=>if j=i then true else b j
end Go.Proofs.YtmlcdpfcafmmcaaDoor.WL
namespace Go.Proofs.YtmlcdpfcafmmcaaDoor.A
open Go.RowKit B WW WL WM
theorem IsW.cur {l:List UInt8} (h:codeL l=true):IsW l 1 l:=by
  unfold codeL at h;rw [Bool.and_eq_true,decide_eq_true_iff] at h;obtain ⟨h1,h2⟩:=h
  have up:∀ c:UInt8,isUp c=true→isLet c=true:=by
    intro c hc;unfold isUp at hc;simp only [Bool.and_eq_true,decide_eq_true_iff,UInt8.le_iff_toNat_le] at hc
    unfold isLet;simp only [Bool.or_eq_true,Bool.and_eq_true,decide_eq_true_iff]
    have:(65:UInt8).toNat=65:=rfl;have:(90:UInt8).toNat=90:=rfl;omega
  cases l with
  | nil=>simp at h2
  | cons c w =>
    rw [List.all_cons,Bool.and_eq_true] at h1;rw [List.length_cons] at h2;refine IsW.name (up c h1.1) ?_ (by omega);rw [List.all_eq_true] at h1 ⊢;intro x hx;rw [isWdB_eq,up x (h1.2 x hx),Bool.true_or]
theorem NoF.cur {l:List UInt8} (h:codeL l=true):NoF l:=fun c hc=>by
  unfold codeL at h;rw [Bool.and_eq_true] at h;have:=List.all_eq_true.mp h.1 c hc;unfold isUp at this;simp only [Bool.and_eq_true,decide_eq_true_iff,UInt8.le_iff_toNat_le] at this
  have:(65:UInt8).toNat=65:=rfl;omega
end Go.Proofs.YtmlcdpfcafmmcaaDoor.A
