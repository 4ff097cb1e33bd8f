-- By pack.py, a program of this session's.
import Derived.Test.YtkbgkekegjfkfaaGreatDoorY16
set_option linter.unusedVariables false
set_option linter.unusedSimpArgs false
namespace Go.Proofs.YtkbgkekegjfkfaaGreatDoor.A
open Go.RowKit B WW WL WM
attribute [local go_sem] max2_int min2_int max_two min_two max_three min_three max_four min_four
set_option maxHeartbeats 8000000
set_option maxRecDepth 100000
def nOfC (c:S48) (d a:Int):Int:=if c.f0=4 then d else a
def sOfC (c:S48) (rf tx:ByteArray):ByteArray:=if c.f0=2 then rf else tx
def testF (c:S48) (d a:Int) (rf tx:ByteArray):Bool :=
 if c.f1=2 then decide (nOfC c d a ≥ c.f3) else if c.f1=3 then decide (nOfC c d a≤c.f3) else
 if c.f1=4 then Lib.contains (sOfC c rf tx).data.toList c.f2.data.toList else if c.f1=5 then Lib.hasPrefix (sOfC c rf tx).data.toList c.f2.data.toList else
 if c.f0=1∨c.f0=4 then decide (nOfC c d a=c.f3) else decide ((sOfC c rf tx).toList=c.f2.toList)
theorem nOf_calls (g:Nat) (c:S48) (d a:Int) (rf tx:ByteArray) (w:World) (h0:w.cell? ⟨g,0,none⟩=some (.int .i64 c.f0)) :
  Calls Tryz.prog 59 #[.agg #[.int .i64 d,.int .i64 a,.string rf,.string tx],.pointer (some ⟨g,0,none⟩)] w fun e w'=>e=.returned (.int .i64 (nOfC c d a))∧Below w.heap.size w w':=by
 have hlt:=lt_of_cell h0;unfold nOfC;go_enter Tryz.func59,Tryz.ntmps59
 by_cases e:c.f0=4
 ·have e0:decide (c.f0=4)=true:=decide_eq_true e;rw [if_pos e];go_wp2_with fail
  go_ret
  exact ⟨rfl,below_alloc (Below.refl _ _) _⟩
 have e0:decide (c.f0=4)=false:=decide_eq_false e;rw [if_neg e];go_wp2_with fail
 go_ret
 exact ⟨rfl,below_alloc (Below.refl _ _) _⟩
theorem sOf_calls (g:Nat) (c:S48) (d a:Int) (rf tx:ByteArray) (w:World) (h0:w.cell? ⟨g,0,none⟩=some (.int .i64 c.f0)) :
  Calls Tryz.prog 60 #[.agg #[.int .i64 d,.int .i64 a,.string rf,.string tx],.pointer (some ⟨g,0,none⟩)] w fun e w'=>e=.returned (.string (sOfC c rf tx))∧Below w.heap.size w w':=by
 have hlt:=lt_of_cell h0;unfold sOfC;go_enter Tryz.func60,Tryz.ntmps60
 by_cases e:c.f0=2
 ·have e0:decide (c.f0=2)=true:=decide_eq_true e;rw [if_pos e];go_wp2_with fail
  go_ret
  exact ⟨rfl,below_alloc (Below.refl _ _) _⟩
 have e0:decide (c.f0=2)=false:=decide_eq_false e;rw [if_neg e];go_wp2_with fail
 go_ret
 exact ⟨rfl,below_alloc (Below.refl _ _) _⟩
theorem goesF_ {P : Program} {ops : Array Oper} {Q : Exit → Act → World → Prop} {oi : Oper} {N : Option Tmp} {a : Act} {w : World} {K : Act → World → Prop} {f : FuncId} {fn : Func} {o : Operand} {as_ : Array Operand} {ts : Array TypeId} {cap : Array Value} (hf : P.funcs[f]? = some fn) (hname : (fn.name == "runtime.NumGoroutine") = false) (hb : fn.body.isSome = true) (args : Array Value)
  (hw:Region.wanted oi (yielded ops a.tmps)=true) (hN:oi.dst=N) (hop:oi.op=.call { callee:=.value o,args:=as_,argTypes:=ts }) (ho:a.eval o=.func (.func f) #[] cap) (hargs:as_.map a.eval++cap=args)
  (h:Calls P f args w fun e w'=>∃ v,e=.returned v∧K (a.put N v) w'):if Region.wanted oi (yielded ops a.tmps)=true then Oper.wp P oi a w K Q else K (a.put N undef) w:=by
 refine call_ f args hw hN ?_ h;have he:=enters_ hf hname hb args w;unfold execOp;simp [hop,resolve,Deferred.ofValue,invoke,ho,hargs,he]
def lineV (d a:Int) (rf tx:ByteArray):Value:=.agg #[.int .i64 d,.int .i64 a,.string rf,.string tx]
def TestK (c:S48) (f:Nat) (cap:Array Value) (g gn gs:Nat):Prop :=
 (c.f1=2∧f=61∧cap=#[.pointer (some ⟨gn,0,none⟩),.pointer (some ⟨g,0,none⟩)])∨(c.f1=3∧f=62∧cap=#[.pointer (some ⟨gn,0,none⟩),.pointer (some ⟨g,0,none⟩)]) ∨
 (c.f1=4∧f=63∧cap=#[.pointer (some ⟨gs,0,none⟩),.pointer (some ⟨g,0,none⟩)])∨(c.f1=5∧f=65∧cap=#[.pointer (some ⟨gs,0,none⟩),.pointer (some ⟨g,0,none⟩)]) ∨
 ((c.f1≠2∧c.f1≠3∧c.f1≠4∧c.f1≠5)∧(((c.f0=1∨c.f0=4)∧f=68∧cap=#[.pointer (some ⟨gn,0,none⟩),.pointer (some ⟨g,0,none⟩)])∨(¬ (c.f0=1∨c.f0=4)∧f=69∧cap=#[.pointer (some ⟨gs,0,none⟩),.pointer (some ⟨g,0,none⟩)])))
theorem rd48_mem (l:List S48) (i:Nat) (h:i < l.length):rd_T48 l (i:Int)∈l:=by
 unfold rd_T48;rw [Int.toNat_natCast,List.getD_eq_getElem?_getD,List.getElem?_eq_getElem h];exact List.getElem_mem h
theorem take48 (l:List S48) (i:Nat) (h:i < l.length):l.take (i+1)=l.take i++[rd_T48 l (i:Int)]:=by
 unfold rd_T48;rw [List.take_add_one,List.getElem?_eq_getElem h,Int.toNat_natCast,List.getD_eq_getElem?_getD,List.getElem?_eq_getElem h];rfl
def rules_Holds.f (k:Nat) (a0_0:ByteArray) (l0_1:List S48) (a0_2 a0_3:ByteArray) (l0_4:List S50) (a1_0 a1_1:Int) (a1_2 a1_3:ByteArray):Option Bool :=
 (rules_Check.f k a0_0 l0_1 a0_2 a0_3 l0_4).bind fun e=>if e=0 then (if a1_2.size < 4294967281∧a1_3.size < 4294967281 then some (l0_1.all fun c=>testF c a1_0 a1_1 a1_2 a1_3) else none) else some false
def fieldB:ByteArray:=⟨#[97,109,111,117,110,116,32,114,101,102,32,116,101,120,116,32,100,97,121]⟩
def fieldL:List ByteArray:=[⟨#[97,109,111,117,110,116]⟩,⟨#[114,101,102]⟩,⟨#[116,101,120,116]⟩,⟨#[100,97,121]⟩]
def opB:ByteArray:=⟨#[105,115,32,108,101,97,115,116,32,109,111,115,116,32,104,97,115,32,98,101,103,105,110,115]⟩
def opL:List ByteArray:=[⟨#[105,115]⟩,⟨#[108,101,97,115,116]⟩,⟨#[109,111,115,116]⟩,⟨#[104,97,115]⟩,⟨#[98,101,103,105,110,115]⟩]
theorem ascii_of {s:ByteArray} (h:∀ b∈s.data.toList,b.toNat < 128):∀ (j:Nat) b,s.data.toList[j]?=some b→b.toNat < 128:=fun j b hb=>h b (List.mem_of_getElem? hb)
theorem fieldB_L:(Lib.fields fieldB.data.toList).map (fun l=>(⟨l.toArray⟩:ByteArray))=fieldL:=by decide +kernel
theorem opB_L:(Lib.fields opB.data.toList).map (fun l=>(⟨l.toArray⟩:ByteArray))=opL:=by decide +kernel
theorem fieldB_a:∀ b∈fieldB.data.toList,b.toNat < 128:=by decide
theorem opB_a:∀ b∈opB.data.toList,b.toNat < 128:=by decide
abbrev ruleB:ByteArray:=⟨#[114,117,108,101]⟩
abbrev ifB:ByteArray:=⟨#[105,102]⟩
abbrev andB:ByteArray:=⟨#[97,110,100]⟩
abbrev thenB:ByteArray:=⟨#[116,104,101,110]⟩
abbrev partyB:ByteArray:=⟨#[112,97,114,116,121]⟩
abbrev tagB:ByteArray:=⟨#[116,97,103]⟩
abbrev eqB:ByteArray:=⟨#[61]⟩
def nmd (L:List ByteArray) (n:Int):Option ByteArray:=if 1≤n∧n≤1000 then L[n.toNat - 1]? else none
def txC (k:Nat):List S48→List ByteArray→ByteArray→Option (List ByteArray)
 | [],l,_=>some l
 | c :: r,l,link=>(nmd fieldL c.f0).bind fun a=>(nmd opL c.f1).bind fun b=>(rules_operand.f k c.f0 c.f1 c.f2 c.f3).bind fun o=>txC k r (l++[link,a,b,o]) andB
def txT:List S50→List ByteArray→List ByteArray
 | [],l=>l
 | t :: r,l=>txT r (l++[tagB,t.f0,eqB,t.f1])
def joinB (l:List ByteArray):ByteArray:=⟨(Lib.join (l.map (·.data.toList)) [32]).toArray⟩
def txJ (l:List ByteArray):Option (ByteArray×Int):=if l.length≤140737488355328∧(joinB l).size≤140737488355328 then (if 400 < (joinB l).size then some (⟨#[]⟩,9) else some (joinB l,0)) else none
def rules_Text.f (k:Nat) (nm:ByteArray) (cs:List S48) (acc par:ByteArray) (tg:List S50):Option (ByteArray×Int) :=
 (rules_Check.f k nm cs acc par tg).bind fun e=>if e=0 then (if cs.length≤1000000∧tg.length≤1000000 then (txC k cs [ruleB,nm] ifB).bind fun l =>
  txJ (txT tg (if par.toList=[] then l++[thenB,acc] else l++[thenB,acc]++[partyB,par])) else none) else some (⟨#[]⟩,e)
theorem nmd_calls (L:List ByteArray) (s:ByteArray) (hL:(Lib.fields s.data.toList).map (fun l=>(⟨l.toArray⟩:ByteArray))=L) (hs:s.size < 4294967281) (ha:∀ b∈s.data.toList,b.toNat < 128) (n:Int) (x:ByteArray) (hx:nmd L n=some x) (w:World) (hG:Gl w) :
  Calls Tryz.prog 30 #[.string s,.int .i64 n] w fun e w'=>e=.returned (.string x)∧Below w.heap.size w w':=by
 unfold nmd at hx;split at hx
 case isFalse=>cases hx
 rename_i hn
 have e:n=((n.toNat - 1:Nat):Int)+1:=by omega
 rw [e];exact named_calls s L hL hs (ascii_of ha) (n.toNat - 1) x hx w hG (by omega)
theorem grown_alloc {W w1:World} {o:Obj} {row:Option Nat} (h:(W.alloc o).grownBy w1 row):W.grownBy w1 row:=(World.grownBy_alloc W o row).trans h
theorem strs_cells {w:World} {g n:Nat} {xs:List ByteArray} (h:Kd.C Kd.string w (some ⟨g,0,none⟩) n xs) (hn:0 < n):∀ (j:Nat) x,xs[j]?=some x→w.cell? ⟨g,0+j,none⟩=some (.string x):=by
 obtain ⟨ad,e,hc⟩:=h.2.2 hn;obtain rfl:=Option.some.inj e;intro j x hj;obtain ⟨c,_,hK,hcell⟩:=hc j x hj;have hK':c=[.string x]:=hK;subst hK';have:=hcell 0 _ rfl;rw [Nat.zero_add];have e1:j * Kd.string.sz+0=j:=by show j * 1+0=j;omega
 rw [e1] at this;have e2:(⟨g,0,none⟩:Addr).add j=⟨g,j,none⟩:=by unfold Addr.add;split <;> simp_all
 rw [e2] at this;exact this
def num_Parse.f (a0:ByteArray) (a1 a2:Int):Option (Int×Int):=if a0.size≤140737488351232 then some (parseL a0.data.toList a1 a2) else none
def keyV (kd:Int) (s x:ByteArray):Bool:=decide (kd=1∧s.toList=x.toList)
theorem key_calls (gw:Nat) (kd:Int) (s x:ByteArray) (w:World) (h0:w.cell? ⟨gw,0,none⟩=some (.int .i64 kd)) (h1:w.cell? ⟨gw,1,none⟩=some (.string s)) :
    Calls Tryz.prog 111 #[.string x,.pointer (some ⟨gw,0,none⟩)] w fun e w'=>e=.returned (.bool (keyV kd s x))∧Drawn0 w w':=by
  unfold keyV;by_cases e:kd=1
  · have q:decide (kd=1)=true:=decide_eq_true e
    have hr:decide (kd=1∧s.toList=x.toList)=(s.toList == x.toList):=by
      rw [Bool.eq_iff_iff,decide_eq_true_iff,beq_iff_eq];exact ⟨fun h=>h.2,fun h=>⟨e,h⟩⟩
    rw [hr];clear hr;go_enter Tryz.func111,Tryz.ntmps111
    go_wp2_with fail
    go_ret
    exact ⟨rfl,Drawn0.refl _⟩
  have q:decide (kd=1)=false:=decide_eq_false e;have hr:decide (kd=1∧s.toList=x.toList)=false:=decide_eq_false (fun h=>e h.1);rw [hr];clear hr;go_enter Tryz.func111,Tryz.ntmps111
  go_wp2_with fail
  go_ret
  exact ⟨rfl,Drawn0.refl _⟩
abbrev keyB (x:S73) (s:ByteArray):Bool:=keyV x.f0 x.f1 s
theorem below_base {bd:Nat} {w w':World} (h:Below bd w w') (hb:bd≤w.heap.size):bd≤w'.heap.size:=Nat.le_trans hb h.size
theorem FP.grownC {bd g:Nat} {vC vT vW:Value} {w w1 w2:World} (h:FP bd g vC vT vW w w1) (hb:Below bd w1 w2) (hg:w1.grownBy w2 vC.ownBlock):FP bd g vC vT vW w w2 :=
  ⟨h.b.trans hb,fun i h1 h2 h3 h4 h5=>(hg.block i (Nat.lt_of_lt_of_le h1 h.b.size) h3).trans (h.fr i h1 h2 h3 h4 h5)⟩
theorem FP.grownT {bd g:Nat} {vC vT vW:Value} {w w1 w2:World} (h:FP bd g vC vT vW w w1) (hb:Below bd w1 w2) (hg:w1.grownBy w2 vT.ownBlock):FP bd g vC vT vW w w2 :=
  ⟨h.b.trans hb,fun i h1 h2 h3 h4 h5=>(hg.block i (Nat.lt_of_lt_of_le h1 h.b.size) h4).trans (h.fr i h1 h2 h3 h4 h5)⟩
theorem FP.grownW {bd g:Nat} {vC vT vW:Value} {w w1 w2:World} (h:FP bd g vC vT vW w w1) (hb:Below bd w1 w2) (hg:w1.grownBy w2 vW.ownBlock):FP bd g vC vT vW w w2 :=
  ⟨h.b.trans hb,fun i h1 h2 h3 h4 h5=>(hg.block i (Nat.lt_of_lt_of_le h1 h.b.size) h5).trans (h.fr i h1 h2 h3 h4 h5)⟩
theorem FP.far {bd g gc o:Nat} {vC vT vW:Value} {w w1:World} (h:FP bd g vC vT vW w w1) (hg:bd≤gc) (hv:some gc=vC.ownBlock∨some gc=vT.ownBlock) (u:Value):FP bd g vC vT vW w (w1.setCell ⟨gc,o,none⟩ u) :=
  ⟨below_setN h.b hg u,fun i h1 h2 h3 h4 h5=>(Below.heap_setCell _ _ _ i (fun e=>by
    have e':i=gc:=e;rcases hv with hv | hv
    · exact h3 (by rw [e',hv])
    · exact h4 (by rw [e',hv]))).trans (h.fr i h1 h2 h3 h4 h5)⟩
theorem key2_calls (gw:Nat) (kd:Int) (s x:ByteArray) (w:World) (h0:w.cell? ⟨gw,0,none⟩=some (.int .i64 kd)) (h1:w.cell? ⟨gw,1,none⟩=some (.string s)) :
    Calls Tryz.prog 138 #[.string x,.pointer (some ⟨gw,0,none⟩)] w fun e w'=>e=.returned (.bool (keyV kd s x))∧Drawn0 w w':=by
  unfold keyV;by_cases e:kd=1
  · have q:decide (kd=1)=true:=decide_eq_true e
    have hr:decide (kd=1∧s.toList=x.toList)=(s.toList == x.toList):=by
      rw [Bool.eq_iff_iff,decide_eq_true_iff,beq_iff_eq];exact ⟨fun h=>h.2,fun h=>⟨e,h⟩⟩
    rw [hr];clear hr;go_enter Tryz.func138,Tryz.ntmps138
    go_wp2_with fail
    go_ret
    exact ⟨rfl,Drawn0.refl _⟩
  have q:decide (kd=1)=false:=decide_eq_false e;have hr:decide (kd=1∧s.toList=x.toList)=false:=decide_eq_false (fun h=>e h.1);rw [hr];clear hr;go_enter Tryz.func138,Tryz.ntmps138
  go_wp2_with fail
  go_ret
  exact ⟨rfl,Drawn0.refl _⟩
def valC (k:Nat) (c:S48) (x:S73):Option (S48×Int) :=
  if c.f0=1 then (num_Parse.f x.f1 (-1000000000000) 1000000000000).bind fun q=>some ({ c with f3:=q.1 },q.2) else
  if c.f0=4 then (days_Parse.f k x.f1).bind fun q=>some ({ c with f3:=q.1 },q.2) else some ({ c with f2:=x.f1 },0)
theorem cell_bd {bd b:Nat} {w w':World} {o:Nat} (hb:Below bd w w') (h:b < bd):w'.cell? ⟨b,o,none⟩=w.cell? ⟨b,o,none⟩:=by
  unfold World.cell?;rw [hb.block b h]
theorem gl_bd {bd:Nat} {w w':World} (h:Gl w) (hb:Below bd w w') (hl:GlLt bd):Gl w':=by
  obtain ⟨a0,a1,a2⟩:=hl;obtain ⟨⟨t1,t2⟩,⟨s1,s2⟩,⟨m1,m,m2⟩⟩:=h;refine ⟨⟨Nat.lt_of_lt_of_le t1 hb.size,fun i hi=>?_⟩,⟨Nat.lt_of_lt_of_le s1 hb.size,fun c hc=>?_⟩,⟨Nat.lt_of_lt_of_le m1 hb.size,m,?_⟩⟩
  · rw [cell_bd hb (by omega)];exact t2 i hi
  · rw [cell_bd hb (by omega)];exact s2 c hc
  · rw [cell_bd hb (by omega)];exact m2
end Go.Proofs.YtkbgkekegjfkfaaGreatDoor.A
namespace Go.Proofs.YtkbgkekegjfkfaaGreatDoor.A
open Go.RowKit B WW WL WM
attribute [local go_sem] max2_int min2_int max_two min_two max_three min_three max_four min_four
theorem info9:(Tryz.prog.info? 9).map (fun i=>(i.zero,i.size,i.bytes))=some (some (.string ⟨#[]⟩),1,16):=by kernel_rfl
theorem info48:(Tryz.prog.info? 48).map (fun i=>(i.zero,i.size,i.bytes))=some (some (.agg #[(.int .i64 0),(.int .i64 0),(.string ⟨#[]⟩),(.int .i64 0)]),4,40):=by kernel_rfl
theorem info50:(Tryz.prog.info? 50).map (fun i=>(i.zero,i.size,i.bytes))=some (some (.agg #[(.string ⟨#[]⟩),(.string ⟨#[]⟩)]),2,32):=by kernel_rfl
theorem k48_openM {w:World} {base:Nat} {ok:Nat→Prop} {x:S48} {cs:List Value} (h:k48.M w base ok x cs):cs=[.int .i64 x.f0,.int .i64 x.f1,.string x.f2,.int .i64 x.f3]:=by
  obtain ⟨_,_,rfl,rfl,⟨_,_,rfl,rfl,⟨_,_,rfl,rfl,rfl⟩⟩⟩:=h;exact rfl
theorem k48_mkM (w:World) (base:Nat) (ok:Nat→Prop) (x:S48):k48.M w base ok x [.int .i64 x.f0,.int .i64 x.f1,.string x.f2,.int .i64 x.f3]:=⟨[.int .i64 x.f0],[.int .i64 x.f1,.string x.f2,.int .i64 x.f3],rfl,rfl,⟨[.int .i64 x.f1],[.string x.f2,.int .i64 x.f3],rfl,rfl,⟨[.string x.f2],[.int .i64 x.f3],rfl,rfl,rfl⟩⟩⟩
theorem k50_openM {w:World} {base:Nat} {ok:Nat→Prop} {x:S50} {cs:List Value} (h:k50.M w base ok x cs):cs=[.string x.f0,.string x.f1]:=by
  obtain ⟨_,_,rfl,rfl,rfl⟩:=h;exact rfl
theorem k50_mkM (w:World) (base:Nat) (ok:Nat→Prop) (x:S50):k50.M w base ok x [.string x.f0,.string x.f1]:=⟨[.string x.f0],[.string x.f1],rfl,rfl,rfl⟩
structure S25 where
  f0:ByteArray
  f1:(List S48)
  f2:ByteArray
  f3:ByteArray
  f4:(List S50)
def z25:S25:=⟨(⟨#[]⟩:ByteArray),([]:List S48),(⟨#[]⟩:ByteArray),(⟨#[]⟩:ByteArray),([]:List S50)⟩
def k25:Kd S25:=Kd.iso (Kd.pair Kd.string (Kd.pair (Kd.slice 48 k48) (Kd.pair Kd.string (Kd.pair Kd.string (Kd.slice 50 k50))))) (fun x:S25=>(x.f0,x.f1,x.f2,x.f3,x.f4))
theorem k25_open {w:World} {x:S25} {cs:List Value} (h:k25.K w x cs):∃ A1 c1 A4 c4,cs=[.string x.f0,.slice A1 x.f1.length c1,.string x.f2,.string x.f3,.slice A4 x.f4.length c4]∧x.f1.length≤c1∧k48.C w A1 x.f1.length x.f1∧x.f4.length≤c4∧k50.C w A4 x.f4.length x.f4:=by
  obtain ⟨_,_,rfl,rfl,⟨_,_,rfl,⟨A1,c1,rfl,l1,g1⟩,⟨_,_,rfl,rfl,⟨_,_,rfl,rfl,⟨A4,c4,rfl,l4,g4⟩⟩⟩⟩⟩:=h;exact ⟨A1,c1,A4,c4,rfl,l1,g1,l4,g4⟩
theorem k25_mk (w:World) (x:S25) {A1:Option Addr} {c1:Nat} (l1:x.f1.length≤c1) (g1:k48.C w A1 x.f1.length x.f1) {A4:Option Addr} {c4:Nat} (l4:x.f4.length≤c4) (g4:k50.C w A4 x.f4.length x.f4):k25.K w x [.string x.f0,.slice A1 x.f1.length c1,.string x.f2,.string x.f3,.slice A4 x.f4.length c4]:=⟨[.string x.f0],[.slice A1 x.f1.length c1,.string x.f2,.string x.f3,.slice A4 x.f4.length c4],rfl,rfl,⟨[.slice A1 x.f1.length c1],[.string x.f2,.string x.f3,.slice A4 x.f4.length c4],rfl,⟨A1,c1,rfl,l1,g1⟩,⟨[.string x.f2],[.string x.f3,.slice A4 x.f4.length c4],rfl,rfl,⟨[.string x.f3],[.slice A4 x.f4.length c4],rfl,rfl,⟨A4,c4,rfl,l4,g4⟩⟩⟩⟩⟩
def rd_T25 (xs:List S25) (i:Int):S25:=xs.getD i.toNat z25
theorem at_T25 {w:World} {A:Option Addr} {n:Nat} {xs:List S25} (h:Kd.C k25 w A n xs) (i:Int) (h0:0≤i) (h1:i < n):∃ ad A1 c1 A4 c4,A=some ad∧w.cell? (ad.add (i.toNat * 5))=some (.string (rd_T25 xs i).f0)∧w.cell? ⟨(ad.add (i.toNat * 5)).block,(ad.add (i.toNat * 5)).off+1,none⟩=some (.slice A1 (rd_T25 xs i).f1.length c1)∧w.cell? ⟨(ad.add (i.toNat * 5)).block,(ad.add (i.toNat * 5)).off+2,none⟩=some (.string (rd_T25 xs i).f2)∧w.cell? ⟨(ad.add (i.toNat * 5)).block,(ad.add (i.toNat * 5)).off+3,none⟩=some (.string (rd_T25 xs i).f3)∧w.cell? ⟨(ad.add (i.toNat * 5)).block,(ad.add (i.toNat * 5)).off+4,none⟩=some (.slice A4 (rd_T25 xs i).f4.length c4)∧(rd_T25 xs i).f1.length≤c1∧k48.C w A1 (rd_T25 xs i).f1.length (rd_T25 xs i).f1∧(rd_T25 xs i).f4.length≤c4∧k50.C w A4 (rd_T25 xs i).f4.length (rd_T25 xs i).f4:=by
  obtain ⟨ad,c,e,_,hK,hc0⟩:=Kd.C_get h z25 i h0 h1;have hc:∀ j u,c[j]?=some u→w.cell? (ad.add (i.toNat * 5+j))=some u:=hc0;obtain ⟨A1,c1,A4,c4,rfl,l1,g1,l4,g4⟩:=k25_open hK;exact ⟨ad,A1,c1,A4,c4,e,hc 0 _ rfl,by rw [← add_field _ _ 1 (by omega)];exact hc 1 _ rfl,by rw [← add_field _ _ 2 (by omega)];exact hc 2 _ rfl,by rw [← add_field _ _ 3 (by omega)];exact hc 3 _ rfl,by rw [← add_field _ _ 4 (by omega)];exact hc 4 _ rfl,l1,g1,l4,g4⟩
def z73:S73:=⟨(0:Int),(⟨#[]⟩:ByteArray),(0:Int)⟩
theorem k73_open {w:World} {x:S73} {cs:List Value} (h:k73.K w x cs):cs=[.int .i64 x.f0,.string x.f1,.int .i64 x.f2]:=by
  obtain ⟨_,_,rfl,rfl,⟨_,_,rfl,rfl,rfl⟩⟩:=h;exact rfl
def rd_T73 (xs:List S73) (i:Int):S73:=xs.getD i.toNat z73
theorem at_T73 {w:World} {A:Option Addr} {n:Nat} {xs:List S73} (h:Kd.C k73 w A n xs) (i:Int) (h0:0≤i) (h1:i < n):∃ ad ,A=some ad∧w.cell? (ad.add (i.toNat * 3))=some (.int .i64 (rd_T73 xs i).f0)∧w.cell? ⟨(ad.add (i.toNat * 3)).block,(ad.add (i.toNat * 3)).off+1,none⟩=some (.string (rd_T73 xs i).f1)∧w.cell? ⟨(ad.add (i.toNat * 3)).block,(ad.add (i.toNat * 3)).off+2,none⟩=some (.int .i64 (rd_T73 xs i).f2):=by
  obtain ⟨ad,c,e,_,hK,hc0⟩:=Kd.C_get h z73 i h0 h1;have hc:∀ j u,c[j]?=some u→w.cell? (ad.add (i.toNat * 3+j))=some u:=hc0;obtain rfl:=k73_open hK;exact ⟨ad,e,hc 0 _ rfl,by rw [← add_field _ _ 1 (by omega)];exact hc 1 _ rfl,by rw [← add_field _ _ 2 (by omega)];exact hc 2 _ rfl⟩
theorem eqA48 (d:Nat) (w:World) (x0 y0 x1 y1:Int) (x2 y2:ByteArray) (x3 y3:Int) :
    (Op.equalIn (d+2) 48 (.agg #[.int .i64 x0,.int .i64 x1,.string x2,.int .i64 x3]) (.agg #[.int .i64 y0,.int .i64 y1,.string y2,.int .i64 y3])).run Tryz.prog w=.ok (x0 == y0 && (x1 == y1 && (x2.toList == y2.toList && (x3 == y3)))) w:=by
  refine eqA_of Tryz.underlying48 (by kernel_rfl) ?_;refine eqf_cons (by rfl) (by go_simp;rfl) (by go_simp;rfl) (by go_simp) ?_;refine eqf_cons (by rfl) (by go_simp;rfl) (by go_simp;rfl) (by go_simp) ?_;refine eqf_cons (by rfl) (by go_simp;rfl) (by go_simp;rfl) (by go_simp) ?_;exact eqf_last (by rfl) (by go_simp;rfl) (by go_simp;rfl) (by go_simp)
end Go.Proofs.YtkbgkekegjfkfaaGreatDoor.A
namespace Go.Proofs.YtkbgkekegjfkfaaGreatDoor.A
open Go.RowKit B WW WL WM
theorem zq41 {P:Prop} (h:P:=by repeat (first | exact (Kd.C_below HR1_4.out HB.out) | (with_reducible refine Kd.C_alloc ?_ _) | (with_reducible refine Kd.C_drewN ?_ _) | (with_reducible refine Kd.C_drew ?_))):P:=h
theorem zq42 {P:Prop} (h:P:=by (with_reducible repeat (first | refine blk_drewN ?_ _ | refine blk_drew ?_ | refine blk_alloc ?_ _));exact BK245.out):P:=h
theorem zq43 {P:Prop} (h:P:=by (with_reducible repeat (first | refine blk_drewN ?_ _ | refine blk_drew ?_ | refine blk_alloc ?_ _));exact BK246.out):P:=h
end Go.Proofs.YtkbgkekegjfkfaaGreatDoor.A
namespace Go.Proofs
open Go.Shelf
open Go.RowKit in
theorem Tryz.strings_Join (bk o c:Nat) (xs:List ByteArray) (sep:ByteArray) (w:World) (hcells:∀ (j:Nat) x,xs[j]?=some x→w.cell? ⟨bk,o+j,none⟩=some (.string x)) (hbk:bk < w.heap.size) (hN:xs.length≤140737488355328) (hcap:xs.length≤c) (hlen:(Lib.join (xs.map (·.data.toList)) sep.data.toList).length≤140737488355328) :
    Calls Tryz.prog 32 #[.slice (some ⟨bk,o,none⟩) xs.length c,.string sep] w fun e w'=>e=.returned (.string ⟨(Lib.join (xs.map (·.data.toList)) sep.data.toList).toArray⟩)∧Below w.heap.size w w':=Any.strings_Join Tryz.lays156 Tryz.Builder_Extra_156 bk o c xs sep w hcells hbk hN hcap hlen
open Go.RowKit Go.Lib in
theorem Tryz.strings_Contains (s sub:ByteArray) (m:Int) (w:World) (hs:s.size < 4294967281) (hm:w.cell? ⟨2,0,none⟩=some (.int .i64 m)) :
    Calls Tryz.prog 64 #[.string s,.string sub] w fun e w'=>e=.returned (.bool (Lib.contains s.data.toList sub.data.toList))∧w'=w:=Any.strings_Contains Tryz.lays144 s sub m w hs hm
open Go.RowKit Go.Lib in
theorem Tryz.strings_HasPrefix (s p:ByteArray) (w:World) :
    Calls Tryz.prog 66 #[.string s,.string p] w fun e w'=>e=.returned (.bool (Lib.hasPrefix s.data.toList p.data.toList))∧w'=w:=Any.strings_HasPrefix Tryz.lays99 s p w
end Go.Proofs
namespace Go.Proofs.YtkbgkekegjfkfaaGreatDoor.WW
open Go.RowKit
namespace Kd
theorem reps_scalar {α:Type} {enc:α→Value} (xs:List α):Reps (fun (x:α) (cs:List Value)=>cs=[enc x]) 1 xs (encs enc xs):=by
  refine ⟨by simp [encs],fun j p hj=>?_⟩;obtain ⟨hl,hp⟩:=List.getElem?_eq_some_iff.1 hj;have hl':j < (encs enc xs).length:=by rw [encs_length];exact hl
  rw [Nat.mul_one,List.drop_eq_getElem_cons hl'];simp [encs,hp]
theorem R_of_own {α:Type} {enc:α→Value} {h1:∀ x,(enc x).oneCell'=true} {e:Nat} {w:World} {base:Nat} {ok:Nat→Prop} {v:Value} {xs:List α} (ho:w.ownsRow base e 1 v xs.length (encs enc xs)) (hok:∀ k,v.ownBlock=some k→ok k):(scalar enc h1).R e w base ok v xs:=⟨hok,encs enc xs,ho,reps_scalar xs⟩
end Kd
end Go.Proofs.YtkbgkekegjfkfaaGreatDoor.WW
namespace Go.Proofs.YtkbgkekegjfkfaaGreatDoor.A
open Go.RowKit B WW WL WM
attribute [local go_sem] max2_int min2_int max_two min_two max_three min_three max_four min_four
set_option maxHeartbeats 8000000
set_option maxRecDepth 100000
def rules_First.l0:Nat→List (S25)→Int→Int→Int→Int→ByteArray→ByteArray→Option (Int)
 | 0,_,_,_,_,_,_,_=>none
 | k+1,x7,x8,x9,x157000,x157001,x157002,x157003=>if x9 < x8 then (if 0≤x9 then (if x9 < (x7.length:Int) then ((rules_Holds.f k ((rd_T25 x7 x9).f0) ((rd_T25 x7 x9).f1) ((rd_T25 x7 x9).f2) ((rd_T25 x7 x9).f3) ((rd_T25 x7 x9).f4) x157000 x157001 x157002 x157003).bind fun t159=>(if t159=true then (some x9) else (rules_First.l0 k x7 x8 (wrap64 (x9+1)) x157000 x157001 x157002 x157003))) else (none)) else (none)) else (some (-1))
def rules_First.f (k:Nat) (l0:List (S25)) (a1_0:Int) (a1_1:Int) (a1_2:ByteArray) (a1_3:ByteArray):Option (Int):=rules_First.l0 k l0 (l0.length:Int) 0 a1_0 a1_1 a1_2 a1_3
theorem strs_new (l:List ByteArray) (hl:l.length≤1000000) (W:World) (base:Nat) (hb:base≤W.heap.size):Kd.R Kd.string 9 (W.alloc (.cells (l.map Value.string).toArray 9)) base (fun _=>True) (.slice (some ⟨W.heap.size,0,none⟩) l.length l.length) l :=
 Kd.R_of_own ⟨by simp [encs],Or.inr ⟨W.heap.size,l.length,_,rfl,hb,blk_new _ _,Nat.le_refl _,by unfold maxLen;omega,by simp,by rw [Nat.mul_one];simp [encs];exact List.take_of_length_le (by simp)⟩⟩ (fun _ _=>trivial)
theorem strs_C (l:List ByteArray) (hl:l.length≤1000000) (W:World):Kd.C Kd.string (W.alloc (.cells (l.map Value.string).toArray 9)) (some ⟨W.heap.size,0,none⟩) l.length l :=
 (Kd.R_reads' (strs_new l hl W 0 (Nat.zero_le _))).2.2
end Go.Proofs.YtkbgkekegjfkfaaGreatDoor.A
namespace Go.Proofs.YtkbgkekegjfkfaaGreatDoor.WW
open Go.RowKit
section
variable {P:Program} {ops:Array Oper} {rest:List Oper} {o:Oper} {a:Act} {Q:Exit→Act→World→Prop} {W:World}
theorem gate_guard (hw:Region.wanted o (yielded ops a.tmps)=true) (h:wpList P ops Q ({ o with guard:=none } :: rest) a W):wpList P ops Q (o :: rest) a W:=by
  have h1:Region.wanted { o with guard:=none } (yielded ops a.tmps)=true:=rfl;unfold wpList at h ⊢;rw [if_pos h1] at h;rw [if_pos hw];exact h
end
end Go.Proofs.YtkbgkekegjfkfaaGreatDoor.WW
namespace Go.Proofs.YtkbgkekegjfkfaaGreatDoor.A
open Go.RowKit B WW WL WM
attribute [local go_sem] max2_int min2_int max_two min_two max_three min_three max_four min_four
set_option maxHeartbeats 8000000
set_option maxRecDepth 100000
attribute [local go_sem high] eqA50
def rf09_Same.l0:Nat→List (S50)→List (S50)→Int→Option (Bool)
 | 0,_,_,_=>none
 | k+1,x0,x1,x5=>if x5 < (x0.length:Int) then (if 0≤x5 then (if x5 < (x1.length:Int) then (if (!((((rd_T50 x0 x5).f0).toList) == (((rd_T50 x1 x5).f0).toList)) || (!((((rd_T50 x0 x5).f1).toList) == (((rd_T50 x1 x5).f1).toList))))=true then (some false) else (rf09_Same.l0 k x0 x1 (wrap64 (x5+1)))) else (none)) else (none)) else (some true)
def rf09_Same.f (k:Nat) (l0:List (S50)) (l1:List (S50)):Option (Bool):=if (l0.length:Int)=(l1.length:Int) then (rf09_Same.l0 k l0 l1 0) else (some false)
theorem rf09_Same.calls (k:Nat) (A0:Option Addr) (c0:Nat) (l0:List (S50)) (A1:Option Addr) (c1:Nat) (l1:List (S50)) (r:Bool) (w:World) (hr0:Kd.C k50 w A0 l0.length l0) (hc0:l0.length≤c0) (hr1:Kd.C k50 w A1 l1.length l1) (hc1:l1.length≤c1) (h:rf09_Same.f k l0 l1=some r) :
  Calls Tryz.prog 42 #[.slice A0 l0.length c0,.slice A1 l1.length c1] w fun e w'=>e=.returned (.bool r)∧Drawn0 w w':=by
 have hu50:=Tryz.underlying50;have HR0:=sd hr0;have HC0:=sd hc0;clear hr0 hc0;have HR1:=sd hr1;have HC1:=sd hc1;clear hr1 hc1;have H:=h;clear h;unfold rf09_Same.f at H;replace H:=ifI H;rcases H with ⟨c3,H⟩ | ⟨c3,H⟩
 ·obtain ⟨c3b0,c3b1⟩:=eqI c3;have c3b2:(l0.length == l1.length)=true:=by first | simpa using c3 | (simp at c3 ⊢;omega)
  clear c3;have H':=sd H;clear H;go_enter Tryz.func42,Tryz.ntmps42
  go_wp2
  repeat (go_quiet (fail);try go_wp2)
  go_loopg [5] k (fun kq v5 w'=>∃ (x5_1:Int),v5=.int .i64 x5_1∧Aside0 (rf09_Same.l0 kq l0 l1 x5_1=some r)∧Aside0 (kq≤k)∧Drawn0 w w')
  case atStart=>exact ⟨(0),zq7,H',⟨Nat.le_refl _⟩,zq16⟩
  case round =>
   clear H';try clear c1
   try clear p2
   try clear c3
   try clear c3b0
   try clear c3b1
   try clear c3b2
   obtain ⟨x5_1,rfl,HA,HK1,⟨m1,rfl⟩⟩:=hrel
   cases gk with
   | zero=>exact absurd HA.out (by simp [rf09_Same.l0])
   | succ k1 =>
    have H:=HA.out;clear HA;simp only [rf09_Same.l0] at H
    replace H:=ifI H;rcases H with ⟨c4,H⟩ | ⟨c4,H⟩
    ·have c4b0:decide (x5_1 < (l0.length:Int))=true:=decide_eq_true c4;clear c4;replace H:=ifI H;rcases H with ⟨c5,H⟩ | ⟨c5,H⟩
     ·have c5b0:decide (0≤x5_1)=true:=decide_eq_true c5;clear c5;replace H:=ifI H;rcases H with ⟨c6,H⟩ | ⟨c6,H⟩
      ·have c6b0:decide (x5_1 < (l1.length:Int))=true:=decide_eq_true c6;clear c6;replace H:=ifI H;rcases H with ⟨c7,H⟩ | ⟨c7,H⟩
       ·have c7b0:(!((((rd_T50 l0 x5_1).f0).toList) == (((rd_T50 l1 x5_1).f0).toList)) || (!((((rd_T50 l0 x5_1).f1).toList) == (((rd_T50 l1 x5_1).f1).toList))))=true:=c7;clear c7;obtain rfl:=Option.some.inj H;have p243:0≤(x5_1:Int):=od;have q243:x5_1 < (l0.length:Int):=od;obtain ⟨ad243,e243,hx243_0,hx243_1⟩:=at_T50 HR0.out x5_1 p243 q243
        cases e243
        replace p243:=eq_true p243;replace q243:=eq_true q243;have p244:0≤(x5_1:Int):=od;have q244:x5_1 < (l1.length:Int):=od;obtain ⟨ad244,e244,hx244_0,hx244_1⟩:=at_T50 HR1.out x5_1 p244 q244
        cases e244
        replace p244:=eq_true p244;replace q244:=eq_true q244;go_wp2
        repeat (go_quiet (fail);try go_wp2)
        go_ret
        exact ⟨zq7,zq16⟩
       have c7b0:(!((((rd_T50 l0 x5_1).f0).toList) == (((rd_T50 l1 x5_1).f0).toList)) || (!((((rd_T50 l0 x5_1).f1).toList) == (((rd_T50 l1 x5_1).f1).toList))))=false:=by simpa using c7
       clear c7;have H':=sd H;clear H;have p243:0≤(x5_1:Int):=od;have q243:x5_1 < (l0.length:Int):=od;obtain ⟨ad243,e243,hx243_0,hx243_1⟩:=at_T50 HR0.out x5_1 p243 q243
       cases e243
       replace p243:=eq_true p243;replace q243:=eq_true q243;have p244:0≤(x5_1:Int):=od;have q244:x5_1 < (l1.length:Int):=od;obtain ⟨ad244,e244,hx244_0,hx244_1⟩:=at_T50 HR1.out x5_1 p244 q244
       cases e244
       replace p244:=eq_true p244;replace q244:=eq_true q244;go_wp2
       repeat (go_quiet (fail);try go_wp2)
       go_roundg k1
       case measure=>have:=HK1.out;omega
       case rel=>exact ⟨(wrap64 (x5_1+1)),zq7,H',⟨by have:=HK1.out;omega⟩,zq16⟩
      exact absurd H (by simp)
     exact absurd H (by simp)
    have c4b0:decide (x5_1 < (l0.length:Int))=false:=decide_eq_false c4;clear c4;obtain rfl:=Option.some.inj H;go_wp2
    repeat (go_quiet (fail);try go_wp2)
    go_ret
    exact ⟨zq7,zq16⟩
 obtain ⟨c3b0,c3b1⟩:=neI c3;have c3b2:(l0.length == l1.length)=false:=by first | simpa using c3 | (simp at c3 ⊢;omega)
 obtain rfl:=Option.some.inj H;go_enter Tryz.func42,Tryz.ntmps42
 go_wp2
 repeat (go_quiet (fail);try go_wp2)
 go_ret
 exact ⟨zq7,zq16⟩
end Go.Proofs.YtkbgkekegjfkfaaGreatDoor.A
namespace Go.Proofs.YtkbgkekegjfkfaaGreatDoor.A
open Go.RowKit B WW WL WM
attribute [local go_sem] max2_int min2_int max_two min_two max_three min_three max_four min_four
set_option maxHeartbeats 8000000
set_option maxRecDepth 100000
attribute [local go_sem high] eqA48
mutual
def rf48_Same.j0:Nat→Bool→ByteArray→List (S48)→ByteArray→ByteArray→List (S50)→ByteArray→List (S48)→ByteArray→ByteArray→List (S50)→Option (Bool)
 | 0,_,_,_,_,_,_,_,_,_,_,_=>none
 | k+1,x41,x246000,x246001,x246002,x246003,x246004,x247000,x247001,x247002,x247003,x247004=>if x41=true then (some false) else (rf48_Same.l0 k 0 x246000 x246001 x246002 x246003 x246004 x247000 x247001 x247002 x247003 x247004)
def rf48_Same.l0:Nat→Int→ByteArray→List (S48)→ByteArray→ByteArray→List (S50)→ByteArray→List (S48)→ByteArray→ByteArray→List (S50)→Option (Bool)
 | 0,_,_,_,_,_,_,_,_,_,_,_=>none
 | k+1,x5,x246000,x246001,x246002,x246003,x246004,x247000,x247001,x247002,x247003,x247004=>if x5 < (x246001.length:Int) then (if 0≤x5 then (if x5 < (x247001.length:Int) then (if (!(((rd_T48 x246001 x5).f0) == ((rd_T48 x247001 x5).f0)) || (!(((rd_T48 x246001 x5).f1) == ((rd_T48 x247001 x5).f1)) || (!((((rd_T48 x246001 x5).f2).toList) == (((rd_T48 x247001 x5).f2).toList)) || (!(((rd_T48 x246001 x5).f3) == ((rd_T48 x247001 x5).f3))))))=true then (some false) else (rf48_Same.l0 k (wrap64 (x5+1)) x246000 x246001 x246002 x246003 x246004 x247000 x247001 x247002 x247003 x247004)) else (none)) else (none)) else (some true)
end
def rf48_Same.f (k:Nat) (a0_0:ByteArray) (l0_1:List (S48)) (a0_2:ByteArray) (a0_3:ByteArray) (l0_4:List (S50)) (a1_0:ByteArray) (l1_1:List (S48)) (a1_2:ByteArray) (a1_3:ByteArray) (l1_4:List (S50)):Option (Bool):=if a0_0.toList=a1_0.toList then (if a0_2.toList=a1_2.toList then (if a0_3.toList=a1_3.toList then (if (l0_1.length:Int)=(l1_1.length:Int) then ((rf09_Same.f k l0_4 l1_4).bind fun t247=>(rf48_Same.j0 k (!t247) a0_0 l0_1 a0_2 a0_3 l0_4 a1_0 l1_1 a1_2 a1_3 l1_4)) else (rf48_Same.j0 k true a0_0 l0_1 a0_2 a0_3 l0_4 a1_0 l1_1 a1_2 a1_3 l1_4)) else (rf48_Same.j0 k true a0_0 l0_1 a0_2 a0_3 l0_4 a1_0 l1_1 a1_2 a1_3 l1_4)) else (rf48_Same.j0 k true a0_0 l0_1 a0_2 a0_3 l0_4 a1_0 l1_1 a1_2 a1_3 l1_4)) else (rf48_Same.j0 k true a0_0 l0_1 a0_2 a0_3 l0_4 a1_0 l1_1 a1_2 a1_3 l1_4)
theorem rf48_Same.calls (k:Nat) (a0_0:ByteArray) (A0_1:Option Addr) (c0_1:Nat) (l0_1:List (S48)) (a0_2 a0_3:ByteArray) (A0_4:Option Addr) (c0_4:Nat) (l0_4:List (S50)) (a1_0:ByteArray) (A1_1:Option Addr) (c1_1:Nat) (l1_1:List (S48)) (a1_2 a1_3:ByteArray) (A1_4:Option Addr) (c1_4:Nat) (l1_4:List (S50)) (r:Bool) (w:World) (hr0_1:Kd.C k48 w A0_1 l0_1.length l0_1) (hc0_1:l0_1.length≤c0_1) (hr0_4:Kd.C k50 w A0_4 l0_4.length l0_4) (hc0_4:l0_4.length≤c0_4) (hr1_1:Kd.C k48 w A1_1 l1_1.length l1_1) (hc1_1:l1_1.length≤c1_1) (hr1_4:Kd.C k50 w A1_4 l1_4.length l1_4) (hc1_4:l1_4.length≤c1_4) (h:rf48_Same.f k a0_0 l0_1 a0_2 a0_3 l0_4 a1_0 l1_1 a1_2 a1_3 l1_4=some r) :
  Calls Tryz.prog 19 #[.agg #[.string a0_0,.slice A0_1 l0_1.length c0_1,.string a0_2,.string a0_3,.slice A0_4 l0_4.length c0_4],.agg #[.string a1_0,.slice A1_1 l1_1.length c1_1,.string a1_2,.string a1_3,.slice A1_4 l1_4.length c1_4]] w fun e w'=>e=.returned (.bool r)∧Below w.heap.size w w':=by
 have hu25:=Tryz.underlying25;have hu48:=Tryz.underlying48;have HR0_1:=sd hr0_1;have HC0_1:=sd hc0_1;clear hr0_1 hc0_1;have HR0_4:=sd hr0_4;have HC0_4:=sd hc0_4;clear hr0_4 hc0_4;have HR1_1:=sd hr1_1;have HC1_1:=sd hc1_1;clear hr1_1 hc1_1;have HR1_4:=sd hr1_4;have HC1_4:=sd hc1_4;clear hr1_4 hc1_4;have HB:=sd (Below.refl w.heap.size w);have H:=h;clear h;unfold rf48_Same.f at H;have HC3:=sd H;clear H;go_enter Tryz.func19,Tryz.ntmps19
 go_upto_region 1 with (first | ((with_reducible refine gate_dst (N:=2) rfl ?_);(try (refine gate_guard (by rfl) ?_;dsimp only));refine bxA 2 #[.string a0_0,.slice A0_1 l0_1.length c0_1,.string a0_2,.string a0_3,.slice A0_4 l0_4.length c0_4] 25 ?_;intro gb245 hg w4 hbox hb;have BK245:=sd (hbox);have GW245:=gem hg HB;have GE245:=GW245;replace HB:=hbm HB hb;clear hb hbox hg) | ((with_reducible refine gate_dst (N:=3) rfl ?_);(try (refine gate_guard (by rfl) ?_;dsimp only));refine bxA 3 #[.string a1_0,.slice A1_1 l1_1.length c1_1,.string a1_2,.string a1_3,.slice A1_4 l1_4.length c1_4] 25 ?_;intro gb246 hg w5 hbox hb;have BK246:=sd (hbox);have GW246:=gem hg HB;have GE246:=GW246;have NB245_246:=nlm hg BK245;have NB246_245:=ngm hg BK245;replace BK245:=bkm BK245 hb;replace HB:=hbm HB hb;clear hb hbox hg))
 repeat (go_quiet (first | ((with_reducible refine gate_dst (N:=2) rfl ?_);(try (refine gate_guard (by rfl) ?_;dsimp only));refine bxA 2 #[.string a0_0,.slice A0_1 l0_1.length c0_1,.string a0_2,.string a0_3,.slice A0_4 l0_4.length c0_4] 25 ?_;intro gb245 hg w4 hbox hb;have BK245:=sd (hbox);have GW245:=gem hg HB;have GE245:=GW245;replace HB:=hbm HB hb;clear hb hbox hg) | ((with_reducible refine gate_dst (N:=3) rfl ?_);(try (refine gate_guard (by rfl) ?_;dsimp only));refine bxA 3 #[.string a1_0,.slice A1_1 l1_1.length c1_1,.string a1_2,.string a1_3,.slice A1_4 l1_4.length c1_4] 25 ?_;intro gb246 hg w5 hbox hb;have BK246:=sd (hbox);have GW246:=gem hg HB;have GE246:=GW246;have NB245_246:=nlm hg BK245;have NB246_245:=ngm hg BK245;replace BK245:=bkm BK245 hb;replace HB:=hbm HB hb;clear hb hbox hg));go_upto_region 1 with (first | ((with_reducible refine gate_dst (N:=2) rfl ?_);(try (refine gate_guard (by rfl) ?_;dsimp only));refine bxA 2 #[.string a0_0,.slice A0_1 l0_1.length c0_1,.string a0_2,.string a0_3,.slice A0_4 l0_4.length c0_4] 25 ?_;intro gb245 hg w4 hbox hb;have BK245:=sd (hbox);have GW245:=gem hg HB;have GE245:=GW245;replace HB:=hbm HB hb;clear hb hbox hg) | ((with_reducible refine gate_dst (N:=3) rfl ?_);(try (refine gate_guard (by rfl) ?_;dsimp only));refine bxA 3 #[.string a1_0,.slice A1_1 l1_1.length c1_1,.string a1_2,.string a1_3,.slice A1_4 l1_4.length c1_4] 25 ?_;intro gb246 hg w5 hbox hb;have BK246:=sd (hbox);have GW246:=gem hg HB;have GE246:=GW246;have NB245_246:=nlm hg BK245;have NB246_245:=ngm hg BK245;replace BK245:=bkm BK245 hb;replace HB:=hbm HB hb;clear hb hbox hg)))
 (try simp only [Act.put,List.setIfInBounds_toArray,List.set_cons_zero,List.set_cons_succ])
 go_cut [41] (fun v41 wc=>∃ (kq:Nat) (x41_2:Bool),v41=.bool x41_2∧Aside0 (rf48_Same.j0 kq x41_2 a0_0 l0_1 a0_2 a0_3 l0_4 a1_0 l1_1 a1_2 a1_3 l1_4=some r)∧Aside0 (kq≤k)∧Aside0 (wc.heap[gb245]?=some (.cells #[.string a0_0,(.slice A0_1 l0_1.length c0_1),.string a0_2,.string a0_3,(.slice A0_4 l0_4.length c0_4)] 25 (0,0)))∧Aside0 (wc.heap[gb246]?=some (.cells #[.string a1_0,(.slice A1_1 l1_1.length c1_1),.string a1_2,.string a1_3,(.slice A1_4 l1_4.length c1_4)] 25 (0,0)))∧Aside0 (Below w.heap.size w wc))
 case first =>
  have H:=HC3.out;clear HC3;replace H:=ifI H;rcases H with ⟨c6,H⟩ | ⟨c6,H⟩
  ·obtain ⟨c6b0,c6b1⟩:=eqI c6;clear c6;(first | rw [c6b0] | (simp only [i64_w,i32_w];rw [c6b0]) | skip)
   replace H:=ifI H;rcases H with ⟨c7,H⟩ | ⟨c7,H⟩
   ·obtain ⟨c7b0,c7b1⟩:=eqI c7;clear c7;replace H:=ifI H;rcases H with ⟨c8,H⟩ | ⟨c8,H⟩
    ·obtain ⟨c8b0,c8b1⟩:=eqI c8;clear c8;replace H:=ifI H;rcases H with ⟨c9,H⟩ | ⟨c9,H⟩
     ·obtain ⟨c9b0,c9b1⟩:=eqI c9;have c9b2:(l0_1.length == l1_1.length)=true:=by first | simpa using c9 | (simp at c9 ⊢;omega)
      clear c9;replace H:=bdI H;obtain ⟨t247,A10,H⟩:=H;(try dsimp only at H)
      have H':=sd H;clear H;have hnb11:=NB245_246.out;have hnc11:=NB246_245.out;obtain ⟨_,_,_,_,_,_,_,_,_,_⟩:=bk5 BK245;obtain ⟨_,_,_,_,_,_,_,_,_,_⟩:=bk5 BK246;go_wp2_with (first | (go_at_call 42;(with_reducible refine (rf09_Same.calls k _ _ l0_4 _ _ l1_4 t247 _ ?side1 ?side2 ?side3 ?side4 A10.out).mono ?_);(case side1=>exact zq40);(case side2=>exact HC0_4.out);(case side3=>exact zq41);(case side4=>exact HC1_4.out);rintro e w' ⟨rfl,⟨nd,rfl⟩⟩;(try first | exact ⟨rfl,_,World.drewN_drewN _ _ _⟩ | exact ⟨rfl,_,Eq.trans (World.drewN_drewN _ _ _) (congrArg (World.drewN _) (Nat.add_assoc _ _ _))⟩)))
      repeat (go_quiet (first | (go_at_call 42;(with_reducible refine (rf09_Same.calls k _ _ l0_4 _ _ l1_4 t247 _ ?side1 ?side2 ?side3 ?side4 A10.out).mono ?_);(case side1=>exact zq40);(case side2=>exact HC0_4.out);(case side3=>exact zq41);(case side4=>exact HC1_4.out);rintro e w' ⟨rfl,⟨nd,rfl⟩⟩;(try first | exact ⟨rfl,_,World.drewN_drewN _ _ _⟩ | exact ⟨rfl,_,Eq.trans (World.drewN_drewN _ _ _) (congrArg (World.drewN _) (Nat.add_assoc _ _ _))⟩)));try go_wp2_with (first | (go_at_call 42;(with_reducible refine (rf09_Same.calls k _ _ l0_4 _ _ l1_4 t247 _ ?side1 ?side2 ?side3 ?side4 A10.out).mono ?_);(case side1=>exact zq40);(case side2=>exact HC0_4.out);(case side3=>exact zq41);(case side4=>exact HC1_4.out);rintro e w' ⟨rfl,⟨nd,rfl⟩⟩;(try first | exact ⟨rfl,_,World.drewN_drewN _ _ _⟩ | exact ⟨rfl,_,Eq.trans (World.drewN_drewN _ _ _) (congrArg (World.drewN _) (Nat.add_assoc _ _ _))⟩))))
      go_meet
      case rel=>exact ⟨_,(!t247),zq7,H',⟨by first | omega | exact Nat.le_refl _⟩,⟨zq42⟩,⟨zq43⟩,⟨zq44⟩⟩
     obtain ⟨c9b0,c9b1⟩:=neI c9;have c9b2:(l0_1.length == l1_1.length)=false:=by first | simpa using c9 | (simp at c9 ⊢;omega)
     have H':=sd H;clear H;have hnb14:=NB245_246.out;have hnc14:=NB246_245.out;obtain ⟨_,_,_,_,_,_,_,_,_,_⟩:=bk5 BK245;obtain ⟨_,_,_,_,_,_,_,_,_,_⟩:=bk5 BK246;go_wp2
     repeat (go_quiet (fail);try go_wp2)
     go_meet
     case rel=>exact ⟨_,(true),zq7,H',⟨by first | omega | exact Nat.le_refl _⟩,⟨zq42⟩,⟨zq43⟩,⟨zq44⟩⟩
    obtain ⟨c8b0,c8b1⟩:=neI c8;have H':=sd H;clear H;have hnb17:=NB245_246.out;have hnc17:=NB246_245.out;obtain ⟨_,_,_,_,_,_,_,_,_,_⟩:=bk5 BK245;obtain ⟨_,_,_,_,_,_,_,_,_,_⟩:=bk5 BK246;go_wp2
    repeat (go_quiet (fail);try go_wp2)
    go_meet
    case rel=>exact ⟨_,(true),zq7,H',⟨by first | omega | exact Nat.le_refl _⟩,⟨zq42⟩,⟨zq43⟩,⟨zq44⟩⟩
   obtain ⟨c7b0,c7b1⟩:=neI c7;have H':=sd H;clear H;have hnb20:=NB245_246.out;have hnc20:=NB246_245.out;obtain ⟨_,_,_,_,_,_,_,_,_,_⟩:=bk5 BK245;obtain ⟨_,_,_,_,_,_,_,_,_,_⟩:=bk5 BK246;go_wp2
   repeat (go_quiet (fail);try go_wp2)
   go_meet
   case rel=>exact ⟨_,(true),zq7,H',⟨by first | omega | exact Nat.le_refl _⟩,⟨zq42⟩,⟨zq43⟩,⟨zq44⟩⟩
  obtain ⟨c6b0,c6b1⟩:=neI c6;(first | rw [c6b0] | (simp only [i64_w,i32_w];rw [c6b0]) | skip)
  have H':=sd H;clear H;have hnb23:=NB245_246.out;have hnc23:=NB246_245.out;obtain ⟨_,_,_,_,_,_,_,_,_,_⟩:=bk5 BK245;obtain ⟨_,_,_,_,_,_,_,_,_,_⟩:=bk5 BK246;go_wp2
  repeat (go_quiet (fail);try go_wp2)
  go_meet
  case rel=>exact ⟨_,(true),zq7,H',⟨by first | omega | exact Nat.le_refl _⟩,⟨zq42⟩,⟨zq43⟩,⟨zq44⟩⟩
 case rest =>
  clear HC3;try clear c1
  try clear c2
  try clear p2
  try clear c6
  try clear c6b0
  try clear c6b1
  try clear c7
  try clear c7b0
  try clear c7b1
  try clear c8
  try clear c8b0
  try clear c8b1
  try clear c9
  try clear c9b0
  try clear c9b1
  try clear c9b2
  try clear c11
  try clear c14
  try clear c17
  try clear c19
  try clear c20
  try clear c23
  try clear hcz12_0
  try clear hcz12_1
  try clear hcz12_2
  try clear hcz12_3
  try clear hcz12_4
  try clear hcz13_0
  try clear hcz13_1
  try clear hcz13_2
  try clear hcz13_3
  try clear hcz13_4
  try clear hcz15_0
  try clear hcz15_1
  try clear hcz15_2
  try clear hcz15_3
  try clear hcz15_4
  try clear hcz16_0
  try clear hcz16_1
  try clear hcz16_2
  try clear hcz16_3
  try clear hcz16_4
  try clear hcz18_0
  try clear hcz18_1
  try clear hcz18_2
  try clear hcz18_3
  try clear hcz18_4
  try clear hcz19_0
  try clear hcz19_1
  try clear hcz19_2
  try clear hcz19_3
  try clear hcz19_4
  try clear hcz21_0
  try clear hcz21_1
  try clear hcz21_2
  try clear hcz21_3
  try clear hcz21_4
  try clear hcz22_0
  try clear hcz22_1
  try clear hcz22_2
  try clear hcz22_3
  try clear hcz22_4
  try clear hcz24_0
  try clear hcz24_1
  try clear hcz24_2
  try clear hcz24_3
  try clear hcz24_4
  try clear hcz25_0
  try clear hcz25_1
  try clear hcz25_2
  try clear hcz25_3
  try clear hcz25_4
  try clear hfz12_0
  try clear hfz12_1
  try clear hfz12_2
  try clear hfz12_3
  try clear hfz12_4
  try clear hfz13_0
  try clear hfz13_1
  try clear hfz13_2
  try clear hfz13_3
  try clear hfz13_4
  try clear hfz15_0
  try clear hfz15_1
  try clear hfz15_2
  try clear hfz15_3
  try clear hfz15_4
  try clear hfz16_0
  try clear hfz16_1
  try clear hfz16_2
  try clear hfz16_3
  try clear hfz16_4
  try clear hfz18_0
  try clear hfz18_1
  try clear hfz18_2
  try clear hfz18_3
  try clear hfz18_4
  try clear hfz19_0
  try clear hfz19_1
  try clear hfz19_2
  try clear hfz19_3
  try clear hfz19_4
  try clear hfz21_0
  try clear hfz21_1
  try clear hfz21_2
  try clear hfz21_3
  try clear hfz21_4
  try clear hfz22_0
  try clear hfz22_1
  try clear hfz22_2
  try clear hfz22_3
  try clear hfz22_4
  try clear hfz24_0
  try clear hfz24_1
  try clear hfz24_2
  try clear hfz24_3
  try clear hfz24_4
  try clear hfz25_0
  try clear hfz25_1
  try clear hfz25_2
  try clear hfz25_3
  try clear hfz25_4
  obtain ⟨kq,x41_2,rfl,HA,HJ2,BK245,BK246,HB⟩:=hcut
  cases kq with
  | zero=>exact absurd HA.out (by simp [rf48_Same.j0])
  | succ kj2 =>
   have H:=HA.out;clear HA;simp only [rf48_Same.j0] at H
   by_cases c26:x41_2=true
   ·subst c26;rw [if_pos rfl] at H;obtain rfl:=Option.some.inj H;go_wp2
    repeat (go_quiet (fail);try go_wp2)
    go_ret
    exact ⟨zq4,zq44⟩
   replace c26:=Bool.eq_false_iff.mpr c26;subst c26;rw [if_neg Bool.false_ne_true] at H;have H':=sd H;clear H;go_wp2
   repeat (go_quiet (fail);try go_wp2)
   go_loopg [5] kj2 (fun kq v5 w'=>∃ (x5_2:Int),v5=.int .i64 x5_2∧Aside0 (rf48_Same.l0 kq x5_2 a0_0 l0_1 a0_2 a0_3 l0_4 a1_0 l1_1 a1_2 a1_3 l1_4=some r)∧Aside0 (kq≤kj2)∧Aside0 (w'.heap[gb245]?=some (.cells #[.string a0_0,(.slice A0_1 l0_1.length c0_1),.string a0_2,.string a0_3,(.slice A0_4 l0_4.length c0_4)] 25 (0,0)))∧Aside0 (w'.heap[gb246]?=some (.cells #[.string a1_0,(.slice A1_1 l1_1.length c1_1),.string a1_2,.string a1_3,(.slice A1_4 l1_4.length c1_4)] 25 (0,0)))∧Aside0 (Below w.heap.size w w'))
   case atStart=>exact ⟨(0),zq7,H',⟨Nat.le_refl _⟩,⟨zq42⟩,⟨zq43⟩,⟨zq44⟩⟩
   case round =>
    clear H';try clear c1
    try clear c2
    try clear p2
    try clear c6
    try clear c6b0
    try clear c6b1
    try clear c7
    try clear c7b0
    try clear c7b1
    try clear c8
    try clear c8b0
    try clear c8b1
    try clear c9
    try clear c9b0
    try clear c9b1
    try clear c9b2
    try clear c11
    try clear c14
    try clear c17
    try clear c19
    try clear c20
    try clear c23
    try clear c26
    try clear hcz12_0
    try clear hcz12_1
    try clear hcz12_2
    try clear hcz12_3
    try clear hcz12_4
    try clear hcz13_0
    try clear hcz13_1
    try clear hcz13_2
    try clear hcz13_3
    try clear hcz13_4
    try clear hcz15_0
    try clear hcz15_1
    try clear hcz15_2
    try clear hcz15_3
    try clear hcz15_4
    try clear hcz16_0
    try clear hcz16_1
    try clear hcz16_2
    try clear hcz16_3
    try clear hcz16_4
    try clear hcz18_0
    try clear hcz18_1
    try clear hcz18_2
    try clear hcz18_3
    try clear hcz18_4
    try clear hcz19_0
    try clear hcz19_1
    try clear hcz19_2
    try clear hcz19_3
    try clear hcz19_4
    try clear hcz21_0
    try clear hcz21_1
    try clear hcz21_2
    try clear hcz21_3
    try clear hcz21_4
    try clear hcz22_0
    try clear hcz22_1
    try clear hcz22_2
    try clear hcz22_3
    try clear hcz22_4
    try clear hcz24_0
    try clear hcz24_1
    try clear hcz24_2
    try clear hcz24_3
    try clear hcz24_4
    try clear hcz25_0
    try clear hcz25_1
    try clear hcz25_2
    try clear hcz25_3
    try clear hcz25_4
    try clear hfz12_0
    try clear hfz12_1
    try clear hfz12_2
    try clear hfz12_3
    try clear hfz12_4
    try clear hfz13_0
    try clear hfz13_1
    try clear hfz13_2
    try clear hfz13_3
    try clear hfz13_4
    try clear hfz15_0
    try clear hfz15_1
    try clear hfz15_2
    try clear hfz15_3
    try clear hfz15_4
    try clear hfz16_0
    try clear hfz16_1
    try clear hfz16_2
    try clear hfz16_3
    try clear hfz16_4
    try clear hfz18_0
    try clear hfz18_1
    try clear hfz18_2
    try clear hfz18_3
    try clear hfz18_4
    try clear hfz19_0
    try clear hfz19_1
    try clear hfz19_2
    try clear hfz19_3
    try clear hfz19_4
    try clear hfz21_0
    try clear hfz21_1
    try clear hfz21_2
    try clear hfz21_3
    try clear hfz21_4
    try clear hfz22_0
    try clear hfz22_1
    try clear hfz22_2
    try clear hfz22_3
    try clear hfz22_4
    try clear hfz24_0
    try clear hfz24_1
    try clear hfz24_2
    try clear hfz24_3
    try clear hfz24_4
    try clear hfz25_0
    try clear hfz25_1
    try clear hfz25_2
    try clear hfz25_3
    try clear hfz25_4
    try clear p2
    obtain ⟨x5_2,rfl,HA,HK2,BK245,BK246,HB⟩:=hrel
    cases gk with
    | zero=>exact absurd HA.out (by simp [rf48_Same.l0])
    | succ k2 =>
     have H:=HA.out;clear HA;simp only [rf48_Same.l0] at H
     replace H:=ifI H;rcases H with ⟨c27,H⟩ | ⟨c27,H⟩
     ·have c27b0:decide (x5_2 < (l0_1.length:Int))=true:=decide_eq_true c27;clear c27;replace H:=ifI H;rcases H with ⟨c28,H⟩ | ⟨c28,H⟩
      ·have c28b0:decide (0≤x5_2)=true:=decide_eq_true c28;clear c28;replace H:=ifI H;rcases H with ⟨c29,H⟩ | ⟨c29,H⟩
       ·have c29b0:decide (x5_2 < (l1_1.length:Int))=true:=decide_eq_true c29;clear c29;replace H:=ifI H;rcases H with ⟨c30,H⟩ | ⟨c30,H⟩
        ·have c30b0:(!(((rd_T48 l0_1 x5_2).f0) == ((rd_T48 l1_1 x5_2).f0)) || (!(((rd_T48 l0_1 x5_2).f1) == ((rd_T48 l1_1 x5_2).f1)) || (!((((rd_T48 l0_1 x5_2).f2).toList) == (((rd_T48 l1_1 x5_2).f2).toList)) || (!(((rd_T48 l0_1 x5_2).f3) == ((rd_T48 l1_1 x5_2).f3))))))=true:=c30;clear c30;obtain rfl:=Option.some.inj H;have hnb31:=NB245_246.out;have hnc31:=NB246_245.out;obtain ⟨_,_,_,_,_,_,_,_,_,_⟩:=bk5 BK245;have p248:0≤(x5_2:Int):=od;have q248:x5_2 < (l0_1.length:Int):=od;obtain ⟨ad248,e248,hx248_0,hx248_1,hx248_2,hx248_3⟩:=at_T48 HR0_1.out x5_2 p248 q248
         cases e248
         replace hx248_0:=(HB.out.cell (World.block_lt_of_cell? w _ hx248_0)).trans hx248_0;replace hx248_1:=(HB.out.cell (World.block_lt_of_cell? w _ hx248_1)).trans hx248_1;replace hx248_2:=(HB.out.cell (World.block_lt_of_cell? w _ hx248_2)).trans hx248_2;replace hx248_3:=(HB.out.cell (World.block_lt_of_cell? w _ hx248_3)).trans hx248_3;replace p248:=eq_true p248;replace q248:=eq_true q248;obtain ⟨_,_,_,_,_,_,_,_,_,_⟩:=bk5 BK246;have p249:0≤(x5_2:Int):=od;have q249:x5_2 < (l1_1.length:Int):=od;obtain ⟨ad249,e249,hx249_0,hx249_1,hx249_2,hx249_3⟩:=at_T48 HR1_1.out x5_2 p249 q249
         cases e249
         replace hx249_0:=(HB.out.cell (World.block_lt_of_cell? w _ hx249_0)).trans hx249_0;replace hx249_1:=(HB.out.cell (World.block_lt_of_cell? w _ hx249_1)).trans hx249_1;replace hx249_2:=(HB.out.cell (World.block_lt_of_cell? w _ hx249_2)).trans hx249_2;replace hx249_3:=(HB.out.cell (World.block_lt_of_cell? w _ hx249_3)).trans hx249_3;replace p249:=eq_true p249;replace q249:=eq_true q249;go_wp2
         repeat (go_quiet (fail);try go_wp2)
         go_ret
         exact ⟨zq4,zq44⟩
        have c30b0:(!(((rd_T48 l0_1 x5_2).f0) == ((rd_T48 l1_1 x5_2).f0)) || (!(((rd_T48 l0_1 x5_2).f1) == ((rd_T48 l1_1 x5_2).f1)) || (!((((rd_T48 l0_1 x5_2).f2).toList) == (((rd_T48 l1_1 x5_2).f2).toList)) || (!(((rd_T48 l0_1 x5_2).f3) == ((rd_T48 l1_1 x5_2).f3))))))=false:=by simpa using c30
        clear c30;have H':=sd H;clear H;have hnb34:=NB245_246.out;have hnc34:=NB246_245.out;obtain ⟨_,_,_,_,_,_,_,_,_,_⟩:=bk5 BK245;have p248:0≤(x5_2:Int):=od;have q248:x5_2 < (l0_1.length:Int):=od;obtain ⟨ad248,e248,hx248_0,hx248_1,hx248_2,hx248_3⟩:=at_T48 HR0_1.out x5_2 p248 q248
        cases e248
        replace hx248_0:=(HB.out.cell (World.block_lt_of_cell? w _ hx248_0)).trans hx248_0;replace hx248_1:=(HB.out.cell (World.block_lt_of_cell? w _ hx248_1)).trans hx248_1;replace hx248_2:=(HB.out.cell (World.block_lt_of_cell? w _ hx248_2)).trans hx248_2;replace hx248_3:=(HB.out.cell (World.block_lt_of_cell? w _ hx248_3)).trans hx248_3;replace p248:=eq_true p248;replace q248:=eq_true q248;obtain ⟨_,_,_,_,_,_,_,_,_,_⟩:=bk5 BK246;have p249:0≤(x5_2:Int):=od;have q249:x5_2 < (l1_1.length:Int):=od;obtain ⟨ad249,e249,hx249_0,hx249_1,hx249_2,hx249_3⟩:=at_T48 HR1_1.out x5_2 p249 q249
        cases e249
        replace hx249_0:=(HB.out.cell (World.block_lt_of_cell? w _ hx249_0)).trans hx249_0;replace hx249_1:=(HB.out.cell (World.block_lt_of_cell? w _ hx249_1)).trans hx249_1;replace hx249_2:=(HB.out.cell (World.block_lt_of_cell? w _ hx249_2)).trans hx249_2;replace hx249_3:=(HB.out.cell (World.block_lt_of_cell? w _ hx249_3)).trans hx249_3;replace p249:=eq_true p249;replace q249:=eq_true q249;go_wp2
        repeat (go_quiet (fail);try go_wp2)
        go_roundg k2
        case measure=>have:=HJ2.out;have:=HK2.out;omega
        case rel=>exact ⟨(wrap64 (x5_2+1)),zq7,H',⟨by have:=HJ2.out;have:=HK2.out;omega⟩,⟨zq42⟩,⟨zq43⟩,⟨zq44⟩⟩
       exact absurd H (by simp)
      exact absurd H (by simp)
     have c27b0:decide (x5_2 < (l0_1.length:Int))=false:=decide_eq_false c27;clear c27;obtain rfl:=Option.some.inj H;have hnb37:=NB245_246.out;have hnc37:=NB246_245.out;obtain ⟨_,_,_,_,_,_,_,_,_,_⟩:=bk5 BK245;go_wp2
     repeat (go_quiet (fail);try go_wp2)
     go_ret
     exact ⟨zq4,zq44⟩
end Go.Proofs.YtkbgkekegjfkfaaGreatDoor.A
