-- By pack.py, a program of this session's.
import Derived.Test.YtlblkojjpagbkaaDoorZ2
import Derived.Test.YtlblkojjpagbkaaDoorZ3
import Derived.Test.YtlblkojjpagbkaaDoorZ4
set_option linter.unusedVariables false
set_option linter.unusedSimpArgs false
namespace Go.Proofs.YtlblkojjpagbkaaDoor
namespace A
open Go.RowKit B WW WL WM
attribute [local go_sem] max2_int min2_int max_two min_two max_three min_three max_four min_four
set_option maxHeartbeats 8000000
set_option maxRecDepth 100000
def num_size.f (a0:Int):Option (Int):=if I64 a0 then some (a0.natAbs:Int) else none
def num_Text.f (a0:Int):Option (ByteArray):=if I64 a0 then some ⟨(Lib.itoa a0).toArray⟩ else none
def days_padded.f (a0:Int):Option (ByteArray):=if a0 < 10 then ((num_Text.f a0).bind fun t134=>(if 1+t134.size≤9223372036854775807 then (some ((⟨#[48]⟩:ByteArray)++t134)) else (none))) else ((num_Text.f a0).bind fun t135=>(some t135))
def days_Text.T4:Bool×List (List Nat×List Nat):=(true,[([],[]),([0],[0]),([1],[1]),([2],[2]),([],[]),([4],[4]),([5,2],[5]),([3,6],[3,6]),([7],[7]),([],[]),([9],[9]),([10,6],[10]),([8,11],[8,11]),([12,11,0,1,2,3,4,5,6,7,8,9,10,11,12],[12]),([13,0,1,2,3,4,5,6,7,8,9,10,11,12,13],[])])
def days_Text.B4:List Nat:=[0,1,3,7,0,16,55,127,255,0,512,1655,4095,8191,16383]
theorem days_Text.bits4:waitsOk days_Text.T4.2 days_Text.B4=true:=by kernel_rfl
def numS:List ByteArray→ByteArray→Nat→Int
|[],_,_=>0
|x :: r,s,i=>if x.toList=s.toList then (i:Int)+1 else numS r s (i+1)
def fieldB:ByteArray:=⟨#[97,109,111,117,110,116,32,114,101,102,32,116,101,120,116,32,100,97,121]⟩
def fieldL:List ByteArray:=[⟨#[97,109,111,117,110,116]⟩,⟨#[114,101,102]⟩,⟨#[116,101,120,116]⟩,⟨#[100,97,121]⟩]
def opB:ByteArray:=⟨#[105,115,32,108,101,97,115,116,32,109,111,115,116,32,104,97,115,32,98,101,103,105,110,115]⟩
def opL:List ByteArray:=[⟨#[105,115]⟩,⟨#[108,101,97,115,116]⟩,⟨#[109,111,115,116]⟩,⟨#[104,97,115]⟩,⟨#[98,101,103,105,110,115]⟩]
theorem ascii_of {s:ByteArray} (h:∀ b∈s.data.toList,b.toNat < 128):∀ (j:Nat) b,s.data.toList[j]?=some b→b.toNat < 128:=fun j b hb=>h b (List.mem_of_getElem? hb)
theorem fieldB_L:(Lib.fields fieldB.data.toList).map (fun l=>(⟨l.toArray⟩:ByteArray))=fieldL:=by decide +kernel
theorem opB_L:(Lib.fields opB.data.toList).map (fun l=>(⟨l.toArray⟩:ByteArray))=opL:=by decide +kernel
theorem fieldB_a:∀ b∈fieldB.data.toList,b.toNat < 128:=by decide
theorem opB_a:∀ b∈opB.data.toList,b.toNat < 128:=by decide
abbrev ruleB:ByteArray:=⟨#[114,117,108,101]⟩
abbrev ifB:ByteArray:=⟨#[105,102]⟩
abbrev andB:ByteArray:=⟨#[97,110,100]⟩
abbrev thenB:ByteArray:=⟨#[116,104,101,110]⟩
abbrev partyB:ByteArray:=⟨#[112,97,114,116,121]⟩
abbrev tagB:ByteArray:=⟨#[116,97,103]⟩
abbrev eqB:ByteArray:=⟨#[61]⟩
def nmd (L:List ByteArray) (n:Int):Option ByteArray:=if 1≤n∧n≤1000 then L[n.toNat - 1]? else none
def txT:List S35→List ByteArray→List ByteArray
|[],l=>l
|t :: r,l=>txT r (l++[tagB,t.f0,eqB,t.f1])
def joinB (l:List ByteArray):ByteArray:=⟨(Lib.join (l.map (·.data.toList)) [32]).toArray⟩
def txJ (l:List ByteArray):Option (ByteArray×Int):=if l.length≤140737488355328∧(joinB l).size≤140737488355328 then (if 400 < (joinB l).size then some (⟨#[]⟩,9) else some (joinB l,0)) else none
theorem strs_cells {w:World} {g n:Nat} {xs:List ByteArray} (h:Kd.C Kd.string w (some ⟨g,0,none⟩) n xs) (hn:0 < n):∀ (j:Nat) x,xs[j]?=some x→w.cell? ⟨g,0+j,none⟩=some (.string x):=by
 obtain ⟨ad,e,hc⟩:=h.2.2 hn;obtain rfl:=Option.some.inj e;intro j x hj;obtain ⟨c,_,hK,hcell⟩:=hc j x hj;have hK':c=[.string x]:=hK;subst hK';have:=hcell 0 _ rfl;rw [Nat.zero_add];have e1:j * Kd.string.sz+0=j:=by show j * 1+0=j;omega
 rw [e1] at this;have e2:(⟨g,0,none⟩:Addr).add j=⟨g,j,none⟩:=by unfold Addr.add;split <;> simp_all
 rw [e2] at this;exact this
def rules_follow.f (a0:Bool) (a1:Int):Option (Int):=if a0=true then (some a1) else (some 14)
def num_Add.f (a0:Int) (a1:Int):Option (Int×Bool):=if ((decide ((wrap64 (a0+a1)) > a0)) != (decide (a1 > 0)))=true then (if a1=0 then (some (wrap64 (a0+a1),true)) else (some (0,false))) else (some (wrap64 (a0+a1),true))
def num_Sub.f (a0:Int) (a1:Int):Option (Int×Bool):=if ((decide ((wrap64 (a0 - a1)) < a0)) != (decide (a1 > 0)))=true then (if a1=0 then (some (wrap64 (a0 - a1),true)) else (some (0,false))) else (some (wrap64 (a0 - a1),true))
def bits_Mul64.f (a0:Int) (a1:Int):Option (Int×Int):=if 0≤a0∧a0 < 18446744073709551616∧0≤a1∧a1 < 18446744073709551616 then some (a0 * a1 / 18446744073709551616,a0 * a1 % 18446744073709551616) else none
def num_Mul.f (a0:Int) (a1:Int):Option (Int×Bool):=if I64 a0∧I64 a1 then some (fit (a0 * a1)) else none
def num_Parse.f (a0:ByteArray) (a1 a2:Int):Option (Int×Int):=if a0.size≤140737488351232 then some (parseL a0.data.toList a1 a2) else none
def days_number.l0:Nat→ByteArray→Int→Int→Int→Option (Int×Bool)
|0,_,_,_,_=>none
|k+1,x0,x2,x6,x7=>if x7 < x6 then (if 0≤x7 then (if x7 < (x0.size:Int) then (if (bt x0 x7) < 48 then (some (0,false)) else (if (bt x0 x7) > 57 then (some (0,false)) else (days_number.l0 k x0 (wrap64 ((wrap64 (10 * x2))+(((bt x0 x7) - 48) % 256))) x6 (wrap64 (x7+1))))) else (none)) else (none)) else (some (x2,true))
def days_number.f (k:Nat) (a0:ByteArray):Option (Int×Bool):=days_number.l0 k a0 0 (a0.size:Int) 0
structure Arr3 (W:World) (g:Nat) (x y z:Int):Prop where
 k0:W.cell? ⟨g,0,none⟩=some (.int .i64 x)
 k1:W.cell? ⟨g,1,none⟩=some (.int .i64 y)
 k2:W.cell? ⟨g,2,none⟩=some (.int .i64 z)
 f0:W.frozen? ⟨g,0,none⟩=false
 f1:W.frozen? ⟨g,1,none⟩=false
 f2:W.frozen? ⟨g,2,none⟩=false
theorem Arr3.s0 {W:World} {g:Nat} {x y z:Int} (h:Arr3 W g x y z) (v:Int):Arr3 (W.setCell ⟨g,0,none⟩ (.int .i64 v)) g v y z :=
 ⟨has_same ⟨_,h.k0⟩,has_other (by simp) h.k1,has_other (by simp) h.k2,zq22,zq23,zq24⟩
theorem Arr3.s1 {W:World} {g:Nat} {x y z:Int} (h:Arr3 W g x y z) (v:Int):Arr3 (W.setCell ⟨g,1,none⟩ (.int .i64 v)) g x v z :=
 ⟨has_other (by simp) h.k0,has_same ⟨_,h.k1⟩,has_other (by simp) h.k2,zq22,zq23,zq24⟩
theorem Arr3.s2 {W:World} {g:Nat} {x y z:Int} (h:Arr3 W g x y z) (v:Int):Arr3 (W.setCell ⟨g,2,none⟩ (.int .i64 v)) g x y v :=
 ⟨has_other (by simp) h.k0,has_other (by simp) h.k1,has_same ⟨_,h.k2⟩,zq22,zq23,zq24⟩
theorem Arr3.drawn {W:World} {g:Nat} {x y z:Int} (h:Arr3 W g x y z) (n:Nat):Arr3 (W.drewN n) g x y z:=⟨h.k0,h.k1,h.k2,h.f0,h.f1,h.f2⟩
theorem n50:∀ q,q∈(35:Nat) :: k35.E→q≠64:=by decide
structure FP (bd g:Nat) (vC vT vW:Value) (w w':World):Prop where
  b:Below bd w w'
  fr:∀ i,i < w.heap.size→i≠g→some i≠vC.ownBlock→some i≠vT.ownBlock→some i≠vW.ownBlock→w'.heap[i]?=w.heap[i]?
theorem FP.refl (bd g:Nat) (vC vT vW:Value) (w:World):FP bd g vC vT vW w w:=⟨Below.refl bd w,fun _ _ _ _ _ _=>rfl⟩
def keyV (kd:Int) (s x:ByteArray):Bool:=decide (kd=1∧s.toList=x.toList)
theorem key_calls (gw:Nat) (kd:Int) (s x:ByteArray) (w:World) (h0:w.cell? ⟨gw,0,none⟩=some (.int .i64 kd)) (h1:w.cell? ⟨gw,1,none⟩=some (.string s)) :
    Calls Tryd.prog 69 #[.string x,.pointer (some ⟨gw,0,none⟩)] w fun e w'=>e=.returned (.bool (keyV kd s x))∧Drawn0 w w':=by
  unfold keyV;by_cases e:kd=1
  · have q:decide (kd=1)=true:=decide_eq_true e
    have hr:decide (kd=1∧s.toList=x.toList)=(s.toList == x.toList):=by
      rw [Bool.eq_iff_iff,decide_eq_true_iff,beq_iff_eq];exact ⟨fun h=>h.2,fun h=>⟨e,h⟩⟩
    rw [hr];clear hr;go_enter Tryd.func69,Tryd.ntmps69
    go_wp2_with fail
    go_ret
    exact ⟨rfl,Drawn0.refl _⟩
  have q:decide (kd=1)=false:=decide_eq_false e;have hr:decide (kd=1∧s.toList=x.toList)=false:=decide_eq_false (fun h=>e h.1);rw [hr];clear hr;go_enter Tryd.func69,Tryd.ntmps69
  go_wp2_with fail
  go_ret
  exact ⟨rfl,Drawn0.refl _⟩
def fol (b:Bool) (s:Int):Int:=if b=true then s else 14
theorem below_base {bd:Nat} {w w':World} (h:Below bd w w') (hb:bd≤w.heap.size):bd≤w'.heap.size:=Nat.le_trans hb h.size
theorem FP.grownC {bd g:Nat} {vC vT vW:Value} {w w1 w2:World} (h:FP bd g vC vT vW w w1) (hb:Below bd w1 w2) (hg:w1.grownBy w2 vC.ownBlock):FP bd g vC vT vW w w2 :=
  ⟨h.b.trans hb,fun i h1 h2 h3 h4 h5=>(hg.block i (Nat.lt_of_lt_of_le h1 h.b.size) h3).trans (h.fr i h1 h2 h3 h4 h5)⟩
theorem FP.grownT {bd g:Nat} {vC vT vW:Value} {w w1 w2:World} (h:FP bd g vC vT vW w w1) (hb:Below bd w1 w2) (hg:w1.grownBy w2 vT.ownBlock):FP bd g vC vT vW w w2 :=
  ⟨h.b.trans hb,fun i h1 h2 h3 h4 h5=>(hg.block i (Nat.lt_of_lt_of_le h1 h.b.size) h4).trans (h.fr i h1 h2 h3 h4 h5)⟩
theorem FP.grownW {bd g:Nat} {vC vT vW:Value} {w w1 w2:World} (h:FP bd g vC vT vW w w1) (hb:Below bd w1 w2) (hg:w1.grownBy w2 vW.ownBlock):FP bd g vC vT vW w w2 :=
  ⟨h.b.trans hb,fun i h1 h2 h3 h4 h5=>(hg.block i (Nat.lt_of_lt_of_le h1 h.b.size) h5).trans (h.fr i h1 h2 h3 h4 h5)⟩
theorem FP.far {bd g gc o:Nat} {vC vT vW:Value} {w w1:World} (h:FP bd g vC vT vW w w1) (hg:bd≤gc) (hv:some gc=vC.ownBlock∨some gc=vT.ownBlock) (u:Value):FP bd g vC vT vW w (w1.setCell ⟨gc,o,none⟩ u) :=
  ⟨below_setN h.b hg u,fun i h1 h2 h3 h4 h5=>(Below.heap_setCell _ _ _ i (fun e=>by
    have e':i=gc:=e;rcases hv with hv|hv
    · exact h3 (by rw [e',hv])
    · exact h4 (by rw [e',hv]))).trans (h.fr i h1 h2 h3 h4 h5)⟩
theorem FP.trans {bd g:Nat} {vC vT vW:Value} {w w1 w2:World} (h:FP bd g vC vT vW w w1) (k:FP bd g vC vT vW w1 w2):FP bd g vC vT vW w w2 :=
  ⟨h.b.trans k.b,fun i h1 h2 h3 h4 h5=>(k.fr i (Nat.lt_of_lt_of_le h1 h.b.size) h2 h3 h4 h5).trans (h.fr i h1 h2 h3 h4 h5)⟩
theorem key2_calls (gw:Nat) (kd:Int) (s x:ByteArray) (w:World) (h0:w.cell? ⟨gw,0,none⟩=some (.int .i64 kd)) (h1:w.cell? ⟨gw,1,none⟩=some (.string s)) :
    Calls Tryd.prog 90 #[.string x,.pointer (some ⟨gw,0,none⟩)] w fun e w'=>e=.returned (.bool (keyV kd s x))∧Drawn0 w w':=by
  unfold keyV;by_cases e:kd=1
  · have q:decide (kd=1)=true:=decide_eq_true e
    have hr:decide (kd=1∧s.toList=x.toList)=(s.toList == x.toList):=by
      rw [Bool.eq_iff_iff,decide_eq_true_iff,beq_iff_eq];exact ⟨fun h=>h.2,fun h=>⟨e,h⟩⟩
    rw [hr];clear hr;go_enter Tryd.func90,Tryd.ntmps90
    go_wp2_with fail
    go_ret
    exact ⟨rfl,Drawn0.refl _⟩
  have q:decide (kd=1)=false:=decide_eq_false e;have hr:decide (kd=1∧s.toList=x.toList)=false:=decide_eq_false (fun h=>e h.1);rw [hr];clear hr;go_enter Tryd.func90,Tryd.ntmps90
  go_wp2_with fail
  go_ret
  exact ⟨rfl,Drawn0.refl _⟩
theorem cell_bd {bd b:Nat} {w w':World} {o:Nat} (hb:Below bd w w') (h:b < bd):w'.cell? ⟨b,o,none⟩=w.cell? ⟨b,o,none⟩:=by
  unfold World.cell?;rw [hb.block b h]
theorem gl_bd {bd:Nat} {w w':World} (h:Gl w) (hb:Below bd w w') (hl:GlLt bd):Gl w':=by
  obtain ⟨a0,a1,a2⟩:=hl;obtain ⟨⟨t1,t2⟩,⟨s1,s2⟩,⟨m1,m,m2⟩⟩:=h;refine ⟨⟨Nat.lt_of_lt_of_le t1 hb.size,fun i hi=>?_⟩,⟨Nat.lt_of_lt_of_le s1 hb.size,fun c hc=>?_⟩,⟨Nat.lt_of_lt_of_le m1 hb.size,m,?_⟩⟩
  · rw [cell_bd hb (by omega)];exact t2 i hi
  · rw [cell_bd hb (by omega)];exact s2 c hc
  · rw [cell_bd hb (by omega)];exact m2
theorem n50r:∀ q,q∈(35:Nat) :: k35.E→q≠25:=by decide
theorem add_at (g n:Nat):(⟨g,0,none⟩:Addr).add n=⟨g,n,none⟩:=by unfold Addr.add;split <;> simp_all
def livesX:ByteArray:=⟨([114,117,108,101,32,114,101,110,116,32,105,102,32,97,109,111,117,110,116,32,109,111,115,116,32,45,49,48,48,32,97,110,100,32,116,101,120,116,32].append [104,97,115,32,34,114,101,110,116,34,32,116,104,101,110,32,53,49,32,112,97,114,116,121,32,112,32,116,97,103,32,100,101,112,116,32,61,32,120]).toArray⟩
theorem livesX_L:livesX.toList=[114,117,108,101,32,114,101,110,116,32,105,102,32,97,109,111,117,110,116,32,109,111,115,116,32,45,49,48,48,32,97,110,100,32,116,101,120,116,32,104,97,115,32,34,114,101,110,116,34,32,116,104,101,110,32,53,49,32,112,97,114,116,121,32,112,32,116,97,103,32,100,101,112,116,32,61,32,120]:=by decide +kernel
def livesY:ByteArray:=⟨#[114,117,108,101,32,114,101,110,116,32,105,102,32,97,109,111,117,110,116,32,104,97,115,32,53,32,116,104,101,110,32,53,49]⟩
def livesG:List S35:=[⟨⟨#[100,101,112,116]⟩,⟨#[120]⟩⟩]
def lw48_lives.f:Option Bool:=some true
end A
namespace A
open Go.RowKit B WW WL WM
attribute [local go_sem] max2_int min2_int max_two min_two max_three min_three max_four min_four
theorem info27:(Tryd.prog.info? 27).map (fun i=>(i.zero,i.size,i.bytes))=some (some (.agg #[(.int .i64 0),(.int .i64 0),(.string ⟨#[]⟩),(.int .i64 0)]),4,40):=by kernel_rfl
theorem info35:(Tryd.prog.info? 35).map (fun i=>(i.zero,i.size,i.bytes))=some (some (.agg #[(.string ⟨#[]⟩),(.string ⟨#[]⟩)]),2,32):=by kernel_rfl
theorem info66:(Tryd.prog.info? 66).map (fun i=>(i.zero,i.size,i.bytes))=some (some (.agg #[(.int .i64 0),(.string ⟨#[]⟩),(.int .i64 0)]),3,32):=by kernel_rfl
theorem k35_openM {w:World} {base:Nat} {ok:Nat→Prop} {x:S35} {cs:List Value} (h:k35.M w base ok x cs):cs=[.string x.f0,.string x.f1]:=by
  obtain ⟨_,_,rfl,rfl,rfl⟩:=h;exact rfl
theorem k35_mkM (w:World) (base:Nat) (ok:Nat→Prop) (x:S35):k35.M w base ok x [.string x.f0,.string x.f1]:=⟨[.string x.f0],[.string x.f1],rfl,rfl,rfl⟩
structure S66 where
  f0:Int
  f1:ByteArray
  f2:Int
def z66:S66:=⟨(0:Int),(⟨#[]⟩:ByteArray),(0:Int)⟩
def k66:Kd S66:=Kd.iso (Kd.pair (Kd.int .i64) (Kd.pair Kd.string (Kd.int .i64))) (fun x:S66=>(x.f0,x.f1,x.f2))
theorem k66_open {w:World} {x:S66} {cs:List Value} (h:k66.K w x cs):cs=[.int .i64 x.f0,.string x.f1,.int .i64 x.f2]:=by
  obtain ⟨_,_,rfl,rfl,⟨_,_,rfl,rfl,rfl⟩⟩:=h;exact rfl
theorem k66_mkM (w:World) (base:Nat) (ok:Nat→Prop) (x:S66):k66.M w base ok x [.int .i64 x.f0,.string x.f1,.int .i64 x.f2]:=⟨[.int .i64 x.f0],[.string x.f1,.int .i64 x.f2],rfl,rfl,⟨[.string x.f1],[.int .i64 x.f2],rfl,rfl,rfl⟩⟩
def rd_T66 (xs:List S66) (i:Int):S66:=xs.getD i.toNat z66
theorem at_T66 {w:World} {A:Option Addr} {n:Nat} {xs:List S66} (h:Kd.C k66 w A n xs) (i:Int) (h0:0≤i) (h1:i < n):∃ ad ,A=some ad∧w.cell? (ad.add (i.toNat * 3))=some (.int .i64 (rd_T66 xs i).f0)∧w.cell? ⟨(ad.add (i.toNat * 3)).block,(ad.add (i.toNat * 3)).off+1,none⟩=some (.string (rd_T66 xs i).f1)∧w.cell? ⟨(ad.add (i.toNat * 3)).block,(ad.add (i.toNat * 3)).off+2,none⟩=some (.int .i64 (rd_T66 xs i).f2):=by
  obtain ⟨ad,c,e,_,hK,hc0⟩:=Kd.C_get h z66 i h0 h1;have hc:∀ j u,c[j]?=some u→w.cell? (ad.add (i.toNat * 3+j))=some u:=hc0;obtain rfl:=k66_open hK;exact ⟨ad,e,hc 0 _ rfl,by rw [← add_field _ _ 1 (by omega)];exact hc 1 _ rfl,by rw [← add_field _ _ 2 (by omega)];exact hc 2 _ rfl⟩
end A
namespace B
open Go.Lib Go.RowKit WW
theorem dval_append_le (l m:List UInt8):dval l≤dval (l++m):=by
  have key:∀ (m:List UInt8) (v:Nat),v≤m.foldl (fun v c=>10 * v+(c.toNat - 48)) v:=by
    intro m;induction m with
   |nil=>intro v;exact Nat.le_refl _
   |cons c m ih=>intro v;exact Nat.le_trans (by omega) (ih (10 * v+(c.toNat - 48)))
  unfold dval;rw [List.foldl_append];exact key m _
theorem sgn_big_append (b:Bool) (l m:List UInt8) (hn:¬ I64 (sgn b (dval l))):¬ I64 (sgn b (dval (l++m))):=sgn_big b (dval_append_le l m) hn
theorem PInv.stop {neg:Bool} {m:List UInt8} {j:Nat} {n:Int} (h:PInv neg m j n false):¬ I64 (sgn neg (dval m)):=by
  rcases h with ⟨h,_⟩|⟨_,_,h⟩
  · cases h
  · have:=sgn_big_append neg (m.take j) (m.drop j) h
    rwa [List.take_append_drop] at this
theorem parse_stop {l:List UInt8} (hf:formedL l=true) {j:Nat} {n:Int} (h:PInv (negOf l) (magOf l) j n false) (lo hi:Int):parseL l lo hi=(0,3):=by
  unfold parseL;rw [if_pos hf,if_neg];intro hh;exact h.stop hh.1
theorem DInv.start {c R0 W:Nat} (h:R0 < c) (hW:W < 18446744073709551616):DInv c R0 W 64 0 R0 :=
  ⟨Nat.le_refl _,by rw [Nat.div_eq_of_lt (show W < 2 ^ 64 from hW)];simp,h,h,hW⟩
theorem DInv.next {c R0 W k Q r:Nat} (h:DInv c R0 W (k+1) Q r) :
    (c≤2 * r+W / 2 ^ k % 2→DInv c R0 W k (2 * Q+1) (2 * r+W / 2 ^ k % 2 - c))∧(2 * r+W / 2 ^ k % 2 < c→DInv c R0 W k (2 * Q) (2 * r+W / 2 ^ k % 2)):=by
  have hk:=h.le;have h1:2 ^ (64 - k)=2 * 2 ^ (64 - (k+1)):=by rw [show 64 - k=64 - (k+1)+1 by omega,Nat.pow_succ];omega
  have h2:W / 2 ^ k=2 * (W / 2 ^ (k+1))+W / 2 ^ k % 2:=by rw [Nat.pow_succ,← Nat.div_div_eq_div_mul];omega
  have h3:=h.eq;have h4:=h.lt
  have key:R0 * 2 ^ (64 - k)+W / 2 ^ k=2 * (Q * c)+(2 * r+W / 2 ^ k % 2):=by
    rw [h1,show R0 * (2 * 2 ^ (64 - (k+1)))=2 * (R0 * 2 ^ (64 - (k+1))) by rw [Nat.mul_left_comm]];omega
  constructor
  · intro hc
    refine ⟨by omega,?_,by omega,h.lt0,h.ltW⟩;rw [key,Nat.add_mul,Nat.one_mul,Nat.mul_assoc];omega
  · intro hc
    refine ⟨by omega,?_,hc,h.lt0,h.ltW⟩;rw [key,Nat.mul_assoc]
end B
namespace A
open Go.RowKit B WW WL WM
attribute [local go_sem] max2_int min2_int max_two min_two max_three min_three max_four min_four
set_option maxHeartbeats 8000000
set_option maxRecDepth 100000
theorem n73:∀ q,q∈(66:Nat) :: k66.E→q≠64:=by decide
abbrev keyB (x:S66) (s:ByteArray):Bool:=keyV x.f0 x.f1 s
def codeX (x:S66):Bool:=decide (x.f0=1∨x.f0=2)
end A
namespace A
open Go.RowKit B WW WL WM
theorem zq10 {P:Prop} (h:P:=by first|(go_simp;done)|(go_simp;rfl)):P:=h
theorem zq28 {P:Prop} (h:P:=by (try simp only [List.map_toArray,List.map_cons,List.map_nil]);first|done|rfl):P:=h
theorem zq42 {P:Prop} (h:P:=by (with_reducible repeat (first|refine blk_drewN ?_ _|refine blk_drew ?_|refine blk_alloc ?_ _));refine blk_put (cs:=#[.string a0_0,.slice A0_1 l0_1.length c0_1,.string a0_2,.string a0_3,.slice none 0 0]) ?_ 4 _ rfl;(with_reducible repeat (first|refine blk_drewN ?_ _|refine blk_drew ?_|refine blk_alloc ?_ _));refine blk_put (cs:=#[.string a0_0,.slice A0_1 l0_1.length c0_1,.string a0_2,.string (⟨#[]⟩:ByteArray),.slice none 0 0]) ?_ 3 _ rfl;(with_reducible repeat (first|refine blk_drewN ?_ _|refine blk_drew ?_|refine blk_alloc ?_ _));refine blk_put (cs:=#[.string a0_0,.slice A0_1 l0_1.length c0_1,.string (⟨#[]⟩:ByteArray),.string (⟨#[]⟩:ByteArray),.slice none 0 0]) ?_ 2 _ rfl;(with_reducible repeat (first|refine blk_drewN ?_ _|refine blk_drew ?_|refine blk_alloc ?_ _));refine blk_put (cs:=#[.string a0_0,.slice none 0 0,.string (⟨#[]⟩:ByteArray),.string (⟨#[]⟩:ByteArray),.slice none 0 0]) ?_ 1 _ rfl;(with_reducible repeat (first|refine blk_drewN ?_ _|refine blk_drew ?_|refine blk_alloc ?_ _));refine blk_put (cs:=#[.string (⟨#[]⟩:ByteArray),.slice none 0 0,.string (⟨#[]⟩:ByteArray),.string (⟨#[]⟩:ByteArray),.slice none 0 0]) ?_ 0 _ rfl;(with_reducible repeat (first|refine blk_drewN ?_ _|refine blk_drew ?_|refine blk_alloc ?_ _));exact BK230.out):P:=h
end A
end Go.Proofs.YtlblkojjpagbkaaDoor
namespace Go.Proofs
open Go.Shelf
open Go.RowKit in
theorem Tryd.strings_Join (bk o c:Nat) (xs:List ByteArray) (sep:ByteArray) (w:World) (hcells:∀ (j:Nat) x,xs[j]?=some x→w.cell? ⟨bk,o+j,none⟩=some (.string x)) (hbk:bk < w.heap.size) (hN:xs.length≤140737488355328) (hcap:xs.length≤c) (hlen:(Lib.join (xs.map (·.data.toList)) sep.data.toList).length≤140737488355328) :
    Calls Tryd.prog 30 #[.slice (some ⟨bk,o,none⟩) xs.length c,.string sep] w fun e w'=>e=.returned (.string ⟨(Lib.join (xs.map (·.data.toList)) sep.data.toList).toArray⟩)∧Below w.heap.size w w':=Any.strings_Join Tryd.lays156 Tryd.Builder_Extra_156 bk o c xs sep w hcells hbk hN hcap hlen
open Go.RowKit Go.Lib in
theorem Tryd.strings_Contains (s sub:ByteArray) (m:Int) (w:World) (hs:s.size < 4294967281) (hm:w.cell? ⟨1,0,none⟩=some (.int .i64 m)) :
    Calls Tryd.prog 22 #[.string s,.string sub] w fun e w'=>e=.returned (.bool (Lib.contains s.data.toList sub.data.toList))∧w'=w:=Any.strings_Contains Tryd.lays144 s sub m w hs hm
open Go.RowKit Go.Lib in
theorem Tryd.strings_HasPrefix (s p:ByteArray) (w:World) :
    Calls Tryd.prog 24 #[.string s,.string p] w fun e w'=>e=.returned (.bool (Lib.hasPrefix s.data.toList p.data.toList))∧w'=w:=Any.strings_HasPrefix Tryd.lays99 s p w
end Go.Proofs
namespace Go.Proofs.YtlblkojjpagbkaaDoor
namespace WW
open Go.RowKit
section
variable {P:Program} {ops:Array Oper} {o:Oper} {a:Act} {Q:Exit→Act→World→Prop} {Kc:Act→World→Prop}
namespace Kd
variable {α:Type}
theorem R_lit_step (d:Kd α) {w0 W:World} (base e:Nat) (hw:Region.wanted o (yielded ops a.tmps)=true) {N:Tmp} (_hd:o.dst=some N) {xs:List α} {inner:List Value} {ok okp:Nat→Prop}
    (hrun:(execOp a.eval o).run P W=.ok (.value (.slice (some ⟨W.heap.size,0,none⟩) xs.length xs.length)) (W.alloc (.cells inner.toArray e)))
    (hrep:Reps (d.M W base okp) d.sz xs inner) (hok:∀ k,okp k→ok k) (hfresh:ok W.heap.size) (HB:Below base w0 W) (hbase:base≤W.heap.size) (hm:xs.length≤9223372036854775807)
    (h:∀ v1 w1,d.R e w1 base ok v1 xs→Below base w0 w1→W.grownBy w1 none→(∃ b,v1.ownBlock=some b∧W.heap.size≤b)→Kc (a.put o.dst v1) w1):if Region.wanted o (yielded ops a.tmps)=true then Oper.wp P o a W Kc Q else Kc (a.put o.dst undef) W:=by
  refine event_step hw hrun (h _ _ ⟨fun k hk=>?_,inner,?_,?_⟩ (HB.alloc hbase _) (World.grownBy_alloc W _ none) ⟨W.heap.size,by simp [Value.ownBlock],Nat.le_refl _⟩)
  · have:W.heap.size=k:=by simpa [Value.ownBlock] using hk
    subst this;exact hfresh
  · have h2:=World.ownsRow_lit (base:=base) (e:=e) (size:=d.sz) W inner.toArray xs.length hbase (by simpa [maxLen] using hm) (by simpa using hrep.1)
    simpa using h2
  · refine hrep.imp_ (fun p c hp=>d.M_mono (fun k hk=>⟨hok k hk.1,fun he=>?_⟩) (M_below (d.M_bound hp) (below_alloc (Below.refl _ _) _)))
    have h3:k=W.heap.size:=by simpa [Value.ownBlock] using he
    have:=hk.2.2.1;omega
theorem R_append_rows_step (d:Kd α) {Rr:α→List Value→Prop} {w0 W:World} (base:Nat) (hw:Region.wanted o (yielded ops a.tmps)=true) (s x:Operand) (t e:TypeId) (z:Value) (bytes:Nat)
    (ho:o.op=.call { callee:=.builtin .append,args:=#[s,x],argTypes:=#[t,t] })
    (ht:P.underlying t=some (.slice e)) (hinfo:(P.info? e).map (fun i=>(i.zero,i.size,i.bytes))=some (some z,d.sz,bytes)) (hz:z.cells.size=d.sz) (hs0:0 < d.sz) (hb0:0 < bytes)
    (v:Value) (xs ys:List α) (A:Option Addr) (m c:Nat) (ok okp:Nat→Prop) (hs:a.eval s=v) (hx:a.eval x=.slice A m c)
    (HO:d.R e W base ok v xs) (HR:ReadsRow Rr d.sz W A m ys) (hKM:∀ x cs,Rr x cs→d.M W base okp x cs) (hokp:∀ k,okp k→ok k∧some k≠v.ownBlock) (hfresh:∀ k,W.heap.size≤k→ok k)
    (HB:Below base w0 W) (hbase:base≤W.heap.size) (hl:(xs.length+m) * bytes≤140737488355328)
    (h:∀ v1 w1,d.R e w1 base ok v1 (xs++ys)→Below base w0 w1→W.grownBy w1 v.ownBlock→(v1.ownBlock=v.ownBlock∨∃ b,v1.ownBlock=some b∧W.heap.size≤b)→Kc (a.put o.dst v1) w1) :
    if Region.wanted o (yielded ops a.tmps)=true then Oper.wp P o a W Kc Q else Kc (a.put o.dst undef) W:=by
  obtain ⟨i0,hi,hzz⟩:=Option.map_eq_some_iff.1 hinfo;simp only [Prod.mk.injEq] at hzz
  obtain ⟨hz0,hz1,hz2⟩:=hzz;have hm:ys.length=m:=HR.1;have hlen:xs.length+m≤140737488355328:=Nat.le_trans (Nat.le_mul_of_pos_right _ hb0) hl;obtain ⟨hok,inner,hown,hr⟩:=HO
  have hrun:∃ v1 w1,(Builtin.append_ #[t,t] o.type #[v,.slice A m c]).run P W=.ok v1 w1∧d.R e w1 base ok v1 (xs++ys)∧W.grownBy w1 v.ownBlock∧(v1.ownBlock=v.ownBlock∨∃ b,v1.ownBlock=some b∧W.heap.size≤b):=by
    rcases A with _|ad
    · have h0:m=0:=by
        rcases Nat.eq_zero_or_pos m with h0|h0
        · exact h0
        · obtain ⟨ad,h,_⟩:=HR.2.2 h0
          cases h
      subst h0;obtain rfl:ys=[]:=List.eq_nil_of_length_eq_zero hm;refine ⟨v,W,?_,by rw [List.append_nil];exact ⟨hok,inner,hown,hr⟩,World.grownBy.refl W _,.inl rfl⟩;rcases hown.2 with ⟨rfl,hn⟩|⟨g,cap,cur,rfl,_,_,hnc,_⟩
      · simp [Builtin.append_,run_underlying ht,sizeOf,typeInfo,hi,Builtin.lenOf,Builtin.firstCells]
      · simp [Builtin.append_,run_underlying ht,sizeOf,typeInfo,hi,Builtin.lenOf,Builtin.firstCells,hnc,storeCells]
    · obtain ⟨news,hnr,hnc⟩:=ReadsRow.inner_ HR
      have hnM:Reps (d.M W base okp) d.sz ys news:=hnr.imp_ (fun p c hp=>hKM p c hp)
      have hone:∀ u∈news,u.oneCell'=true:=by
        intro u hu;obtain ⟨q,hq,rfl⟩:=List.mem_iff_getElem.1 hu
        have hql:q / d.sz < ys.length:=by
          rw [Nat.div_lt_iff_lt_mul hs0];rw [← hnM.1];exact hq
        have hc:=hnM.2 (q / d.sz) _ (List.getElem?_eq_getElem hql);refine d.K_one (d.K_of_M hc) _ ?_;rw [List.mem_iff_getElem?];refine ⟨q % d.sz,?_⟩;rw [List.getElem?_take,if_pos (Nat.mod_lt _ hs0),List.getElem?_drop,Nat.mul_comm,Nat.div_add_mod,List.getElem?_eq_getElem hq]
      obtain ⟨v1,w1,hrun,h2,hg,_,hat⟩:=run_append_own_at (P:=P) W base t o.type e i0 z d.sz bytes ht hi hz0 hz1 hz2 hz hs0 v xs.length inner hown ad m c news (by rw [hnM.1,hm]) hnc hone (by simp only [maxLen];omega) hl hbase
      have hat':v1.ownBlock=v.ownBlock∨∃ b,v1.ownBlock=some b∧W.heap.size≤b:=by
        rcases hat with hat|hat
        · exact .inl hat
        · exact .inr ⟨_,hat,Nat.le_refl _⟩
      have hne:∀ k,some k≠v.ownBlock→k < W.heap.size→some k≠v1.ownBlock:=by
        intro k hk hlt;rcases hat' with hat|⟨b,hb,hle⟩
        · rw [hat];exact hk
        · rw [hb]
          intro he;injection he with he
          omega
      have step:∀ {q:α} {c:List Value} {o:Nat→Prop},d.M W base o q c→(∀ k,o k→ok k∧some k≠v.ownBlock)→d.M w1 base (fun k=>ok k∧some k≠v1.ownBlock) q c:=by
        intro q c o hq ho;have h1:=d.M_move (w1:=w1) (fun k hk=>hg.block k hk.2.2.1 (ho k hk.1).2) (d.M_bound hq);exact d.M_mono (fun k hk=>⟨(ho k hk.1).1,hne k (ho k hk.1).2 hk.2.2.1⟩) h1
      refine ⟨v1,w1,hrun,⟨fun k hk=>?_,inner++news,by rw [List.length_append,hm];exact h2,reps_append (hr.imp_ (fun _ _ hq=>step hq (fun _ hk=>hk))) (hnM.imp_ (fun _ _ hq=>step hq hokp))⟩,hg,hat'⟩;rcases hat' with hat|⟨b,hb,hle⟩
      · exact hok k (hat ▸ hk)
      · rw [hb] at hk
        injection hk with hk
        exact hfresh k (by omega)
  obtain ⟨v1,w1,hr1,h1,hg,hat⟩:=hrun;rw [if_pos hw];unfold Oper.wp execOp;simp only [ho,resolve,invoke,builtin,Sem.run_bind,Sem.run_pure,Result.andThen_ok,List.map_toArray,List.map_cons,List.map_nil,hs,hx,hr1]
  exact h v1 w1 h1 (HB.grown hg hbase (own_base hown)) hg hat
end Kd
end
end WW
namespace B
open Go.RowKit WW WL WM
section
variable {P:Program} {md:Region.Mode} {ops:Array Oper} {Q:Exit→Act→World→Prop} {S:World→Prop} {ds:List Nat} {T:Bool×List (List Nat×List Nat)} {BB:List Nat} {oi:Oper} {v:Value} {fuel:Nat} {l l':Array Bool} {a a':Act} {w:World}
theorem pB (i N:Nat) (h:wpAnyLast P md ops Q S ds fuel l' a' w)
    (hi:ops[i]?=some oi:=by rfl) (hN:oi.dst=some N:=by rfl) (hl:l.setIfInBounds i true=l':=by (simp only [List.setIfInBounds_toArray,List.set_cons_zero,List.set_cons_succ];rfl))
    (hc:anyB md ops l l' i=true:=by kernel_rfl) (hQ:∀ c a w,Q (.panic c) (a.put oi.dst v) w→Q (.panic c) a w:=by exact (fun _ _ _ h=>h)) (hg:Region.wanted oi (yielded ops a.tmps)=true:=by rfl)
    (hy:∀ w,(execOp a.eval oi).run P w=.ok (.value v) w:=by (intro w';go_simp;with_reducible rfl))
    (ha:a.put (some N) v=a':=by (simp only [Act.put,List.setIfInBounds_toArray,List.set_cons_zero,List.set_cons_succ,i64_w,i32_w];rfl)):wpAnyLast P md ops Q S ds (fuel+1) l a w :=
  pure_ l' hi hN hc hQ (.inl ⟨hg,hy⟩) ha h
theorem tB (i N:Nat) (hS:S w) (h:wpAnyLast P md ops Q S ds fuel l' a' w)
    (hi:ops[i]?=some oi:=by rfl) (hN:oi.dst=some N:=by rfl) (hl:l.setIfInBounds i true=l':=by (simp only [List.setIfInBounds_toArray,List.set_cons_zero,List.set_cons_succ];rfl))
    (hc:takeB md ops ds l l' i=true:=by kernel_rfl) (hQ:∀ c a w,Q (.panic c) (a.put oi.dst v) w→Q (.panic c) a w:=by exact (fun _ _ _ h=>h)) (hg:Region.wanted oi (yielded ops a.tmps)=true:=by rfl)
    (hy:∀ w,S w→(execOp a.eval oi).run P w=.ok (.value v) w:=by (intro w' hs_;(try dsimp only at hs_);(try go_split_ands);go_simp;with_reducible rfl))
    (ha:a.put (some N) v=a':=by (simp only [Act.put,List.setIfInBounds_toArray,List.set_cons_zero,List.set_cons_succ,i64_w,i32_w];rfl)):wpAnyLast P md ops Q S ds (fuel+1) l a w :=
  take_ l' hi hN hc hQ (.inl ⟨hg,hy⟩) hS ha h
end
end B
namespace WW
open Go.RowKit
section
variable {w w1:World} {base n size:Nat} {e:TypeId} {v:Value} {xs:List Value}
theorem setCells_row {g:Nat} {e:TypeId}:∀ (vs:List Value) (o:Nat) (w:World) (cur:Array Value),w.heap[g]?=some (.cells cur e (0,0))→o+vs.length≤cur.size →
    ∃ cur',(w.setCells g o vs).heap[g]?=some (.cells cur' e (0,0))∧cur'.size=cur.size∧cur'.toList=cur.toList.take o++vs++cur.toList.drop (o+vs.length)
 |[],o,w,cur,h,_=>⟨cur,h,rfl,by simp⟩
 |v :: r,o,w,cur,h,hl=>by
    have h2:=blk_set h o v;simp only [List.length_cons] at hl
    obtain ⟨cur',h3,h4,h5⟩:=setCells_row r (o+1) (w.setCell ⟨g,o,none⟩ v) _ h2 (by simp;omega);refine ⟨cur',h3,by rw [h4];simp,?_⟩;rw [h5,Array.toList_setIfInBounds];have ho:o < cur.toList.length:=by rw [Array.length_toList];omega
    rw [List.take_set,List.drop_set_of_lt (by omega)];simp only [List.length_cons]
    rw [show o+1+r.length=o+(r.length+1) by omega];congr 1
    rw [List.take_succ_eq_append_getElem ho,List.set_append_right _ _ (by rw [List.length_take];omega)];have ho':o < cur.size:=by omega
    simp [Nat.min_eq_left (Nat.le_of_lt ho')]
end
end WW
namespace WW
open Go.RowKit
namespace Kd
section
variable {P:Program} {ops:Array Oper} {rest:List Oper} {o:Oper} {a:Act} {Q:Exit→Act→World→Prop} {α:Type}
theorem R_append_rows (d:Kd α) {Rr:α→List Value→Prop} {w0 W:World} (base:Nat) (hgd:o.guard=none) (s x:Operand) (t e:TypeId) (z:Value) (bytes:Nat)
    (ho:o.op=.call { callee:=.builtin .append,args:=#[s,x],argTypes:=#[t,t] })
    (ht:P.underlying t=some (.slice e)) (hinfo:(P.info? e).map (fun i=>(i.zero,i.size,i.bytes))=some (some z,d.sz,bytes)) (hz:z.cells.size=d.sz) (hs0:0 < d.sz) (hb0:0 < bytes)
    (v:Value) (xs ys:List α) (A:Option Addr) (m c:Nat) (ok okp:Nat→Prop) (hs:a.eval s=v) (hx:a.eval x=.slice A m c)
    (HO:d.R e W base ok v xs) (HR:ReadsRow Rr d.sz W A m ys) (hKM:∀ x cs,Rr x cs→d.M W base okp x cs) (hokp:∀ k,okp k→ok k∧some k≠v.ownBlock) (hfresh:∀ k,W.heap.size≤k→ok k)
    (HB:Below base w0 W) (hbase:base≤W.heap.size) (hl:(xs.length+m) * bytes≤140737488355328)
    (h:∀ v1 w1,d.R e w1 base ok v1 (xs++ys)→Below base w0 w1→W.grownBy w1 v.ownBlock→(v1.ownBlock=v.ownBlock∨∃ b,v1.ownBlock=some b∧W.heap.size≤b)→wpList P ops Q rest (a.put o.dst v1) w1) :
    wpList P ops Q (o :: rest) a W:=by
  obtain ⟨i0,hi,hzz⟩:=Option.map_eq_some_iff.1 hinfo;simp only [Prod.mk.injEq] at hzz
  obtain ⟨hz0,hz1,hz2⟩:=hzz;have hm:ys.length=m:=HR.1;have hlen:xs.length+m≤140737488355328:=Nat.le_trans (Nat.le_mul_of_pos_right _ hb0) hl;obtain ⟨hok,inner,hown,hr⟩:=HO
  have hrun:∃ v1 w1,(Builtin.append_ #[t,t] o.type #[v,.slice A m c]).run P W=.ok v1 w1∧d.R e w1 base ok v1 (xs++ys)∧W.grownBy w1 v.ownBlock∧(v1.ownBlock=v.ownBlock∨∃ b,v1.ownBlock=some b∧W.heap.size≤b):=by
    rcases A with _|ad
    · have h0:m=0:=by
        rcases Nat.eq_zero_or_pos m with h0|h0
        · exact h0
        · obtain ⟨ad,h,_⟩:=HR.2.2 h0
          cases h
      subst h0;obtain rfl:ys=[]:=List.eq_nil_of_length_eq_zero hm;refine ⟨v,W,?_,by rw [List.append_nil];exact ⟨hok,inner,hown,hr⟩,World.grownBy.refl W _,.inl rfl⟩;rcases hown.2 with ⟨rfl,hn⟩|⟨g,cap,cur,rfl,_,_,hnc,_⟩
      · simp [Builtin.append_,run_underlying ht,sizeOf,typeInfo,hi,Builtin.lenOf,Builtin.firstCells]
      · simp [Builtin.append_,run_underlying ht,sizeOf,typeInfo,hi,Builtin.lenOf,Builtin.firstCells,hnc,storeCells]
    · obtain ⟨news,hnr,hnc⟩:=ReadsRow.inner_ HR
      have hnM:Reps (d.M W base okp) d.sz ys news:=hnr.imp_ (fun p c hp=>hKM p c hp)
      have hone:∀ u∈news,u.oneCell'=true:=by
        intro u hu;obtain ⟨q,hq,rfl⟩:=List.mem_iff_getElem.1 hu
        have hql:q / d.sz < ys.length:=by
          rw [Nat.div_lt_iff_lt_mul hs0];rw [← hnM.1];exact hq
        have hc:=hnM.2 (q / d.sz) _ (List.getElem?_eq_getElem hql);refine d.K_one (d.K_of_M hc) _ ?_;rw [List.mem_iff_getElem?];refine ⟨q % d.sz,?_⟩;rw [List.getElem?_take,if_pos (Nat.mod_lt _ hs0),List.getElem?_drop,Nat.mul_comm,Nat.div_add_mod,List.getElem?_eq_getElem hq]
      obtain ⟨v1,w1,hrun,h2,hg,_,hat⟩:=run_append_own_at (P:=P) W base t o.type e i0 z d.sz bytes ht hi hz0 hz1 hz2 hz hs0 v xs.length inner hown ad m c news (by rw [hnM.1,hm]) hnc hone (by simp only [maxLen];omega) hl hbase
      have hat':v1.ownBlock=v.ownBlock∨∃ b,v1.ownBlock=some b∧W.heap.size≤b:=by
        rcases hat with hat|hat
        · exact .inl hat
        · exact .inr ⟨_,hat,Nat.le_refl _⟩
      have hne:∀ k,some k≠v.ownBlock→k < W.heap.size→some k≠v1.ownBlock:=by
        intro k hk hlt;rcases hat' with hat|⟨b,hb,hle⟩
        · rw [hat];exact hk
        · rw [hb]
          intro he;injection he with he
          omega
      have step:∀ {q:α} {c:List Value} {o:Nat→Prop},d.M W base o q c→(∀ k,o k→ok k∧some k≠v.ownBlock)→d.M w1 base (fun k=>ok k∧some k≠v1.ownBlock) q c:=by
        intro q c o hq ho;have h1:=d.M_move (w1:=w1) (fun k hk=>hg.block k hk.2.2.1 (ho k hk.1).2) (d.M_bound hq);exact d.M_mono (fun k hk=>⟨(ho k hk.1).1,hne k (ho k hk.1).2 hk.2.2.1⟩) h1
      refine ⟨v1,w1,hrun,⟨fun k hk=>?_,inner++news,by rw [List.length_append,hm];exact h2,reps_append (hr.imp_ (fun _ _ hq=>step hq (fun _ hk=>hk))) (hnM.imp_ (fun _ _ hq=>step hq hokp))⟩,hg,hat'⟩;rcases hat' with hat|⟨b,hb,hle⟩
      · exact hok k (hat ▸ hk)
      · rw [hb] at hk
        injection hk with hk
        exact hfresh k (by omega)
  obtain ⟨v1,w1,hr1,h1,hg,hat⟩:=hrun;refine wpList_plain hgd fun K hK=>?_
  unfold Oper.wp execOp;simp only [ho,resolve,invoke,builtin,Sem.run_bind,Sem.run_pure,Result.andThen_ok,List.map_toArray,List.map_cons,List.map_nil,hs,hx,hr1]
  exact hK _ _ (h v1 w1 h1 (HB.grown hg hbase (own_base hown)) hg hat)
end
end Kd
end WW
namespace WW
open Go.RowKit
namespace Kd
section
variable {P:Program} {ops:Array Oper} {o:Oper} {a:Act} {Q:Exit→Act→World→Prop} {Kc:Act→World→Prop} {α:Type}
theorem R_append_step (d:Kd α) {w0 W:World} (base:Nat) (hw:Region.wanted o (yielded ops a.tmps)=true) (s x:Operand) (t e:TypeId) (z:Value) (bytes:Nat)
    (ho:o.op=.call { callee:=.builtin .append,args:=#[s,x],argTypes:=#[t,t] })
    (ht:P.underlying t=some (.slice e)) (hinfo:(P.info? e).map (fun i=>(i.zero,i.size,i.bytes))=some (some z,d.sz,bytes)) (hz:z.cells.size=d.sz) (hs0:0 < d.sz) (hb0:0 < bytes)
    (v:Value) (xs:List α) (p:α) (cs:List Value) (ok okp:Nat→Prop) (hs:a.eval s=v) (hx:a.eval x=.slice (some ⟨W.heap.size,0,none⟩) 1 1) (hp:d.M W base okp p cs) (hokp:∀ k,okp k→ok k∧some k≠v.ownBlock) (hfresh:∀ k,W.heap.size≤k→ok k)
    (HO:d.R e W base ok v xs) (HB:Below base w0 W) (hbase:base≤W.heap.size) (hl:(xs.length+1) * bytes≤140737488355328)
    (h:∀ v1 w1,d.R e w1 base ok v1 (xs++[p])→Below base w0 w1→W.grownBy w1 v.ownBlock→(v1.ownBlock=v.ownBlock∨∃ b,v1.ownBlock=some b∧W.heap.size≤b)→Kc (a.put o.dst v1) w1) :
    if Region.wanted o (yielded ops a.tmps)=true then Oper.wp P o a (W.alloc (.cells cs.toArray e)) Kc Q else Kc (a.put o.dst undef) (W.alloc (.cells cs.toArray e)):=by
  obtain ⟨h0,inner,hown,hr⟩:=HO;refine step_append_cells base hw s x t e z d.sz bytes ho ht hinfo hz hs0 hb0 v xs.length inner cs hs hx (d.K_len (d.K_of_M hp)) (d.K_one (d.K_of_M hp)) hown HB hbase hl ?_;intro v1 w1 hown1 hb1 hg1 hat1;exact h v1 w1 (R_appended h0 hr hp hokp hfresh hown1 hg1 hat1) hb1 hg1 hat1
end
end Kd
end WW
namespace WW
open Go.RowKit
theorem seg_get {α:Type} (a seg:List α) (o:Nat) (h:o+seg.length≤a.length) (q:Nat) :
    (a.take o++seg++a.drop (o+seg.length))[q]?=if q < o then a[q]? else if q < o+seg.length then seg[q - o]? else a[q]?:=by
  have hl:(a.take o).length=o:=by rw [List.length_take];omega
  rw [List.append_assoc];by_cases h1:q < o
  · rw [if_pos h1,List.getElem?_append_left (by omega),List.getElem?_take,if_pos h1]
  · rw [if_neg h1,List.getElem?_append_right (by omega),hl]
    by_cases h2:q < o+seg.length
    · rw [if_pos h2,List.getElem?_append_left (by omega)]
    · rw [if_neg h2,List.getElem?_append_right (by omega),List.getElem?_drop]
      congr 1
      omega
end WW
namespace WW
open Go.RowKit
namespace Kd
section
variable {α:Type} {d:Kd α} {e base g n cap:Nat} {ok okp:Nat→Prop} {W:World} {xs:List α}
theorem R_seg (h:d.R e W base ok (.slice (some ⟨g,0,none⟩) n cap) xs) (i:Int) (h0:0≤i) (h1:i < n) {c seg:List Value} {j:Nat} (hcl:c.length=d.sz) (hcc:∀ j u,c[j]?=some u→W.cell? ⟨g,i.toNat * d.sz+j,none⟩=some u)
    (hj:j+seg.length≤d.sz) {x':α} (hM:d.M W base okp x' (c.take j++seg++c.drop (j+seg.length))) (hokp:∀ k,okp k→ok k∧k≠g) :
    d.R e (W.setCells g (i.toNat * d.sz+j) seg) base ok (.slice (some ⟨g,0,none⟩) n cap) (xs.set i.toNat x')∧W.grownBy (W.setCells g (i.toNat * d.sz+j) seg) (some g):=by
  obtain ⟨hn,hnc,_⟩:=R_reads' h;obtain ⟨hok,inner,ho,hr⟩:=h;have hil:i.toNat < xs.length:=by omega
  have hseg:i.toNat * d.sz+d.sz≤inner.length:=by rw [hr.1,← Nat.succ_mul];exact Nat.mul_le_mul_right _ hil
  have hin:inner.length=n * d.sz:=by rw [hr.1,hn]
  obtain ⟨ho1,ho2⟩:=ho;rcases ho2 with ⟨hv,_⟩|⟨g',cap',cur,hv,hb,hh,hnc',hcm,hcs,ht⟩
  · cases hv
  injection hv with ha _ hc
  injection ha with ha
  injection ha with hg
  subst hg;subst hc
  have hfit:i.toNat * d.sz+j+seg.length≤cur.size:=by
    have:n * d.sz≤cap * d.sz:=Nat.mul_le_mul_right _ hnc;omega
  obtain ⟨cur',h3,h4,h5⟩:=setCells_row seg (i.toNat * d.sz+j) W cur hh hfit;obtain ⟨s1,s2,s3,s4⟩:=setCells_same g seg (i.toNat * d.sz+j) W;have hfar:∀ k,k≠g→(W.setCells g (i.toNat * d.sz+j) seg).heap[k]?=W.heap[k]?:=fun k hk=>setCells_far seg _ k hk
  have hcin:∀ q,q < d.sz→c[q]?=inner[i.toNat * d.sz+q]?:=by
    intro q hq;have hq':q < c.length:=by omega
    have h6:=hcc q _ (List.getElem?_eq_getElem hq');rw [cell_of_row W g _ cur e (0,0) hh] at h6;rw [List.getElem?_eq_getElem hq',← h6,← ht,List.getElem?_take,if_pos (by rw [← hn];omega),Array.getElem?_toList]
  refine ⟨⟨hok,inner.take (i.toNat * d.sz+j)++seg++inner.drop (i.toNat * d.sz+j+seg.length),⟨?_,.inr ⟨g,cap,cur',by rw [List.length_set,hn],hb,h3,by rw [List.length_set,← hn];exact hnc,hcm,by rw [h4,hcs],?_⟩⟩,?_⟩,
    ⟨s1,s2,s3,by rw [s4];exact Nat.le_refl _,fun k _ hk=>hfar k (fun he=>hk (by rw [he]))⟩⟩
  · rw [List.length_set]
    simp only [List.length_append,List.length_take,List.length_drop]
    rw [hr.1] at hseg ⊢;omega
  · rw [List.length_set,← hn]
    apply List.ext_getElem?;intro q;rw [List.getElem?_take,h5];rw [seg_get cur.toList seg (i.toNat * d.sz+j) (by rw [Array.length_toList];omega) q,seg_get inner seg (i.toNat * d.sz+j) (by omega) q]
    have hcur:∀ q,q < n * d.sz→cur.toList[q]?=inner[q]?:=by
      intro q hq;rw [← ht,List.getElem?_take,if_pos (by rw [← hn];exact hq)]
    by_cases hq:q < n * d.sz
    · rw [if_pos hq,hcur q hq]
    · rw [if_neg hq,if_neg (by omega),if_neg (by omega),List.getElem?_eq_none (by omega)]
  · refine ⟨?_,fun m p hm=>?_⟩
    · rw [List.length_set]
      simp only [List.length_append,List.length_take,List.length_drop]
      rw [hr.1] at hseg ⊢;omega
    · have hml:m < xs.length:=by
        have:=(List.getElem?_eq_some_iff.1 hm).1;rwa [List.length_set] at this
      have hmfit:m * d.sz+d.sz≤inner.length:=by rw [hr.1,← Nat.succ_mul];exact Nat.mul_le_mul_right _ hml
      have hgo:some g=(Value.slice (some ⟨g,0,none⟩) n cap).ownBlock:=by simp [Value.ownBlock]
      by_cases hmi:m=i.toNat
      · subst hmi
        rw [List.getElem?_set_self (by omega)] at hm;injection hm with hm
        subst hm
        have hcells:((inner.take (i.toNat * d.sz+j)++seg++inner.drop (i.toNat * d.sz+j+seg.length)).drop (i.toNat * d.sz)).take d.sz=c.take j++seg++c.drop (j+seg.length):=by
          apply List.ext_getElem?;intro q;rw [List.getElem?_take,List.getElem?_drop,seg_get inner seg _ (by omega),seg_get c seg j (by omega) q];by_cases hq:q < d.sz
          · rw [if_pos hq,hcin q hq]
            by_cases hq1:q < j
            · rw [if_pos (by omega),if_pos hq1]
            · rw [if_neg (by omega),if_neg hq1]
              by_cases hq2:q < j+seg.length
              · rw [if_pos (by omega),if_pos hq2]
                congr 1
                omega
              · rw [if_neg (by omega),if_neg hq2]
          · rw [if_neg hq,if_neg (by omega),if_neg (by omega),List.getElem?_eq_none (by omega)]
        rw [hcells];refine d.M_mono (fun k hk=>?_) (d.M_move (w1:=W.setCells g (i.toNat * d.sz+j) seg) (fun k hk=>hfar k (hokp k hk).2) hM);exact ⟨(hokp k hk).1,fun he=>(hokp k hk).2 (by rw [← hgo] at he;injection he)⟩
      · rw [List.getElem?_set_ne (by omega)] at hm
        have hold:=hr.2 m p hm
        have hcells:((inner.take (i.toNat * d.sz+j)++seg++inner.drop (i.toNat * d.sz+j+seg.length)).drop (m * d.sz)).take d.sz=(inner.drop (m * d.sz)).take d.sz:=by
          apply List.ext_getElem?;intro q;rw [List.getElem?_take,List.getElem?_take,List.getElem?_drop,List.getElem?_drop,seg_get inner seg _ (by omega)];by_cases hq:q < d.sz
          · rw [if_pos hq,if_pos hq]
            rcases Nat.lt_or_gt_of_ne hmi with hlt|hgt
            · have:m * d.sz+d.sz≤i.toNat * d.sz:=by rw [← Nat.succ_mul];exact Nat.mul_le_mul_right _ hlt
              rw [if_pos (by omega)]
            · have:i.toNat * d.sz+d.sz≤m * d.sz:=by rw [← Nat.succ_mul];exact Nat.mul_le_mul_right _ hgt
              rw [if_neg (by omega),if_neg (by omega)]
          · rw [if_neg hq,if_neg hq]
        rw [hcells];refine d.M_move (fun k hk=>hfar k (fun he=>hk.2 (by rw [he];exact hgo))) hold
end
end Kd
end WW
namespace B
open Go.RowKit WW WL WM
section
variable {P:Program} {ops:Array Oper} {rest:List Oper} {o:Oper} {Q:Exit→Act→World→Prop} {a:Act} {w V W w1:World} {g g':Nat}
theorem rbm {α:Type} {d:Kd α} {e base:Nat} {ok:Nat→Prop} {v:Value} {xs:List α} (H:Aside0 (d.R e V base ok v xs)) (hb:Below W.heap.size W w1) (hs:d.R e V base ok v xs→d.R e W base ok v xs:=by (intro h;(with_reducible repeat (first|apply Kd.R_alloc|apply Kd.R_drewN|apply Kd.R_drew));exact h)):Aside0 (d.R e w1 base ok v xs):=⟨Kd.R_below (hs H.out) hb⟩
end
end B
namespace WL
section
variable {P:Program} {ops:Array Oper} {Q:Exit→Act→World→Prop} {md:Region.Mode} {S:World→Prop} {ds:List Nat}
theorem two_ {i j:Nat} {Ni Nj:Option Tmp} {oi oj:Oper} {fuel:Nat} {l:Array Bool} {a:Act} {w:World} (li lj:Array Bool) (hi:ops[i]?=some oi) (hj:ops[j]?=some oj) (hNi:oi.dst=Ni) (hNj:oj.dst=Nj)
    (hc:(Region.ready md ops l == [i,j] && l.setIfInBounds i true == li && l.setIfInBounds j true == lj)=true) (hdi:i ∉ ds) (hdj:j ∉ ds)
    (h1:∀ K:Act→World→Prop,Shut (∀ a' w',S w'→(S w'→wpAnyLast P md ops Q S ds fuel li a' w')→K a' w')→if Region.wanted oi (yielded ops a.tmps)=true then Oper.wp P oi a w K Q else K (a.put Ni undef) w)
    (h2:∀ K:Act→World→Prop,Shut (∀ a' w',S w'→(S w'→wpAnyLast P md ops Q S ds fuel lj a' w')→K a' w')→if Region.wanted oj (yielded ops a.tmps)=true then Oper.wp P oj a w K Q else K (a.put Nj undef) w) :
    wpAnyLast P md ops Q S ds (fuel+1) l a w:=by
  subst hNi;subst hNj;simp only [Bool.and_eq_true,beq_iff_eq] at hc
  obtain ⟨⟨h3,h4⟩,h5⟩:=hc;subst h4;subst h5;exact wpAnyLast_ready h3 (by simp) (AllReadyL.cons hi hdi (fun K hK=>h1 K hK) (AllReadyL.cons hj hdj (fun K hK=>h2 K hK) AllReadyL.nil))
end
end WL

end Go.Proofs.YtlblkojjpagbkaaDoor