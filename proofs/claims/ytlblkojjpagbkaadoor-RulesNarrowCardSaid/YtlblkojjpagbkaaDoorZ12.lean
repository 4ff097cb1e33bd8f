-- By pack.py, a program of this session's.
import Derived.Test.YtlblkojjpagbkaaDoorZ5
import Derived.Test.YtlblkojjpagbkaaDoorZ6
import Derived.Test.YtlblkojjpagbkaaDoorZ7
set_option linter.unusedVariables false
set_option linter.unusedSimpArgs false
namespace Go.Proofs.YtlblkojjpagbkaaDoor
namespace A
open Go.RowKit B WW WL WM
attribute [local go_sem] max2_int min2_int max_two min_two max_three min_three max_four min_four
set_option maxHeartbeats 8000000
set_option maxRecDepth 100000
theorem fields_calls (s:ByteArray) (L:List ByteArray) (hL:(Lib.fields s.data.toList).map (fun l=>(⟨l.toArray⟩:ByteArray))=L) (hs:s.size < 4294967281) (ha:∀ (j:Nat) b,s.data.toList[j]?=some b→b.toNat < 128) (w:World) (hG:Gl w) :
  Calls Tryd.prog 44 #[.string s] w fun e w'=>e=.returned (.slice (some ⟨w.heap.size,0,none⟩) L.length L.length)∧w'=w.alloc (.cells (L.map Value.string).toArray 9):=by
 have:=Go.Proofs.Any.strings_Fields_core Go.Proofs.Tryd.lays157 (by kernel_rfl) s w hs ha hG.2.1.2;refine this.mono ?_;rintro e w' ⟨rfl,rfl⟩;refine ⟨by rw [← hL,List.length_map],by rw [← hL,List.map_map];rfl⟩
theorem named_calls (s:ByteArray) (L:List ByteArray) (hL:(Lib.fields s.data.toList).map (fun l=>(⟨l.toArray⟩:ByteArray))=L) (hs:s.size < 4294967281) (ha:∀ (j:Nat) b,s.data.toList[j]?=some b→b.toNat < 128) (m:Nat) (x:ByteArray) (hx:L[m]?=some x) (w:World) (hG:Gl w) (hm:m≤1000) :
  Calls Tryd.prog 28 #[.string s,.int .i64 ((m:Int)+1)] w fun e w'=>e=.returned (.string x)∧Below w.heap.size w w':=by
 have HF:=sd (fields_calls s L hL hs ha w hG)
 have hlt:m < L.length:=by
  rcases Nat.lt_or_ge m L.length with h|h
  ·exact h
  ·rw [List.getElem?_eq_none h] at hx;cases hx
 have hlt':(m:Int) < (L.length:Int):=by omega
 have h0:(0:Int)≤(m:Int):=by omega
 have hw:wrap64 ((m:Int)+1 - 1)=(m:Int):=by unfold wrap64;omega
 have HX:=sd hx;clear hx hL hs ha hG;go_enter Tryd.func28,Tryd.ntmps28
 go_wp2_with fail
 refine HF.out.mono ?_;rintro e w1 ⟨rfl,rfl⟩;have HB:=sd (below_alloc (Below.refl w.heap.size w) (Obj.cells (L.map Value.string).toArray 9));have b0:(w.alloc (Obj.cells (L.map Value.string).toArray 9)).heap[w.heap.size]?=some (.cells (L.map Value.string).toArray 9 (0,0)):=blk_new _ _;generalize w.alloc (Obj.cells (L.map Value.string).toArray 9)=w1 at *;obtain ⟨g,hg⟩:∃ g,g=w.heap.size:=⟨_,rfl⟩
 rw [← hg] at b0 ⊢
 have c0:w1.cell? ⟨g,m,none⟩=some (.string x):=by
  refine (blk_cell b0 m).trans ?_;simp [HX.out]
 clear b0 hg;go_wp2_with fail
 go_ret
 exact ⟨rfl,HB.out⟩
theorem number_calls (s:ByteArray) (L:List ByteArray) (hL:(Lib.fields s.data.toList).map (fun l=>(⟨l.toArray⟩:ByteArray))=L) (hs:s.size < 4294967281) (ha:∀ (j:Nat) b,s.data.toList[j]?=some b→b.toNat < 128) (hl:L.length≤1000) (x:ByteArray) (w:World) (hG:Gl w) :
  Calls Tryd.prog 71 #[.string s,.string x] w fun e w'=>e=.returned (.int .i64 (numS L x 0))∧Below w.heap.size w w':=by
 have HF:=sd (fields_calls s L hL hs ha w hG);clear hL hs ha hG;generalize hQ:(fun (e:Ending) (w':World)=>e=.returned (.int .i64 (numS L x 0))∧Below w.heap.size w w')=Post;have HQ:=sd hQ;clear hQ;go_enter Tryd.func71,Tryd.ntmps71
 go_wp2_with fail
 refine HF.out.mono ?_;rintro e w1 ⟨rfl,rfl⟩;clear HF;have HB:=sd (below_alloc (Below.refl w.heap.size w) (Obj.cells (L.map Value.string).toArray 9));have b0:(w.alloc (Obj.cells (L.map Value.string).toArray 9)).heap[w.heap.size]?=some (.cells (L.map Value.string).toArray 9 (0,0)):=blk_new _ _;generalize w.alloc (Obj.cells (L.map Value.string).toArray 9)=w1 at *;obtain ⟨g,hg⟩:∃ g,g=w.heap.size:=⟨_,rfl⟩
 rw [← hg] at b0 ⊢;have B0:=sd b0;clear b0 hg;go_wp2_with fail
 go_loopw [10] (fun n_ wr=>∃ (i:Nat),i≤L.length∧n_=.int .i64 (i:Int)∧Aside0 (numS L x 0=numS (L.drop i) x i)∧Aside0 (Below w.heap.size w wr)∧Aside0 (wr.heap[g]?=some (.cells (L.map Value.string).toArray 9 (0,0)))) (fun n_ _=>(L.length - (RowKit.intOf n_).toNat))
 case atStart=>exact ⟨0,Nat.zero_le _,rfl,⟨rfl⟩,HB,B0⟩
 case round =>
  clear HB B0;obtain ⟨i,hi,rfl,HU,HB,B0⟩:=hrel;rename World=>wr
  by_cases hlt:i < L.length
  case neg =>
   obtain rfl:i=L.length:=by omega
   have hlt':¬ (L.length:Int) < (L.length:Int):=by omega
   have hr:numS L x 0=0:=by rw [HU.out,List.drop_length];rfl
   go_wp2_with fail
   rw [← HQ.out,hr];exact ⟨by (try rfl),HB.out⟩
  have hlt':(i:Int) < (L.length:Int):=by omega
  have h0:(0:Int)≤(i:Int):=by omega
  have hw:wrap64 ((i:Int)+1)=(i:Int)+1:=by unfold wrap64;omega
  obtain ⟨y,hy⟩:∃ y,y=L[i]:=⟨_,rfl⟩
  have HD:=sd (show L.drop i=y :: L.drop (i+1) by rw [List.drop_eq_getElem_cons hlt,hy])
  have c0:wr.cell? ⟨g,i,none⟩=some (.string y):=by
   refine (blk_cell B0.out i).trans ?_;simp [hy,hlt]
  clear hy;by_cases e:y.toList=x.toList
  ·have q:(y.toList == x.toList)=true:=by rw [beq_iff_eq];exact e
   have hr:numS L x 0=(i:Int)+1:=by rw [HU.out,HD.out,numS,if_pos e]
   go_wp2_with fail
   rw [← HQ.out,hr];exact ⟨by (try rfl),HB.out⟩
  have q:(y.toList == x.toList)=false:=by rw [beq_eq_false_iff_ne];exact e
  have HU2:=sd (show numS L x 0=numS (L.drop (i+1)) x (i+1) by rw [HU.out,HD.out,numS,if_neg e]);clear HU;go_wp2_with fail
  go_roundw
  case rel=>exact ⟨i+1,by omega,by congr 1,HU2,HB,B0⟩
  case measure=>simp [RowKit.intOf];omega
theorem field_calls (x:ByteArray) (w:World) (hG:Gl w):Calls Tryd.prog 71 #[.string fieldB,.string x] w fun e w'=>e=.returned (.int .i64 (numS fieldL x 0))∧Below w.heap.size w w':=number_calls fieldB fieldL fieldB_L (by decide) (ascii_of fieldB_a) (by decide) x w hG
theorem op_calls (x:ByteArray) (w:World) (hG:Gl w):Calls Tryd.prog 71 #[.string opB,.string x] w fun e w'=>e=.returned (.int .i64 (numS opL x 0))∧Below w.heap.size w w':=number_calls opB opL opB_L (by decide) (ascii_of opB_a) (by decide) x w hG
theorem nmd_calls (L:List ByteArray) (s:ByteArray) (hL:(Lib.fields s.data.toList).map (fun l=>(⟨l.toArray⟩:ByteArray))=L) (hs:s.size < 4294967281) (ha:∀ b∈s.data.toList,b.toNat < 128) (n:Int) (x:ByteArray) (hx:nmd L n=some x) (w:World) (hG:Gl w) :
  Calls Tryd.prog 28 #[.string s,.int .i64 n] w fun e w'=>e=.returned (.string x)∧Below w.heap.size w w':=by
 unfold nmd at hx;split at hx
 case isFalse=>cases hx
 rename_i hn
 have e:n=((n.toNat - 1:Nat):Int)+1:=by omega
 rw [e];exact named_calls s L hL hs (ascii_of ha) (n.toNat - 1) x hx w hG (by omega)
mutual
def words_Cut.l0:Nat→ByteArray→List (S66)→Int→Option ((List (S66))×Int×Int)
|0,_,_,_=>none
|k+1,x0,x2,x3=>if x3 < (x0.size:Int) then (if 0≤x3 then (words_Cut.j1 k x0 x2 x3 ((bt x0 x3) != 35)) else (none)) else (words_Cut.j1 k x0 x2 x3 false)
def words_Cut.j1:Nat→ByteArray→List (S66)→Int→Bool→Option ((List (S66))×Int×Int)
|0,_,_,_,_=>none
|k+1,x0,x2,x3,x20=>if x20=true then (if 0≤x3 then (if x3 < (x0.size:Int) then (if (bt x0 x3)=32 then (words_Cut.l0 k x0 x2 (wrap64 (x3+1))) else ((words_word.f k x0 x3).bind fun bt194=>(if bt194.2.2.2.2.2=0 then (if x2.length < 4398046511104 then (words_Cut.l0 k x0 (x2++[(⟨bt194.1,bt194.2.1,bt194.2.2.1⟩:S66)]) bt194.2.2.2.1) else (none)) else (some (([]:List (S66)),bt194.2.2.2.2.1,bt194.2.2.2.2.2))))) else (none)) else (none)) else (some (x2,(x0.size:Int),0))
end
def words_Cut.f (k:Nat) (a0:ByteArray):Option ((List (S66))×Int×Int):=if (a0.size:Int) > 400 then (some (([]:List (S66)),0,9)) else (words_Cut.l0 k a0 ([]:List (S66)) 0)
theorem rules_follow.calls (a0:Bool) (a1 r:Int) (w:World) (h:rules_follow.f a0 a1=some r) :
  Calls Tryd.prog 70 #[.bool a0,.int .i64 a1] w fun e w'=>e=.returned (.int .i64 r)∧Drawn0 w w':=by
 have H:=h;clear h;unfold rules_follow.f at H;by_cases c3:a0=true
 ·subst c3;rw [if_pos rfl] at H;obtain rfl:=Option.some.inj H;go_enter Tryd.func70,Tryd.ntmps70
  go_wp2
  go_ret
  exact ⟨zq7,zq15⟩
 replace c3:=Bool.eq_false_iff.mpr c3;subst c3;rw [if_neg Bool.false_ne_true] at H;obtain rfl:=Option.some.inj H;go_enter Tryd.func70,Tryd.ntmps70
 go_wp2
 go_ret
 exact ⟨zq7,zq15⟩
def days_Parse.rem (k:Nat) (s:ByteArray):Nat→Int→Int→Int→Option (Int×Int)
|0,x,y,z=>days_Of.f k x y z
|1,x,y,z=>(days_number.f k (s.extract 8 10)).bind fun c=>if c.2=true then days_Of.f k x y c.1 else some (0,5)
|2,x,y,z=>(days_number.f k (s.extract 5 7)).bind fun c=>if c.2=true then days_Parse.rem k s 1 x c.1 z else some (0,5)
|_+3,x,y,z=>(days_number.f k (s.extract 0 4)).bind fun c=>if c.2=true then days_Parse.rem k s 2 c.1 y z else some (0,5)
def days_Parse.f (k:Nat) (s:ByteArray):Option (Int×Int):=if s.size≤140737488351232 then (if s.size=10 then (if bt s 4=45 then (if bt s 7=45 then days_Parse.rem k s 3 0 0 0 else some (0,5)) else some (0,5)) else some (0,5)) else none
structure PR where
  nm:ByteArray
  cs:List S27
  acc:ByteArray
  par:ByteArray
  tg:List S35
  st:Int
  ws:List S66
def PR.cells (p:PR) (vC vT vW:Value):Array Value:=#[.string p.nm,vC,.string p.acc,.string p.par,vT,.int .i64 p.st,vW]
structure RP (w:World) (bd g:Nat) (p:PR) (vC vT vW:Value):Prop where
  blk:w.heap[g]?=some (.cells (p.cells vC vT vW) 64 (0,0))
  rC:Kd.R k27 27 w bd (fun _=>True) vC p.cs
  rT:Kd.R k35 35 w bd (fun _=>True) vT p.tg
  rW:Kd.R k66 66 w bd (fun _=>True) vW p.ws
  hbd:bd≤g
theorem RP.below {w w':World} {bd g:Nat} {p:PR} {vC vT vW:Value} (h:RP w bd g p vC vT vW) (hb:Below w.heap.size w w'):RP w' bd g p vC vT vW :=
  ⟨blk_below h.blk hb,Kd.R_below h.rC hb,Kd.R_below h.rT hb,Kd.R_below h.rW hb,h.hbd⟩
theorem RP.set {w:World} {bd g:Nat} {p:PR} {vC vT vW:Value} (h:RP w bd g p vC vT vW) (j:Nat) (u:Value) (q:PR) (hc:(p.cells vC vT vW).set! j u=q.cells vC vT vW) (h1:q.cs=p.cs) (h2:q.tg=p.tg) (h3:q.ws=p.ws):RP (w.setCell ⟨g,j,none⟩ u) bd g q vC vT vW :=
  ⟨blk_put (cs:=p.cells vC vT vW) h.blk j u hc,by rw [h1];exact Kd.R_set h.rC h.blk n48 j u,by rw [h2];exact Kd.R_set h.rT h.blk n50 j u,by rw [h3];exact Kd.R_set h.rW h.blk n73 j u,h.hbd⟩
theorem RP.facts {w:World} {bd g:Nat} {p:PR} {vC vT vW:Value} (h:RP w bd g p vC vT vW) :
    (w.cell? ⟨g,0,none⟩=some (.string p.nm)∧w.cell? ⟨g,1,none⟩=some vC∧w.cell? ⟨g,2,none⟩=some (.string p.acc)∧w.cell? ⟨g,3,none⟩=some (.string p.par)∧w.cell? ⟨g,4,none⟩=some vT∧w.cell? ⟨g,5,none⟩=some (.int .i64 p.st)∧w.cell? ⟨g,6,none⟩=some vW) ∧
    w.frozen? ⟨g,0,none⟩=false∧w.frozen? ⟨g,1,none⟩=false∧w.frozen? ⟨g,2,none⟩=false∧w.frozen? ⟨g,3,none⟩=false∧w.frozen? ⟨g,4,none⟩=false∧w.frozen? ⟨g,5,none⟩=false∧w.frozen? ⟨g,6,none⟩=false :=
  ⟨⟨(blk_cell h.blk 0).trans rfl,(blk_cell h.blk 1).trans rfl,(blk_cell h.blk 2).trans rfl,(blk_cell h.blk 3).trans rfl,(blk_cell h.blk 4).trans rfl,(blk_cell h.blk 5).trans rfl,(blk_cell h.blk 6).trans rfl⟩,
   blk_frozen h.blk 0,blk_frozen h.blk 1,blk_frozen h.blk 2,blk_frozen h.blk 3,blk_frozen h.blk 4,blk_frozen h.blk 5,blk_frozen h.blk 6⟩
theorem FP.below {bd g:Nat} {vC vT vW:Value} {w w1 w2:World} (h:FP bd g vC vT vW w w1) (hb:Below w1.heap.size w1 w2) (hbd:bd≤w.heap.size):FP bd g vC vT vW w w2 :=
  ⟨h.b.trans ⟨hb.os,hb.tape,hb.output,hb.size,fun i hi=>hb.block i (Nat.lt_of_lt_of_le hi (Nat.le_trans hbd h.b.size))⟩,fun i h1 h2 h3 h4 h5=>(hb.block i (Nat.lt_of_lt_of_le h1 h.b.size)).trans (h.fr i h1 h2 h3 h4 h5)⟩
theorem FP.set {bd g o:Nat} {vC vT vW:Value} {w w1:World} (h:FP bd g vC vT vW w w1) (hg:bd≤g) (u:Value):FP bd g vC vT vW w (w1.setCell ⟨g,o,none⟩ u) :=
  ⟨below_setN h.b hg u,fun i h1 h2 h3 h4 h5=>(Below.heap_setCell _ _ _ i h2).trans (h.fr i h1 h2 h3 h4 h5)⟩
theorem last_calls (bd g gc cap:Nat) (p:PR) (vT vW:Value) (w:World) (h:RP w bd g p (.slice (some ⟨gc,0,none⟩) p.cs.length cap) vT vW) (hn:0 < p.cs.length) :
    Calls Tryd.prog 72 #[.pointer (some ⟨g,0,none⟩)] w fun e w'=>e=.returned (.pointer (some ⟨gc,(p.cs.length - 1) * 4,none⟩))∧Drawn0 w w':=by
  obtain ⟨⟨_,k1,_,_,_,_,_⟩,_⟩:=h.facts
  have hl:p.cs.length≤9223372036854775807:=by
    obtain ⟨A,c,_,_,hC⟩:=Kd.R_reads h.rC;exact hC.2.1
  obtain ⟨m,hm⟩:∃ m,p.cs.length=m+1:=⟨p.cs.length - 1,by omega⟩
  rw [hm] at k1 hl ⊢;clear h hn hm;have hw:wrap64 (((m+1:Nat):Int) - 1)=(m:Int):=by unfold wrap64;omega
  have h0:(0:Int)≤(m:Int):=by omega
  have h1:(m:Int) < ((m+1:Nat):Int):=by omega
  go_enter Tryd.func72,Tryd.ntmps72
  go_wp2_with fail
  repeat (go_quiet (fail);try go_wp2)
  go_ret
  exact ⟨rfl,⟨⟨nq,rfl⟩⟩⟩
theorem follow_calls (b:Bool) (s:Int) (w:World):Calls Tryd.prog 70 #[.bool b,.int .i64 s] w fun e w'=>e=.returned (.int .i64 (fol b s))∧Drawn0 w w':=by
  have h:rules_follow.f b s=some (fol b s):=by unfold rules_follow.f fol;cases b <;> rfl
  exact rules_follow.calls b s _ w h
theorem RP.growC {w w1:World} {bd g:Nat} {p:PR} {vC vT vW v1:Value} {cs':List S27} (h:RP w bd g p vC vT vW) (hR:Kd.R k27 27 w1 bd (fun _=>True) v1 cs') (hg:w.grownBy w1 vC.ownBlock):RP (w1.setCell ⟨g,1,none⟩ v1) bd g { p with cs:=cs' } v1 vT vW:=by
  have hB:=blk_grown h.blk hg (Kd.R_ne h.rC h.blk (by decide));exact ⟨blk_put (cs:=p.cells vC vT vW) hB 1 _ rfl,Kd.R_set hR hB n48 1 _,Kd.R_set (Kd.R_over h.rT h.rC (by decide) hg) hB n50 1 _,Kd.R_set (Kd.R_over h.rW h.rC (by decide) hg) hB n73 1 _,h.hbd⟩
theorem RP.growT {w w1:World} {bd g:Nat} {p:PR} {vC vT vW v1:Value} {tg':List S35} (h:RP w bd g p vC vT vW) (hR:Kd.R k35 35 w1 bd (fun _=>True) v1 tg') (hg:w.grownBy w1 vT.ownBlock):RP (w1.setCell ⟨g,4,none⟩ v1) bd g { p with tg:=tg' } vC v1 vW:=by
  have hB:=blk_grown h.blk hg (Kd.R_ne h.rT h.blk (by decide));exact ⟨blk_put (cs:=p.cells vC vT vW) hB 4 _ rfl,Kd.R_set (Kd.R_over h.rC h.rT (by decide) hg) hB n48 4 _,Kd.R_set hR hB n50 4 _,Kd.R_set (Kd.R_over h.rW h.rT (by decide) hg) hB n73 4 _,h.hbd⟩
theorem RP.growW {w w1:World} {bd g:Nat} {p:PR} {vC vT vW v1:Value} {ws':List S66} (h:RP w bd g p vC vT vW) (hR:Kd.R k66 66 w1 bd (fun _=>True) v1 ws') (hg:w.grownBy w1 vW.ownBlock):RP (w1.setCell ⟨g,6,none⟩ v1) bd g { p with ws:=ws' } vC vT v1:=by
  have hB:=blk_grown h.blk hg (Kd.R_ne h.rW h.blk (by decide));exact ⟨blk_put (cs:=p.cells vC vT vW) hB 6 _ rfl,Kd.R_set (Kd.R_over h.rC h.rW (by decide) hg) hB n48 6 _,Kd.R_set (Kd.R_over h.rT h.rW (by decide) hg) hB n50 6 _,Kd.R_set hR hB n73 6 _,h.hbd⟩
theorem RP.elemC {w:World} {bd g gc cap m j:Nat} {p:PR} {vT vW u:Value} {c x':S27} (h:RP w bd g p (.slice (some ⟨gc,0,none⟩) p.cs.length cap) vT vW) (hm:m < p.cs.length) (hc:rd_T27 p.cs (m:Int)=c) (hj:j < 4)
    (hx:([Value.int .i64 c.f0,.int .i64 c.f1,.string c.f2,.int .i64 c.f3]:List Value).take j++[u]++([Value.int .i64 c.f0,.int .i64 c.f1,.string c.f2,.int .i64 c.f3]:List Value).drop (j+1)=[.int .i64 x'.f0,.int .i64 x'.f1,.string x'.f2,.int .i64 x'.f3]) :
    RP (w.setCell ⟨gc,m * 4+j,none⟩ u) bd g { p with cs:=p.cs.set m x' } (.slice (some ⟨gc,0,none⟩) (p.cs.set m x').length cap) vT vW:=by
  have hrC:=h.rC;obtain ⟨cc,hcl,hM,hcc,_⟩:=Kd.R_elem hrC z27 (m:Int) (by omega) (by omega)
  have hce:cc=[Value.int .i64 c.f0,.int .i64 c.f1,.string c.f2,.int .i64 c.f3]:=by
    have:=k27_openM hM;rw [this,← hc];rfl
  obtain ⟨h1,h2⟩:=Kd.R_seg (seg:=[u]) (j:=j) (x':=x') (okp:=fun _=>False) hrC (m:Int) (by omega) (by omega) hcl hcc (by show j+1≤4;omega) (by rw [hce];show k27.M _ _ _ _ (_++_++List.drop (j+1) _);rw [hx];exact k27_mkM _ _ _ _) (fun _ hk=>hk.elim);have e1:w.setCells gc (((m:Int).toNat) * k27.sz+j) [u]=w.setCell ⟨gc,m * 4+j,none⟩ u:=rfl;rw [e1] at h1 h2;have hne:g≠gc:=fun e=>Kd.R_ne hrC h.blk (by decide) (by rw [e];rfl)
  have hl:(p.cs.set m x').length=p.cs.length:=List.length_set;refine ⟨?_,?_,Kd.R_over h.rT hrC (by decide) h2,Kd.R_over h.rW hrC (by decide) h2,h.hbd⟩
  · show _=some (Obj.cells (PR.cells { p with cs:=p.cs.set m x' } (.slice (some ⟨gc,0,none⟩) (p.cs.set m x').length cap) vT vW) 64 (0,0))
    rw [hl];exact blk_far h.blk hne u
  · show Kd.R k27 27 _ bd _ (.slice (some ⟨gc,0,none⟩) (p.cs.set m x').length cap) (p.cs.set m x')
    rw [hl];exact h1
theorem RP.elemT {w:World} {bd g gc cap m j:Nat} {p:PR} {vC vW u:Value} {c x':S35} (h:RP w bd g p vC (.slice (some ⟨gc,0,none⟩) p.tg.length cap) vW) (hm:m < p.tg.length) (hc:rd_T35 p.tg (m:Int)=c) (hj:j < 2)
    (hx:([Value.string c.f0,.string c.f1]:List Value).take j++[u]++([Value.string c.f0,.string c.f1]:List Value).drop (j+1)=[.string x'.f0,.string x'.f1]) :
    RP (w.setCell ⟨gc,m * 2+j,none⟩ u) bd g { p with tg:=p.tg.set m x' } vC (.slice (some ⟨gc,0,none⟩) (p.tg.set m x').length cap) vW:=by
  have hrT:=h.rT;obtain ⟨cc,hcl,hM,hcc,_⟩:=Kd.R_elem hrT z35 (m:Int) (by omega) (by omega)
  have hce:cc=[Value.string c.f0,.string c.f1]:=by
    have:=k35_openM hM;rw [this,← hc];rfl
  obtain ⟨h1,h2⟩:=Kd.R_seg (seg:=[u]) (j:=j) (x':=x') (okp:=fun _=>False) hrT (m:Int) (by omega) (by omega) hcl hcc (by show j+1≤2;omega) (by rw [hce];show k35.M _ _ _ _ (_++_++List.drop (j+1) _);rw [hx];exact k35_mkM _ _ _ _) (fun _ hk=>hk.elim);have e1:w.setCells gc (((m:Int).toNat) * k35.sz+j) [u]=w.setCell ⟨gc,m * 2+j,none⟩ u:=rfl;rw [e1] at h1 h2;have hne:g≠gc:=fun e=>Kd.R_ne hrT h.blk (by decide) (by rw [e];rfl)
  have hl:(p.tg.set m x').length=p.tg.length:=List.length_set;refine ⟨?_,Kd.R_over h.rC hrT (by decide) h2,?_,Kd.R_over h.rW hrT (by decide) h2,h.hbd⟩
  · show _=some (Obj.cells (PR.cells { p with tg:=p.tg.set m x' } vC (.slice (some ⟨gc,0,none⟩) (p.tg.set m x').length cap) vW) 64 (0,0))
    rw [hl];exact blk_far h.blk hne u
  · show Kd.R k35 35 _ bd _ (.slice (some ⟨gc,0,none⟩) (p.tg.set m x').length cap) (p.tg.set m x')
    rw [hl];exact h1
def StepPost (bd g:Nat) (vC vT vW:Value) (p':PR) (r:Int) (w:World) (e:Ending) (w':World):Prop :=
  e=.returned (.int .i64 r)∧(∃ vC' vT' vW',RP w' bd g p' vC' vT' vW')∧FP bd g vC vT vW w w'
theorem head_3 (bd g:Nat) (p:PR) (vC vT vW:Value) (x:S66) (code:Bool) (w:World) (hp:RP w bd g p vC vT vW) (hbd:bd≤w.heap.size) (hst:p.st=3) (hG:Gl w) (hln:p.cs.length≤1000000) :
    Calls Tryd.prog 52 #[.pointer (some ⟨g,0,none⟩),.agg #[.int .i64 x.f0,.string x.f1,.int .i64 x.f2],.bool code] w (StepPost bd g vC vT vW ({ p with cs:=p.cs++[⟨numS fieldL x.f1 0,0,⟨#[]⟩,0⟩] }) (fol (decide (x.f0=1∧numS fieldL x.f1 0 > 0)) 4) w):=by
  have hmf:∀ (fn:Fn) (first cap:Array Value) (w:World),(Instr.makeFunc fn first cap).run Tryd.prog w=.ok (.func fn first cap) w:=fun _ _ _ _=>rfl
  have HP:=sd hp;have HLEN:=sd hln;clear hln;have HG:=sd hG;clear hG;have HNE:=sd (show ¬ w.heap.size=g from fun h=>by have:=blk_lt hp.blk;omega);have HNW:=sd (Kd.R_lt HP.out.rW);have HF:=sd (FP.refl bd g vC vT vW w);clear hp;generalize hQ:StepPost bd g vC vT vW ({ p with cs:=p.cs++[⟨numS fieldL x.f1 0,0,⟨#[]⟩,0⟩] }) (fol (decide (x.f0=1∧numS fieldL x.f1 0 > 0)) 4) w=Post;have HQ:=sd hQ;clear hQ;go_enter Tryd.func52,Tryd.ntmps52
  go_upto_region 1 with (fail)
  have hB1:=below_alloc (Below.refl w.heap.size w) (Obj.cells #[Value.int IntKind.i64 x.f0,Value.string x.f1,Value.int IntKind.i64 x.f2] 66);have b0:(w.alloc (Obj.cells #[Value.int IntKind.i64 x.f0,Value.string x.f1,Value.int IntKind.i64 x.f2] 66)).heap[w.heap.size]?=some (.cells #[Value.int IntKind.i64 x.f0,Value.string x.f1,Value.int IntKind.i64 x.f2] 66 (0,0)):=blk_new _ _;replace HP:=sd (HP.out.below hB1);replace HF:=sd (HF.out.below hB1 hbd);generalize w.alloc (Obj.cells #[Value.int IntKind.i64 x.f0,Value.string x.f1,Value.int IntKind.i64 x.f2] 66)=w1 at *;obtain ⟨gw,hgw⟩:∃ gw,gw=w.heap.size:=⟨_,rfl⟩
  have hgg:gw≠g:=by have:=blk_lt HP.out.blk;have:=hB1.size;intro h;rw [hgw] at h;exact absurd h (HNE.out)
  have HGN:=sd (show some gw≠Value.ownBlock vW from fun e=>by have:=HNW.out gw e.symm;omega);clear HNW;rw [← hgw] at b0 ⊢;have BW:=sd b0;have HB1:=sd hB1;clear b0 hB1 hgw;obtain ⟨⟨k0,k1,k2,k3,k4,k5,k6⟩,f0,f1,f2,f3,f4,f5,f6⟩:=HP.out.facts;rw [hst] at k5;obtain ⟨w0_,w1_,w2_,_,_,_⟩:=bk3 BW;go_wp2_with fail
  refine (field_calls x.f1 w1 (gl_below HG.out HB1.out)).mono ?_;rintro e wn ⟨rfl,hb⟩;replace HP:=sd (HP.out.below hb);replace HF:=sd (HF.out.below hb hbd);replace BW:=sd (blk_below BW.out hb);clear hb k0 k1 k2 k3 k4 k5 k6 f0 f1 f2 f3 f4 f5 f6 w0_ w1_ w2_;obtain ⟨nf,hnf⟩:∃ n,numS fieldL x.f1 0=n:=⟨_,rfl⟩
  rw [hnf] at HQ ⊢;clear hnf;obtain ⟨⟨k0,k1,k2,k3,k4,k5,k6⟩,f0,f1,f2,f3,f4,f5,f6⟩:=HP.out.facts;obtain ⟨w0_,w1_,w2_,_,_,_⟩:=bk3 BW;by_cases e1:x.f0=1∧nf > 0
  · have q1:decide (x.f0=1)=true:=decide_eq_true e1.1
    have q2:decide (nf > 0)=true:=decide_eq_true e1.2;have q3:decide (0 < nf)=true:=decide_eq_true e1.2;rw [decide_eq_true e1] at HQ;go_wp2_with ((with_reducible refine gate_builtin (b:=.append) (xs:=#[.tmp 45,.tmp 48]) rfl ?_);at_builtin;refine Kd.R_append k27 (w0:=wn) bd rfl (.tmp 45) (.tmp 48) 22 27 (.agg #[(.int .i64 0),(.int .i64 0),(.string ⟨#[]⟩),(.int .i64 0)]) 40 rfl Tryd.underlying22 info27 rfl (by decide) (by omega) vC p.cs ⟨nf,0,⟨#[]⟩,0⟩ [.int .i64 nf,.int .i64 0,.string ⟨#[]⟩,.int .i64 0] (fun _=>True) (fun _=>False) rfl rfl (k27_mkM _ _ _ _) (fun _ hk=>hk.elim) (fun _ _=>trivial) HP.out.rC (Below.refl _ _) (below_base HF.out.b hbd) (by have:=HLEN.out;omega) ?_;intro v1 w4 hR hb hg hat;obtain ⟨va,vc,rfl⟩:=Kd.R_slice hR;rw [List.length_append,List.length_singleton] at hR ⊢;replace HF:=sd (FP.grownC HF.out hb hg);have hB4:=blk_grown HP.out.blk hg (Kd.R_ne HP.out.rC HP.out.blk (by decide));replace BW:=sd (blk_grown BW.out hg (Kd.R_ne HP.out.rC BW.out (by decide)));replace HF:=sd (FP.set (o:=1) HF.out HP.out.hbd (.slice va (p.cs.length+1) vc));replace HP:=sd (RP.growC HP.out hR hg);have c1_:=(blk_cell hB4 1).trans rfl;have c1f:=blk_frozen hB4 1;obtain ⟨w0_,w1_,w2_,_,_,_⟩:=bk3 BW;clear hB4 hb hg hat hR)
    generalize w4.setCell ⟨g,1,none⟩ (.slice va (p.cs.length+1) vc)=w5 at HP HF BW ⊢;refine (follow_calls _ 4 _).mono ?_;rintro e w6 ⟨rfl,hd⟩;obtain ⟨⟨nd,rfl⟩⟩:=hd;replace HP:=sd (HP.out.below (pw_below_drewN (Below.refl _ _) nd));replace HF:=sd (HF.out.below (pw_below_drewN (Below.refl _ _) nd) hbd);generalize w5.drewN nd=w6 at HP HF ⊢;go_wp2_with fail
    rw [← HQ.out];exact ⟨by (try rfl),⟨_,_,_,HP.out⟩,HF.out⟩
  rw [decide_eq_false e1] at HQ;by_cases e2:x.f0=1
  · have q1:decide (x.f0=1)=true:=decide_eq_true e2
    have q2:decide (nf > 0)=false:=decide_eq_false (fun h=>e1 ⟨e2,h⟩);have q3:decide (0 < nf)=false:=decide_eq_false (fun h=>e1 ⟨e2,h⟩);go_wp2_with ((with_reducible refine gate_builtin (b:=.append) (xs:=#[.tmp 45,.tmp 48]) rfl ?_);at_builtin;refine Kd.R_append k27 (w0:=wn) bd rfl (.tmp 45) (.tmp 48) 22 27 (.agg #[(.int .i64 0),(.int .i64 0),(.string ⟨#[]⟩),(.int .i64 0)]) 40 rfl Tryd.underlying22 info27 rfl (by decide) (by omega) vC p.cs ⟨nf,0,⟨#[]⟩,0⟩ [.int .i64 nf,.int .i64 0,.string ⟨#[]⟩,.int .i64 0] (fun _=>True) (fun _=>False) rfl rfl (k27_mkM _ _ _ _) (fun _ hk=>hk.elim) (fun _ _=>trivial) HP.out.rC (Below.refl _ _) (below_base HF.out.b hbd) (by have:=HLEN.out;omega) ?_;intro v1 w4 hR hb hg hat;obtain ⟨va,vc,rfl⟩:=Kd.R_slice hR;rw [List.length_append,List.length_singleton] at hR ⊢;replace HF:=sd (FP.grownC HF.out hb hg);have hB4:=blk_grown HP.out.blk hg (Kd.R_ne HP.out.rC HP.out.blk (by decide));replace BW:=sd (blk_grown BW.out hg (Kd.R_ne HP.out.rC BW.out (by decide)));replace HF:=sd (FP.set (o:=1) HF.out HP.out.hbd (.slice va (p.cs.length+1) vc));replace HP:=sd (RP.growC HP.out hR hg);have c1_:=(blk_cell hB4 1).trans rfl;have c1f:=blk_frozen hB4 1;obtain ⟨w0_,w1_,w2_,_,_,_⟩:=bk3 BW;clear hB4 hb hg hat hR)
    generalize w4.setCell ⟨g,1,none⟩ (.slice va (p.cs.length+1) vc)=w5 at HP HF BW ⊢;refine (follow_calls _ 4 _).mono ?_;rintro e w6 ⟨rfl,hd⟩;obtain ⟨⟨nd,rfl⟩⟩:=hd;replace HP:=sd (HP.out.below (pw_below_drewN (Below.refl _ _) nd));replace HF:=sd (HF.out.below (pw_below_drewN (Below.refl _ _) nd) hbd);generalize w5.drewN nd=w6 at HP HF ⊢;go_wp2_with fail
    rw [← HQ.out];exact ⟨by (try rfl),⟨_,_,_,HP.out⟩,HF.out⟩
  have q1:decide (x.f0=1)=false:=decide_eq_false e2;go_wp2_with ((with_reducible refine gate_builtin (b:=.append) (xs:=#[.tmp 45,.tmp 48]) rfl ?_);at_builtin;refine Kd.R_append k27 (w0:=wn) bd rfl (.tmp 45) (.tmp 48) 22 27 (.agg #[(.int .i64 0),(.int .i64 0),(.string ⟨#[]⟩),(.int .i64 0)]) 40 rfl Tryd.underlying22 info27 rfl (by decide) (by omega) vC p.cs ⟨nf,0,⟨#[]⟩,0⟩ [.int .i64 nf,.int .i64 0,.string ⟨#[]⟩,.int .i64 0] (fun _=>True) (fun _=>False) rfl rfl (k27_mkM _ _ _ _) (fun _ hk=>hk.elim) (fun _ _=>trivial) HP.out.rC (Below.refl _ _) (below_base HF.out.b hbd) (by have:=HLEN.out;omega) ?_;intro v1 w4 hR hb hg hat;obtain ⟨va,vc,rfl⟩:=Kd.R_slice hR;rw [List.length_append,List.length_singleton] at hR ⊢;replace HF:=sd (FP.grownC HF.out hb hg);have hB4:=blk_grown HP.out.blk hg (Kd.R_ne HP.out.rC HP.out.blk (by decide));replace BW:=sd (blk_grown BW.out hg (Kd.R_ne HP.out.rC BW.out (by decide)));replace HF:=sd (FP.set (o:=1) HF.out HP.out.hbd (.slice va (p.cs.length+1) vc));replace HP:=sd (RP.growC HP.out hR hg);have c1_:=(blk_cell hB4 1).trans rfl;have c1f:=blk_frozen hB4 1;obtain ⟨w0_,w1_,w2_,_,_,_⟩:=bk3 BW;clear hB4 hb hg hat hR)
  generalize w4.setCell ⟨g,1,none⟩ (.slice va (p.cs.length+1) vc)=w5 at HP HF BW ⊢;refine (follow_calls _ 4 _).mono ?_;rintro e w6 ⟨rfl,hd⟩;obtain ⟨⟨nd,rfl⟩⟩:=hd;replace HP:=sd (HP.out.below (pw_below_drewN (Below.refl _ _) nd));replace HF:=sd (HF.out.below (pw_below_drewN (Below.refl _ _) nd) hbd);generalize w5.drewN nd=w6 at HP HF ⊢;go_wp2_with fail
  rw [← HQ.out];exact ⟨by (try rfl),⟨_,_,_,HP.out⟩,HF.out⟩
theorem tail_10 (bd g:Nat) (p:PR) (vC vT vW:Value) (x:S66) (code:Bool) (w:World) (hp:RP w bd g p vC vT vW) (hbd:bd≤w.heap.size) (hst:p.st=10) (hln:p.tg.length≤1000000) :
    Calls Tryd.prog 73 #[.pointer (some ⟨g,0,none⟩),.agg #[.int .i64 x.f0,.string x.f1,.int .i64 x.f2],.bool code] w (StepPost bd g vC vT vW ({ p with tg:=p.tg++[⟨x.f1,⟨#[]⟩⟩] }) (fol code 11) w):=by
  have hmf:∀ (fn:Fn) (first cap:Array Value) (w:World),(Instr.makeFunc fn first cap).run Tryd.prog w=.ok (.func fn first cap) w:=fun _ _ _ _=>rfl
  have HP:=sd hp;have HLEN:=sd hln;clear hln;obtain ⟨va,vc,hvt⟩:=Kd.R_slice HP.out.rT;subst hvt;have HNE:=sd (show ¬ w.heap.size=g from fun h=>by have:=blk_lt hp.blk;omega);have HNW:=sd (Kd.R_lt HP.out.rW);have HF:=sd (FP.refl bd g vC (.slice va p.tg.length vc) vW w);clear hp;generalize hQ:StepPost bd g vC (.slice va p.tg.length vc) vW ({ p with tg:=p.tg++[⟨x.f1,⟨#[]⟩⟩] }) (fol code 11) w=Post;have HQ:=sd hQ;clear hQ;go_enter Tryd.func73,Tryd.ntmps73
  go_upto_region 1 with (fail)
  have hB1:=below_alloc (Below.refl w.heap.size w) (Obj.cells #[Value.int IntKind.i64 x.f0,Value.string x.f1,Value.int IntKind.i64 x.f2] 66);have b0:(w.alloc (Obj.cells #[Value.int IntKind.i64 x.f0,Value.string x.f1,Value.int IntKind.i64 x.f2] 66)).heap[w.heap.size]?=some (.cells #[Value.int IntKind.i64 x.f0,Value.string x.f1,Value.int IntKind.i64 x.f2] 66 (0,0)):=blk_new _ _;replace HP:=sd (HP.out.below hB1);replace HF:=sd (HF.out.below hB1 hbd);generalize w.alloc (Obj.cells #[Value.int IntKind.i64 x.f0,Value.string x.f1,Value.int IntKind.i64 x.f2] 66)=w1 at *;obtain ⟨gw,hgw⟩:∃ gw,gw=w.heap.size:=⟨_,rfl⟩
  have hgg:gw≠g:=by have:=blk_lt HP.out.blk;have:=hB1.size;intro h;rw [hgw] at h;exact absurd h (HNE.out)
  have HGN:=sd (show some gw≠Value.ownBlock vW from fun e=>by have:=HNW.out gw e.symm;omega);clear HNW;rw [← hgw] at b0 ⊢;have BW:=sd b0;have HB1:=sd hB1;clear b0 hB1 hgw;obtain ⟨⟨k0,k1,k2,k3,k4,k5,k6⟩,f0,f1,f2,f3,f4,f5,f6⟩:=HP.out.facts;rw [hst] at k5;obtain ⟨w0_,w1_,w2_,_,_,_⟩:=bk3 BW;go_wp2_with fail
  clear k0 k1 k2 k3 k4 k5 k6 f0 f1 f2 f3 f4 f5 f6 w0_ w1_ w2_;replace HP:=sd (HP.out.below (below_drew1 (Below.refl _ _)));replace HF:=sd (HF.out.below (below_drew1 (Below.refl _ _)) hbd);replace BW:=sd (blk_below BW.out (below_drew1 (Below.refl _ _)));obtain ⟨⟨k0,k1,k2,k3,k4,k5,k6⟩,f0,f1,f2,f3,f4,f5,f6⟩:=HP.out.facts;obtain ⟨w0_,w1_,w2_,_,_,_⟩:=bk3 BW;refine start_ (n:=15) (S:=fun w'=>w'.cell? ⟨g,4,none⟩=some (.slice va p.tg.length vc)∧w'.cell? ⟨gw,1,none⟩=some (.string x.f1)) (ds:=[10,14]) #[false,false,false,false,false,false,false,false,false,false,false,false,false,false,false] (by kernel_rfl) rfl rfl ⟨k4,w1_⟩ (fun hHeld=>?_);generalize w1.drew=w9 at HP HF BW k0 k1 k2 k3 k4 k5 k6 f0 f1 f2 f3 f4 f5 f6 w0_ w1_ w2_ hHeld ⊢;refine pB 0 80 ?_;refine pB 1 81 ?_;refine pB 2 82 ?_;refine pB 3 83 ?_;refine pB 4 84 ?_;refine pB 6 86 ?_;refine tB 5 85 hHeld ?_;refine tB 7 87 hHeld ?_;refine pB 8 88 ?_;refine one_ (i:=9) (N:=some 89) #[true,true,true,true,true,true,true,true,true,true,false,false,false,false,false] rfl rfl (by kernel_rfl) (by decide) (fun K hK=>?_);refine value_ (v:=.slice (some ⟨w9.heap.size,0,none⟩) 1 1) (w1:=w9.alloc (.cells #[.string x.f1,.string ⟨#[]⟩] 35)) (by rfl) rfl (by go_simp) ?_;have hb9:=below_alloc (Below.refl w9.heap.size w9) (.cells #[.string x.f1,.string ⟨#[]⟩] 35);refine hK.out _ _ ⟨pw_cell_below hb9 hHeld.1,pw_cell_below hb9 hHeld.2⟩ (fun hHeld=>?_);clear hK K hb9;refine nA 89 ?_;refine last_ (i:=10) (N:=some 90) #[true,true,true,true,true,true,true,true,true,true,true,false,false,false,false] rfl rfl (by kernel_rfl) (by decide) (fun K hK=>?_);refine Kd.R_append_step (w0:=w9) k35 bd (by rfl) (.tmp 85) (.tmp 89) 23 35 _ 32 rfl Tryd.underlying23 info35 rfl (by decide) (by decide) (.slice va p.tg.length vc) p.tg ⟨x.f1,⟨#[]⟩⟩ [.string x.f1,.string ⟨#[]⟩] (fun _=>True) (fun _=>False) rfl rfl (k35_mkM _ _ _ _) (fun k hk=>hk.elim) (fun _ _=>trivial) HP.out.rT (Below.refl _ _) (below_base HF.out.b hbd) (by have:=HLEN.out;omega) ?_;intro v1 w10 hR hb hg hat;obtain ⟨va4,vc4,rfl⟩:=Kd.R_slice hR;rw [List.length_append,List.length_singleton] at hR ⊢;refine hK.out _ _ ?_;clear hK K;refine nA 90 ?_;refine pB 11 91 ?_;refine pB 12 92 ?_;refine pB 13 93 ?_;have hB4:=blk_grown HP.out.blk hg (Kd.R_ne HP.out.rT HP.out.blk (by decide));have hs4:w10.cell? ⟨g,4,none⟩=some (.slice va p.tg.length vc):=(blk_cell hB4 4).trans rfl;have hf4:=blk_frozen hB4 4;refine last_ (i:=14) (N:=none) #[true,true,true,true,true,true,true,true,true,true,true,true,true,true,true] rfl rfl (by kernel_rfl) (by decide) (fun K hK=>?_);refine skip_ (w1:=w10.setCell ⟨g,4,none⟩ (.slice va4 (p.tg.length+1) vc4)) (by rfl) rfl (by go_simp;try rfl) ?_;refine hK.out _ _ ?_;clear hK K;refine done_ (by kernel_rfl) ?_;replace HF:=sd (FP.set (o:=4) (FP.grownT HF.out hb hg) HP.out.hbd (.slice va4 (p.tg.length+1) vc4));replace HP:=sd (RP.growT HP.out hR hg);clear hB4 hs4 hf4 hb hg hat hR k0 k1 k2 k3 k4 k5 k6 f0 f1 f2 f3 f4 f5 f6 w0_ w1_ w2_ hHeld;generalize w10.setCell ⟨g,4,none⟩ (.slice va4 (p.tg.length+1) vc4)=w11 at HP HF ⊢;go_wp2_with fail
  refine (follow_calls _ 11 _).mono ?_;rintro e wn ⟨rfl,hd⟩;obtain ⟨⟨nd,rfl⟩⟩:=hd;replace HP:=sd (HP.out.below (pw_below_drewN (Below.refl _ _) nd));replace HF:=sd (HF.out.below (pw_below_drewN (Below.refl _ _) nd) hbd);generalize w11.drewN nd=w12 at HP HF ⊢;go_wp2_with fail
  rw [← HQ.out];exact ⟨by (try rfl),⟨_,_,_,HP.out⟩,HF.out⟩
theorem tail_12 (bd g:Nat) (p:PR) (vC vT vW:Value) (x:S66) (code:Bool) (w:World) (hp:RP w bd g p vC vT vW) (hbd:bd≤w.heap.size) (hst:p.st=12) (hn:0 < p.tg.length) :
    Calls Tryd.prog 73 #[.pointer (some ⟨g,0,none⟩),.agg #[.int .i64 x.f0,.string x.f1,.int .i64 x.f2],.bool code] w (StepPost bd g vC vT vW ({ p with tg:=p.tg.set (p.tg.length - 1) { rd_T35 p.tg ((p.tg.length - 1:Nat):Int) with f1:=x.f1 } }) (fol code 13) w):=by
  have hmf:∀ (fn:Fn) (first cap:Array Value) (w:World),(Instr.makeFunc fn first cap).run Tryd.prog w=.ok (.func fn first cap) w:=fun _ _ _ _=>rfl
  have HP:=sd hp;obtain ⟨gc,cap,hvt,hgc,_,_⟩:=Kd.R_form HP.out.rT hn;subst hvt;have HN:=sd hn;have HGC:=sd hgc
  have hl:p.tg.length≤9223372036854775807:=by
    obtain ⟨A,c,_,_,hC⟩:=Kd.R_reads HP.out.rT;exact hC.2.1
  have HL:=sd hl;clear hn hgc hl;have HNE:=sd (show ¬ w.heap.size=g from fun h=>by have:=blk_lt hp.blk;omega);have HNW:=sd (Kd.R_lt HP.out.rW);have HF:=sd (FP.refl bd g vC (.slice (some ⟨gc,0,none⟩) p.tg.length cap) vW w);clear hp;generalize hQ:StepPost bd g vC (.slice (some ⟨gc,0,none⟩) p.tg.length cap) vW ({ p with tg:=p.tg.set (p.tg.length - 1) { rd_T35 p.tg ((p.tg.length - 1:Nat):Int) with f1:=x.f1 } }) (fol code 13) w=Post;have HQ:=sd hQ;clear hQ;go_enter Tryd.func73,Tryd.ntmps73
  go_upto_region 1 with (fail)
  have hB1:=below_alloc (Below.refl w.heap.size w) (Obj.cells #[Value.int IntKind.i64 x.f0,Value.string x.f1,Value.int IntKind.i64 x.f2] 66);have b0:(w.alloc (Obj.cells #[Value.int IntKind.i64 x.f0,Value.string x.f1,Value.int IntKind.i64 x.f2] 66)).heap[w.heap.size]?=some (.cells #[Value.int IntKind.i64 x.f0,Value.string x.f1,Value.int IntKind.i64 x.f2] 66 (0,0)):=blk_new _ _;replace HP:=sd (HP.out.below hB1);replace HF:=sd (HF.out.below hB1 hbd);generalize w.alloc (Obj.cells #[Value.int IntKind.i64 x.f0,Value.string x.f1,Value.int IntKind.i64 x.f2] 66)=w1 at *;obtain ⟨gw,hgw⟩:∃ gw,gw=w.heap.size:=⟨_,rfl⟩
  have hgg:gw≠g:=by have:=blk_lt HP.out.blk;have:=hB1.size;intro h;rw [hgw] at h;exact absurd h (HNE.out)
  have HGN:=sd (show some gw≠Value.ownBlock vW from fun e=>by have:=HNW.out gw e.symm;omega);clear HNW;rw [← hgw] at b0 ⊢;have BW:=sd b0;have HB1:=sd hB1;clear b0 hB1 hgw;obtain ⟨⟨k0,k1,k2,k3,k4,k5,k6⟩,f0,f1,f2,f3,f4,f5,f6⟩:=HP.out.facts;rw [hst] at k5;obtain ⟨w0_,w1_,w2_,_,_,_⟩:=bk3 BW;obtain ⟨m,hm⟩:∃ m,p.tg.length - 1=m:=⟨_,rfl⟩
  rw [hm] at HQ;have hml:p.tg.length=m+1:=by have:=HN.out;omega
  obtain ⟨c,hc⟩:∃ c,rd_T35 p.tg (m:Int)=c:=⟨_,rfl⟩
  rw [hc] at HQ;clear hm;have hw:wrap64 ((p.tg.length:Int) - 1)=(m:Int):=by have:=HL.out;unfold wrap64;omega
  have h0:(0:Int)≤(m:Int):=by omega
  have h1:(m:Int) < (p.tg.length:Int):=by omega
  have HML:=sd hml;have HCc:=sd hc;clear hml hc;go_wp2_with fail
  clear k0 k1 k2 k3 k4 k5 k6 f0 f1 f2 f3 f4 f5 f6 w0_ w1_ w2_;replace HP:=sd (HP.out.below (below_drew1 (Below.refl _ _)));replace HF:=sd (HF.out.below (below_drew1 (Below.refl _ _)) hbd);replace BW:=sd (blk_below BW.out (below_drew1 (Below.refl _ _)));obtain ⟨⟨k0,k1,k2,k3,k4,k5,k6⟩,f0,f1,f2,f3,f4,f5,f6⟩:=HP.out.facts;obtain ⟨w0_,w1_,w2_,_,_,_⟩:=bk3 BW;refine start_ (n:=17) (S:=fun w'=>w'.cell? ⟨g,4,none⟩=some (.slice (some ⟨gc,0,none⟩) p.tg.length cap)∧w'.cell? ⟨gw,1,none⟩=some (.string x.f1)) (ds:=[16]) #[false,false,false,false,false,false,false,false,false,false,false,false,false,false,false,false,false] (by kernel_rfl) rfl rfl ⟨k4,w1_⟩ (fun hHeld=>?_);generalize w1.drew=w9 at HP HF BW k0 k1 k2 k3 k4 k5 k6 f0 f1 f2 f3 f4 f5 f6 w0_ w1_ w2_ hHeld ⊢;refine pB 0 109 ?_;refine pB 1 110 ?_;refine pB 2 111 ?_;refine pB 3 112 ?_;refine pB 5 114 ?_;refine pB 6 115 ?_;refine pB 7 116 ?_;refine pB 8 117 ?_;refine pB 12 121 ?_;refine tB 4 113 hHeld ?_;refine tB 9 118 hHeld ?_;refine tB 13 122 hHeld ?_;refine pB 10 119 ?_;refine pB 11 120 ?_;refine pB 14 123 ?_;refine pB 15 124 ?_;obtain ⟨cc,hcl,hM,hcc,hfr⟩:=Kd.R_elem HP.out.rT z35 (m:Int) (by omega) h1
  have hce:cc=[Value.string c.f0,.string c.f1]:=by
    have:=k35_openM hM;rw [this,← HCc.out];rfl
  subst hce;have e1:w9.cell? ⟨gc,m * 2+1,none⟩=some (.string c.f1):=hcc 1 _ rfl;have e2:w9.frozen? ⟨gc,m * 2+1,none⟩=false:=hfr 1;clear hcl hM hcc hfr;refine last_ (i:=16) (N:=none) #[true,true,true,true,true,true,true,true,true,true,true,true,true,true,true,true,true] rfl rfl (by kernel_rfl) (by decide) (fun K hK=>?_);refine skip_ (w1:=w9.setCell ⟨gc,m * 2+1,none⟩ (.string x.f1)) (by rfl) rfl (by go_simp;try rfl) ?_;refine hK.out _ _ ?_;clear hK K;refine done_ (by kernel_rfl) ?_;replace HF:=sd (FP.far (o:=m * 2+1) HF.out HGC.out (Or.inr rfl) (.string x.f1));replace HP:=sd (RP.elemT (j:=1) (u:=.string x.f1) (x':={ c with f1:=x.f1 }) HP.out (by have:=HML.out;omega) HCc.out (by decide) rfl);clear e1 e2 k0 k1 k2 k3 k4 k5 k6 f0 f1 f2 f3 f4 f5 f6 w0_ w1_ w2_ hHeld;generalize w9.setCell ⟨gc,m * 2+1,none⟩ (.string x.f1)=w11 at HP HF ⊢;go_wp2_with fail
  refine (follow_calls _ 13 _).mono ?_;rintro e wn ⟨rfl,hd⟩;obtain ⟨⟨nd,rfl⟩⟩:=hd;replace HP:=sd (HP.out.below (pw_below_drewN (Below.refl _ _) nd));replace HF:=sd (HF.out.below (pw_below_drewN (Below.refl _ _) nd) hbd);generalize w11.drewN nd=w12 at HP HF ⊢;go_wp2_with fail
  rw [← HQ.out];exact ⟨by (try rfl),⟨_,_,_,HP.out⟩,HF.out⟩
def moveR (k:Nat) (p:PR) (x:S66) (code:Bool):Option (PR×Int) :=
  if p.st=0 then some (p,fol (keyB x (⟨#[114,117,108,101]⟩:ByteArray)) 1) else
  if p.st=1 then some ({ p with nm:=x.f1 },fol code 2) else
  if p.st=2 then some (p,fol (keyB x (⟨#[105,102]⟩:ByteArray)) 3) else
  if p.st=3 then (if p.cs.length≤1000000 then some ({ p with cs:=p.cs++[⟨numS fieldL x.f1 0,0,⟨#[]⟩,0⟩] },fol (decide (x.f0=1∧numS fieldL x.f1 0 > 0)) 4) else none) else
  if p.st=4 then (if 0 < p.cs.length then (rules_suits.f k (rd_T27 p.cs ((p.cs.length - 1:Nat):Int)).f0 (numS opL x.f1 0)).bind fun b=>some ({ p with cs:=p.cs.set (p.cs.length - 1) { rd_T27 p.cs ((p.cs.length - 1:Nat):Int) with f1:=numS opL x.f1 0 } },fol (decide (x.f0=1) && b) 5) else none) else
  if p.st=5 then (if p.ws.length≤1000000∧0 < p.cs.length then some ({ p with ws:=p.ws++[x] },if (rd_T27 p.cs ((p.cs.length - 1:Nat):Int)).f0=1∨(rd_T27 p.cs ((p.cs.length - 1:Nat):Int)).f0=4 then fol (decide (x.f0=2)) 6 else fol (decide (x.f0=3)) 6) else none) else
  if p.st=6 then some (p,if keyB x (⟨#[97,110,100]⟩:ByteArray)=true then 3 else fol (keyB x (⟨#[116,104,101,110]⟩:ByteArray)) 7) else
  if p.st=7 then some ({ p with acc:=x.f1 },fol code 8) else
  if p.st=8 then some (p,if keyB x (⟨#[112,97,114,116,121]⟩:ByteArray)=true then 9 else fol (keyB x (⟨#[116,97,103]⟩:ByteArray)) 10) else
  if p.st=9 then some ({ p with par:=x.f1 },fol code 13) else
  if p.st=10 then (if p.tg.length≤1000000 then some ({ p with tg:=p.tg++[⟨x.f1,⟨#[]⟩⟩] },fol code 11) else none) else
  if p.st=11 then some (p,fol (decide (x.f0=4) && (x.f1.toList == ([61]:List UInt8))) 12) else
  if p.st=12 then (if 0 < p.tg.length then some ({ p with tg:=p.tg.set (p.tg.length - 1) { rd_T35 p.tg ((p.tg.length - 1:Nat):Int) with f1:=x.f1 } },fol code 13) else none) else
  if p.st=13 then some (p,fol (keyB x (⟨#[116,97,103]⟩:ByteArray)) 10) else none
theorem head_t (bd g:Nat) (p:PR) (vC vT vW:Value) (x:S66) (code:Bool) (p':PR) (r:Int) (w:World) (hp:RP w bd g p vC vT vW) (hbd:bd≤w.heap.size) (h5:5≤p.st)
    (ht:∀ W,RP W bd g p vC vT vW→bd≤W.heap.size→Calls Tryd.prog 73 #[.pointer (some ⟨g,0,none⟩),.agg #[.int .i64 x.f0,.string x.f1,.int .i64 x.f2],.bool code] W (StepPost bd g vC vT vW p' r W)) :
    Calls Tryd.prog 52 #[.pointer (some ⟨g,0,none⟩),.agg #[.int .i64 x.f0,.string x.f1,.int .i64 x.f2],.bool code] w (StepPost bd g vC vT vW p' r w):=by
  have hmf:∀ (fn:Fn) (first cap:Array Value) (w:World),(Instr.makeFunc fn first cap).run Tryd.prog w=.ok (.func fn first cap) w:=fun _ _ _ _=>rfl
  have HP:=sd hp;have HF:=sd (FP.refl bd g vC vT vW w);have HT:=sd ht;clear hp ht;generalize hQ:StepPost bd g vC vT vW p' r w=Post;have HQ:=sd hQ;clear hQ;have q0:decide (p.st=0)=false:=decide_eq_false (by omega);have q1:decide (p.st=1)=false:=decide_eq_false (by omega);have q2:decide (p.st=2)=false:=decide_eq_false (by omega);have q3:decide (p.st=3)=false:=decide_eq_false (by omega);have q4:decide (p.st=4)=false:=decide_eq_false (by omega);go_enter Tryd.func52,Tryd.ntmps52
  go_upto_region 1 with (fail)
  have hB1:=below_alloc (Below.refl w.heap.size w) (Obj.cells #[Value.int IntKind.i64 x.f0,Value.string x.f1,Value.int IntKind.i64 x.f2] 66);have b0:(w.alloc (Obj.cells #[Value.int IntKind.i64 x.f0,Value.string x.f1,Value.int IntKind.i64 x.f2] 66)).heap[w.heap.size]?=some (.cells #[Value.int IntKind.i64 x.f0,Value.string x.f1,Value.int IntKind.i64 x.f2] 66 (0,0)):=blk_new _ _;replace HP:=sd (HP.out.below hB1);replace HF:=sd (HF.out.below hB1 hbd);generalize w.alloc (Obj.cells #[Value.int IntKind.i64 x.f0,Value.string x.f1,Value.int IntKind.i64 x.f2] 66)=w1 at *;obtain ⟨gw,hgw⟩:∃ gw,gw=w.heap.size:=⟨_,rfl⟩
  rw [← hgw] at b0 ⊢;have BW:=sd b0;clear b0 hB1 hgw;obtain ⟨⟨k0,k1,k2,k3,k4,k5,k6⟩,f0,f1,f2,f3,f4,f5,f6⟩:=HP.out.facts;obtain ⟨w0_,w1_,w2_,_,_,_⟩:=bk3 BW;go_wp2_with fail
  refine (HT.out _ HP.out (below_base HF.out.b hbd)).mono ?_;rintro e w2 ⟨rfl,⟨vC',vT',vW',hp2⟩,hf2⟩;replace HF:=sd (HF.out.trans hf2);have HP2:=sd hp2;clear hf2 hp2 k0 k1 k2 k3 k4 k5 k6 f0 f1 f2 f3 f4 f5 f6 w0_ w1_ w2_;go_wp2_with fail
  rw [← HQ.out];exact ⟨by (try rfl),⟨_,_,_,HP2.out⟩,HF.out⟩
def ReadPost (bd g:Nat) (vC vT vW:Value) (p':PR) (r:Int) (w:World) (e:Ending) (w':World):Prop :=
  e=.returned (.bool (r != 14))∧(∃ vC' vT' vW',RP w' bd g { p' with st:=r } vC' vT' vW')∧FP bd g vC vT vW w w'
def valC (k:Nat) (c:S27) (x:S66):Option (S27×Int) :=
  if c.f0=1 then (num_Parse.f x.f1 (-1000000000000) 1000000000000).bind fun q=>some ({ c with f3:=q.1 },q.2) else
  if c.f0=4 then (days_Parse.f k x.f1).bind fun q=>some ({ c with f3:=q.1 },q.2) else some ({ c with f2:=x.f1 },0)
def valL (k:Nat):List S66→Nat→List S27→Option (List S27×Int×Int)
 |[],_,cs=>some (cs,0,0)
 |x :: r,i,cs=>if i < cs.length then (valC k (rd_T27 cs (i:Int)) x).bind fun y=>if y.2=0 then valL k r (i+1) (cs.set i y.1) else some (cs.set i y.1,x.f2,y.2) else none
theorem elemC' {w:World} {bd g gc cap m j n:Nat} {p:PR} {cs:List S27} {vT vW u:Value} {c x':S27} (hn:cs.length=n) (h:RP w bd g { p with cs:=cs } (.slice (some ⟨gc,0,none⟩) n cap) vT vW) (hm:m < cs.length) (hc:rd_T27 cs (m:Int)=c) (hj:j < 4)
    (hx:([Value.int .i64 c.f0,.int .i64 c.f1,.string c.f2,.int .i64 c.f3]:List Value).take j++[u]++([Value.int .i64 c.f0,.int .i64 c.f1,.string c.f2,.int .i64 c.f3]:List Value).drop (j+1)=[.int .i64 x'.f0,.int .i64 x'.f1,.string x'.f2,.int .i64 x'.f3]) :
    RP (w.setCell ⟨gc,m * 4+j,none⟩ u) bd g { p with cs:=cs.set m x' } (.slice (some ⟨gc,0,none⟩) n cap) vT vW:=by
  subst hn;have:=RP.elemC (p:={ p with cs:=cs }) h hm hc hj hx;rw [List.length_set] at this;exact this
def ValPost (bd g:Nat) (vC vT vW:Value) (p':PR) (at_ er:Int) (w:World) (e:Ending) (w':World):Prop :=
  e=.returned (.tuple #[.int .i64 at_,.int .i64 er])∧(∃ vC' vT' vW',RP w' bd g p' vC' vT' vW')∧FP bd g vC vT vW w w'
def parL (k:Nat):List S66→PR→Option (PR×Int×Int)
 |[],p=>some (p,0,0)
 |x :: r,p=>(moveR k p x (codeX x)).bind fun y=>if y.2=14 then some (p,x.f2,27) else parL k r { y.1 with st:=y.2 }
def pr0:PR:=⟨⟨#[]⟩,[],⟨#[]⟩,⟨#[]⟩,[],0,[]⟩
theorem sretP (Post:Ending→World→Prop) (T:Array Value) (W:World) (g:Nat) (cs:Array Value) (i e:Int) (t2:T.getD 2 undef=.pointer (some ⟨g,0,none⟩)) (t3:T.getD 3 undef=.int .i64 i) (t4:T.getD 4 undef=.int .i64 e)
    (hg:W.heap[g]?=some (.cells cs 25 (0,0))) (hs:cs.size=5) (hp:Post (.returned (.tuple #[.agg cs,.int .i64 i,.int .i64 e])) W):bodyPost Tryd.prog Tryd.f11 Post .ret { tmps:=T,defers:=[] } W:=by
  refine bodyPost_ret (v:=.tuple #[.agg cs,.int .i64 i,.int .i64 e]) ?_ rfl hp;have:=results_list (P:=Tryd.prog) (fn:=Tryd.f11) (tmps:=T) (w:=W) (rs:=[.cell 2 25,.tmp 3,.tmp 4]) rfl (by simp) (.cell g 25 cs (0,0) _ t2 hg Tryd.underlying25 rfl (by rw [hs];kernel_rfl) (.tmp (.tmp .nil)));rw [t3,t4] at this;exact this
theorem noretP (Post:Ending→World→Prop) (T:Array Value) (W w0:World) (gr:Nat) (i e:Int) (t2:T.getD 2 undef=.pointer (some ⟨gr,0,none⟩)) (t3:T.getD 3 undef=.int .i64 i) (t4:T.getD 4 undef=.int .i64 e)
    (hg:W.heap[gr]?=some (.cells #[Value.string ⟨#[]⟩,.slice none 0 0,.string ⟨#[]⟩,.string ⟨#[]⟩,.slice none 0 0] 25 (0,0))) (hB:Below w0.heap.size w0 W) (hge:w0.heap.size≤gr) (hp:∀ W',Below w0.heap.size w0 W'→Post (.returned (.tuple #[.agg #[Value.string ⟨#[]⟩,.slice none 0 0,.string ⟨#[]⟩,.string ⟨#[]⟩,.slice none 0 0],.int .i64 i,.int .i64 e])) W') :
    bodyPost Tryd.prog Tryd.f11 Post .ret { tmps:=T,defers:=[] } (((((W.setCell ⟨gr,0,none⟩ (.string ⟨#[]⟩)).setCell ⟨gr,1,none⟩ (.slice none 0 0)).setCell ⟨gr,2,none⟩ (.string ⟨#[]⟩)).setCell ⟨gr,3,none⟩ (.string ⟨#[]⟩)).setCell ⟨gr,4,none⟩ (.slice none 0 0)) :=
  sretP Post T _ gr #[Value.string ⟨#[]⟩,.slice none 0 0,.string ⟨#[]⟩,.string ⟨#[]⟩,.slice none 0 0] i e t2 t3 t4 (blk_put (cs:=#[Value.string ⟨#[]⟩,.slice none 0 0,.string ⟨#[]⟩,.string ⟨#[]⟩,.slice none 0 0]) (blk_put (cs:=#[Value.string ⟨#[]⟩,.slice none 0 0,.string ⟨#[]⟩,.string ⟨#[]⟩,.slice none 0 0]) (blk_put (cs:=#[Value.string ⟨#[]⟩,.slice none 0 0,.string ⟨#[]⟩,.string ⟨#[]⟩,.slice none 0 0]) (blk_put (cs:=#[Value.string ⟨#[]⟩,.slice none 0 0,.string ⟨#[]⟩,.string ⟨#[]⟩,.slice none 0 0]) (blk_put (cs:=#[Value.string ⟨#[]⟩,.slice none 0 0,.string ⟨#[]⟩,.string ⟨#[]⟩,.slice none 0 0]) hg 0 _ rfl) 1 _ rfl) 2 _ rfl) 3 _ rfl) 4 _ rfl) rfl (hp _ (below_setN (below_setN (below_setN (below_setN (below_setN hB hge _) hge _) hge _) hge _) hge _))
end A

end Go.Proofs.YtlblkojjpagbkaaDoor