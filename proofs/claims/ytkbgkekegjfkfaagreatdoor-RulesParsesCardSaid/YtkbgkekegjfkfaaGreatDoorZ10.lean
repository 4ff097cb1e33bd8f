-- By pack.py, a program of this session's.
import Derived.Test.YtkbgkekegjfkfaaGreatDoorZ2
import Derived.Test.YtkbgkekegjfkfaaGreatDoorZ3
import Derived.Test.YtkbgkekegjfkfaaGreatDoorZ4
set_option linter.unusedVariables false
set_option linter.unusedSimpArgs false
namespace Go.Proofs.YtkbgkekegjfkfaaGreatDoor
namespace A
open Go.RowKit B WW WL WM
attribute [local go_sem] max2_int min2_int max_two min_two max_three min_three max_four min_four
set_option maxHeartbeats 8000000
set_option maxRecDepth 100000
def sOfC (c:S48) (rf tx:ByteArray):ByteArray:=if c.f0=2 then rf else tx
def TestK (c:S48) (f:Nat) (cap:Array Value) (g gn gs:Nat):Prop :=
 (c.f1=2∧f=61∧cap=#[.pointer (some ⟨gn,0,none⟩),.pointer (some ⟨g,0,none⟩)])∨(c.f1=3∧f=62∧cap=#[.pointer (some ⟨gn,0,none⟩),.pointer (some ⟨g,0,none⟩)]) ∨
 (c.f1=4∧f=63∧cap=#[.pointer (some ⟨gs,0,none⟩),.pointer (some ⟨g,0,none⟩)])∨(c.f1=5∧f=65∧cap=#[.pointer (some ⟨gs,0,none⟩),.pointer (some ⟨g,0,none⟩)]) ∨
 ((c.f1≠2∧c.f1≠3∧c.f1≠4∧c.f1≠5)∧(((c.f0=1∨c.f0=4)∧f=68∧cap=#[.pointer (some ⟨gn,0,none⟩),.pointer (some ⟨g,0,none⟩)])∨(¬ (c.f0=1∨c.f0=4)∧f=69∧cap=#[.pointer (some ⟨gs,0,none⟩),.pointer (some ⟨g,0,none⟩)])))
def fieldB:ByteArray:=⟨#[97,109,111,117,110,116,32,114,101,102,32,116,101,120,116,32,100,97,121]⟩
def fieldL:List ByteArray:=[⟨#[97,109,111,117,110,116]⟩,⟨#[114,101,102]⟩,⟨#[116,101,120,116]⟩,⟨#[100,97,121]⟩]
def opB:ByteArray:=⟨#[105,115,32,108,101,97,115,116,32,109,111,115,116,32,104,97,115,32,98,101,103,105,110,115]⟩
def opL:List ByteArray:=[⟨#[105,115]⟩,⟨#[108,101,97,115,116]⟩,⟨#[109,111,115,116]⟩,⟨#[104,97,115]⟩,⟨#[98,101,103,105,110,115]⟩]
theorem fieldB_L:(Lib.fields fieldB.data.toList).map (fun l=>(⟨l.toArray⟩:ByteArray))=fieldL:=by decide +kernel
theorem opB_L:(Lib.fields opB.data.toList).map (fun l=>(⟨l.toArray⟩:ByteArray))=opL:=by decide +kernel
theorem fieldB_a:∀ b∈fieldB.data.toList,b.toNat < 128:=by decide
theorem opB_a:∀ b∈opB.data.toList,b.toNat < 128:=by decide
def nmd (L:List ByteArray) (n:Int):Option ByteArray:=if 1≤n∧n≤1000 then L[n.toNat - 1]? else none
def joinB (l:List ByteArray):ByteArray:=⟨(Lib.join (l.map (·.data.toList)) [32]).toArray⟩
def txJ (l:List ByteArray):Option (ByteArray×Int):=if l.length≤140737488355328∧(joinB l).size≤140737488355328 then (if 400 < (joinB l).size then some (⟨#[]⟩,9) else some (joinB l,0)) else none
theorem grown_alloc {W w1:World} {o:Obj} {row:Option Nat} (h:(W.alloc o).grownBy w1 row):W.grownBy w1 row:=(World.grownBy_alloc W o row).trans h
theorem strs_cells {w:World} {g n:Nat} {xs:List ByteArray} (h:Kd.C Kd.string w (some ⟨g,0,none⟩) n xs) (hn:0 < n):∀ (j:Nat) x,xs[j]?=some x→w.cell? ⟨g,0+j,none⟩=some (.string x):=by
 obtain ⟨ad,e,hc⟩:=h.2.2 hn;obtain rfl:=Option.some.inj e;intro j x hj;obtain ⟨c,_,hK,hcell⟩:=hc j x hj;have hK':c=[.string x]:=hK;subst hK';have:=hcell 0 _ rfl;rw [Nat.zero_add];have e1:j * Kd.string.sz+0=j:=by show j * 1+0=j;omega
 rw [e1] at this;have e2:(⟨g,0,none⟩:Addr).add j=⟨g,j,none⟩:=by unfold Addr.add;split <;> simp_all
 rw [e2] at this;exact this
def rules_follow.f (a0:Bool) (a1:Int):Option (Int):=if a0=true then (some a1) else (some 14)
theorem rules_follow.calls (a0:Bool) (a1 r:Int) (w:World) (h:rules_follow.f a0 a1=some r) :
  Calls Tryz.prog 112 #[.bool a0,.int .i64 a1] w fun e w'=>e=.returned (.int .i64 r)∧Drawn0 w w':=by
 have H:=h;clear h;unfold rules_follow.f at H;by_cases c3:a0=true
 ·subst c3;rw [if_pos rfl] at H;obtain rfl:=Option.some.inj H;go_enter Tryz.func112,Tryz.ntmps112
  go_wp2
  go_ret
  exact ⟨zq7,zq16⟩
 replace c3:=Bool.eq_false_iff.mpr c3;subst c3;rw [if_neg Bool.false_ne_true] at H;obtain rfl:=Option.some.inj H;go_enter Tryz.func112,Tryz.ntmps112
 go_wp2
 go_ret
 exact ⟨zq7,zq16⟩
def num_Parse.f (a0:ByteArray) (a1 a2:Int):Option (Int×Int):=if a0.size≤140737488351232 then some (parseL a0.data.toList a1 a2) else none
theorem below_base {bd:Nat} {w w':World} (h:Below bd w w') (hb:bd≤w.heap.size):bd≤w'.heap.size:=Nat.le_trans hb h.size
theorem FP.grownC {bd g:Nat} {vC vT vW:Value} {w w1 w2:World} (h:FP bd g vC vT vW w w1) (hb:Below bd w1 w2) (hg:w1.grownBy w2 vC.ownBlock):FP bd g vC vT vW w w2 :=
  ⟨h.b.trans hb,fun i h1 h2 h3 h4 h5=>(hg.block i (Nat.lt_of_lt_of_le h1 h.b.size) h3).trans (h.fr i h1 h2 h3 h4 h5)⟩
theorem FP.grownT {bd g:Nat} {vC vT vW:Value} {w w1 w2:World} (h:FP bd g vC vT vW w w1) (hb:Below bd w1 w2) (hg:w1.grownBy w2 vT.ownBlock):FP bd g vC vT vW w w2 :=
  ⟨h.b.trans hb,fun i h1 h2 h3 h4 h5=>(hg.block i (Nat.lt_of_lt_of_le h1 h.b.size) h4).trans (h.fr i h1 h2 h3 h4 h5)⟩
theorem FP.grownW {bd g:Nat} {vC vT vW:Value} {w w1 w2:World} (h:FP bd g vC vT vW w w1) (hb:Below bd w1 w2) (hg:w1.grownBy w2 vW.ownBlock):FP bd g vC vT vW w w2 :=
  ⟨h.b.trans hb,fun i h1 h2 h3 h4 h5=>(hg.block i (Nat.lt_of_lt_of_le h1 h.b.size) h5).trans (h.fr i h1 h2 h3 h4 h5)⟩
def codeX (x:S73):Bool:=decide (x.f0=1∨x.f0=2)
theorem cell_bd {bd b:Nat} {w w':World} {o:Nat} (hb:Below bd w w') (h:b < bd):w'.cell? ⟨b,o,none⟩=w.cell? ⟨b,o,none⟩:=by
  unfold World.cell?;rw [hb.block b h]
def pr0:PR:=⟨⟨#[]⟩,[],⟨#[]⟩,⟨#[]⟩,[],0,[]⟩
abbrev RRes:=ByteArray×List S48×ByteArray×ByteArray×List S50×Int×Int
theorem sretP (Post:Ending→World→Prop) (T:Array Value) (W:World) (g:Nat) (cs:Array Value) (i e:Int) (t2:T.getD 2 undef=.pointer (some ⟨g,0,none⟩)) (t3:T.getD 3 undef=.int .i64 i) (t4:T.getD 4 undef=.int .i64 e)
    (hg:W.heap[g]?=some (.cells cs 25 (0,0))) (hs:cs.size=5) (hp:Post (.returned (.tuple #[.agg cs,.int .i64 i,.int .i64 e])) W):bodyPost Tryz.prog Tryz.f18 Post .ret { tmps:=T,defers:=[] } W:=by
  refine bodyPost_ret (v:=.tuple #[.agg cs,.int .i64 i,.int .i64 e]) ?_ rfl hp;have:=results_list (P:=Tryz.prog) (fn:=Tryz.f18) (tmps:=T) (w:=W) (rs:=[.cell 2 25,.tmp 3,.tmp 4]) rfl (by simp) (.cell g 25 cs (0,0) _ t2 hg Tryz.underlying25 rfl (by rw [hs];kernel_rfl) (.tmp (.tmp .nil)));rw [t3,t4] at this;exact this
theorem noretP (Post:Ending→World→Prop) (T:Array Value) (W w0:World) (gr:Nat) (i e:Int) (t2:T.getD 2 undef=.pointer (some ⟨gr,0,none⟩)) (t3:T.getD 3 undef=.int .i64 i) (t4:T.getD 4 undef=.int .i64 e)
    (hg:W.heap[gr]?=some (.cells #[Value.string ⟨#[]⟩,.slice none 0 0,.string ⟨#[]⟩,.string ⟨#[]⟩,.slice none 0 0] 25 (0,0))) (hB:Below w0.heap.size w0 W) (hge:w0.heap.size≤gr) (hp:∀ W',Below w0.heap.size w0 W'→Post (.returned (.tuple #[.agg #[Value.string ⟨#[]⟩,.slice none 0 0,.string ⟨#[]⟩,.string ⟨#[]⟩,.slice none 0 0],.int .i64 i,.int .i64 e])) W') :
    bodyPost Tryz.prog Tryz.f18 Post .ret { tmps:=T,defers:=[] } (((((W.setCell ⟨gr,0,none⟩ (.string ⟨#[]⟩)).setCell ⟨gr,1,none⟩ (.slice none 0 0)).setCell ⟨gr,2,none⟩ (.string ⟨#[]⟩)).setCell ⟨gr,3,none⟩ (.string ⟨#[]⟩)).setCell ⟨gr,4,none⟩ (.slice none 0 0)) :=
  sretP Post T _ gr #[Value.string ⟨#[]⟩,.slice none 0 0,.string ⟨#[]⟩,.string ⟨#[]⟩,.slice none 0 0] i e t2 t3 t4 (blk_put (cs:=#[Value.string ⟨#[]⟩,.slice none 0 0,.string ⟨#[]⟩,.string ⟨#[]⟩,.slice none 0 0]) (blk_put (cs:=#[Value.string ⟨#[]⟩,.slice none 0 0,.string ⟨#[]⟩,.string ⟨#[]⟩,.slice none 0 0]) (blk_put (cs:=#[Value.string ⟨#[]⟩,.slice none 0 0,.string ⟨#[]⟩,.string ⟨#[]⟩,.slice none 0 0]) (blk_put (cs:=#[Value.string ⟨#[]⟩,.slice none 0 0,.string ⟨#[]⟩,.string ⟨#[]⟩,.slice none 0 0]) (blk_put (cs:=#[Value.string ⟨#[]⟩,.slice none 0 0,.string ⟨#[]⟩,.string ⟨#[]⟩,.slice none 0 0]) hg 0 _ rfl) 1 _ rfl) 2 _ rfl) 3 _ rfl) 4 _ rfl) rfl (hp _ (below_setN (below_setN (below_setN (below_setN (below_setN hB hge _) hge _) hge _) hge _) hge _))
theorem n48r:∀ q,q∈(48:Nat) :: k48.E→q≠25:=by decide
theorem n50r:∀ q,q∈(50:Nat) :: k50.E→q≠25:=by decide
theorem yesretP (Post:Ending→World→Prop) (T:Array Value) (W w0:World) (gr bd:Nat) (nm acc par:ByteArray) (cs:List S48) (tg:List S50) (vC vT:Value) (t2:T.getD 2 undef=.pointer (some ⟨gr,0,none⟩)) (t3:T.getD 3 undef=.int .i64 0) (t4:T.getD 4 undef=.int .i64 0)
    (hg:W.heap[gr]?=some (.cells #[Value.string ⟨#[]⟩,.slice none 0 0,.string ⟨#[]⟩,.string ⟨#[]⟩,.slice none 0 0] 25 (0,0))) (hB:Below w0.heap.size w0 W) (hge:w0.heap.size≤gr) (hC:Kd.R k48 48 W bd (fun _=>True) vC cs) (hT:Kd.R k50 50 W bd (fun _=>True) vT tg)
    (hp:∀ W',Kd.R k48 48 W' bd (fun _=>True) vC cs→Kd.R k50 50 W' bd (fun _=>True) vT tg→Below w0.heap.size w0 W'→Post (.returned (.tuple #[.agg #[.string nm,vC,.string acc,.string par,vT],.int .i64 0,.int .i64 0])) W') :
    bodyPost Tryz.prog Tryz.f18 Post .ret { tmps:=T,defers:=[] } (((((W.setCell ⟨gr,0,none⟩ (.string nm)).setCell ⟨gr,1,none⟩ (vC)).setCell ⟨gr,2,none⟩ (.string acc)).setCell ⟨gr,3,none⟩ (.string par)).setCell ⟨gr,4,none⟩ (vT)):=by
  have b0:=blk_put (cs':=#[.string nm,.slice none 0 0,.string ⟨#[]⟩,.string ⟨#[]⟩,.slice none 0 0]) hg 0 (.string nm) rfl;have c0:=Kd.R_set hC hg n48r 0 (.string nm);have d0:=Kd.R_set hT hg n50r 0 (.string nm);have b1:=blk_put (cs':=#[.string nm,vC,.string ⟨#[]⟩,.string ⟨#[]⟩,.slice none 0 0]) b0 1 (vC) rfl;have c1:=Kd.R_set c0 b0 n48r 1 (vC);have d1:=Kd.R_set d0 b0 n50r 1 (vC);have b2:=blk_put (cs':=#[.string nm,vC,.string acc,.string ⟨#[]⟩,.slice none 0 0]) b1 2 (.string acc) rfl;have c2:=Kd.R_set c1 b1 n48r 2 (.string acc);have d2:=Kd.R_set d1 b1 n50r 2 (.string acc);have b3:=blk_put (cs':=#[.string nm,vC,.string acc,.string par,.slice none 0 0]) b2 3 (.string par) rfl;have c3:=Kd.R_set c2 b2 n48r 3 (.string par);have d3:=Kd.R_set d2 b2 n50r 3 (.string par);have b4:=blk_put (cs':=#[.string nm,vC,.string acc,.string par,vT]) b3 4 (vT) rfl;have c4:=Kd.R_set c3 b3 n48r 4 (vT);have d4:=Kd.R_set d3 b3 n50r 4 (vT);exact sretP Post T _ gr _ 0 0 t2 t3 t4 b4 rfl (hp _ c4 d4 (below_setN (below_setN (below_setN (below_setN (below_setN hB hge _) hge _) hge _) hge _) hge _))
def lw48_example.f :Option (ByteArray×(List (S48))×ByteArray×ByteArray×(List (S50))):=some ((⟨#[114,101,110,116]⟩:ByteArray),(([(⟨1,3,(⟨#[]⟩:ByteArray),(-100)⟩:S48),(⟨3,4,(⟨#[114,101,110,116]⟩:ByteArray),0⟩:S48)]:List (S48))),(⟨#[53,49]⟩:ByteArray),(⟨#[112]⟩:ByteArray),(([(⟨(⟨#[100,101,112,116]⟩:ByteArray),(⟨#[120]⟩:ByteArray)⟩:S50)]:List (S50))))
theorem add_at (g n:Nat):(⟨g,0,none⟩:Addr).add n=⟨g,n,none⟩:=by unfold Addr.add;split <;> simp_all
def livesX:ByteArray:=⟨([114,117,108,101,32,114,101,110,116,32,105,102,32,97,109,111,117,110,116,32,109,111,115,116,32,45,49,48,48,32,97,110,100,32,116,101,120,116,32].append [104,97,115,32,34,114,101,110,116,34,32,116,104,101,110,32,53,49,32,112,97,114,116,121,32,112,32,116,97,103,32,100,101,112,116,32,61,32,120]).toArray⟩
theorem livesX_L:livesX.toList=[114,117,108,101,32,114,101,110,116,32,105,102,32,97,109,111,117,110,116,32,109,111,115,116,32,45,49,48,48,32,97,110,100,32,116,101,120,116,32,104,97,115,32,34,114,101,110,116,34,32,116,104,101,110,32,53,49,32,112,97,114,116,121,32,112,32,116,97,103,32,100,101,112,116,32,61,32,120]:=by decide +kernel
def livesY:ByteArray:=⟨#[114,117,108,101,32,114,101,110,116,32,105,102,32,97,109,111,117,110,116,32,104,97,115,32,53,32,116,104,101,110,32,53,49]⟩
def livesC:List S48:=[⟨1,3,⟨#[]⟩,-100⟩,⟨3,4,⟨#[114,101,110,116]⟩,0⟩]
def livesG:List S50:=[⟨⟨#[100,101,112,116]⟩,⟨#[120]⟩⟩]
def lw48_lives.f:Option Bool:=some true
theorem sretQ (Post:Ending→World→Prop) (T:Array Value) (W:World) (g:Nat) (cs:Array Value) (i e:Int) (t2:T.getD 2 undef=.pointer (some ⟨g,0,none⟩)) (t3:T.getD 3 undef=.int .i64 i) (t4:T.getD 4 undef=.int .i64 e)
  (hg:W.heap[g]?=some (.cells cs 25 (0,0))) (hs:cs.size=5) (hp:Post (.returned (.tuple #[.agg cs,.int .i64 i,.int .i64 e])) W):bodyPost Tryz.prog Tryz.f20 Post .ret { tmps:=T,defers:=[] } W:=by
 refine bodyPost_ret (v:=.tuple #[.agg cs,.int .i64 i,.int .i64 e]) ?_ rfl hp;have:=results_list (P:=Tryz.prog) (fn:=Tryz.f20) (tmps:=T) (w:=W) (rs:=[.cell 2 25,.tmp 3,.tmp 4]) rfl (by simp) (.cell g 25 cs (0,0) _ t2 hg Tryz.underlying25 rfl (by rw [hs];kernel_rfl) (.tmp (.tmp .nil)));rw [t3,t4] at this;exact this
theorem noretQ (Post:Ending→World→Prop) (T:Array Value) (W w0:World) (gr:Nat) (i e:Int) (t2:T.getD 2 undef=.pointer (some ⟨gr,0,none⟩)) (t3:T.getD 3 undef=.int .i64 i) (t4:T.getD 4 undef=.int .i64 e)
  (hg:W.heap[gr]?=some (.cells #[Value.string ⟨#[]⟩,.slice none 0 0,.string ⟨#[]⟩,.string ⟨#[]⟩,.slice none 0 0] 25 (0,0))) (hB:Below w0.heap.size w0 W) (hge:w0.heap.size≤gr) (hp:∀ W',Below w0.heap.size w0 W'→Post (.returned (.tuple #[.agg #[Value.string ⟨#[]⟩,.slice none 0 0,.string ⟨#[]⟩,.string ⟨#[]⟩,.slice none 0 0],.int .i64 i,.int .i64 e])) W') :
  bodyPost Tryz.prog Tryz.f20 Post .ret { tmps:=T,defers:=[] } (((((W.setCell ⟨gr,0,none⟩ (.string ⟨#[]⟩)).setCell ⟨gr,1,none⟩ (.slice none 0 0)).setCell ⟨gr,2,none⟩ (.string ⟨#[]⟩)).setCell ⟨gr,3,none⟩ (.string ⟨#[]⟩)).setCell ⟨gr,4,none⟩ (.slice none 0 0)) :=
 sretQ Post T _ gr #[Value.string ⟨#[]⟩,.slice none 0 0,.string ⟨#[]⟩,.string ⟨#[]⟩,.slice none 0 0] i e t2 t3 t4 (blk_put (cs:=#[Value.string ⟨#[]⟩,.slice none 0 0,.string ⟨#[]⟩,.string ⟨#[]⟩,.slice none 0 0]) (blk_put (cs:=#[Value.string ⟨#[]⟩,.slice none 0 0,.string ⟨#[]⟩,.string ⟨#[]⟩,.slice none 0 0]) (blk_put (cs:=#[Value.string ⟨#[]⟩,.slice none 0 0,.string ⟨#[]⟩,.string ⟨#[]⟩,.slice none 0 0]) (blk_put (cs:=#[Value.string ⟨#[]⟩,.slice none 0 0,.string ⟨#[]⟩,.string ⟨#[]⟩,.slice none 0 0]) (blk_put (cs:=#[Value.string ⟨#[]⟩,.slice none 0 0,.string ⟨#[]⟩,.string ⟨#[]⟩,.slice none 0 0]) hg 0 _ rfl) 1 _ rfl) 2 _ rfl) 3 _ rfl) 4 _ rfl) rfl (hp _ (below_setN (below_setN (below_setN (below_setN (below_setN hB hge _) hge _) hge _) hge _) hge _))
theorem n48q:∀ q,q∈(48:Nat) :: k48.E→q≠25:=by decide
theorem n50q:∀ q,q∈(50:Nat) :: k50.E→q≠25:=by decide
theorem yesretQ (Post:Ending→World→Prop) (T:Array Value) (W w0:World) (gr bd:Nat) (nm acc par:ByteArray) (cs:List S48) (tg:List S50) (vC vT:Value) (t2:T.getD 2 undef=.pointer (some ⟨gr,0,none⟩)) (t3:T.getD 3 undef=.int .i64 0) (t4:T.getD 4 undef=.int .i64 0)
  (hg:W.heap[gr]?=some (.cells #[Value.string ⟨#[]⟩,.slice none 0 0,.string ⟨#[]⟩,.string ⟨#[]⟩,.slice none 0 0] 25 (0,0))) (hB:Below w0.heap.size w0 W) (hge:w0.heap.size≤gr) (hC:Kd.R k48 48 W bd (fun _=>True) vC cs) (hT:Kd.R k50 50 W bd (fun _=>True) vT tg)
  (hp:∀ W',Kd.R k48 48 W' bd (fun _=>True) vC cs→Kd.R k50 50 W' bd (fun _=>True) vT tg→Below w0.heap.size w0 W'→Post (.returned (.tuple #[.agg #[.string nm,vC,.string acc,.string par,vT],.int .i64 0,.int .i64 0])) W') :
  bodyPost Tryz.prog Tryz.f20 Post .ret { tmps:=T,defers:=[] } (((((W.setCell ⟨gr,0,none⟩ (.string nm)).setCell ⟨gr,1,none⟩ (vC)).setCell ⟨gr,2,none⟩ (.string acc)).setCell ⟨gr,3,none⟩ (.string par)).setCell ⟨gr,4,none⟩ (vT)):=by
 have b0:=blk_put (cs':=#[.string nm,.slice none 0 0,.string ⟨#[]⟩,.string ⟨#[]⟩,.slice none 0 0]) hg 0 (.string nm) rfl;have c0:=Kd.R_set hC hg n48q 0 (.string nm);have d0:=Kd.R_set hT hg n50q 0 (.string nm);have b1:=blk_put (cs':=#[.string nm,vC,.string ⟨#[]⟩,.string ⟨#[]⟩,.slice none 0 0]) b0 1 (vC) rfl;have c1:=Kd.R_set c0 b0 n48q 1 (vC);have d1:=Kd.R_set d0 b0 n50q 1 (vC);have b2:=blk_put (cs':=#[.string nm,vC,.string acc,.string ⟨#[]⟩,.slice none 0 0]) b1 2 (.string acc) rfl;have c2:=Kd.R_set c1 b1 n48q 2 (.string acc);have d2:=Kd.R_set d1 b1 n50q 2 (.string acc);have b3:=blk_put (cs':=#[.string nm,vC,.string acc,.string par,.slice none 0 0]) b2 3 (.string par) rfl;have c3:=Kd.R_set c2 b2 n48q 3 (.string par);have d3:=Kd.R_set d2 b2 n50q 3 (.string par);have b4:=blk_put (cs':=#[.string nm,vC,.string acc,.string par,vT]) b3 4 (vT) rfl;have c4:=Kd.R_set c3 b3 n48q 4 (vT);have d4:=Kd.R_set d3 b3 n50q 4 (vT);exact sretQ Post T _ gr _ 0 0 t2 t3 t4 b4 rfl (hp _ c4 d4 (below_setN (below_setN (below_setN (below_setN (below_setN hB hge _) hge _) hge _) hge _) hge _))
theorem z_keep (w:World) (gr i:Nat) (h:i≠gr):(((((w.setCell ⟨gr,0,none⟩ (.string (⟨#[]⟩:ByteArray))).setCell ⟨gr,1,none⟩ (.slice none 0 0)).setCell ⟨gr,2,none⟩ (.string (⟨#[]⟩:ByteArray))).setCell ⟨gr,3,none⟩ (.string (⟨#[]⟩:ByteArray))).setCell ⟨gr,4,none⟩ (.slice none 0 0)).heap[i]?=w.heap[i]?:=(Below.heap_setCell _ _ _ i h).trans ((Below.heap_setCell _ _ _ i h).trans ((Below.heap_setCell _ _ _ i h).trans ((Below.heap_setCell _ _ _ i h).trans (Below.heap_setCell _ _ _ i h))))
end A
namespace A
open Go.RowKit B WW WL WM
def wdOf (w:Nat×List UInt8×Nat×Nat×Nat) (i:Nat):S73:=⟨(w.1:Int),oL w.2.1,(i:Int)⟩
def pre (x:S73) (q:List S73×Nat×Nat):List S73×Nat×Nat:=if q.2.2=0 then (x :: q.1,q.2.1,0) else ([],q.2.1,q.2.2)
def outR (acc:List S73) (q:List S73×Nat×Nat):List S73×Int×Int:=if q.2.2=0 then (acc++q.1,(q.2.1:Int),0) else ([],(q.2.1:Int),(q.2.2:Int))
theorem nameN_le (R:List UInt8):nameN R≤R.length:=by
  induction R with
 |nil=>exact Nat.le_refl 0
 |cons c r ih=>rw [nameN,List.length_cons];split <;> omega
theorem numN_le (R:List UInt8):numN R≤R.length:=by
  induction R with
 |nil=>exact Nat.le_refl 0
 |cons c r ih=>rw [numN,List.length_cons];split <;> split <;> omega
theorem strOf_toI (l:List UInt8):strOfNums (toI l)=oL l:=by
  unfold toI oL;simp only [strOfNums,List.map_map]
  congr 2
  conv=>rhs;rw [← List.map_id l]
  refine List.map_congr_left fun b _=>?_
  simp
theorem signN_le (c:UInt8) (r:List UInt8):signN (c :: r)≤(c :: r).length:=by
  have h:oneSg c≤1:=by unfold oneSg;split <;> omega
  cases r with
 |nil=>exact h
 |cons d r=>rw [signN,List.length_cons,List.length_cons];split <;> omega
theorem outR_pre (acc:List S73) (x:S73) (q:List S73×Nat×Nat):outR (acc++[x]) q=outR acc (pre x q):=by
  unfold outR pre;by_cases h:q.2.2=0
  · rw [if_pos h,if_pos h,if_pos rfl,List.append_assoc];rfl
  · rw [if_neg h,if_neg h,if_neg h]
theorem dval_bound (l:List UInt8) (h:l.all isDig=true):dval l < 10 ^ l.length:=by
  have key:∀ (r:List UInt8),r.all isDig=true→dval r.reverse < 10 ^ r.length:=by
    intro r;induction r with
   |nil=>intro _;decide
   |cons c r ih =>
      intro h;rw [List.all_cons,Bool.and_eq_true] at h;have:=ih h.2;have hc:=(isDig_range c).mp h.1;rw [List.reverse_cons,dval_snoc,List.length_cons,Nat.pow_succ];omega
  have:=key l.reverse (by rw [List.all_reverse];exact h);rw [List.reverse_reverse,List.length_reverse] at this;exact this
def rangB (c:S48):Bool:=decide ((c.f0=1→-1000000000000≤c.f3∧c.f3≤1000000000000)∧(c.f0=4→0≤c.f3∧c.f3≤109572)∧(¬ (c.f0=1∨c.f0=4)→c.f3=0))
def ShortT (tg:List S50):Prop:=∀ x∈tg,x.f0.size≤1000000∧x.f1.size≤1000000
def ShortC (cs:List S48):Prop:=∀ x∈cs,x.f2.size≤1000000
structure SmallR (nm:ByteArray) (cs:List S48) (acc par:ByteArray) (tg:List S50):Prop where
  lc:cs.length≤20
  lt:tg.length≤20
  ln:nm.size+acc.size+par.size≤400
  c:∀ x∈cs,x.f2.size≤400
  t:∀ x∈tg,x.f0.size+x.f1.size≤400
theorem Ev.livR:Ev (fun _:Nat=>(lw48_lives.f).bind fun t=>some t) true:=show Ev (fun _:Nat=>some true) true from Ev.is rfl
theorem r48_field_at {f:Int} (h:1≤f∧f≤4):rf48_field.f f=some (oL (kF f)):=by
  have:f=1∨f=2∨f=3∨f=4:=by omega
  rcases this with rfl|rfl|rfl|rfl <;> rfl
theorem r48_oper_at {o:Int} (h:1≤o∧o≤5):rf48_operator.f o=some (oL (kO o)):=by
  have:o=1∨o=2∨o=3∨o=4∨o=5:=by omega
  rcases this with rfl|rfl|rfl|rfl|rfl <;> rfl
theorem Brk.nil:Brk []:=Or.inl rfl
theorem headDig_app {w:List UInt8} (r:List UInt8) (hw:headDig w=true):headDig (w++r)=true:=by
  cases w with
 |nil=>cases hw
 |cons c w=>exact hw
theorem num_app (w:List UInt8):numN w=w.length→∀ r,Brk r→numN (w++r)=w.length:=by
  induction w with
 |nil=>intro _ r h;exact num_brk h
 |cons c w ih =>
    intro h r hr;show numN (c :: (w++r))=_
    rw [numN] at h ⊢;rw [List.length_cons] at h ⊢;by_cases p:isPt c=true
    · rw [if_pos p] at h ⊢
      by_cases d:headDig w=true
      · rw [if_pos d] at h
        rw [if_pos (headDig_app r d),ih (by omega) r hr]
      · rw [if_neg d] at h;omega
    · rw [if_neg p] at h ⊢
      by_cases d:isLet c=true∨isDig c=true
      · rw [if_pos d] at h ⊢
        rw [ih (by omega) r hr]
      · rw [if_neg d] at h;omega
theorem rd73_at {l:List S73} {i:Nat} {x:S73} {r:List S73} (h:l.drop i=x :: r):i < l.length∧rd_T73 l (i:Int)=x∧l.drop (i+1)=r:=by
  have hlt:i < l.length:=by
    rcases Nat.lt_or_ge i l.length with h1|h1
    · exact h1
    · rw [List.drop_eq_nil_of_le h1] at h;cases h
  rw [List.drop_eq_getElem_cons hlt] at h;obtain ⟨h1,h2⟩:=List.cons.inj h;refine ⟨hlt,?_,h2⟩;unfold rd_T73;rw [Int.toNat_natCast,List.getD_eq_getElem?_getD,List.getElem?_eq_getElem hlt,← h1];rfl
theorem is_dead (L:List S73) (i:Int) (w:ByteArray):rf48_Reader_is.f L i true w=some (false,i,true):=by
  unfold rf48_Reader_is.f;rw [if_pos rfl]
theorem is_end {L:List S73} {i:Nat} (h:L.drop i=[]) (w:ByteArray):rf48_Reader_is.f L (i:Int) false w=some (false,(i:Int),false):=by
  have:=List.drop_eq_nil_iff.mp h;unfold rf48_Reader_is.f;rw [if_neg (by decide),if_pos (by omega)]
def eqX (x:S73):Bool:=decide (x.f0=4) && (x.f1.toList == ([61]:List UInt8))
theorem fld_step {L:List S73} {i j:Int} {n:Int} {w:ByteArray} {b:Bool} {v:QC} (hn:1≤n∧n≤4) (hf:rf48_field.f n=some w) (hw:rf48_Reader_is.f L i false w=some (b,j,false))
    (ht:b=true→Ev (fun k=>rf48_Reader_cond.l1 k 1 L j false n 0 ⟨#[]⟩ 0 0 ⟨#[]⟩ 0) v) (hf':b=false→Ev (fun k=>rf48_Reader_cond.l0 k (n+1) L j false 0 0 ⟨#[]⟩ 0 0 ⟨#[]⟩ 0) v) :
    Ev (fun k=>rf48_Reader_cond.l0 k n L i false 0 0 ⟨#[]⟩ 0 0 ⟨#[]⟩ 0) v:=by
  refine Ev.step (fun k=>by rw [rf48_Reader_cond.l0]) (Ev.yes hn.2 ?_);refine Ev.step (fun k=>by rw [rf48_Reader_cond.j1,hf,Option.bind_some,hw,Option.bind_some,w_in (x:=n+1) (by omega)]) ?_;refine Ev.yes rfl ?_
  cases b with
 |false=>exact Ev.no (fun z=>Bool.noConfusion z) (hf' rfl)
 |true =>
    refine Ev.yes rfl ?_;have z:(n == (0:Int))=false:=by rw [beq_eq_false_iff_ne];omega
    refine Ev.step (fun k=>by rw [rf48_Reader_cond.l0,z]) (Ev.both (fun _=>?_) (fun _=>?_))
    · refine Ev.step (fun k=>by rw [rf48_Reader_cond.j1]) ?_
      exact Ev.no (by decide) (Ev.no (by omega) (ht rfl))
    · refine Ev.step (fun k=>by rw [rf48_Reader_cond.j1]) ?_
      exact Ev.no (by decide) (Ev.no (by omega) (ht rfl))
theorem fld_none (L:List S73) (i:Int):Ev (fun k=>rf48_Reader_cond.l0 k 5 L i false 0 0 ⟨#[]⟩ 0 0 ⟨#[]⟩ 0) ((0,0,⟨#[]⟩,0,0,⟨#[]⟩,0,i,true):QC):=by
  refine Ev.step (fun k=>by rw [rf48_Reader_cond.l0]) (Ev.no (by decide) ?_);refine Ev.step (fun k=>by rw [rf48_Reader_cond.j1]) ?_;exact Ev.no (by decide) (Ev.yes rfl (Ev.is rfl))
def tailQ (L:List S73) (i:Int) (f o:Int):Option QC:=(rf48_number.f f).bind fun t=>if t=true then (rf48_Reader_next.f L i false 2 2).bind fun b=>if b.2.2=true then some (f,o,⟨#[]⟩,0,0,b.1,0,b.2.1,b.2.2) else if 0≤i then (if i < (L.length:Int) then some (f,o,⟨#[]⟩,0,0,b.1,(rd_T73 L i).f2,b.2.1,b.2.2) else none) else none
  else (rf48_Reader_next.f L i false 3 3).bind fun b=>some (f,o,b.1,0,0,⟨#[]⟩,0,b.2.1,b.2.2)
theorem op_done {L:List S73} {i f o:Int} {v:QC} (ho:¬ o=0) (h:tailQ L i f o=some v) (n:Int):Ev (fun k=>rf48_Reader_cond.l1 k n L i false f o ⟨#[]⟩ 0 0 ⟨#[]⟩ 0) v:=by
  have z:(o == (0:Int))=false:=by rw [beq_eq_false_iff_ne];exact ho
  have j:Ev (fun k=>rf48_Reader_cond.j3 k n false L i false f o ⟨#[]⟩ 0 0 ⟨#[]⟩ 0) v:=by
    refine Ev.step (fun k=>by rw [rf48_Reader_cond.j3]) ?_;refine Ev.no (by decide) (Ev.no ho ?_);exact Ev.congr (fun k=>rfl) (show Ev (fun _=>tailQ L i f o) v by rw [h];exact Ev.is rfl)
  refine Ev.step (fun k=>by rw [rf48_Reader_cond.l1,z]) ?_;exact Ev.both (fun _=>j) (fun _=>j)
theorem op_none (L:List S73) (i f:Int):Ev (fun k=>rf48_Reader_cond.l1 k 6 L i false f 0 ⟨#[]⟩ 0 0 ⟨#[]⟩ 0) ((f,0,⟨#[]⟩,0,0,⟨#[]⟩,0,i,true):QC):=by
  refine Ev.step (fun k=>by rw [rf48_Reader_cond.l1]) (Ev.no (by decide) ?_);refine Ev.step (fun k=>by rw [rf48_Reader_cond.j3]) ?_;exact Ev.no (by decide) (Ev.yes rfl (Ev.is rfl))
def mC (f o:Int):S48:=⟨f,o,⟨#[]⟩,0⟩
def rC (f o:Int) (x:S73):S48:=if numB f=true then ⟨f,o,⟨#[]⟩,0⟩ else ⟨f,o,x.f1,0⟩
abbrev PC:=Int×Int×S73
def mP (p:PC):S48:=mC p.1 p.2.1
def rP (p:PC):S48:=rC p.1 p.2.1 p.2.2
def OkP (L:List S73) (P:List PC):Prop:=∀ p∈P,(1≤p.1∧p.1≤4)∧p.2.2∈L
def valN (f:Int) (x:S73):Int×Int:=if f=4 then dparse x.f1.data.toList else parseL x.f1.data.toList (-1000000000000) 1000000000000
abbrev VR:=List S48×Int×Int
def WS (ws:List S73):Prop:=∀ x∈ws,x.f1.size≤60
theorem flag_true (L:List S73) (j:Int):(if j < (L.length:Int) then true else true)=true:=ite_self _
end A
namespace A
open Go.RowKit B WW WL WM
theorem zq41 {P:Prop} (h:P:=by repeat (first|exact (Kd.C_below HR1_4.out HB.out)|(with_reducible refine Kd.C_alloc ?_ _)|(with_reducible refine Kd.C_drewN ?_ _)|(with_reducible refine Kd.C_drew ?_))):P:=h
theorem zq42 {P:Prop} (h:P:=by (with_reducible repeat (first|refine blk_drewN ?_ _|refine blk_drew ?_|refine blk_alloc ?_ _));exact BK245.out):P:=h
theorem zq43 {P:Prop} (h:P:=by (with_reducible repeat (first|refine blk_drewN ?_ _|refine blk_drew ?_|refine blk_alloc ?_ _));exact BK246.out):P:=h
theorem zq63 {P:Prop} (h:P:=by (with_reducible repeat (first|apply Kd.R_alloc|apply Kd.R_drewN|apply Kd.R_drew));exact HO_5.out):P:=h
theorem zq107 {P:Prop} (h:P:=by (with_reducible repeat (first|refine blk_drewN ?_ _|refine blk_drew ?_|refine blk_alloc ?_ _));refine blk_far ?_ NB497_509.out _;(with_reducible repeat (first|refine blk_drewN ?_ _|refine blk_drew ?_|refine blk_alloc ?_ _));refine blk_far ?_ NB497_509.out _;(with_reducible repeat (first|refine blk_drewN ?_ _|refine blk_drew ?_|refine blk_alloc ?_ _));refine blk_far ?_ NB497_509.out _;(with_reducible repeat (first|refine blk_drewN ?_ _|refine blk_drew ?_|refine blk_alloc ?_ _));refine blk_far ?_ NB497_509.out _;(with_reducible repeat (first|refine blk_drewN ?_ _|refine blk_drew ?_|refine blk_alloc ?_ _));refine blk_far ?_ NB497_509.out _;(with_reducible repeat (first|refine blk_drewN ?_ _|refine blk_drew ?_|refine blk_alloc ?_ _));exact BK497.out):P:=h
theorem first_year (j:Nat):first (12 * (j+1))=first (12 * j)+365+(if leapN (1900+j)=true then 1 else 0):=by
  have e (m:Nat) (h:m < 12):first (12 * j+(m+1))=first (12 * j+m)+lenYM j m:=by
    rw [← lenK_at j m h];rfl
  have l0:lenYM j 0=31:=rfl;have l1:lenYM j 1=28+(if leapN (1900+j)=true then 1 else 0):=by unfold lenYM;rw [if_pos rfl];split <;> rfl
  have l2:lenYM j 2=31:=rfl;have l3:lenYM j 3=30:=rfl;have l4:lenYM j 4=31:=rfl;have l5:lenYM j 5=30:=rfl;have l6:lenYM j 6=31:=rfl;have l7:lenYM j 7=31:=rfl;have l8:lenYM j 8=30:=rfl;have l9:lenYM j 9=31:=rfl;have l10:lenYM j 10=30:=rfl;have l11:lenYM j 11=31:=rfl;have z:first (12 * j+0)=first (12 * j):=rfl
  have e0:first (12 * j+1)=first (12 * j+0)+lenYM j 0:=e 0 (by omega)
  have e1:first (12 * j+2)=first (12 * j+1)+lenYM j 1:=e 1 (by omega)
  have e2:first (12 * j+3)=first (12 * j+2)+lenYM j 2:=e 2 (by omega)
  have e3:first (12 * j+4)=first (12 * j+3)+lenYM j 3:=e 3 (by omega)
  have e4:first (12 * j+5)=first (12 * j+4)+lenYM j 4:=e 4 (by omega)
  have e5:first (12 * j+6)=first (12 * j+5)+lenYM j 5:=e 5 (by omega)
  have e6:first (12 * j+7)=first (12 * j+6)+lenYM j 6:=e 6 (by omega)
  have e7:first (12 * j+8)=first (12 * j+7)+lenYM j 7:=e 7 (by omega)
  have e8:first (12 * j+9)=first (12 * j+8)+lenYM j 8:=e 8 (by omega)
  have e9:first (12 * j+10)=first (12 * j+9)+lenYM j 9:=e 9 (by omega)
  have e10:first (12 * j+11)=first (12 * j+10)+lenYM j 10:=e 10 (by omega)
  have e11:first (12 * j+12)=first (12 * j+11)+lenYM j 11:=e 11 (by omega)
  rw [show 12 * (j+1)=12 * j+12 by omega];omega
theorem first_lt {K L:Nat} (h:K < L):first K+28≤first L:=by
  induction L with
 |zero=>omega
 |succ L ih =>
    have:=(lenK_in L).1;show first K+28≤first L+lenK L
    by_cases e:K=L
    · subst e;omega
    · have:=ih (by omega);omega
theorem first_le {K L:Nat} (h:K≤L):first K≤first L:=by
  by_cases e:K=L
  · rw [e];exact Int.le_refl _
  · have:=first_lt (show K < L by omega);omega
theorem first_nonneg (K:Nat):0≤first K:=first_le (Nat.zero_le K)
end A
namespace A
open Go.RowKit B WW WL WM
attribute [local go_sem] max2_int min2_int max_two min_two max_three min_three max_four min_four
theorem info9:(Tryz.prog.info? 9).map (fun i=>(i.zero,i.size,i.bytes))=some (some (.string ⟨#[]⟩),1,16):=by kernel_rfl
theorem k48_openM {w:World} {base:Nat} {ok:Nat→Prop} {x:S48} {cs:List Value} (h:k48.M w base ok x cs):cs=[.int .i64 x.f0,.int .i64 x.f1,.string x.f2,.int .i64 x.f3]:=by
  obtain ⟨_,_,rfl,rfl,⟨_,_,rfl,rfl,⟨_,_,rfl,rfl,rfl⟩⟩⟩:=h;exact rfl
theorem k50_openM {w:World} {base:Nat} {ok:Nat→Prop} {x:S50} {cs:List Value} (h:k50.M w base ok x cs):cs=[.string x.f0,.string x.f1]:=by
  obtain ⟨_,_,rfl,rfl,rfl⟩:=h;exact rfl
structure S25 where
  f0:ByteArray
  f1:(List S48)
  f2:ByteArray
  f3:ByteArray
  f4:(List S50)
def z25:S25:=⟨(⟨#[]⟩:ByteArray),([]:List S48),(⟨#[]⟩:ByteArray),(⟨#[]⟩:ByteArray),([]:List S50)⟩
def k25:Kd S25:=Kd.iso (Kd.pair Kd.string (Kd.pair (Kd.slice 48 k48) (Kd.pair Kd.string (Kd.pair Kd.string (Kd.slice 50 k50))))) (fun x:S25=>(x.f0,x.f1,x.f2,x.f3,x.f4))
theorem k25_open {w:World} {x:S25} {cs:List Value} (h:k25.K w x cs):∃ A1 c1 A4 c4,cs=[.string x.f0,.slice A1 x.f1.length c1,.string x.f2,.string x.f3,.slice A4 x.f4.length c4]∧x.f1.length≤c1∧k48.C w A1 x.f1.length x.f1∧x.f4.length≤c4∧k50.C w A4 x.f4.length x.f4:=by
  obtain ⟨_,_,rfl,rfl,⟨_,_,rfl,⟨A1,c1,rfl,l1,g1⟩,⟨_,_,rfl,rfl,⟨_,_,rfl,rfl,⟨A4,c4,rfl,l4,g4⟩⟩⟩⟩⟩:=h;exact ⟨A1,c1,A4,c4,rfl,l1,g1,l4,g4⟩
theorem k25_mk (w:World) (x:S25) {A1:Option Addr} {c1:Nat} (l1:x.f1.length≤c1) (g1:k48.C w A1 x.f1.length x.f1) {A4:Option Addr} {c4:Nat} (l4:x.f4.length≤c4) (g4:k50.C w A4 x.f4.length x.f4):k25.K w x [.string x.f0,.slice A1 x.f1.length c1,.string x.f2,.string x.f3,.slice A4 x.f4.length c4]:=⟨[.string x.f0],[.slice A1 x.f1.length c1,.string x.f2,.string x.f3,.slice A4 x.f4.length c4],rfl,rfl,⟨[.slice A1 x.f1.length c1],[.string x.f2,.string x.f3,.slice A4 x.f4.length c4],rfl,⟨A1,c1,rfl,l1,g1⟩,⟨[.string x.f2],[.string x.f3,.slice A4 x.f4.length c4],rfl,rfl,⟨[.string x.f3],[.slice A4 x.f4.length c4],rfl,rfl,⟨A4,c4,rfl,l4,g4⟩⟩⟩⟩⟩
def rd_T25 (xs:List S25) (i:Int):S25:=xs.getD i.toNat z25
theorem at_T25 {w:World} {A:Option Addr} {n:Nat} {xs:List S25} (h:Kd.C k25 w A n xs) (i:Int) (h0:0≤i) (h1:i < n):∃ ad A1 c1 A4 c4,A=some ad∧w.cell? (ad.add (i.toNat * 5))=some (.string (rd_T25 xs i).f0)∧w.cell? ⟨(ad.add (i.toNat * 5)).block,(ad.add (i.toNat * 5)).off+1,none⟩=some (.slice A1 (rd_T25 xs i).f1.length c1)∧w.cell? ⟨(ad.add (i.toNat * 5)).block,(ad.add (i.toNat * 5)).off+2,none⟩=some (.string (rd_T25 xs i).f2)∧w.cell? ⟨(ad.add (i.toNat * 5)).block,(ad.add (i.toNat * 5)).off+3,none⟩=some (.string (rd_T25 xs i).f3)∧w.cell? ⟨(ad.add (i.toNat * 5)).block,(ad.add (i.toNat * 5)).off+4,none⟩=some (.slice A4 (rd_T25 xs i).f4.length c4)∧(rd_T25 xs i).f1.length≤c1∧k48.C w A1 (rd_T25 xs i).f1.length (rd_T25 xs i).f1∧(rd_T25 xs i).f4.length≤c4∧k50.C w A4 (rd_T25 xs i).f4.length (rd_T25 xs i).f4:=by
  obtain ⟨ad,c,e,_,hK,hc0⟩:=Kd.C_get h z25 i h0 h1;have hc:∀ j u,c[j]?=some u→w.cell? (ad.add (i.toNat * 5+j))=some u:=hc0;obtain ⟨A1,c1,A4,c4,rfl,l1,g1,l4,g4⟩:=k25_open hK;exact ⟨ad,A1,c1,A4,c4,e,hc 0 _ rfl,by rw [← add_field _ _ 1 (by omega)];exact hc 1 _ rfl,by rw [← add_field _ _ 2 (by omega)];exact hc 2 _ rfl,by rw [← add_field _ _ 3 (by omega)];exact hc 3 _ rfl,by rw [← add_field _ _ 4 (by omega)];exact hc 4 _ rfl,l1,g1,l4,g4⟩
end A
namespace A
open Go.RowKit B WW WL WM
attribute [local go_sem] max2_int min2_int max_two min_two max_three min_three max_four min_four
set_option maxHeartbeats 8000000
set_option maxRecDepth 100000
theorem two25 (W:World) (x:S25) {A1 A4:Option Addr} {c1 c4:Nat} (l1:x.f1.length≤c1) (h1:Kd.C k48 W A1 x.f1.length x.f1) (l4:x.f4.length≤c4) (h4:Kd.C k50 W A4 x.f4.length x.f4) :
  Kd.C k25 (W.alloc (.cells #[.string ⟨#[]⟩,.slice none 0 0,.string ⟨#[]⟩,.string ⟨#[]⟩,.slice none 0 0,.string x.f0,.slice A1 x.f1.length c1,.string x.f2,.string x.f3,.slice A4 x.f4.length c4] 25)) (some ⟨W.heap.size,0,none⟩) 2 [z25,x]:=by
 have hbl:=below_alloc (Below.refl W.heap.size W) (.cells #[.string ⟨#[]⟩,.slice none 0 0,.string ⟨#[]⟩,.string ⟨#[]⟩,.slice none 0 0,.string x.f0,.slice A1 x.f1.length c1,.string x.f2,.string x.f3,.slice A4 x.f4.length c4] 25);have hb:=fun k=>blk_cell (blk_new W (.cells #[.string ⟨#[]⟩,.slice none 0 0,.string ⟨#[]⟩,.string ⟨#[]⟩,.slice none 0 0,.string x.f0,.slice A1 x.f1.length c1,.string x.f2,.string x.f3,.slice A4 x.f4.length c4] 25)) k
 refine ⟨rfl,by decide,fun _=>⟨_,rfl,fun j p hj=>?_⟩⟩
 cases j with
|zero =>
  obtain rfl:=Option.some.inj hj;refine ⟨[.string ⟨#[]⟩,.slice none 0 0,.string ⟨#[]⟩,.string ⟨#[]⟩,.slice none 0 0],rfl,k25_mk _ z25 (A1:=none) (c1:=0) (Nat.le_refl _) (Kd.C_nil _ _) (A4:=none) (c4:=0) (Nat.le_refl _) (Kd.C_nil _ _),fun i u hu=>?_⟩;rw [show k25.sz=5 from rfl,add_at];rcases i with _|_|_|_|_|i
  ·exact (hb 0).trans hu
  ·exact (hb 1).trans hu
  ·exact (hb 2).trans hu
  ·exact (hb 3).trans hu
  ·exact (hb 4).trans hu
  ·cases hu
|succ j =>
  cases j with
 |zero =>
   obtain rfl:=Option.some.inj hj;refine ⟨[.string x.f0,.slice A1 x.f1.length c1,.string x.f2,.string x.f3,.slice A4 x.f4.length c4],rfl,k25_mk _ x l1 (Kd.C_below h1 hbl) l4 (Kd.C_below h4 hbl),fun i u hu=>?_⟩;rw [show k25.sz=5 from rfl,add_at];rcases i with _|_|_|_|_|i
   ·exact (hb 5).trans hu
   ·exact (hb 6).trans hu
   ·exact (hb 7).trans hu
   ·exact (hb 8).trans hu
   ·exact (hb 9).trans hu
   ·cases hu
 |succ j=>cases hj
def livesR:S25:=⟨⟨#[114,101,110,116]⟩,livesC,⟨#[53,49]⟩,⟨#[112]⟩,livesG⟩
end A
namespace WW
open Go.RowKit
namespace Kd
theorem reps_scalar {α:Type} {enc:α→Value} (xs:List α):Reps (fun (x:α) (cs:List Value)=>cs=[enc x]) 1 xs (encs enc xs):=by
  refine ⟨by simp [encs],fun j p hj=>?_⟩;obtain ⟨hl,hp⟩:=List.getElem?_eq_some_iff.1 hj;have hl':j < (encs enc xs).length:=by rw [encs_length];exact hl
  rw [Nat.mul_one,List.drop_eq_getElem_cons hl'];simp [encs,hp]
theorem R_of_own {α:Type} {enc:α→Value} {h1:∀ x,(enc x).oneCell'=true} {e:Nat} {w:World} {base:Nat} {ok:Nat→Prop} {v:Value} {xs:List α} (ho:w.ownsRow base e 1 v xs.length (encs enc xs)) (hok:∀ k,v.ownBlock=some k→ok k):(scalar enc h1).R e w base ok v xs:=⟨hok,encs enc xs,ho,reps_scalar xs⟩
end Kd
end WW
namespace WW
open Go.RowKit
theorem KeepBut.own {w w1:World} {g:Nat} {row:Option Nat} {base:Nat} {e:TypeId} {size n:Nat} {v:Value} {xs:List Value} (h:KeepBut w w1 g row) (ho:w.ownsRow base e size v n xs) (hg:v.ownBlock≠some g) (hr:v.ownBlock=none∨v.ownBlock≠row):w1.ownsRow base e size v n xs:=by
  obtain ⟨h1,h2⟩:=ho;refine ⟨h1,?_⟩;rcases h2 with h2|⟨b,cap,cur,rfl,hb,hh,r⟩
  · exact .inl h2
  · refine .inr ⟨b,cap,cur,rfl,hb,h.blk hh ?_ ?_,r⟩
    · intro e
      exact hg (by rw [← e];rfl)
    · rcases hr with hr|hr
      · simp [Value.ownBlock] at hr
      · exact hr
end WW
namespace B
open Go.RowKit
theorem gl_lt {w:World} (h:Gl w):GlLt w.heap.size:=⟨h.1.1,h.2.1.1,h.2.2.1⟩
end B
namespace B
open Go.Lib Go.RowKit WW
theorem tabAt_of {P:Program} {W:World} {name:String} {g:Nat} {zs:List Int} (h:Lib.TabIs P W name .i64 zs) (hg:P.globalNamed name=some g) (hz:0 < zs.length):TabAt g zs W:=by
  refine ⟨lt_of_cell (h.cell hg 0 hz),fun i hi=>?_⟩;rw [h.cell hg i hi,List.getD_eq_getElem?_getD,List.getElem?_eq_getElem hi];rfl
theorem gl_of_laid {D : DataW Unit} {W : World} (h : laidMet Tryz.prog [("accounting/days.lengths", Lib.tabData .i64 monthLens), ("unicode.White_Space", D), ("strings.asciiSpace", Lib.tabData .u8 Lib.asciiSpaceTab)] W) (hm : ∃ m, W.cell? ⟨2, 0, none⟩ = some (.int .i64 m)) : Gl W :=
  ⟨tabAt_of (Lib.tabIs_of_head (g:=3) (t:=184) (e:=3) (n:=12) (by kernel_rfl) (by kernel_rfl) (by kernel_rfl) Tryz.underlying3 (by kernel_rfl) (by kernel_rfl) h) (by kernel_rfl) (by decide),
   spAt_of (Lib.tabIs_of_head (g:=0) (t:=133) (e:=5) (n:=256) (by kernel_rfl) (by kernel_rfl) (by kernel_rfl) Tryz.underlying5 (by kernel_rfl) (by kernel_rfl) (laidMet.tail (laidMet.tail h))),
   ⟨hm.elim fun m h=>lt_of_cell h,hm⟩⟩
end B
namespace A
open Go.RowKit B WW WL WM
section
variable {nm:ByteArray} {cs:List S48} {acc par:ByteArray} {tg:List S50}
theorem SmallR.st (h:SmallR nm cs acc par tg):ShortT tg:=fun x hx=>by have:=h.t x hx;omega
end
end A
namespace A
open Go.RowKit B WW WL WM
attribute [local go_sem] max2_int min2_int max_two min_two max_three min_three max_four min_four
set_option maxHeartbeats 8000000
set_option maxRecDepth 100000
theorem strs_new (l:List ByteArray) (hl:l.length≤1000000) (W:World) (base:Nat) (hb:base≤W.heap.size):Kd.R Kd.string 9 (W.alloc (.cells (l.map Value.string).toArray 9)) base (fun _=>True) (.slice (some ⟨W.heap.size,0,none⟩) l.length l.length) l :=
 Kd.R_of_own ⟨by simp [encs],Or.inr ⟨W.heap.size,l.length,_,rfl,hb,blk_new _ _,Nat.le_refl _,by unfold maxLen;omega,by simp,by rw [Nat.mul_one];simp [encs];exact List.take_of_length_le (by simp)⟩⟩ (fun _ _=>trivial)
theorem strs_C (l:List ByteArray) (hl:l.length≤1000000) (W:World):Kd.C Kd.string (W.alloc (.cells (l.map Value.string).toArray 9)) (some ⟨W.heap.size,0,none⟩) l.length l :=
 (Kd.R_reads' (strs_new l hl W 0 (Nat.zero_le _))).2.2
end A
end Go.Proofs.YtkbgkekegjfkfaaGreatDoor
namespace Go.Proofs
open Go.Shelf
open Go.RowKit in
theorem Tryz.strings_Join (bk o c:Nat) (xs:List ByteArray) (sep:ByteArray) (w:World) (hcells:∀ (j:Nat) x,xs[j]?=some x→w.cell? ⟨bk,o+j,none⟩=some (.string x)) (hbk:bk < w.heap.size) (hN:xs.length≤140737488355328) (hcap:xs.length≤c) (hlen:(Lib.join (xs.map (·.data.toList)) sep.data.toList).length≤140737488355328) :
    Calls Tryz.prog 32 #[.slice (some ⟨bk,o,none⟩) xs.length c,.string sep] w fun e w'=>e=.returned (.string ⟨(Lib.join (xs.map (·.data.toList)) sep.data.toList).toArray⟩)∧Below w.heap.size w w':=Any.strings_Join Tryz.lays156 Tryz.Builder_Extra_156 bk o c xs sep w hcells hbk hN hcap hlen
end Go.Proofs
