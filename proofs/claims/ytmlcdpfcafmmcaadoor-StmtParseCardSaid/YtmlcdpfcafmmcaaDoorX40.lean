-- By pack.py, a program of this session's.
import Derived.Test.YtmlcdpfcafmmcaaDoorX14
import Derived.Test.YtmlcdpfcafmmcaaDoorX21
import Derived.Test.YtmlcdpfcafmmcaaDoorX26
import Derived.Test.YtmlcdpfcafmmcaaDoorX27
set_option linter.unusedVariables false
set_option linter.unusedSimpArgs false
namespace Go.Proofs.YtmlcdpfcafmmcaaDoor.A
open Go.RowKit B WW WL WM
attribute [local go_sem] max2_int min2_int max_two min_two max_three min_three max_four min_four
set_option maxHeartbeats 8000000
set_option maxRecDepth 100000
theorem below_lower {B bd:Nat} {w w':World} (h:Below B w w') (hb:bd≤B):Below bd w w':=⟨h.os,h.tape,h.output,h.size,fun i hi=>h.block i (Nat.lt_of_lt_of_le hi hb)⟩
def rf06_name.l0:Nat→ByteArray→Int→Option (Int)
 | 0,_,_=>none
 | k+1,x0,x1=>if x1 < (x0.size:Int) then (if 0≤x1 then ((rf06_letter.f (bt x0 x1)).bind fun t351=>(if t351=true then (rf06_name.l0 k x0 (wrap64 (x1+1))) else ((rf06_digit.f (bt x0 x1)).bind fun t352=>(if t352=true then (rf06_name.l0 k x0 (wrap64 (x1+1))) else (some x1))))) else (none)) else (some x1)
def rf06_name.f (k:Nat) (a0:ByteArray) (a1:Int):Option (Int):=rf06_name.l0 k a0 a1
theorem rf06_name.calls (k:Nat) (a0:ByteArray) (a1 r:Int) (w:World) (h:rf06_name.f k a0 a1=some r) :
  Calls Tryd.prog 92 #[.string a0,.int .i64 a1] w fun e w'=>e=.returned (.int .i64 r)∧Drawn0 w w':=by
 have H:=h;clear h;unfold rf06_name.f at H;have H':=sd H;clear H;go_enter Tryd.func92,Tryd.ntmps92
 go_wp2
 go_loopg [1] k (fun kq v1 w'=>∃ (x1_1:Int),v1=.int .i64 x1_1∧Aside0 (rf06_name.l0 kq a0 x1_1=some r)∧Aside0 (kq≤k)∧Drawn0 w w')
 case atStart=>exact ⟨(a1),zq1,H',⟨Nat.le_refl _⟩,zq2⟩
 case round =>
  clear H';try clear p2
  obtain ⟨x1_1,rfl,HA,HK1,⟨m1,rfl⟩⟩:=hrel
  cases gk with
  | zero=>exact absurd HA.out (by simp [rf06_name.l0])
  | succ k1 =>
   have H:=HA.out;clear HA;simp only [rf06_name.l0] at H
   replace H:=ifI H;rcases H with ⟨c3,H⟩ | ⟨c3,H⟩
   ·have c3b0:decide (x1_1 < (a0.size:Int))=true:=decide_eq_true c3;clear c3;replace H:=ifI H;rcases H with ⟨c4,H⟩ | ⟨c4,H⟩
    ·have c4b0:decide (0≤x1_1)=true:=decide_eq_true c4;clear c4;replace H:=bdI H;obtain ⟨t351,A6,H⟩:=H;(try dsimp only at H)
     by_cases c7:t351=true
     ·subst c7;rw [if_pos rfl] at H;have H':=sd H;clear H;have p5:0≤(x1_1:Int):=od;have q5:x1_1 < (a0.size:Int):=od;have hx5:=bt_at a0 x1_1;replace p5:=eq_true p5;replace q5:=eq_true q5;go_wp2_with (first | (go_at_call 56;(with_reducible refine (rf06_letter.calls (bt a0 x1_1) true _ A6.out).mono ?_);rintro e w' ⟨rfl,⟨nd,rfl⟩⟩))
      go_roundg k1
      case measure=>have:=HK1.out;omega
      case rel=>exact ⟨(wrap64 (x1_1+1)),zq1,H',⟨by have:=HK1.out;omega⟩,zq2⟩
     replace c7:=Bool.eq_false_iff.mpr c7;subst c7;rw [if_neg Bool.false_ne_true] at H;replace H:=bdI H;obtain ⟨t352,A9,H⟩:=H;(try dsimp only at H)
     by_cases c10:t352=true
     ·subst c10;rw [if_pos rfl] at H;have H':=sd H;clear H;have p5:0≤(x1_1:Int):=od;have q5:x1_1 < (a0.size:Int):=od;have hx5:=bt_at a0 x1_1;replace p5:=eq_true p5;replace q5:=eq_true q5;go_wp2_with (first | (go_at_call 56;(with_reducible refine (rf06_letter.calls (bt a0 x1_1) false _ A6.out).mono ?_);rintro e w' ⟨rfl,⟨nd,rfl⟩⟩;have p8:0≤(x1_1:Int):=od;have q8:x1_1 < (a0.size:Int):=od;have hx8:=bt_at a0 x1_1;replace p8:=eq_true p8;replace q8:=eq_true q8) | (go_at_call 57;(with_reducible refine (rf06_digit.calls (bt a0 x1_1) true _ A9.out).mono ?_);rintro e w' ⟨rfl,⟨nd,rfl⟩⟩))
      go_roundg k1
      case measure=>have:=HK1.out;omega
      case rel=>exact ⟨(wrap64 (x1_1+1)),zq1,H',⟨by have:=HK1.out;omega⟩,zq2⟩
     replace c10:=Bool.eq_false_iff.mpr c10;subst c10;rw [if_neg Bool.false_ne_true] at H;obtain rfl:=Option.some.inj H;have p5:0≤(x1_1:Int):=od;have q5:x1_1 < (a0.size:Int):=od;have hx5:=bt_at a0 x1_1;replace p5:=eq_true p5;replace q5:=eq_true q5;go_wp2_with (first | (go_at_call 56;(with_reducible refine (rf06_letter.calls (bt a0 x1_1) false _ A6.out).mono ?_);rintro e w' ⟨rfl,⟨nd,rfl⟩⟩;have p8:0≤(x1_1:Int):=od;have q8:x1_1 < (a0.size:Int):=od;have hx8:=bt_at a0 x1_1;replace p8:=eq_true p8;replace q8:=eq_true q8) | (go_at_call 57;(with_reducible refine (rf06_digit.calls (bt a0 x1_1) false _ A9.out).mono ?_);rintro e w' ⟨rfl,⟨nd,rfl⟩⟩))
     go_ret
     exact ⟨zq1,zq2⟩
    exact absurd H (by simp)
   have c3b0:decide (x1_1 < (a0.size:Int))=false:=decide_eq_false c3;clear c3;obtain rfl:=Option.some.inj H;go_wp2
   go_ret
   exact ⟨zq1,zq2⟩
structure RB (w:World) (bd g2 g4:Nat) (C v:Value) (p:PSt):Prop where
 blk:w.heap[g2]?=some (.cells (p.rd C v) 71 (0,0))
 res:w.heap[g4]?=some (.cells #[.string (⟨#[]⟩:ByteArray),.string (⟨#[]⟩:ByteArray),.int .i64 0,.int .i64 0,.int .i64 0,.slice none 0 0,.slice none 0 0,.int .i64 0,.int .i64 0] 71 (0,0))
 row:Kd.R k44 44 w bd (fun _=>True) v p.ls
 h2:bd≤g2
 h4:bd≤g4
 ne:g4≠g2
theorem ne71:∀ q,q∈(44:Nat) :: k44.E→q≠71:=by decide
theorem RB.below {w w':World} {bd g2 g4:Nat} {C v:Value} {p:PSt} (h:RB w bd g2 g4 C v p) (hb:Below w.heap.size w w'):RB w' bd g2 g4 C v p :=
 ⟨blk_below h.blk hb,blk_below h.res hb,Kd.R_below h.row hb,h.h2,h.h4,h.ne⟩
theorem RB.drawn {w:World} {bd g2 g4:Nat} {C v:Value} {p:PSt} (h:RB w bd g2 g4 C v p) (n:Nat):RB (w.drewN n) bd g2 g4 C v p:=h.below (pw_below_drewN (Below.refl _ _) n)
theorem RB.set {w:World} {bd g2 g4:Nat} {C v:Value} {p:PSt} (h:RB w bd g2 g4 C v p) (j:Nat) (u:Value) (q:PSt) (hc:(p.rd C v).set! j u=q.rd C v) (hl:q.ls=p.ls):RB (w.setCell ⟨g2,j,none⟩ u) bd g2 g4 C v q :=
 ⟨blk_put (cs:=p.rd C v) h.blk j u hc,blk_far h.res h.ne u,by rw [hl];exact Kd.R_set h.row h.blk ne71 j u,h.h2,h.h4,h.ne⟩
theorem RB.facts {w:World} {bd g2 g4:Nat} {C v:Value} {p:PSt} (h:RB w bd g2 g4 C v p) :
  w.cell? ⟨g2,0,none⟩=some (.string p.acc)∧w.cell? ⟨g2,1,none⟩=some (.string p.cur)∧w.cell? ⟨g2,2,none⟩=some (.int .i64 p.no)∧w.cell? ⟨g2,3,none⟩=some (.int .i64 p.op)∧w.cell? ⟨g2,4,none⟩=some (.int .i64 p.cl)∧w.cell? ⟨g2,5,none⟩=some (v)∧w.cell? ⟨g2,6,none⟩=some (C)∧w.cell? ⟨g2,7,none⟩=some (.int .i64 p.dg)∧w.cell? ⟨g2,8,none⟩=some (.int .i64 p.part)∧w.frozen? ⟨g2,0,none⟩=false∧w.frozen? ⟨g2,1,none⟩=false∧w.frozen? ⟨g2,2,none⟩=false∧w.frozen? ⟨g2,3,none⟩=false∧w.frozen? ⟨g2,4,none⟩=false∧w.frozen? ⟨g2,5,none⟩=false∧w.frozen? ⟨g2,6,none⟩=false∧w.frozen? ⟨g2,7,none⟩=false∧w.frozen? ⟨g2,8,none⟩=false :=
 ⟨(blk_cell h.blk 0).trans rfl,(blk_cell h.blk 1).trans rfl,(blk_cell h.blk 2).trans rfl,(blk_cell h.blk 3).trans rfl,(blk_cell h.blk 4).trans rfl,(blk_cell h.blk 5).trans rfl,(blk_cell h.blk 6).trans rfl,(blk_cell h.blk 7).trans rfl,(blk_cell h.blk 8).trans rfl,blk_frozen h.blk 0,blk_frozen h.blk 1,blk_frozen h.blk 2,blk_frozen h.blk 3,blk_frozen h.blk 4,blk_frozen h.blk 5,blk_frozen h.blk 6,blk_frozen h.blk 7,blk_frozen h.blk 8⟩
theorem RB.zfacts {w:World} {bd g2 g4:Nat} {C v:Value} {p:PSt} (h:RB w bd g2 g4 C v p) :
  w.cell? ⟨g4,0,none⟩=some (.string (⟨#[]⟩:ByteArray))∧w.cell? ⟨g4,1,none⟩=some (.string (⟨#[]⟩:ByteArray))∧w.cell? ⟨g4,2,none⟩=some (.int .i64 0)∧w.cell? ⟨g4,3,none⟩=some (.int .i64 0)∧w.cell? ⟨g4,4,none⟩=some (.int .i64 0)∧w.cell? ⟨g4,5,none⟩=some (.slice none 0 0)∧w.cell? ⟨g4,6,none⟩=some (.slice none 0 0)∧w.cell? ⟨g4,7,none⟩=some (.int .i64 0)∧w.cell? ⟨g4,8,none⟩=some (.int .i64 0)∧w.frozen? ⟨g4,0,none⟩=false∧w.frozen? ⟨g4,1,none⟩=false∧w.frozen? ⟨g4,2,none⟩=false∧w.frozen? ⟨g4,3,none⟩=false∧w.frozen? ⟨g4,4,none⟩=false∧w.frozen? ⟨g4,5,none⟩=false∧w.frozen? ⟨g4,6,none⟩=false∧w.frozen? ⟨g4,7,none⟩=false∧w.frozen? ⟨g4,8,none⟩=false :=
 ⟨(blk_cell h.res 0).trans rfl,(blk_cell h.res 1).trans rfl,(blk_cell h.res 2).trans rfl,(blk_cell h.res 3).trans rfl,(blk_cell h.res 4).trans rfl,(blk_cell h.res 5).trans rfl,(blk_cell h.res 6).trans rfl,(blk_cell h.res 7).trans rfl,(blk_cell h.res 8).trans rfl,blk_frozen h.res 0,blk_frozen h.res 1,blk_frozen h.res 2,blk_frozen h.res 3,blk_frozen h.res 4,blk_frozen h.res 5,blk_frozen h.res 6,blk_frozen h.res 7,blk_frozen h.res 8⟩
theorem rret {fn:Func} (hfn:fn.results=[ResultVar.cell 4 71,.tmp 5].toArray) (Post:Ending→World→Prop) (T:Array Value) (W w0:World) (bd g2 g4:Nat) (p:PSt) (C v:Value) (x:Int) (t4:T.getD 4 undef=.pointer (some ⟨g4,0,none⟩)) (t5:T.getD 5 undef=.int .i64 x)
  (h:RB W bd g2 g4 C v p) (hB0:Below w0.heap.size w0 W) (hge:w0.heap.size≤g4) (hp:∀ W',Kd.R k44 44 W' bd (fun _=>True) v p.ls→Below w0.heap.size w0 W'→Post (.returned (.tuple #[.agg (p.rd C v),.int .i64 x])) W') :
  bodyPost Tryd.prog fn Post .ret { tmps:=T,defers:=[] } (((((((((W.setCell ⟨g4,0,none⟩ (.string p.acc)).setCell ⟨g4,1,none⟩ (.string p.cur)).setCell ⟨g4,2,none⟩ (.int .i64 p.no)).setCell ⟨g4,3,none⟩ (.int .i64 p.op)).setCell ⟨g4,4,none⟩ (.int .i64 p.cl)).setCell ⟨g4,5,none⟩ (v)).setCell ⟨g4,6,none⟩ (C)).setCell ⟨g4,7,none⟩ (.int .i64 p.dg)).setCell ⟨g4,8,none⟩ (.int .i64 p.part)):=by
 have b0:=blk_put (cs':=#[.string p.acc,.string (⟨#[]⟩:ByteArray),.int .i64 0,.int .i64 0,.int .i64 0,.slice none 0 0,.slice none 0 0,.int .i64 0,.int .i64 0]) h.res 0 (.string p.acc) rfl;have r0:=Kd.R_set h.row h.res ne71 0 (.string p.acc);have b1:=blk_put (cs':=#[.string p.acc,.string p.cur,.int .i64 0,.int .i64 0,.int .i64 0,.slice none 0 0,.slice none 0 0,.int .i64 0,.int .i64 0]) b0 1 (.string p.cur) rfl;have r1:=Kd.R_set r0 b0 ne71 1 (.string p.cur);have b2:=blk_put (cs':=#[.string p.acc,.string p.cur,.int .i64 p.no,.int .i64 0,.int .i64 0,.slice none 0 0,.slice none 0 0,.int .i64 0,.int .i64 0]) b1 2 (.int .i64 p.no) rfl;have r2:=Kd.R_set r1 b1 ne71 2 (.int .i64 p.no);have b3:=blk_put (cs':=#[.string p.acc,.string p.cur,.int .i64 p.no,.int .i64 p.op,.int .i64 0,.slice none 0 0,.slice none 0 0,.int .i64 0,.int .i64 0]) b2 3 (.int .i64 p.op) rfl;have r3:=Kd.R_set r2 b2 ne71 3 (.int .i64 p.op);have b4:=blk_put (cs':=#[.string p.acc,.string p.cur,.int .i64 p.no,.int .i64 p.op,.int .i64 p.cl,.slice none 0 0,.slice none 0 0,.int .i64 0,.int .i64 0]) b3 4 (.int .i64 p.cl) rfl;have r4:=Kd.R_set r3 b3 ne71 4 (.int .i64 p.cl);have b5:=blk_put (cs':=#[.string p.acc,.string p.cur,.int .i64 p.no,.int .i64 p.op,.int .i64 p.cl,v,.slice none 0 0,.int .i64 0,.int .i64 0]) b4 5 (v) rfl;have r5:=Kd.R_set r4 b4 ne71 5 (v);have b6:=blk_put (cs':=#[.string p.acc,.string p.cur,.int .i64 p.no,.int .i64 p.op,.int .i64 p.cl,v,C,.int .i64 0,.int .i64 0]) b5 6 (C) rfl;have r6:=Kd.R_set r5 b5 ne71 6 (C);have b7:=blk_put (cs':=#[.string p.acc,.string p.cur,.int .i64 p.no,.int .i64 p.op,.int .i64 p.cl,v,C,.int .i64 p.dg,.int .i64 0]) b6 7 (.int .i64 p.dg) rfl;have r7:=Kd.R_set r6 b6 ne71 7 (.int .i64 p.dg);have b8:=blk_put (cs':=#[.string p.acc,.string p.cur,.int .i64 p.no,.int .i64 p.op,.int .i64 p.cl,v,C,.int .i64 p.dg,.int .i64 p.part]) b7 8 (.int .i64 p.part) rfl;have r8:=Kd.R_set r7 b7 ne71 8 (.int .i64 p.part);refine bodyPost_ret (v:=.tuple #[.agg (p.rd C v),.int .i64 x]) ?_ rfl (hp _ r8 (below_setN (below_setN (below_setN (below_setN (below_setN (below_setN (below_setN (below_setN (below_setN hB0 hge _) hge _) hge _) hge _) hge _) hge _) hge _) hge _) hge _));have:=results_list (P:=Tryd.prog) (fn:=fn) (tmps:=T) (w:=(((((((((W.setCell ⟨g4,0,none⟩ (.string p.acc)).setCell ⟨g4,1,none⟩ (.string p.cur)).setCell ⟨g4,2,none⟩ (.int .i64 p.no)).setCell ⟨g4,3,none⟩ (.int .i64 p.op)).setCell ⟨g4,4,none⟩ (.int .i64 p.cl)).setCell ⟨g4,5,none⟩ (v)).setCell ⟨g4,6,none⟩ (C)).setCell ⟨g4,7,none⟩ (.int .i64 p.dg)).setCell ⟨g4,8,none⟩ (.int .i64 p.part))) (rs:=[.cell 4 71,.tmp 5]) hfn (by simp) (.cell g4 71 _ (0,0) _ t4 b8 Tryd.underlying71 rfl (by kernel_rfl) (.tmp .nil));rw [t5] at this;exact this
def rf47_divide.l0:Nat→ByteArray→List ByteArray→Int→Int→Option (List ByteArray)
 | 0,_,_,_,_=>none
 | k+1,x0,x3,x4,x5=>if x5 < (x0.size:Int) then (if 0≤x5 then (if (bt x0 x5)=10 then (if 0≤x4 then (if x4≤x5 then (if x5≤(x0.size:Int) then (if x3.length < 8796093022208 then (rf47_divide.l0 k x0 (x3++[x0.extract (x4:Int).toNat (x5:Int).toNat]) (wrap64 (x5+1)) (wrap64 (x5+1))) else (none)) else (none)) else (none)) else (none)) else (rf47_divide.l0 k x0 x3 x4 (wrap64 (x5+1)))) else (none)) else (if x4 < (x0.size:Int) then (if 0≤x4 then (if x4≤(x0.size:Int) then (if x3.length < 8796093022208 then (some (x3++[x0.extract (x4:Int).toNat x0.size])) else (none)) else (none)) else (none)) else (some x3))
def rf47_divide.f (k:Nat) (a0:ByteArray):Option (List ByteArray):=rf47_divide.l0 k a0 ([]:List ByteArray) 0 0
theorem rret2 {fn:Func} (hfn:fn.results=[ResultVar.cell 4 71,.tmp 5].toArray) (Post:Ending→World→Prop) (T:Array Value) (W w0:World) (bd g4:Nat) (p:PSt) (C v:Value) (x:Int) (t4:T.getD 4 undef=.pointer (some ⟨g4,0,none⟩)) (t5:T.getD 5 undef=.int .i64 x)
  (hres:W.heap[g4]?=some (.cells #[.string (⟨#[]⟩:ByteArray),.string (⟨#[]⟩:ByteArray),.int .i64 0,.int .i64 0,.int .i64 0,.slice none 0 0,.slice none 0 0,.int .i64 0,.int .i64 0] 71 (0,0))) (hrow:Kd.R k44 44 W bd (fun _=>True) v p.ls) (hB0:Below w0.heap.size w0 W) (hge:w0.heap.size≤g4) (hp:∀ W',Kd.R k44 44 W' bd (fun _=>True) v p.ls→Below w0.heap.size w0 W'→Post (.returned (.tuple #[.agg (p.rd C v),.int .i64 x])) W') :
  bodyPost Tryd.prog fn Post .ret { tmps:=T,defers:=[] } (((((((((W.setCell ⟨g4,0,none⟩ (.string p.acc)).setCell ⟨g4,1,none⟩ (.string p.cur)).setCell ⟨g4,2,none⟩ (.int .i64 p.no)).setCell ⟨g4,3,none⟩ (.int .i64 p.op)).setCell ⟨g4,4,none⟩ (.int .i64 p.cl)).setCell ⟨g4,5,none⟩ (v)).setCell ⟨g4,6,none⟩ (C)).setCell ⟨g4,7,none⟩ (.int .i64 p.dg)).setCell ⟨g4,8,none⟩ (.int .i64 p.part)):=by
 have b0:=blk_put (cs':=#[.string p.acc,.string (⟨#[]⟩:ByteArray),.int .i64 0,.int .i64 0,.int .i64 0,.slice none 0 0,.slice none 0 0,.int .i64 0,.int .i64 0]) hres 0 (.string p.acc) rfl;have r0:=Kd.R_set hrow hres ne71 0 (.string p.acc);have b1:=blk_put (cs':=#[.string p.acc,.string p.cur,.int .i64 0,.int .i64 0,.int .i64 0,.slice none 0 0,.slice none 0 0,.int .i64 0,.int .i64 0]) b0 1 (.string p.cur) rfl;have r1:=Kd.R_set r0 b0 ne71 1 (.string p.cur);have b2:=blk_put (cs':=#[.string p.acc,.string p.cur,.int .i64 p.no,.int .i64 0,.int .i64 0,.slice none 0 0,.slice none 0 0,.int .i64 0,.int .i64 0]) b1 2 (.int .i64 p.no) rfl;have r2:=Kd.R_set r1 b1 ne71 2 (.int .i64 p.no);have b3:=blk_put (cs':=#[.string p.acc,.string p.cur,.int .i64 p.no,.int .i64 p.op,.int .i64 0,.slice none 0 0,.slice none 0 0,.int .i64 0,.int .i64 0]) b2 3 (.int .i64 p.op) rfl;have r3:=Kd.R_set r2 b2 ne71 3 (.int .i64 p.op);have b4:=blk_put (cs':=#[.string p.acc,.string p.cur,.int .i64 p.no,.int .i64 p.op,.int .i64 p.cl,.slice none 0 0,.slice none 0 0,.int .i64 0,.int .i64 0]) b3 4 (.int .i64 p.cl) rfl;have r4:=Kd.R_set r3 b3 ne71 4 (.int .i64 p.cl);have b5:=blk_put (cs':=#[.string p.acc,.string p.cur,.int .i64 p.no,.int .i64 p.op,.int .i64 p.cl,v,.slice none 0 0,.int .i64 0,.int .i64 0]) b4 5 (v) rfl;have r5:=Kd.R_set r4 b4 ne71 5 (v);have b6:=blk_put (cs':=#[.string p.acc,.string p.cur,.int .i64 p.no,.int .i64 p.op,.int .i64 p.cl,v,C,.int .i64 0,.int .i64 0]) b5 6 (C) rfl;have r6:=Kd.R_set r5 b5 ne71 6 (C);have b7:=blk_put (cs':=#[.string p.acc,.string p.cur,.int .i64 p.no,.int .i64 p.op,.int .i64 p.cl,v,C,.int .i64 p.dg,.int .i64 0]) b6 7 (.int .i64 p.dg) rfl;have r7:=Kd.R_set r6 b6 ne71 7 (.int .i64 p.dg);have b8:=blk_put (cs':=#[.string p.acc,.string p.cur,.int .i64 p.no,.int .i64 p.op,.int .i64 p.cl,v,C,.int .i64 p.dg,.int .i64 p.part]) b7 8 (.int .i64 p.part) rfl;have r8:=Kd.R_set r7 b7 ne71 8 (.int .i64 p.part);refine bodyPost_ret (v:=.tuple #[.agg (p.rd C v),.int .i64 x]) ?_ rfl (hp _ r8 (below_setN (below_setN (below_setN (below_setN (below_setN (below_setN (below_setN (below_setN (below_setN hB0 hge _) hge _) hge _) hge _) hge _) hge _) hge _) hge _) hge _));have:=results_list (P:=Tryd.prog) (fn:=fn) (tmps:=T) (w:=(((((((((W.setCell ⟨g4,0,none⟩ (.string p.acc)).setCell ⟨g4,1,none⟩ (.string p.cur)).setCell ⟨g4,2,none⟩ (.int .i64 p.no)).setCell ⟨g4,3,none⟩ (.int .i64 p.op)).setCell ⟨g4,4,none⟩ (.int .i64 p.cl)).setCell ⟨g4,5,none⟩ (v)).setCell ⟨g4,6,none⟩ (C)).setCell ⟨g4,7,none⟩ (.int .i64 p.dg)).setCell ⟨g4,8,none⟩ (.int .i64 p.part))) (rs:=[.cell 4 71,.tmp 5]) hfn (by simp) (.cell g4 71 _ (0,0) _ t4 b8 Tryd.underlying71 rfl (by kernel_rfl) (.tmp .nil));rw [t5] at this;exact this
theorem sretR (Post:Ending→World→Prop) (T:Array Value) (W:World) (g:Nat) (cs:Array Value) (i e:Int) (t4:T.getD 4 undef=.pointer (some ⟨g,0,none⟩)) (t5:T.getD 5 undef=.int .i64 i) (t6:T.getD 6 undef=.int .i64 e)
  (hg:W.heap[g]?=some (.cells cs 24 (0,0))) (hs:cs.size=6) (hp:Post (.returned (.tuple #[.agg cs,.int .i64 i,.int .i64 e])) W):bodyPost Tryd.prog Tryd.f19 Post .ret { tmps:=T,defers:=[] } W:=by
 refine bodyPost_ret (v:=.tuple #[.agg cs,.int .i64 i,.int .i64 e]) ?_ rfl hp;have:=results_list (P:=Tryd.prog) (fn:=Tryd.f19) (tmps:=T) (w:=W) (rs:=[.cell 4 24,.tmp 5,.tmp 6]) rfl (by simp) (.cell g 24 cs (0,0) _ t4 hg Tryd.underlying24 rfl (by rw [hs];kernel_rfl) (.tmp (.tmp .nil)));rw [t5,t6] at this;exact this
theorem noretR (Post:Ending→World→Prop) (T:Array Value) (W w0:World) (g4:Nat) (i e:Int) (t4:T.getD 4 undef=.pointer (some ⟨g4,0,none⟩)) (t5:T.getD 5 undef=.int .i64 i) (t6:T.getD 6 undef=.int .i64 e)
  (hg:W.heap[g4]?=some (.cells #[.string (⟨#[]⟩:ByteArray),.string (⟨#[]⟩:ByteArray),.int .i64 0,.int .i64 0,.int .i64 0,.slice none 0 0] 24 (0,0))) (hB:Below w0.heap.size w0 W) (hge:w0.heap.size≤g4) (hp:∀ W',Below w0.heap.size w0 W'→Post (.returned (.tuple #[.agg #[.string (⟨#[]⟩:ByteArray),.string (⟨#[]⟩:ByteArray),.int .i64 0,.int .i64 0,.int .i64 0,.slice none 0 0],.int .i64 i,.int .i64 e])) W') :
  bodyPost Tryd.prog Tryd.f19 Post .ret { tmps:=T,defers:=[] } ((((((W.setCell ⟨g4,0,none⟩ (.string (⟨#[]⟩:ByteArray))).setCell ⟨g4,1,none⟩ (.string (⟨#[]⟩:ByteArray))).setCell ⟨g4,2,none⟩ (.int .i64 0)).setCell ⟨g4,3,none⟩ (.int .i64 0)).setCell ⟨g4,4,none⟩ (.int .i64 0)).setCell ⟨g4,5,none⟩ (.slice none 0 0)) :=
 sretR Post T _ g4 #[.string (⟨#[]⟩:ByteArray),.string (⟨#[]⟩:ByteArray),.int .i64 0,.int .i64 0,.int .i64 0,.slice none 0 0] i e t4 t5 t6 (blk_put (cs:=#[.string (⟨#[]⟩:ByteArray),.string (⟨#[]⟩:ByteArray),.int .i64 0,.int .i64 0,.int .i64 0,.slice none 0 0]) (blk_put (cs:=#[.string (⟨#[]⟩:ByteArray),.string (⟨#[]⟩:ByteArray),.int .i64 0,.int .i64 0,.int .i64 0,.slice none 0 0]) (blk_put (cs:=#[.string (⟨#[]⟩:ByteArray),.string (⟨#[]⟩:ByteArray),.int .i64 0,.int .i64 0,.int .i64 0,.slice none 0 0]) (blk_put (cs:=#[.string (⟨#[]⟩:ByteArray),.string (⟨#[]⟩:ByteArray),.int .i64 0,.int .i64 0,.int .i64 0,.slice none 0 0]) (blk_put (cs:=#[.string (⟨#[]⟩:ByteArray),.string (⟨#[]⟩:ByteArray),.int .i64 0,.int .i64 0,.int .i64 0,.slice none 0 0]) (blk_put (cs:=#[.string (⟨#[]⟩:ByteArray),.string (⟨#[]⟩:ByteArray),.int .i64 0,.int .i64 0,.int .i64 0,.slice none 0 0]) hg 0 _ rfl) 1 _ rfl) 2 _ rfl) 3 _ rfl) 4 _ rfl) 5 _ rfl) rfl
  (hp _ (below_setN (below_setN (below_setN (below_setN (below_setN (below_setN hB hge _) hge _) hge _) hge _) hge _) hge _))
theorem yesretR (Post:Ending→World→Prop) (T:Array Value) (W w0:World) (g4:Nat) (p:PSt) (v:Value) (t4:T.getD 4 undef=.pointer (some ⟨g4,0,none⟩)) (t5:T.getD 5 undef=.int .i64 0) (t6:T.getD 6 undef=.int .i64 0)
  (hg:W.heap[g4]?=some (.cells #[.string (⟨#[]⟩:ByteArray),.string (⟨#[]⟩:ByteArray),.int .i64 0,.int .i64 0,.int .i64 0,.slice none 0 0] 24 (0,0))) (hB:Below w0.heap.size w0 W) (hge:w0.heap.size≤g4) (hr:Kd.R k44 44 W w0.heap.size (fun _=>True) v p.ls) (hp:∀ W',Kd.R k44 44 W' w0.heap.size (fun _=>True) v p.ls→Below w0.heap.size w0 W'→Post (.returned (.tuple #[.agg #[.string p.acc,.string p.cur,.int .i64 p.no,.int .i64 p.op,.int .i64 p.cl,v],.int .i64 0,.int .i64 0])) W') :
  bodyPost Tryd.prog Tryd.f19 Post .ret { tmps:=T,defers:=[] } ((((((W.setCell ⟨g4,0,none⟩ (.string p.acc)).setCell ⟨g4,1,none⟩ (.string p.cur)).setCell ⟨g4,2,none⟩ (.int .i64 p.no)).setCell ⟨g4,3,none⟩ (.int .i64 p.op)).setCell ⟨g4,4,none⟩ (.int .i64 p.cl)).setCell ⟨g4,5,none⟩ (v)):=by
 have b0:=blk_put (cs':=#[.string p.acc,.string (⟨#[]⟩:ByteArray),.int .i64 0,.int .i64 0,.int .i64 0,.slice none 0 0]) hg 0 (.string p.acc) rfl;have r0:=Kd.R_set hr hg ne24 0 (.string p.acc);have b1:=blk_put (cs':=#[.string p.acc,.string p.cur,.int .i64 0,.int .i64 0,.int .i64 0,.slice none 0 0]) b0 1 (.string p.cur) rfl;have r1:=Kd.R_set r0 b0 ne24 1 (.string p.cur);have b2:=blk_put (cs':=#[.string p.acc,.string p.cur,.int .i64 p.no,.int .i64 0,.int .i64 0,.slice none 0 0]) b1 2 (.int .i64 p.no) rfl;have r2:=Kd.R_set r1 b1 ne24 2 (.int .i64 p.no);have b3:=blk_put (cs':=#[.string p.acc,.string p.cur,.int .i64 p.no,.int .i64 p.op,.int .i64 0,.slice none 0 0]) b2 3 (.int .i64 p.op) rfl;have r3:=Kd.R_set r2 b2 ne24 3 (.int .i64 p.op);have b4:=blk_put (cs':=#[.string p.acc,.string p.cur,.int .i64 p.no,.int .i64 p.op,.int .i64 p.cl,.slice none 0 0]) b3 4 (.int .i64 p.cl) rfl;have r4:=Kd.R_set r3 b3 ne24 4 (.int .i64 p.cl);have b5:=blk_put (cs':=#[.string p.acc,.string p.cur,.int .i64 p.no,.int .i64 p.op,.int .i64 p.cl,v]) b4 5 (v) rfl;have r5:=Kd.R_set r4 b4 ne24 5 (v);exact sretR Post T _ g4 _ 0 0 t4 t5 t6 b5 rfl (hp _ r5 (below_setN (below_setN (below_setN (below_setN (below_setN (below_setN hB hge _) hge _) hge _) hge _) hge _) hge _))
theorem keep9 (W:World) (g7 k:Nat) (q:PSt) (C u:Value) (h:k≠g7):(((((((((W.setCell ⟨g7,0,none⟩ (.string q.acc)).setCell ⟨g7,1,none⟩ (.string q.cur)).setCell ⟨g7,2,none⟩ (.int .i64 q.no)).setCell ⟨g7,3,none⟩ (.int .i64 q.op)).setCell ⟨g7,4,none⟩ (.int .i64 q.cl)).setCell ⟨g7,5,none⟩ (u)).setCell ⟨g7,6,none⟩ (C)).setCell ⟨g7,7,none⟩ (.int .i64 q.dg)).setCell ⟨g7,8,none⟩ (.int .i64 q.part)).heap[k]?=W.heap[k]?:=by
 rw [Below.heap_setCell _ _ _ k h];rw [Below.heap_setCell _ _ _ k h];rw [Below.heap_setCell _ _ _ k h];rw [Below.heap_setCell _ _ _ k h];rw [Below.heap_setCell _ _ _ k h];rw [Below.heap_setCell _ _ _ k h];rw [Below.heap_setCell _ _ _ k h];rw [Below.heap_setCell _ _ _ k h];rw [Below.heap_setCell _ _ _ k h]
theorem put9 (W:World) (g7:Nat) (p q:PSt) (C v u:Value) (h:W.heap[g7]?=some (.cells (p.rd C v) 71 (0,0))):(((((((((W.setCell ⟨g7,0,none⟩ (.string q.acc)).setCell ⟨g7,1,none⟩ (.string q.cur)).setCell ⟨g7,2,none⟩ (.int .i64 q.no)).setCell ⟨g7,3,none⟩ (.int .i64 q.op)).setCell ⟨g7,4,none⟩ (.int .i64 q.cl)).setCell ⟨g7,5,none⟩ (u)).setCell ⟨g7,6,none⟩ (C)).setCell ⟨g7,7,none⟩ (.int .i64 q.dg)).setCell ⟨g7,8,none⟩ (.int .i64 q.part)).heap[g7]?=some (.cells (q.rd C u) 71 (0,0)):=by
 have b0:=blk_put (cs':=#[.string q.acc,.string p.cur,.int .i64 p.no,.int .i64 p.op,.int .i64 p.cl,v,C,.int .i64 p.dg,.int .i64 p.part]) h 0 (.string q.acc) rfl;have b1:=blk_put (cs':=#[.string q.acc,.string q.cur,.int .i64 p.no,.int .i64 p.op,.int .i64 p.cl,v,C,.int .i64 p.dg,.int .i64 p.part]) b0 1 (.string q.cur) rfl;have b2:=blk_put (cs':=#[.string q.acc,.string q.cur,.int .i64 q.no,.int .i64 p.op,.int .i64 p.cl,v,C,.int .i64 p.dg,.int .i64 p.part]) b1 2 (.int .i64 q.no) rfl;have b3:=blk_put (cs':=#[.string q.acc,.string q.cur,.int .i64 q.no,.int .i64 q.op,.int .i64 p.cl,v,C,.int .i64 p.dg,.int .i64 p.part]) b2 3 (.int .i64 q.op) rfl;have b4:=blk_put (cs':=#[.string q.acc,.string q.cur,.int .i64 q.no,.int .i64 q.op,.int .i64 q.cl,v,C,.int .i64 p.dg,.int .i64 p.part]) b3 4 (.int .i64 q.cl) rfl;have b5:=blk_put (cs':=#[.string q.acc,.string q.cur,.int .i64 q.no,.int .i64 q.op,.int .i64 q.cl,u,C,.int .i64 p.dg,.int .i64 p.part]) b4 5 (u) rfl;have b6:=blk_put (cs':=#[.string q.acc,.string q.cur,.int .i64 q.no,.int .i64 q.op,.int .i64 q.cl,u,C,.int .i64 p.dg,.int .i64 p.part]) b5 6 (C) rfl;have b7:=blk_put (cs':=#[.string q.acc,.string q.cur,.int .i64 q.no,.int .i64 q.op,.int .i64 q.cl,u,C,.int .i64 q.dg,.int .i64 p.part]) b6 7 (.int .i64 q.dg) rfl;have b8:=blk_put (cs':=#[.string q.acc,.string q.cur,.int .i64 q.no,.int .i64 q.op,.int .i64 q.cl,u,C,.int .i64 q.dg,.int .i64 q.part]) b7 8 (.int .i64 q.part) rfl;exact b8
theorem row9 {α:Type} {d:Kd α} {e base:Nat} {ok:Nat→Prop} {x:Value} {xs:List α} {W:World} {g7:Nat} {cs:Array Value} (q:PSt) (C u:Value) (h:d.R e W base ok x xs) (hb:W.heap[g7]?=some (.cells cs 71 (0,0))) (ht:∀ t,t∈e :: d.E→t≠71):d.R e (((((((((W.setCell ⟨g7,0,none⟩ (.string q.acc)).setCell ⟨g7,1,none⟩ (.string q.cur)).setCell ⟨g7,2,none⟩ (.int .i64 q.no)).setCell ⟨g7,3,none⟩ (.int .i64 q.op)).setCell ⟨g7,4,none⟩ (.int .i64 q.cl)).setCell ⟨g7,5,none⟩ (u)).setCell ⟨g7,6,none⟩ (C)).setCell ⟨g7,7,none⟩ (.int .i64 q.dg)).setCell ⟨g7,8,none⟩ (.int .i64 q.part)) base ok x xs:=by
 refine Kd.R_mono (Kd.R_move (Kd.R_bound h) fun k hk=>?_) (fun k hk=>hk.1);obtain ⟨_,_,hlt,t,hq,cells,hc⟩:=hk;refine keep9 W g7 k q C u (fun e1=>?_);subst e1;rw [hb] at hc;injection hc with hc;injection hc with _ h2;exact ht t hq h2.symm
end Go.Proofs.YtmlcdpfcafmmcaaDoor.A
namespace Go.Proofs.YtmlcdpfcafmmcaaDoor.A
open Go.RowKit B WW WL WM
theorem zq40 {P:Prop} (h:P:=by (with_reducible repeat (first | apply Kd.R_alloc | apply Kd.R_drewN | apply Kd.R_drew));exact HO_3.out):P:=h
theorem zq46 {P:Prop} (h:P:=by repeat (first | (with_reducible first | exact HB.out | apply below_alloc | apply pw_below_drewN | apply below_drew1 | refine below_set ?_ GE368.out | refine below_set ?_ GE373.out) | exact HB.out)):P:=h
theorem zq47 {P:Prop} (h:P:=by (with_reducible repeat (first | refine blk_drewN ?_ _ | refine blk_drew ?_ | refine blk_alloc ?_ _));refine blk_far ?_ NB368_373.out _;(with_reducible repeat (first | refine blk_drewN ?_ _ | refine blk_drew ?_ | refine blk_alloc ?_ _));refine blk_far ?_ NB368_373.out _;(with_reducible repeat (first | refine blk_drewN ?_ _ | refine blk_drew ?_ | refine blk_alloc ?_ _));refine blk_far ?_ NB368_373.out _;(with_reducible repeat (first | refine blk_drewN ?_ _ | refine blk_drew ?_ | refine blk_alloc ?_ _));exact BK368.out):P:=h
theorem zq48 {P:Prop} (h:P:=by (with_reducible repeat (first | refine blk_drewN ?_ _ | refine blk_drew ?_ | refine blk_alloc ?_ _));refine blk_put (cs:=#[.int .i64 1,.string (⟨#[]⟩:ByteArray),.int .i64 0]) ?_ 2 _ rfl;(with_reducible repeat (first | refine blk_drewN ?_ _ | refine blk_drew ?_ | refine blk_alloc ?_ _));refine blk_put (cs:=#[.int .i64 1,.string (⟨#[]⟩:ByteArray),.int .i64 0]) ?_ 1 _ rfl;(with_reducible repeat (first | refine blk_drewN ?_ _ | refine blk_drew ?_ | refine blk_alloc ?_ _));refine blk_put (cs:=#[.int .i64 0,.string (⟨#[]⟩:ByteArray),.int .i64 0]) ?_ 0 _ rfl;(with_reducible repeat (first | refine blk_drewN ?_ _ | refine blk_drew ?_ | refine blk_alloc ?_ _));exact BK373.out):P:=h
theorem zq49 {P:Prop} (h:P:=by (with_reducible repeat (first | apply Kd.R_alloc | apply Kd.R_drewN | apply Kd.R_drew));exact HO_5.out):P:=h
theorem zq52 {P:Prop} (h:P:=by repeat (first | (with_reducible first | exact HB.out | apply below_alloc | apply pw_below_drewN | apply below_drew1 | refine below_set ?_ GE386.out) | exact HB.out)):P:=h
theorem zq59 {P:Prop} (h:P:=by rw [hb9];exact Nat.le_trans hbd (below_size HB.out)):P:=h
end Go.Proofs.YtmlcdpfcafmmcaaDoor.A
namespace Go.Proofs.YtmlcdpfcafmmcaaDoor.WW
open Go.RowKit
section
variable {α:Type} {R R':α→List Value→Prop} {e:TypeId} {size:Nat} {w w1:World} {base:Nat} {v:Value} {ps:List α}
theorem OwnRow.lit (W:World) (base:Nat) {inner:List Value} (hr:Reps R size ps inner) (hb:base≤W.heap.size) (hm:ps.length≤9223372036854775807) :
    OwnRow R e size (W.alloc (.cells inner.toArray e)) base (.slice (some ⟨W.heap.size,0,none⟩) ps.length ps.length) ps:=by
  have h:=World.ownsRow_lit (base:=base) (e:=e) (size:=size) W inner.toArray ps.length hb (by simpa [maxLen] using hm) (by simpa using hr.1);exact ⟨inner,by simpa using h,hr⟩
end
end Go.Proofs.YtmlcdpfcafmmcaaDoor.WW
namespace Go.Proofs.YtmlcdpfcafmmcaaDoor.A
open Go.RowKit B WW WL WM
attribute [local go_sem] max2_int min2_int max_two min_two max_three min_three max_four min_four
set_option maxHeartbeats 8000000
set_option maxRecDepth 100000
theorem lit0 (W:World) (b:Nat) (hb:b≤W.heap.size):Kd.R k44 44 (W.alloc (.cells #[] 44)) b (fun k=>k=W.heap.size) (.slice (some ⟨W.heap.size,0,none⟩) 0 0) [] :=
 ⟨fun k hk=>by simp [Value.ownBlock] at hk;exact hk.symm,OwnRow.lit (ps:=([]:List S44)) (inner:=[]) W b ⟨rfl,fun j p h=>by simp at h⟩ hb (by decide)⟩
theorem lit1 (W:World) (b:Nat) (hb:b≤W.heap.size) (x:S44):Kd.R k44 44 (W.alloc (.cells #[.int .i64 x.f0,.int .i64 x.f1,.string x.f2,.string x.f3] 44)) b (fun k=>k=W.heap.size) (.slice (some ⟨W.heap.size,0,none⟩) 1 1) [x] :=
 ⟨fun k hk=>by simp [Value.ownBlock] at hk;exact hk.symm,OwnRow.lit (ps:=[x]) (inner:=[.int .i64 x.f0,.int .i64 x.f1,.string x.f2,.string x.f3]) W b ⟨rfl,fun j p h=>by
  cases j with
  | zero=>obtain rfl:=Option.some.inj h;exact k44_mkM _ _ _ _
  | succ j=>simp at h⟩ hb (by simp)⟩
theorem rf47_divide.calls (k:Nat) (a0:ByteArray) (r:List ByteArray) (w:World) (h:rf47_divide.f k a0=some r) :
  Calls Tryd.prog 47 #[.string a0] w fun e w'=>∃ v0_:Value,e=.returned (v0_)∧Kd.R Kd.string 9 w' w.heap.size (fun _=>True) v0_ r∧Below w.heap.size w w':=by
 have HB:=sd (Below.refl w.heap.size w);have H:=h;clear h;unfold rf47_divide.f at H;have H':=sd H;clear H;go_enter Tryd.func47,Tryd.ntmps47
 go_wp2
 go_loopg [3,4,5] k (fun kq v3 v4 v5 w'=>∃ (x3_1:List ByteArray) (x4_1:Int) (x5_1:Int),v4=.int .i64 x4_1∧v5=.int .i64 x5_1∧Aside0 (rf47_divide.l0 kq a0 x3_1 x4_1 x5_1=some r)∧Aside0 (kq≤k)∧Aside0 (Kd.R Kd.string 9 w' w.heap.size (fun _=>True) v3 x3_1)∧Aside0 (Below w.heap.size w w'))
 case atStart=>exact ⟨(([]:List ByteArray)),(0),(0),zq1,zq1,H',⟨Nat.le_refl _⟩,⟨zq39⟩,⟨zq7⟩⟩
 case round =>
  clear H';obtain ⟨x3_1,x4_1,x5_1,rfl,rfl,HA,HK1,HO_3,HB⟩:=hrel
  cases gk with
  | zero=>exact absurd HA.out (by simp [rf47_divide.l0])
  | succ k1 =>
   have H:=HA.out;clear HA;simp only [rf47_divide.l0] at H
   replace H:=ifI H;rcases H with ⟨c2,H⟩ | ⟨c2,H⟩
   ·have c2b0:decide (x5_1 < (a0.size:Int))=true:=decide_eq_true c2;clear c2;replace H:=ifI H;rcases H with ⟨c3,H⟩ | ⟨c3,H⟩
    ·have c3b0:decide (0≤x5_1)=true:=decide_eq_true c3;clear c3;replace H:=ifI H;rcases H with ⟨c5,H⟩ | ⟨c5,H⟩
     ·obtain ⟨c5b0,c5b1⟩:=eqI c5;clear c5;replace H:=ifI H;rcases H with ⟨c6,H⟩ | ⟨c6,H⟩
      ·have c6b0:=eq_true c6;have c6b1:decide (0≤x4_1)=true:=decide_eq_true c6;clear c6;replace H:=ifI H;rcases H with ⟨c7,H⟩ | ⟨c7,H⟩
       ·have c7b0:=eq_true c7;have c7b1:decide (x4_1≤x5_1)=true:=decide_eq_true c7;clear c7;replace H:=ifI H;rcases H with ⟨c8,H⟩ | ⟨c8,H⟩
        ·have c8b0:=eq_true c8;have c8b1:decide (x5_1≤(a0.size:Int))=true:=decide_eq_true c8;clear c8;replace H:=ifI H;rcases H with ⟨c9,H⟩ | ⟨c9,H⟩
         ·have LMc9:=sd c9;clear c9;obtain ⟨y336,hy336⟩:∃ y_:List ByteArray,y_=(x3_1++[a0.extract (x4_1:Int).toNat (x5_1:Int).toNat]):=⟨_,rfl⟩
          replace H:(rf47_divide.l0 k1 a0 y336 (wrap64 (x5_1+1)) (wrap64 (x5_1+1)))=some r:=by first | (rw [hy336];with_reducible exact H) | (have H2_:=(Option.bind_some _ _).symm.trans H;rw [hy336];with_reducible exact H2_) | (have H2_:=(Option.bind_some _ _).symm.trans H;with_reducible exact H2_) | with_reducible exact H | (rw [hy336];exact H) | exact H
          have Ny336:=sd hy336;clear hy336;have H':=sd H;clear H;have p4:0≤(x5_1:Int):=od;have q4:x5_1 < (a0.size:Int):=od;have hx4:=bt_at a0 x5_1;replace p4:=eq_true p4;replace q4:=eq_true q4;go_wp2_with (first | ((with_reducible refine gate_builtin (b:=.append) (xs:=#[.tmp 16,.tmp 21]) rfl ?_);at_builtin;refine Kd.R_append Kd.string (w0:=w) w.heap.size rfl (.tmp 16) (.tmp 21) 64 9 (.string ⟨#[]⟩) 16 rfl Tryd.underlying64 info9 rfl (by decide) (by omega) u3 x3_1 (a0.extract (x4_1:Int).toNat (x5_1:Int).toNat) [.string (a0.extract (x4_1:Int).toNat (x5_1:Int).toNat)] (fun _=>True) (fun _=>False) rfl rfl ?aP (fun _ hk=>hk.elim) ?aF ?aO ?aB ?aS ?aL ?_;(case aP=>exact rfl);(case aB=>exact zq7);(case aF=>exact (fun _ _=>trivial));(case aO=>exact zq40);(case aS=>exact (below_size zq7));(case aL=>have:=LMc9.out;omega);intro v337 w10 ho hb hg hat;rw [← Ny336.out] at ho;have HO338:=sd (ho);replace HB:=sd (hb);clear HO_3;clear ho hb hg hat))
          go_roundg k1
          case measure=>have:=HK1.out;omega
          case rel=>exact ⟨(y336),(wrap64 (x5_1+1)),(wrap64 (x5_1+1)),zq1,zq1,H',⟨by have:=HK1.out;omega⟩,⟨by (with_reducible repeat (first | apply Kd.R_alloc | apply Kd.R_drewN | apply Kd.R_drew));exact HO338.out⟩,⟨zq7⟩⟩
         exact absurd H (by simp)
        exact absurd H (by simp)
       exact absurd H (by simp)
      exact absurd H (by simp)
     obtain ⟨c5b0,c5b1⟩:=neI c5;have H':=sd H;clear H;have p4:0≤(x5_1:Int):=od;have q4:x5_1 < (a0.size:Int):=od;have hx4:=bt_at a0 x5_1;replace p4:=eq_true p4;replace q4:=eq_true q4;go_wp2
     go_roundg k1
     case measure=>have:=HK1.out;omega
     case rel=>exact ⟨(x3_1),(x4_1),(wrap64 (x5_1+1)),zq1,zq1,H',⟨by have:=HK1.out;omega⟩,⟨zq40⟩,⟨zq7⟩⟩
    exact absurd H (by simp)
   have c2b0:decide (x5_1 < (a0.size:Int))=false:=decide_eq_false c2;clear c2;replace H:=ifI H;rcases H with ⟨c11,H⟩ | ⟨c11,H⟩
   ·have c11b0:decide (x4_1 < (a0.size:Int))=true:=decide_eq_true c11;clear c11;replace H:=ifI H;rcases H with ⟨c12,H⟩ | ⟨c12,H⟩
    ·have c12b0:=eq_true c12;have c12b1:decide (0≤x4_1)=true:=decide_eq_true c12;clear c12;replace H:=ifI H;rcases H with ⟨c13,H⟩ | ⟨c13,H⟩
     ·have c13b0:=eq_true c13;have c13b1:decide (x4_1≤(a0.size:Int))=true:=decide_eq_true c13;clear c13;replace H:=ifI H;rcases H with ⟨c14,H⟩ | ⟨c14,H⟩
      ·have LMc14:=sd c14;clear c14;obtain ⟨y339,hy339⟩:∃ y_:List ByteArray,y_=(x3_1++[a0.extract (x4_1:Int).toNat a0.size]):=⟨_,rfl⟩
       replace H:(some y339)=some r:=by first | (rw [hy339];with_reducible exact H) | (have H2_:=(Option.bind_some _ _).symm.trans H;rw [hy339];with_reducible exact H2_) | (have H2_:=(Option.bind_some _ _).symm.trans H;with_reducible exact H2_) | with_reducible exact H | (rw [hy339];exact H) | exact H
       have Ny339:=sd hy339;clear hy339;obtain rfl:=Option.some.inj H;go_wp2_with (first | ((with_reducible refine gate_builtin (b:=.append) (xs:=#[.tmp 29,.tmp 33]) rfl ?_);at_builtin;refine Kd.R_append Kd.string (w0:=w) w.heap.size rfl (.tmp 29) (.tmp 33) 64 9 (.string ⟨#[]⟩) 16 rfl Tryd.underlying64 info9 rfl (by decide) (by omega) u3 x3_1 (a0.extract (x4_1:Int).toNat a0.size) [.string (a0.extract (x4_1:Int).toNat a0.size)] (fun _=>True) (fun _=>False) rfl rfl ?aP (fun _ hk=>hk.elim) ?aF ?aO ?aB ?aS ?aL ?_;(case aP=>exact rfl);(case aB=>exact zq7);(case aF=>exact (fun _ _=>trivial));(case aO=>exact zq40);(case aS=>exact (below_size zq7));(case aL=>have:=LMc14.out;omega);intro v340 w15 ho hb hg hat;rw [← Ny339.out] at ho;have HO341:=sd (ho);replace HB:=sd (hb);clear HO_3;clear ho hb hg hat))
       go_ret
       exact ⟨_,zq10,by (with_reducible repeat (first | apply Kd.R_alloc | apply Kd.R_drewN | apply Kd.R_drew));exact HO341.out,zq7⟩
      exact absurd H (by simp)
     exact absurd H (by simp)
    exact absurd H (by simp)
   have c11b0:decide (x4_1 < (a0.size:Int))=false:=decide_eq_false c11;clear c11;obtain rfl:=Option.some.inj H;go_wp2
   go_ret
   exact ⟨_,zq10,zq40,zq7⟩
end Go.Proofs.YtmlcdpfcafmmcaaDoor.A
namespace Go.Proofs.YtmlcdpfcafmmcaaDoor.WW
open Go.RowKit
namespace Kd
theorem reps_append {α:Type} {R:α→List Value→Prop} {size:Nat} {ps qs:List α} {cs ds:List Value} (h:Reps R size ps cs) (h':Reps R size qs ds):Reps R size (ps++qs) (cs++ds):=by
  refine ⟨by rw [List.length_append,List.length_append,h.1,h'.1,Nat.add_mul],fun j p hj=>?_⟩;rcases Nat.lt_or_ge j ps.length with hlt | hge
  · rw [List.getElem?_append_left hlt] at hj
    have hle:j * size+size≤cs.length:=by rw [h.1,← Nat.succ_mul];exact Nat.mul_le_mul_right _ hlt
    rw [List.drop_append_of_le_length (by omega),List.take_append_of_le_length (by rw [List.length_drop];omega)];exact h.2 j p hj
  · rw [List.getElem?_append_right hge] at hj
    have h2:=h'.2 (j - ps.length) p hj;have hle:ps.length * size≤j * size:=Nat.mul_le_mul_right _ hge;rw [List.drop_append,List.drop_eq_nil_of_le (by rw [h.1];exact hle),List.nil_append,h.1,← Nat.sub_mul];exact h2
end Kd
end Go.Proofs.YtmlcdpfcafmmcaaDoor.WW
namespace Go.Proofs.YtmlcdpfcafmmcaaDoor.WW
open Go.RowKit
theorem ReadsRow.inner_ {α:Type} {R:α→List Value→Prop} {size:Nat} {w:World} {ad:Addr} {n:Nat} {ps:List α} (h:ReadsRow R size w (some ad) n ps) :
    ∃ inner,Reps R size ps inner∧∀ j u,inner[j]?=some u→w.cell? (ad.add j)=some u:=by
  have key:∀ m,m≤ps.length→∃ inner,Reps R size (ps.take m) inner∧∀ j u,inner[j]?=some u→w.cell? (ad.add j)=some u:=by
    intro m;induction m with
    | zero=>exact fun _=>⟨[],Reps.none _ _,fun j u hu=>by simp at hu⟩
    | succ m ih =>
      intro hm;obtain ⟨inner,hr,hc⟩:=ih (by omega);obtain ⟨ad',he,hcell⟩:=h.2.2 (by have:=h.1;omega);injection he with he
      subst he;obtain ⟨c,hcl,hp,hcc⟩:=hcell m _ (List.getElem?_eq_getElem (show m < ps.length by omega));refine ⟨inner++c,?_,fun j u hu=>?_⟩
      · rw [List.take_succ_eq_append_getElem (show m < ps.length by omega)]
        exact hr.snoc hp hcl
      · have hil:inner.length=m * size:=by rw [hr.1,List.length_take,Nat.min_eq_left (by omega)]
        rcases Nat.lt_or_ge j inner.length with hj | hj
        · rw [List.getElem?_append_left hj] at hu
          exact hc j u hu
        · rw [List.getElem?_append_right hj] at hu
          have:=hcc (j - inner.length) u hu;rwa [hil,Nat.add_sub_cancel' (by omega)] at this
  obtain ⟨inner,hr,hc⟩:=key ps.length (Nat.le_refl _);rw [List.take_length] at hr;exact ⟨inner,hr,hc⟩
end Go.Proofs.YtmlcdpfcafmmcaaDoor.WW
namespace Go.Proofs.YtmlcdpfcafmmcaaDoor.WW
open Go.RowKit
section
variable {P:Program} {ops:Array Oper} {o:Oper} {a:Act} {Q:Exit→Act→World→Prop} {Kc:Act→World→Prop}
namespace Kd
variable {α:Type}
theorem R_append_rows_step (d:Kd α) {Rr:α→List Value→Prop} {w0 W:World} (base:Nat) (hw:Region.wanted o (yielded ops a.tmps)=true) (s x:Operand) (t e:TypeId) (z:Value) (bytes:Nat)
    (ho:o.op=.call { callee:=.builtin .append,args:=#[s,x],argTypes:=#[t,t] })
    (ht:P.underlying t=some (.slice e)) (hinfo:(P.info? e).map (fun i=>(i.zero,i.size,i.bytes))=some (some z,d.sz,bytes)) (hz:z.cells.size=d.sz) (hs0:0 < d.sz) (hb0:0 < bytes)
    (v:Value) (xs ys:List α) (A:Option Addr) (m c:Nat) (ok okp:Nat→Prop) (hs:a.eval s=v) (hx:a.eval x=.slice A m c)
    (HO:d.R e W base ok v xs) (HR:ReadsRow Rr d.sz W A m ys) (hKM:∀ x cs,Rr x cs→d.M W base okp x cs) (hokp:∀ k,okp k→ok k∧some k≠v.ownBlock) (hfresh:∀ k,W.heap.size≤k→ok k)
    (HB:Below base w0 W) (hbase:base≤W.heap.size) (hl:(xs.length+m) * bytes≤140737488355328)
    (h:∀ v1 w1,d.R e w1 base ok v1 (xs++ys)→Below base w0 w1→W.grownBy w1 v.ownBlock→(v1.ownBlock=v.ownBlock∨∃ b,v1.ownBlock=some b∧W.heap.size≤b)→Kc (a.put o.dst v1) w1) :
    if Region.wanted o (yielded ops a.tmps)=true then Oper.wp P o a W Kc Q else Kc (a.put o.dst undef) W:=by
  obtain ⟨i0,hi,hzz⟩:=Option.map_eq_some_iff.1 hinfo;simp only [Prod.mk.injEq] at hzz
  obtain ⟨hz0,hz1,hz2⟩:=hzz;have hm:ys.length=m:=HR.1;have hlen:xs.length+m≤140737488355328:=Nat.le_trans (Nat.le_mul_of_pos_right _ hb0) hl;obtain ⟨hok,inner,hown,hr⟩:=HO
  have hrun:∃ v1 w1,(Builtin.append_ #[t,t] o.type #[v,.slice A m c]).run P W=.ok v1 w1∧d.R e w1 base ok v1 (xs++ys)∧W.grownBy w1 v.ownBlock∧(v1.ownBlock=v.ownBlock∨∃ b,v1.ownBlock=some b∧W.heap.size≤b):=by
    rcases A with _ | ad
    · have h0:m=0:=by
        rcases Nat.eq_zero_or_pos m with h0 | h0
        · exact h0
        · obtain ⟨ad,h,_⟩:=HR.2.2 h0
          cases h
      subst h0;obtain rfl:ys=[]:=List.eq_nil_of_length_eq_zero hm;refine ⟨v,W,?_,by rw [List.append_nil];exact ⟨hok,inner,hown,hr⟩,World.grownBy.refl W _,.inl rfl⟩;rcases hown.2 with ⟨rfl,hn⟩ | ⟨g,cap,cur,rfl,_,_,hnc,_⟩
      · simp [Builtin.append_,run_underlying ht,sizeOf,typeInfo,hi,Builtin.lenOf,Builtin.firstCells]
      · simp [Builtin.append_,run_underlying ht,sizeOf,typeInfo,hi,Builtin.lenOf,Builtin.firstCells,hnc,storeCells]
    · obtain ⟨news,hnr,hnc⟩:=ReadsRow.inner_ HR
      have hnM:Reps (d.M W base okp) d.sz ys news:=hnr.imp_ (fun p c hp=>hKM p c hp)
      have hone:∀ u∈news,u.oneCell'=true:=by
        intro u hu;obtain ⟨q,hq,rfl⟩:=List.mem_iff_getElem.1 hu
        have hql:q / d.sz < ys.length:=by
          rw [Nat.div_lt_iff_lt_mul hs0];rw [← hnM.1];exact hq
        have hc:=hnM.2 (q / d.sz) _ (List.getElem?_eq_getElem hql);refine d.K_one (d.K_of_M hc) _ ?_;rw [List.mem_iff_getElem?];refine ⟨q % d.sz,?_⟩;rw [List.getElem?_take,if_pos (Nat.mod_lt _ hs0),List.getElem?_drop,Nat.mul_comm,Nat.div_add_mod,List.getElem?_eq_getElem hq]
      obtain ⟨v1,w1,hrun,h2,hg,_,hat⟩:=run_append_own_at (P:=P) W base t o.type e i0 z d.sz bytes ht hi hz0 hz1 hz2 hz hs0 v xs.length inner hown ad m c news (by rw [hnM.1,hm]) hnc hone (by simp only [maxLen];omega) hl hbase
      have hat':v1.ownBlock=v.ownBlock∨∃ b,v1.ownBlock=some b∧W.heap.size≤b:=by
        rcases hat with hat | hat
        · exact .inl hat
        · exact .inr ⟨_,hat,Nat.le_refl _⟩
      have hne:∀ k,some k≠v.ownBlock→k < W.heap.size→some k≠v1.ownBlock:=by
        intro k hk hlt;rcases hat' with hat | ⟨b,hb,hle⟩
        · rw [hat];exact hk
        · rw [hb]
          intro he;injection he with he
          omega
      have step:∀ {q:α} {c:List Value} {o:Nat→Prop},d.M W base o q c→(∀ k,o k→ok k∧some k≠v.ownBlock)→d.M w1 base (fun k=>ok k∧some k≠v1.ownBlock) q c:=by
        intro q c o hq ho;have h1:=d.M_move (w1:=w1) (fun k hk=>hg.block k hk.2.2.1 (ho k hk.1).2) (d.M_bound hq);exact d.M_mono (fun k hk=>⟨(ho k hk.1).1,hne k (ho k hk.1).2 hk.2.2.1⟩) h1
      refine ⟨v1,w1,hrun,⟨fun k hk=>?_,inner++news,by rw [List.length_append,hm];exact h2,reps_append (hr.imp_ (fun _ _ hq=>step hq (fun _ hk=>hk))) (hnM.imp_ (fun _ _ hq=>step hq hokp))⟩,hg,hat'⟩;rcases hat' with hat | ⟨b,hb,hle⟩
      · exact hok k (hat ▸ hk)
      · rw [hb] at hk
        injection hk with hk
        exact hfresh k (by omega)
  obtain ⟨v1,w1,hr1,h1,hg,hat⟩:=hrun;rw [if_pos hw];unfold Oper.wp execOp;simp only [ho,resolve,invoke,builtin,Sem.run_bind,Sem.run_pure,Result.andThen_ok,List.map_toArray,List.map_cons,List.map_nil,hs,hx,hr1]
  exact h v1 w1 h1 (HB.grown hg hbase (own_base hown)) hg hat
end Kd
end
end Go.Proofs.YtmlcdpfcafmmcaaDoor.WW
