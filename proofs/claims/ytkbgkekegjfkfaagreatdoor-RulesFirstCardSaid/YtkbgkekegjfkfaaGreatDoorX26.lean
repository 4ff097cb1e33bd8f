-- By pack.py, a program of this session's.
import Derived.Test.YtkbgkekegjfkfaaGreatDoorX23
import Derived.Test.YtkbgkekegjfkfaaGreatDoorX24
set_option linter.unusedVariables false
set_option linter.unusedSimpArgs false
namespace Go.Proofs.YtkbgkekegjfkfaaGreatDoor.A
open Go.RowKit B WW WL WM
theorem zq50 {P:Prop} (h:P:=by repeat (first | (with_reducible first | exact HB.out | apply below_alloc | apply pw_below_drewN | apply below_drew1 | refine below_set ?_ GE277.out) | exact HB.out)):P:=h
theorem zq96 {P:Prop} (h:P:=by (with_reducible repeat (first | refine blk_drewN ?_ _ | refine blk_drew ?_ | refine blk_alloc ?_ _));exact BK280.out):P:=h
theorem zq97 {P:Prop} (h:P:=by repeat (first | (with_reducible first | exact HB.out | apply below_alloc | apply pw_below_drewN | apply below_drew1 | refine below_set ?_ GE280.out) | exact HB.out)):P:=h
theorem zq98 {P:Prop} (h:P:=by repeat (first | (with_reducible first | exact HB.out | exact Below.refl _ _ | apply below_alloc | apply pw_below_drewN | apply below_drew1 | refine below_set ?_ GE280.out) | exact HB.out)):P:=h
theorem zq99 {P:Prop} (h:P:=by have:=HJ2.out;have:=HK2.out;first | omega | exact Nat.le_refl _):P:=h
theorem zq100 {P:Prop} (h:P:=by repeat (first | exact (Kd.C_below HR285_1.out HB.out) | (with_reducible refine Kd.C_alloc ?_ _) | (with_reducible refine Kd.C_drewN ?_ _) | (with_reducible refine Kd.C_drew ?_))):P:=h
theorem zq101 {P:Prop} (h:P:=by repeat (first | exact (Kd.C_below HR285_4.out HB.out) | (with_reducible refine Kd.C_alloc ?_ _) | (with_reducible refine Kd.C_drewN ?_ _) | (with_reducible refine Kd.C_drew ?_))):P:=h
end Go.Proofs.YtkbgkekegjfkfaaGreatDoor.A
namespace Go.Proofs.YtkbgkekegjfkfaaGreatDoor.A
open Go.RowKit B WW WL WM
attribute [local go_sem] max2_int min2_int max_two min_two max_three min_three max_four min_four
set_option maxHeartbeats 8000000
set_option maxRecDepth 100000
def rf48_First.l0:Nat→List (S25)→Int→Int→Int→ByteArray→ByteArray→Option (Int)
 | 0,_,_,_,_,_,_=>none
 | k+1,x0,x5,x278000,x278001,x278002,x278003=>if x5 < (x0.length:Int) then (if 0≤x5 then ((rf48_Holds.f k ((rd_T25 x0 x5).f0) ((rd_T25 x0 x5).f1) ((rd_T25 x0 x5).f2) ((rd_T25 x0 x5).f3) ((rd_T25 x0 x5).f4) x278000 x278001 x278002 x278003).bind fun t279=>(if t279=true then (some x5) else (rf48_First.l0 k x0 (wrap64 (x5+1)) x278000 x278001 x278002 x278003))) else (none)) else (some (-1))
def rf48_First.f (k:Nat) (l0:List (S25)) (a1_0:Int) (a1_1:Int) (a1_2:ByteArray) (a1_3:ByteArray):Option (Int):=rf48_First.l0 k l0 0 a1_0 a1_1 a1_2 a1_3
theorem rf48_First.calls (k:Nat) (A0:Option Addr) (c0:Nat) (l0:List (S25)) (a1_0 a1_1:Int) (a1_2 a1_3:ByteArray) (r:Int) (w:World) (hr0:Kd.C k25 w A0 l0.length l0) (hc0:l0.length≤c0) (h:rf48_First.f k l0 a1_0 a1_1 a1_2 a1_3=some r) :
  Calls Tryz.prog 15 #[.slice A0 l0.length c0,.agg #[.int .i64 a1_0,.int .i64 a1_1,.string a1_2,.string a1_3]] w fun e w'=>e=.returned (.int .i64 r)∧Below w.heap.size w w':=by
 have hu32:=Tryz.underlying32;have hu25:=Tryz.underlying25;have HR0:=sd hr0;have HC0:=sd hc0;clear hr0 hc0;have HB:=sd (Below.refl w.heap.size w);have H:=h;clear h;unfold rf48_First.f at H;have H':=sd H;clear H;go_enter Tryz.func15,Tryz.ntmps15
 go_wp2_with (first | ((with_reducible refine gate_dst (N:=3) rfl ?_);refine bxA 3 #[.int .i64 a1_0,.int .i64 a1_1,.string a1_2,.string a1_3] 32 ?_;intro gb277 hg w3 hbox hb;have BK277:=sd (hbox);have GW277:=gem hg HB;have GE277:=GW277;replace HB:=hbm HB hb;clear hb hbox hg))
 go_loopg [5] k (fun kq v5 w'=>∃ (x5_1:Int),v5=.int .i64 x5_1∧Aside0 (rf48_First.l0 kq l0 x5_1 a1_0 a1_1 a1_2 a1_3=some r)∧Aside0 (kq≤k)∧Aside0 (w'.heap[gb277]?=some (.cells #[.int .i64 a1_0,.int .i64 a1_1,.string a1_2,.string a1_3] 32 (0,0)))∧Aside0 (Below w.heap.size w w'))
 case atStart=>exact ⟨(0),zq7,H',⟨Nat.le_refl _⟩,⟨by (with_reducible repeat (first | refine blk_drewN ?_ _ | refine blk_drew ?_ | refine blk_alloc ?_ _));exact BK277.out⟩,⟨zq50⟩⟩
 case round =>
  clear H';try clear c1
  try clear p2
  obtain ⟨x5_1,rfl,HA,HK1,BK277,HB⟩:=hrel
  cases gk with
  | zero=>exact absurd HA.out (by simp [rf48_First.l0])
  | succ k1 =>
   have H:=HA.out;clear HA;simp only [rf48_First.l0] at H
   replace H:=ifI H;rcases H with ⟨c4,H⟩ | ⟨c4,H⟩
   ·have c4b0:decide (x5_1 < (l0.length:Int))=true:=decide_eq_true c4;clear c4;replace H:=ifI H;rcases H with ⟨c5,H⟩ | ⟨c5,H⟩
    ·have c5b0:decide (0≤x5_1)=true:=decide_eq_true c5;clear c5;replace H:=bdI H;obtain ⟨t279,A6,H⟩:=H;(try dsimp only at H)
     by_cases c7:t279=true
     ·subst c7;rw [if_pos rfl] at H;obtain rfl:=Option.some.inj H;try go_wp2
      replace BK277:=sd (blk_drew BK277.out);replace HB:=sd (below_drew1 HB.out);have p278:0≤(x5_1:Int):=od;have q278:x5_1 < (l0.length:Int):=od;obtain ⟨ad278,A278_1,c278_1,A278_4,c278_4,e278,hx278_0,hx278_1,hx278_2,hx278_3,hx278_4,hl278_1,hi278_1,hl278_4,hi278_4⟩:=at_T25 HR0.out x5_1 p278 q278;have hw278_4:=hx278_4;have hw278_3:=hx278_3;have hw278_2:=hx278_2;have hw278_1:=hx278_1;have hw278_0:=hx278_0
      cases e278
      replace hx278_0:=(HB.out.cell (World.block_lt_of_cell? w _ hx278_0)).trans hx278_0;replace hx278_1:=(HB.out.cell (World.block_lt_of_cell? w _ hx278_1)).trans hx278_1;replace hx278_2:=(HB.out.cell (World.block_lt_of_cell? w _ hx278_2)).trans hx278_2;replace hx278_3:=(HB.out.cell (World.block_lt_of_cell? w _ hx278_3)).trans hx278_3;replace hx278_4:=(HB.out.cell (World.block_lt_of_cell? w _ hx278_4)).trans hx278_4;have HR278_1:=sd hi278_1;have HC278_1:=sd hl278_1;clear hi278_1 hl278_1;have HR278_4:=sd hi278_4;have HC278_4:=sd hl278_4;clear hi278_4 hl278_4;replace p278:=eq_true p278;replace q278:=eq_true q278;refine start_ (n:=6) (S:=fun w'=>w'.cell? ⟨gb277,0,none⟩=some (.int .i64 a1_0)∧w'.cell? ⟨gb277,1,none⟩=some (.int .i64 a1_1)∧w'.cell? ⟨gb277,2,none⟩=some (.string a1_2)∧w'.cell? ⟨gb277,3,none⟩=some (.string a1_3)∧w'.cell? (ad278.add ((x5_1).toNat * 5))=some (.string ((rd_T25 l0 x5_1).f0))∧w'.cell? ⟨(ad278.add ((x5_1).toNat * 5)).block,(ad278.add ((x5_1).toNat * 5)).off+1,none⟩=some (.slice A278_1 ((rd_T25 l0 x5_1).f1).length c278_1)∧w'.cell? ⟨(ad278.add ((x5_1).toNat * 5)).block,(ad278.add ((x5_1).toNat * 5)).off+2,none⟩=some (.string ((rd_T25 l0 x5_1).f2))∧w'.cell? ⟨(ad278.add ((x5_1).toNat * 5)).block,(ad278.add ((x5_1).toNat * 5)).off+3,none⟩=some (.string ((rd_T25 l0 x5_1).f3))∧w'.cell? ⟨(ad278.add ((x5_1).toNat * 5)).block,(ad278.add ((x5_1).toNat * 5)).off+4,none⟩=some (.slice A278_4 ((rd_T25 l0 x5_1).f4).length c278_4)) (ds:=[]) #[false,false,false,false,false,false] (by kernel_rfl) rfl rfl ⟨(blk_cell BK277.out 0).trans rfl,(blk_cell BK277.out 1).trans rfl,(blk_cell BK277.out 2).trans rfl,(blk_cell BK277.out 3).trans rfl,((HB.out.cell (World.block_lt_of_cell? w _ hw278_0)).trans hw278_0),((HB.out.cell (World.block_lt_of_cell? w _ hw278_1)).trans hw278_1),((HB.out.cell (World.block_lt_of_cell? w _ hw278_2)).trans hw278_2),((HB.out.cell (World.block_lt_of_cell? w _ hw278_3)).trans hw278_3),((HB.out.cell (World.block_lt_of_cell? w _ hw278_4)).trans hw278_4)⟩ (fun hHeld=>?_);generalize wr.drew=w8 at BK277 HB HR278_1 HR278_4 hx278_0 hx278_1 hx278_2 hx278_3 hx278_4 hHeld ⊢;refine pB 0 12 ?_;refine pB 1 13 ?_;refine pB 2 14 ?_;refine tB 3 15 hHeld ?_;refine tB 4 16 hHeld ?_;refine one_ (i:=5) (N:=some 17) #[true,true,true,true,true,true] rfl rfl (by kernel_rfl) (by decide) (fun K hK=>?_);refine goes_ Tryz.func13 (by kernel_rfl) rfl #[.agg #[.string ((rd_T25 l0 x5_1).f0),.slice A278_1 ((rd_T25 l0 x5_1).f1).length c278_1,.string ((rd_T25 l0 x5_1).f2),.string ((rd_T25 l0 x5_1).f3),.slice A278_4 ((rd_T25 l0 x5_1).f4).length c278_4],.agg #[.int .i64 a1_0,.int .i64 a1_1,.string a1_2,.string a1_3]] (by rfl) rfl rfl zq34 ?_;with_reducible refine (rf48_Holds.calls k1 ((rd_T25 l0 x5_1).f0) _ _ ((rd_T25 l0 x5_1).f1) ((rd_T25 l0 x5_1).f2) ((rd_T25 l0 x5_1).f3) _ _ ((rd_T25 l0 x5_1).f4) a1_0 a1_1 a1_2 a1_3 true _ ?side1 ?side2 ?side3 ?side4 A6.out).mono ?_
      (case side1=>exact (by repeat (first | exact (Kd.C_below HR278_1.out HB.out) | (with_reducible refine Kd.C_alloc ?_ _) | (with_reducible refine Kd.C_drewN ?_ _) | (with_reducible refine Kd.C_drew ?_))))
      (case side2=>exact HC278_1.out)
      (case side3=>exact (by repeat (first | exact (Kd.C_below HR278_4.out HB.out) | (with_reducible refine Kd.C_alloc ?_ _) | (with_reducible refine Kd.C_drewN ?_ _) | (with_reducible refine Kd.C_drew ?_))))
      (case side4=>exact HC278_4.out)
      rintro e w9 ⟨rfl,hb⟩;refine ⟨_,rfl,?_⟩;replace BK277:=bkm BK277 hb;replace HB:=hbm HB hb;clear hb;refine hK.out _ _ ⟨(blk_cell BK277.out 0).trans rfl,(blk_cell BK277.out 1).trans rfl,(blk_cell BK277.out 2).trans rfl,(blk_cell BK277.out 3).trans rfl,((HB.out.cell (World.block_lt_of_cell? w _ hw278_0)).trans hw278_0),((HB.out.cell (World.block_lt_of_cell? w _ hw278_1)).trans hw278_1),((HB.out.cell (World.block_lt_of_cell? w _ hw278_2)).trans hw278_2),((HB.out.cell (World.block_lt_of_cell? w _ hw278_3)).trans hw278_3),((HB.out.cell (World.block_lt_of_cell? w _ hw278_4)).trans hw278_4)⟩ (fun hHeld=>?_);clear hK K;refine nA 17 ?_;refine done_ (by kernel_rfl) ?_;try go_wp2
      go_ret
      exact ⟨zq4,zq50⟩
     replace c7:=Bool.eq_false_iff.mpr c7;subst c7;rw [if_neg Bool.false_ne_true] at H;have H':=sd H;clear H;try go_wp2
     replace BK277:=sd (blk_drew BK277.out);replace HB:=sd (below_drew1 HB.out);have p278:0≤(x5_1:Int):=od;have q278:x5_1 < (l0.length:Int):=od;obtain ⟨ad278,A278_1,c278_1,A278_4,c278_4,e278,hx278_0,hx278_1,hx278_2,hx278_3,hx278_4,hl278_1,hi278_1,hl278_4,hi278_4⟩:=at_T25 HR0.out x5_1 p278 q278;have hw278_4:=hx278_4;have hw278_3:=hx278_3;have hw278_2:=hx278_2;have hw278_1:=hx278_1;have hw278_0:=hx278_0
     cases e278
     replace hx278_0:=(HB.out.cell (World.block_lt_of_cell? w _ hx278_0)).trans hx278_0;replace hx278_1:=(HB.out.cell (World.block_lt_of_cell? w _ hx278_1)).trans hx278_1;replace hx278_2:=(HB.out.cell (World.block_lt_of_cell? w _ hx278_2)).trans hx278_2;replace hx278_3:=(HB.out.cell (World.block_lt_of_cell? w _ hx278_3)).trans hx278_3;replace hx278_4:=(HB.out.cell (World.block_lt_of_cell? w _ hx278_4)).trans hx278_4;have HR278_1:=sd hi278_1;have HC278_1:=sd hl278_1;clear hi278_1 hl278_1;have HR278_4:=sd hi278_4;have HC278_4:=sd hl278_4;clear hi278_4 hl278_4;replace p278:=eq_true p278;replace q278:=eq_true q278;refine start_ (n:=6) (S:=fun w'=>w'.cell? ⟨gb277,0,none⟩=some (.int .i64 a1_0)∧w'.cell? ⟨gb277,1,none⟩=some (.int .i64 a1_1)∧w'.cell? ⟨gb277,2,none⟩=some (.string a1_2)∧w'.cell? ⟨gb277,3,none⟩=some (.string a1_3)∧w'.cell? (ad278.add ((x5_1).toNat * 5))=some (.string ((rd_T25 l0 x5_1).f0))∧w'.cell? ⟨(ad278.add ((x5_1).toNat * 5)).block,(ad278.add ((x5_1).toNat * 5)).off+1,none⟩=some (.slice A278_1 ((rd_T25 l0 x5_1).f1).length c278_1)∧w'.cell? ⟨(ad278.add ((x5_1).toNat * 5)).block,(ad278.add ((x5_1).toNat * 5)).off+2,none⟩=some (.string ((rd_T25 l0 x5_1).f2))∧w'.cell? ⟨(ad278.add ((x5_1).toNat * 5)).block,(ad278.add ((x5_1).toNat * 5)).off+3,none⟩=some (.string ((rd_T25 l0 x5_1).f3))∧w'.cell? ⟨(ad278.add ((x5_1).toNat * 5)).block,(ad278.add ((x5_1).toNat * 5)).off+4,none⟩=some (.slice A278_4 ((rd_T25 l0 x5_1).f4).length c278_4)) (ds:=[]) #[false,false,false,false,false,false] (by kernel_rfl) rfl rfl ⟨(blk_cell BK277.out 0).trans rfl,(blk_cell BK277.out 1).trans rfl,(blk_cell BK277.out 2).trans rfl,(blk_cell BK277.out 3).trans rfl,((HB.out.cell (World.block_lt_of_cell? w _ hw278_0)).trans hw278_0),((HB.out.cell (World.block_lt_of_cell? w _ hw278_1)).trans hw278_1),((HB.out.cell (World.block_lt_of_cell? w _ hw278_2)).trans hw278_2),((HB.out.cell (World.block_lt_of_cell? w _ hw278_3)).trans hw278_3),((HB.out.cell (World.block_lt_of_cell? w _ hw278_4)).trans hw278_4)⟩ (fun hHeld=>?_);generalize wr.drew=w10 at BK277 HB HR278_1 HR278_4 hx278_0 hx278_1 hx278_2 hx278_3 hx278_4 hHeld ⊢;refine pB 0 12 ?_;refine pB 1 13 ?_;refine pB 2 14 ?_;refine tB 3 15 hHeld ?_;refine tB 4 16 hHeld ?_;refine one_ (i:=5) (N:=some 17) #[true,true,true,true,true,true] rfl rfl (by kernel_rfl) (by decide) (fun K hK=>?_);refine goes_ Tryz.func13 (by kernel_rfl) rfl #[.agg #[.string ((rd_T25 l0 x5_1).f0),.slice A278_1 ((rd_T25 l0 x5_1).f1).length c278_1,.string ((rd_T25 l0 x5_1).f2),.string ((rd_T25 l0 x5_1).f3),.slice A278_4 ((rd_T25 l0 x5_1).f4).length c278_4],.agg #[.int .i64 a1_0,.int .i64 a1_1,.string a1_2,.string a1_3]] (by rfl) rfl rfl zq34 ?_;with_reducible refine (rf48_Holds.calls k1 ((rd_T25 l0 x5_1).f0) _ _ ((rd_T25 l0 x5_1).f1) ((rd_T25 l0 x5_1).f2) ((rd_T25 l0 x5_1).f3) _ _ ((rd_T25 l0 x5_1).f4) a1_0 a1_1 a1_2 a1_3 false _ ?side1 ?side2 ?side3 ?side4 A6.out).mono ?_
     (case side1=>exact (by repeat (first | exact (Kd.C_below HR278_1.out HB.out) | (with_reducible refine Kd.C_alloc ?_ _) | (with_reducible refine Kd.C_drewN ?_ _) | (with_reducible refine Kd.C_drew ?_))))
     (case side2=>exact HC278_1.out)
     (case side3=>exact (by repeat (first | exact (Kd.C_below HR278_4.out HB.out) | (with_reducible refine Kd.C_alloc ?_ _) | (with_reducible refine Kd.C_drewN ?_ _) | (with_reducible refine Kd.C_drew ?_))))
     (case side4=>exact HC278_4.out)
     rintro e w11 ⟨rfl,hb⟩;refine ⟨_,rfl,?_⟩;replace BK277:=bkm BK277 hb;replace HB:=hbm HB hb;clear hb;refine hK.out _ _ ⟨(blk_cell BK277.out 0).trans rfl,(blk_cell BK277.out 1).trans rfl,(blk_cell BK277.out 2).trans rfl,(blk_cell BK277.out 3).trans rfl,((HB.out.cell (World.block_lt_of_cell? w _ hw278_0)).trans hw278_0),((HB.out.cell (World.block_lt_of_cell? w _ hw278_1)).trans hw278_1),((HB.out.cell (World.block_lt_of_cell? w _ hw278_2)).trans hw278_2),((HB.out.cell (World.block_lt_of_cell? w _ hw278_3)).trans hw278_3),((HB.out.cell (World.block_lt_of_cell? w _ hw278_4)).trans hw278_4)⟩ (fun hHeld=>?_);clear hK K;refine nA 17 ?_;refine done_ (by kernel_rfl) ?_;try go_wp2
     go_roundg k1
     case measure=>have:=HK1.out;omega
     case rel=>exact ⟨(wrap64 (x5_1+1)),zq7,H',⟨by have:=HK1.out;omega⟩,⟨by (with_reducible repeat (first | refine blk_drewN ?_ _ | refine blk_drew ?_ | refine blk_alloc ?_ _));exact BK277.out⟩,⟨zq50⟩⟩
    exact absurd H (by simp)
   have c4b0:decide (x5_1 < (l0.length:Int))=false:=decide_eq_false c4;clear c4;obtain rfl:=Option.some.inj H;go_wp2
   go_ret
   exact ⟨zq4,zq50⟩
mutual
def lw48_RulesFirst.j0:Nat→List (S25)→Bool→Int→Int→ByteArray→ByteArray→Option (Bool)
 | 0,_,_,_,_,_,_=>none
 | k+1,x0,x22,x281000,x281001,x281002,x281003=>if x22=true then (some true) else (lw48_RulesFirst.l0 k x0 0 x281000 x281001 x281002 x281003)
def lw48_RulesFirst.l0:Nat→List (S25)→Int→Int→Int→ByteArray→ByteArray→Option (Bool)
 | 0,_,_,_,_,_,_=>none
 | k+1,x0,x5,x281000,x281001,x281002,x281003=>if x5 < (x0.length:Int) then (if 0≤x5 then ((lw48_large.f k ((rd_T25 x0 x5).f0) ((rd_T25 x0 x5).f1) ((rd_T25 x0 x5).f2) ((rd_T25 x0 x5).f3) ((rd_T25 x0 x5).f4)).bind fun t282=>(if t282=true then (some true) else (lw48_RulesFirst.l0 k x0 (wrap64 (x5+1)) x281000 x281001 x281002 x281003))) else (none)) else ((rules_First.f k x0 x281000 x281001 x281002 x281003).bind fun t283=>(if t283 < (-1) then (lw48_RulesFirst.j2 k x0 t283 true x281000 x281001 x281002 x281003) else (if t283 ≥ (x0.length:Int) then (lw48_RulesFirst.j2 k x0 t283 true x281000 x281001 x281002 x281003) else ((rf48_First.f k x0 x281000 x281001 x281002 x281003).bind fun t284=>(lw48_RulesFirst.j2 k x0 t283 (t283 != t284) x281000 x281001 x281002 x281003)))))
def lw48_RulesFirst.j2:Nat→List (S25)→Int→Bool→Int→Int→ByteArray→ByteArray→Option (Bool)
 | 0,_,_,_,_,_,_,_=>none
 | k+1,x0,x6,x51,x281000,x281001,x281002,x281003=>if x51=true then (some false) else (lw48_RulesFirst.l1 k x0 x6 0 x281000 x281001 x281002 x281003)
def lw48_RulesFirst.l1:Nat→List (S25)→Int→Int→Int→Int→ByteArray→ByteArray→Option (Bool)
 | 0,_,_,_,_,_,_,_=>none
 | k+1,x0,x6,x7,x281000,x281001,x281002,x281003=>if x7 < (x0.length:Int) then (if 0≤x7 then ((rules_Holds.f k ((rd_T25 x0 x7).f0) ((rd_T25 x0 x7).f1) ((rd_T25 x0 x7).f2) ((rd_T25 x0 x7).f3) ((rd_T25 x0 x7).f4) x281000 x281001 x281002 x281003).bind fun t286=>(if (t286 != (x7 == x6))=true then (if x7≤x6 then (some false) else (if x6 < 0 then (some false) else (lw48_RulesFirst.l1 k x0 x6 (wrap64 (x7+1)) x281000 x281001 x281002 x281003))) else (lw48_RulesFirst.l1 k x0 x6 (wrap64 (x7+1)) x281000 x281001 x281002 x281003))) else (none)) else ((lw48_lives.f).bind fun t287=>(some t287))
end
def lw48_RulesFirst.f (k:Nat) (l0:List (S25)) (a1_0:Int) (a1_1:Int) (a1_2:ByteArray) (a1_3:ByteArray):Option (Bool):=if (l0.length:Int) > 20 then (lw48_RulesFirst.j0 k l0 true a1_0 a1_1 a1_2 a1_3) else (if (a1_2.size:Int) > 400 then (lw48_RulesFirst.j0 k l0 true a1_0 a1_1 a1_2 a1_3) else (lw48_RulesFirst.j0 k l0 (decide ((a1_3.size:Int) > 400)) a1_0 a1_1 a1_2 a1_3))
def lw48_RulesFirst.T14:Bool×List (List Nat×List Nat):=(true,[([],[]),([],[]),([0,1],[0,1]),([2],[2]),([],[]),([3,4],[3,4]),([],[]),([],[]),([6,7],[6,7]),([5,8],[5,8]),([9,5],[9]),([10],[10]),([10],[10]),([11,12,10],[10,11,12]),([13,10,10],[10,13]),([14],[14]),([15,14],[14,15]),([14,16,10],[10,14,16]),([10,17],[10,17])])
def lw48_RulesFirst.B14:List Nat:=[0,0,3,7,0,31,0,0,192,511,1023,2047,2047,8191,16383,32767,65535,131071,262143]
theorem lw48_RulesFirst.tab14:rtab .any (opsOf Tryz.f5 14)=lw48_RulesFirst.T14:=by kernel_rfl
theorem lw48_RulesFirst.bits14:waitsOk lw48_RulesFirst.T14.2 lw48_RulesFirst.B14=true:=by kernel_rfl
theorem lw48_RulesFirst.calls (k:Nat) (A0:Option Addr) (c0:Nat) (l0:List (S25)) (a1_0 a1_1:Int) (a1_2 a1_3:ByteArray) (r:Bool) (w:World) (hr0:Kd.C k25 w A0 l0.length l0) (hc0:l0.length≤c0) (h:lw48_RulesFirst.f k l0 a1_0 a1_1 a1_2 a1_3=some r) (hG:Gl w) :
  Calls Tryz.prog 5 #[.slice A0 l0.length c0,.agg #[.int .i64 a1_0,.int .i64 a1_1,.string a1_2,.string a1_3]] w fun e w'=>e=.returned (.bool r)∧Below w.heap.size w w':=by
 have HG:=sd hG;clear hG;have hu32:=Tryz.underlying32;have hu25:=Tryz.underlying25;have HR0:=sd hr0;have HC0:=sd hc0;clear hr0 hc0;have HB:=sd (Below.refl w.heap.size w);have H:=h;clear h;unfold lw48_RulesFirst.f at H;have HC3:=sd H;clear H;go_enter Tryz.func5,Tryz.ntmps5
 go_upto_region 1 with (first | ((with_reducible refine gate_dst (N:=3) rfl ?_);(try (refine gate_guard (by rfl) ?_;dsimp only));refine bxA 3 #[.int .i64 a1_0,.int .i64 a1_1,.string a1_2,.string a1_3] 32 ?_;intro gb280 hg w4 hbox hb;have BK280:=sd (hbox);have GW280:=gem hg HB;have GE280:=GW280;replace HB:=hbm HB hb;clear hb hbox hg))
 (try simp only [Act.put,List.setIfInBounds_toArray,List.set_cons_zero,List.set_cons_succ])
 go_cut [22] (fun v22 wc=>∃ (kq:Nat) (x22_2:Bool),v22=.bool x22_2∧Aside0 (lw48_RulesFirst.j0 kq l0 x22_2 a1_0 a1_1 a1_2 a1_3=some r)∧Aside0 (kq≤k)∧Aside0 (wc.heap[gb280]?=some (.cells #[.int .i64 a1_0,.int .i64 a1_1,.string a1_2,.string a1_3] 32 (0,0)))∧Aside0 (Below w.heap.size w wc))
 case first =>
  have H:=HC3.out;clear HC3;replace H:=ifI H;rcases H with ⟨c5,H⟩ | ⟨c5,H⟩
  ·have c5b0:decide (20 < (l0.length:Int))=true:=decide_eq_true c5;have c5b1:decide (20 < l0.length)=true:=decide_eq_true (by omega);clear c5;(first | rw [c5b0] | (simp only [i64_w,i32_w];rw [c5b0]) | skip)
   have H':=sd H;clear H;go_wp2
   go_meet
   case rel=>exact ⟨_,(true),zq7,H',⟨by first | omega | exact Nat.le_refl _⟩,⟨zq96⟩,⟨zq97⟩⟩
  have c5b0:decide (20 < (l0.length:Int))=false:=decide_eq_false c5;have c5b1:decide (20 < l0.length)=false:=decide_eq_false (by omega);clear c5;(first | rw [c5b0] | (simp only [i64_w,i32_w];rw [c5b0]) | skip)
  replace H:=ifI H;rcases H with ⟨c6,H⟩ | ⟨c6,H⟩
  ·have c6b0:decide (400 < (a1_2.size:Int))=true:=decide_eq_true c6;have c6b1:decide (400 < a1_2.size)=true:=decide_eq_true (by omega);clear c6;have H':=sd H;clear H;obtain ⟨_,_,_,_,_,_,_,_⟩:=bk4 BK280;go_wp2
   go_meet
   case rel=>exact ⟨_,(true),zq7,H',⟨by first | omega | exact Nat.le_refl _⟩,⟨zq96⟩,⟨zq97⟩⟩
  have c6b0:decide (400 < (a1_2.size:Int))=false:=decide_eq_false c6;have c6b1:decide (400 < a1_2.size)=false:=decide_eq_false (by omega);clear c6;have H':=sd H;clear H;obtain ⟨_,_,_,_,_,_,_,_⟩:=bk4 BK280;go_wp2
  go_meet
  case rel=>exact ⟨_,(decide ((a1_3.size:Int) > 400)),zq7,H',⟨by first | omega | exact Nat.le_refl _⟩,⟨zq96⟩,⟨zq97⟩⟩
 case rest =>
  clear HC3;try clear p2
  try clear c5
  try clear c5b0
  try clear c5b1
  try clear c6
  try clear c6b0
  try clear c6b1
  try clear hcz7_0
  try clear hcz7_1
  try clear hcz7_2
  try clear hcz7_3
  try clear hcz8_0
  try clear hcz8_1
  try clear hcz8_2
  try clear hcz8_3
  try clear hfz7_0
  try clear hfz7_1
  try clear hfz7_2
  try clear hfz7_3
  try clear hfz8_0
  try clear hfz8_1
  try clear hfz8_2
  try clear hfz8_3
  obtain ⟨kq,x22_2,rfl,HA,HJ2,BK280,HB⟩:=hcut
  cases kq with
  | zero=>exact absurd HA.out (by simp [lw48_RulesFirst.j0])
  | succ kj2 =>
   have H:=HA.out;clear HA;simp only [lw48_RulesFirst.j0] at H
   by_cases c9:x22_2=true
   ·subst c9;rw [if_pos rfl] at H;obtain rfl:=Option.some.inj H;go_wp2
    go_ret
    exact ⟨zq4,zq97⟩
   replace c9:=Bool.eq_false_iff.mpr c9;subst c9;rw [if_neg Bool.false_ne_true] at H;have H':=sd H;clear H;go_wp2
   go_loopg [5] kj2 (fun kq v5 w'=>∃ (x5_2:Int),v5=.int .i64 x5_2∧Aside0 (lw48_RulesFirst.l0 kq l0 x5_2 a1_0 a1_1 a1_2 a1_3=some r)∧Aside0 (kq≤kj2)∧Aside0 (w'.heap[gb280]?=some (.cells #[.int .i64 a1_0,.int .i64 a1_1,.string a1_2,.string a1_3] 32 (0,0)))∧Aside0 (Below w.heap.size w w'))
   case atStart=>exact ⟨(0),zq7,H',⟨Nat.le_refl _⟩,⟨zq96⟩,⟨zq97⟩⟩
   case round =>
    clear H';try clear p2
    try clear c5
    try clear c5b0
    try clear c5b1
    try clear c6
    try clear c6b0
    try clear c6b1
    try clear c9
    try clear hcz7_0
    try clear hcz7_1
    try clear hcz7_2
    try clear hcz7_3
    try clear hcz8_0
    try clear hcz8_1
    try clear hcz8_2
    try clear hcz8_3
    try clear hfz7_0
    try clear hfz7_1
    try clear hfz7_2
    try clear hfz7_3
    try clear hfz8_0
    try clear hfz8_1
    try clear hfz8_2
    try clear hfz8_3
    try clear p2
    obtain ⟨x5_2,rfl,HA,HK2,BK280,HB⟩:=hrel
    cases gk with
    | zero=>exact absurd HA.out (by simp [lw48_RulesFirst.l0])
    | succ k2 =>
     have H:=HA.out;clear HA;simp only [lw48_RulesFirst.l0] at H
     replace H:=ifI H;rcases H with ⟨c10,H⟩ | ⟨c10,H⟩
     ·have c10b0:decide (x5_2 < (l0.length:Int))=true:=decide_eq_true c10;clear c10;replace H:=ifI H;rcases H with ⟨c11,H⟩ | ⟨c11,H⟩
      ·have c11b0:decide (0≤x5_2)=true:=decide_eq_true c11;clear c11;replace H:=bdI H;obtain ⟨t282,A12,H⟩:=H;(try dsimp only at H)
       by_cases c13:t282=true
       ·subst c13;rw [if_pos rfl] at H;obtain rfl:=Option.some.inj H;have p281:0≤(x5_2:Int):=od;have q281:x5_2 < (l0.length:Int):=od;obtain ⟨ad281,A281_1,c281_1,A281_4,c281_4,e281,hx281_0,hx281_1,hx281_2,hx281_3,hx281_4,hl281_1,hi281_1,hl281_4,hi281_4⟩:=at_T25 HR0.out x5_2 p281 q281
        cases e281
        replace hx281_0:=(HB.out.cell (World.block_lt_of_cell? w _ hx281_0)).trans hx281_0;replace hx281_1:=(HB.out.cell (World.block_lt_of_cell? w _ hx281_1)).trans hx281_1;replace hx281_2:=(HB.out.cell (World.block_lt_of_cell? w _ hx281_2)).trans hx281_2;replace hx281_3:=(HB.out.cell (World.block_lt_of_cell? w _ hx281_3)).trans hx281_3;replace hx281_4:=(HB.out.cell (World.block_lt_of_cell? w _ hx281_4)).trans hx281_4;have HR281_1:=sd hi281_1;have HC281_1:=sd hl281_1;clear hi281_1 hl281_1;have HR281_4:=sd hi281_4;have HC281_4:=sd hl281_4;clear hi281_4 hl281_4;replace p281:=eq_true p281;replace q281:=eq_true q281;go_wp2_with (first | ((with_reducible refine gate_callee (f:=8) rfl ?_);refine gL 33 Tryz.func8 #[.agg #[.string ((rd_T25 l0 x5_2).f0),.slice A281_1 ((rd_T25 l0 x5_2).f1).length c281_1,.string ((rd_T25 l0 x5_2).f2),.string ((rd_T25 l0 x5_2).f3),.slice A281_4 ((rd_T25 l0 x5_2).f4).length c281_4]] ?_;(with_reducible refine (lw48_large.calls k2 ((rd_T25 l0 x5_2).f0) _ _ ((rd_T25 l0 x5_2).f1) ((rd_T25 l0 x5_2).f2) ((rd_T25 l0 x5_2).f3) _ _ ((rd_T25 l0 x5_2).f4) true _ ?side1 ?side2 ?side3 ?side4 A12.out).mono ?_);(case side1=>exact (by repeat (first | exact (Kd.C_below HR281_1.out HB.out) | (with_reducible refine Kd.C_alloc ?_ _) | (with_reducible refine Kd.C_drewN ?_ _) | (with_reducible refine Kd.C_drew ?_))));(case side2=>exact HC281_1.out);(case side3=>exact (by repeat (first | exact (Kd.C_below HR281_4.out HB.out) | (with_reducible refine Kd.C_alloc ?_ _) | (with_reducible refine Kd.C_drewN ?_ _) | (with_reducible refine Kd.C_drew ?_))));(case side4=>exact HC281_4.out);rintro e w14 ⟨rfl,hb⟩;refine ⟨_,rfl,?_⟩;replace BK280:=bkm BK280 hb;replace HB:=hbm HB hb;clear hb))
        go_ret
        exact ⟨zq4,zq97⟩
       replace c13:=Bool.eq_false_iff.mpr c13;subst c13;rw [if_neg Bool.false_ne_true] at H;have H':=sd H;clear H;have p281:0≤(x5_2:Int):=od;have q281:x5_2 < (l0.length:Int):=od;obtain ⟨ad281,A281_1,c281_1,A281_4,c281_4,e281,hx281_0,hx281_1,hx281_2,hx281_3,hx281_4,hl281_1,hi281_1,hl281_4,hi281_4⟩:=at_T25 HR0.out x5_2 p281 q281
       cases e281
       replace hx281_0:=(HB.out.cell (World.block_lt_of_cell? w _ hx281_0)).trans hx281_0;replace hx281_1:=(HB.out.cell (World.block_lt_of_cell? w _ hx281_1)).trans hx281_1;replace hx281_2:=(HB.out.cell (World.block_lt_of_cell? w _ hx281_2)).trans hx281_2;replace hx281_3:=(HB.out.cell (World.block_lt_of_cell? w _ hx281_3)).trans hx281_3;replace hx281_4:=(HB.out.cell (World.block_lt_of_cell? w _ hx281_4)).trans hx281_4;have HR281_1:=sd hi281_1;have HC281_1:=sd hl281_1;clear hi281_1 hl281_1;have HR281_4:=sd hi281_4;have HC281_4:=sd hl281_4;clear hi281_4 hl281_4;replace p281:=eq_true p281;replace q281:=eq_true q281;go_wp2_with (first | ((with_reducible refine gate_callee (f:=8) rfl ?_);refine gL 33 Tryz.func8 #[.agg #[.string ((rd_T25 l0 x5_2).f0),.slice A281_1 ((rd_T25 l0 x5_2).f1).length c281_1,.string ((rd_T25 l0 x5_2).f2),.string ((rd_T25 l0 x5_2).f3),.slice A281_4 ((rd_T25 l0 x5_2).f4).length c281_4]] ?_;(with_reducible refine (lw48_large.calls k2 ((rd_T25 l0 x5_2).f0) _ _ ((rd_T25 l0 x5_2).f1) ((rd_T25 l0 x5_2).f2) ((rd_T25 l0 x5_2).f3) _ _ ((rd_T25 l0 x5_2).f4) false _ ?side1 ?side2 ?side3 ?side4 A12.out).mono ?_);(case side1=>exact (by repeat (first | exact (Kd.C_below HR281_1.out HB.out) | (with_reducible refine Kd.C_alloc ?_ _) | (with_reducible refine Kd.C_drewN ?_ _) | (with_reducible refine Kd.C_drew ?_))));(case side2=>exact HC281_1.out);(case side3=>exact (by repeat (first | exact (Kd.C_below HR281_4.out HB.out) | (with_reducible refine Kd.C_alloc ?_ _) | (with_reducible refine Kd.C_drewN ?_ _) | (with_reducible refine Kd.C_drew ?_))));(case side4=>exact HC281_4.out);rintro e w15 ⟨rfl,hb⟩;refine ⟨_,rfl,?_⟩;replace BK280:=bkm BK280 hb;replace HB:=hbm HB hb;clear hb))
       go_roundg k2
       case measure=>have:=HJ2.out;have:=HK2.out;omega
       case rel=>exact ⟨(wrap64 (x5_2+1)),zq7,H',⟨by have:=HJ2.out;have:=HK2.out;omega⟩,⟨zq96⟩,⟨zq97⟩⟩
      exact absurd H (by simp)
     have c10b0:decide (x5_2 < (l0.length:Int))=false:=decide_eq_false c10;clear c10;replace H:=bdI H;obtain ⟨t283,A16,H⟩:=H;(try dsimp only at H)
     have HC17:=sd H;clear H;obtain ⟨_,_,_,_,_,_,_,_⟩:=bk4 BK280;go_upto_region 9 with (first | ((with_reducible refine gate_callee (f:=14) rfl ?_);refine gL 36 Tryz.func14 #[.slice A0 l0.length c0,.agg #[.int .i64 a1_0,.int .i64 a1_1,.string a1_2,.string a1_3]] ?_;(with_reducible refine (rules_First.calls k2 _ _ l0 a1_0 a1_1 a1_2 a1_3 t283 _ ?side1 ?side2 A16.out (gl_below HG.out zq98)).mono ?_);(case side1=>exact (by repeat (first | exact (Kd.C_below HR0.out HB.out) | (with_reducible refine Kd.C_alloc ?_ _) | (with_reducible refine Kd.C_drewN ?_ _) | (with_reducible refine Kd.C_drew ?_))));(case side2=>exact HC0.out);rintro e w19 ⟨rfl,hb⟩;refine ⟨_,rfl,?_⟩;replace BK280:=bkm BK280 hb;replace HB:=hbm HB hb;clear hb))
     (try simp only [Act.put,List.setIfInBounds_toArray,List.set_cons_zero,List.set_cons_succ])
     go_cut [51] (fun v51 wc=>∃ (kq:Nat) (x51_16:Bool),v51=.bool x51_16∧Aside0 (lw48_RulesFirst.j2 kq l0 t283 x51_16 a1_0 a1_1 a1_2 a1_3=some r)∧Aside0 (kq≤k2)∧Aside0 (wc.heap[gb280]?=some (.cells #[.int .i64 a1_0,.int .i64 a1_1,.string a1_2,.string a1_3] 32 (0,0)))∧Aside0 (Below w.heap.size w wc))
     case first =>
      have H:=HC17.out;clear HC17;replace H:=ifI H;rcases H with ⟨c20,H⟩ | ⟨c20,H⟩
      ·have c20b0:decide (t283 < (-1))=true:=decide_eq_true c20;clear c20;(first | rw [c20b0] | (simp only [i64_w,i32_w];rw [c20b0]) | skip)
       have H':=sd H;clear H;go_wp2
       go_meet
       case rel=>exact ⟨_,(true),zq7,H',⟨zq99⟩,⟨zq96⟩,⟨zq97⟩⟩
      have c20b0:decide (t283 < (-1))=false:=decide_eq_false c20;clear c20;(first | rw [c20b0] | (simp only [i64_w,i32_w];rw [c20b0]) | skip)
      replace H:=ifI H;rcases H with ⟨c21,H⟩ | ⟨c21,H⟩
      ·have c21b0:decide ((l0.length:Int)≤t283)=true:=decide_eq_true c21;clear c21;have H':=sd H;clear H;go_wp2
       go_meet
       case rel=>exact ⟨_,(true),zq7,H',⟨zq99⟩,⟨zq96⟩,⟨zq97⟩⟩
      have c21b0:decide ((l0.length:Int)≤t283)=false:=decide_eq_false c21;clear c21;replace H:=bdI H;obtain ⟨t284,A22,H⟩:=H;(try dsimp only at H)
      have H':=sd H;clear H;obtain ⟨_,_,_,_,_,_,_,_⟩:=bk4 BK280;go_wp2_with (first | (go_at_call 15;(with_reducible refine (rf48_First.calls k2 _ _ l0 a1_0 a1_1 a1_2 a1_3 t284 _ ?side1 ?side2 A22.out).mono ?_);(case side1=>exact (by repeat (first | exact (Kd.C_below HR0.out HB.out) | (with_reducible refine Kd.C_alloc ?_ _) | (with_reducible refine Kd.C_drewN ?_ _) | (with_reducible refine Kd.C_drew ?_))));(case side2=>exact HC0.out);rintro e w24 ⟨rfl,hb⟩;replace BK280:=bkm BK280 hb;replace HB:=hbm HB hb;clear hb))
      go_meet
      case rel=>exact ⟨_,((t283 != t284)),zq7,H',⟨zq99⟩,⟨zq96⟩,⟨zq97⟩⟩
     case rest =>
      clear HC17;try clear c1
      try clear c2
      try clear p2
      try clear q2
      try clear hx2
      try clear c5
      try clear c5b0
      try clear c5b1
      try clear c6
      try clear c6b0
      try clear c6b1
      try clear p6
      try clear c8
      try clear c9
      try clear c10
      try clear c10b0
      try clear c11
      try clear c11b0
      try clear c13
      try clear c14
      try clear c20
      try clear c20b0
      try clear c21
      try clear c21b0
      try clear hcz18_0
      try clear hcz18_1
      try clear hcz18_2
      try clear hcz18_3
      try clear hcz23_0
      try clear hcz23_1
      try clear hcz23_2
      try clear hcz23_3
      try clear hcz7_0
      try clear hcz7_1
      try clear hcz7_2
      try clear hcz7_3
      try clear hcz8_0
      try clear hcz8_1
      try clear hcz8_2
      try clear hcz8_3
      try clear hfz18_0
      try clear hfz18_1
      try clear hfz18_2
      try clear hfz18_3
      try clear hfz23_0
      try clear hfz23_1
      try clear hfz23_2
      try clear hfz23_3
      try clear hfz7_0
      try clear hfz7_1
      try clear hfz7_2
      try clear hfz7_3
      try clear hfz8_0
      try clear hfz8_1
      try clear hfz8_2
      try clear hfz8_3
      try clear hx281_0
      try clear hx281_1
      try clear hx281_2
      try clear hx281_3
      try clear hx281_4
      try clear p2
      try clear p281
      try clear q281
      obtain ⟨kq,x51_16,rfl,HA,HJ16,BK280,HB⟩:=hcut
      cases kq with
      | zero=>exact absurd HA.out (by simp [lw48_RulesFirst.j2])
      | succ kj16 =>
       have H:=HA.out;clear HA;simp only [lw48_RulesFirst.j2] at H
       by_cases c25:x51_16=true
       ·subst c25;rw [if_pos rfl] at H;obtain rfl:=Option.some.inj H;go_wp2
        go_ret
        exact ⟨zq4,zq97⟩
       replace c25:=Bool.eq_false_iff.mpr c25;subst c25;rw [if_neg Bool.false_ne_true] at H;have H':=sd H;clear H;go_wp2
       go_loopg [7] kj16 (fun kq v7 w'=>∃ (x7_4:Int),v7=.int .i64 x7_4∧Aside0 (lw48_RulesFirst.l1 kq l0 t283 x7_4 a1_0 a1_1 a1_2 a1_3=some r)∧Aside0 (kq≤kj16)∧Aside0 (w'.heap[gb280]?=some (.cells #[.int .i64 a1_0,.int .i64 a1_1,.string a1_2,.string a1_3] 32 (0,0)))∧Aside0 (Below w.heap.size w w'))
       case atStart=>exact ⟨(0),zq7,H',⟨Nat.le_refl _⟩,⟨zq96⟩,⟨zq97⟩⟩
       case round =>
        clear H';try clear c1
        try clear c2
        try clear p2
        try clear q2
        try clear hx2
        try clear c5
        try clear c5b0
        try clear c5b1
        try clear c6
        try clear c6b0
        try clear c6b1
        try clear p6
        try clear c8
        try clear c9
        try clear c10
        try clear c10b0
        try clear c11
        try clear c11b0
        try clear c13
        try clear c14
        try clear c20
        try clear c20b0
        try clear c21
        try clear c21b0
        try clear c25
        try clear hcz18_0
        try clear hcz18_1
        try clear hcz18_2
        try clear hcz18_3
        try clear hcz23_0
        try clear hcz23_1
        try clear hcz23_2
        try clear hcz23_3
        try clear hcz7_0
        try clear hcz7_1
        try clear hcz7_2
        try clear hcz7_3
        try clear hcz8_0
        try clear hcz8_1
        try clear hcz8_2
        try clear hcz8_3
        try clear hfz18_0
        try clear hfz18_1
        try clear hfz18_2
        try clear hfz18_3
        try clear hfz23_0
        try clear hfz23_1
        try clear hfz23_2
        try clear hfz23_3
        try clear hfz7_0
        try clear hfz7_1
        try clear hfz7_2
        try clear hfz7_3
        try clear hfz8_0
        try clear hfz8_1
        try clear hfz8_2
        try clear hfz8_3
        try clear hx281_0
        try clear hx281_1
        try clear hx281_2
        try clear hx281_3
        try clear hx281_4
        try clear p2
        try clear p281
        try clear p6
        try clear q2
        try clear q281
        obtain ⟨x7_4,rfl,HA,HK4,BK280,HB⟩:=hrel
        cases gk with
        | zero=>exact absurd HA.out (by simp [lw48_RulesFirst.l1])
        | succ k4 =>
         have H:=HA.out;clear HA;simp only [lw48_RulesFirst.l1] at H
         replace H:=ifI H;rcases H with ⟨c26,H⟩ | ⟨c26,H⟩
         ·have c26b0:decide (x7_4 < (l0.length:Int))=true:=decide_eq_true c26;clear c26;replace H:=ifI H;rcases H with ⟨c27,H⟩ | ⟨c27,H⟩
          ·have c27b0:decide (0≤x7_4)=true:=decide_eq_true c27;clear c27;replace H:=bdI H;obtain ⟨t286,A28,H⟩:=H;(try dsimp only at H)
           replace H:=ifI H;rcases H with ⟨c29,H⟩ | ⟨c29,H⟩
           ·have c29b0:(t286 != (x7_4 == t283))=true:=c29;(try (have c29b1:decide (t286=(x7_4 == t283))=false:=by simpa using c29))
            (try (have c29b2:(t286 == (x7_4 == t283))=false:=by simpa using c29))
            (try (have c29b3:¬ (t286=(x7_4 == t283)):=by simpa using c29))
            clear c29;replace H:=ifI H;rcases H with ⟨c30,H⟩ | ⟨c30,H⟩
            ·have c30b0:decide (x7_4≤t283)=true:=decide_eq_true c30;clear c30;obtain rfl:=Option.some.inj H;try go_wp2
             replace BK280:=sd (blk_drew BK280.out);replace HB:=sd (below_drew1 HB.out);have p285:0≤(x7_4:Int):=od;have q285:x7_4 < (l0.length:Int):=od;obtain ⟨ad285,A285_1,c285_1,A285_4,c285_4,e285,hx285_0,hx285_1,hx285_2,hx285_3,hx285_4,hl285_1,hi285_1,hl285_4,hi285_4⟩:=at_T25 HR0.out x7_4 p285 q285;have hw285_4:=hx285_4;have hw285_3:=hx285_3;have hw285_2:=hx285_2;have hw285_1:=hx285_1;have hw285_0:=hx285_0
             cases e285
             replace hx285_0:=(HB.out.cell (World.block_lt_of_cell? w _ hx285_0)).trans hx285_0;replace hx285_1:=(HB.out.cell (World.block_lt_of_cell? w _ hx285_1)).trans hx285_1;replace hx285_2:=(HB.out.cell (World.block_lt_of_cell? w _ hx285_2)).trans hx285_2;replace hx285_3:=(HB.out.cell (World.block_lt_of_cell? w _ hx285_3)).trans hx285_3;replace hx285_4:=(HB.out.cell (World.block_lt_of_cell? w _ hx285_4)).trans hx285_4;have HR285_1:=sd hi285_1;have HC285_1:=sd hl285_1;clear hi285_1 hl285_1;have HR285_4:=sd hi285_4;have HC285_4:=sd hl285_4;clear hi285_4 hl285_4;replace p285:=eq_true p285;replace q285:=eq_true q285;refine start_ (n:=19) (S:=fun w'=>w'.cell? ⟨gb280,0,none⟩=some (.int .i64 a1_0)∧w'.cell? ⟨gb280,1,none⟩=some (.int .i64 a1_1)∧w'.cell? ⟨gb280,2,none⟩=some (.string a1_2)∧w'.cell? ⟨gb280,3,none⟩=some (.string a1_3)∧w'.cell? (ad285.add ((x7_4).toNat * 5))=some (.string ((rd_T25 l0 x7_4).f0))∧w'.cell? ⟨(ad285.add ((x7_4).toNat * 5)).block,(ad285.add ((x7_4).toNat * 5)).off+1,none⟩=some (.slice A285_1 ((rd_T25 l0 x7_4).f1).length c285_1)∧w'.cell? ⟨(ad285.add ((x7_4).toNat * 5)).block,(ad285.add ((x7_4).toNat * 5)).off+2,none⟩=some (.string ((rd_T25 l0 x7_4).f2))∧w'.cell? ⟨(ad285.add ((x7_4).toNat * 5)).block,(ad285.add ((x7_4).toNat * 5)).off+3,none⟩=some (.string ((rd_T25 l0 x7_4).f3))∧w'.cell? ⟨(ad285.add ((x7_4).toNat * 5)).block,(ad285.add ((x7_4).toNat * 5)).off+4,none⟩=some (.slice A285_4 ((rd_T25 l0 x7_4).f4).length c285_4)) (ds:=[]) #[false,false,false,false,false,false,false,false,false,false,false,false,false,false,false,false,false,false,false] (by kernel_rfl) rfl rfl ⟨(blk_cell BK280.out 0).trans rfl,(blk_cell BK280.out 1).trans rfl,(blk_cell BK280.out 2).trans rfl,(blk_cell BK280.out 3).trans rfl,((HB.out.cell (World.block_lt_of_cell? w _ hw285_0)).trans hw285_0),((HB.out.cell (World.block_lt_of_cell? w _ hw285_1)).trans hw285_1),((HB.out.cell (World.block_lt_of_cell? w _ hw285_2)).trans hw285_2),((HB.out.cell (World.block_lt_of_cell? w _ hw285_3)).trans hw285_3),((HB.out.cell (World.block_lt_of_cell? w _ hw285_4)).trans hw285_4)⟩ (fun hHeld=>?_);refine with_tabW lw48_RulesFirst.tab14 lw48_RulesFirst.bits14 (fun HT_ HW_=>?_);generalize wr.drew=w31 at BK280 HB HR285_1 HR285_4 hx285_0 hx285_1 hx285_2 hx285_3 hx285_4 hHeld ⊢;refine pA 0 58 HT_.out ?_;refine pA 1 59 HT_.out ?_;refine pA 2 60 HT_.out ?_;refine pA 6 64 HT_.out ?_;refine pA 7 65 HT_.out ?_;refine pA 8 66 HT_.out ?_;refine tA 3 61 HT_.out HW_.out hHeld ?_;refine tA 4 62 HT_.out HW_.out hHeld ?_;refine one_ (i:=5) (N:=some 63) #[true,true,true,true,true,true,true,true,true,false,false,false,false,false,false,false,false,false,false] rfl rfl (one_of HT_.out (by kernel_rfl)) (by decide) (fun K hK=>?_);refine goes_ Tryz.func12 (by kernel_rfl) rfl #[.agg #[.string ((rd_T25 l0 x7_4).f0),.slice A285_1 ((rd_T25 l0 x7_4).f1).length c285_1,.string ((rd_T25 l0 x7_4).f2),.string ((rd_T25 l0 x7_4).f3),.slice A285_4 ((rd_T25 l0 x7_4).f4).length c285_4],.agg #[.int .i64 a1_0,.int .i64 a1_1,.string a1_2,.string a1_3]] (by rfl) rfl rfl zq34 ?_;with_reducible refine (rules_Holds.calls k4 ((rd_T25 l0 x7_4).f0) _ _ ((rd_T25 l0 x7_4).f1) ((rd_T25 l0 x7_4).f2) ((rd_T25 l0 x7_4).f3) _ _ ((rd_T25 l0 x7_4).f4) a1_0 a1_1 a1_2 a1_3 t286 _ ?side1 ?side2 ?side3 ?side4 A28.out (gl_below HG.out zq98)).mono ?_
             (case side1=>exact zq100)
             (case side2=>exact HC285_1.out)
             (case side3=>exact zq101)
             (case side4=>exact HC285_4.out)
             rintro e w32 ⟨rfl,hb⟩;refine ⟨_,rfl,?_⟩;replace BK280:=bkm BK280 hb;replace HB:=hbm HB hb;clear hb;refine hK.out _ _ ⟨(blk_cell BK280.out 0).trans rfl,(blk_cell BK280.out 1).trans rfl,(blk_cell BK280.out 2).trans rfl,(blk_cell BK280.out 3).trans rfl,((HB.out.cell (World.block_lt_of_cell? w _ hw285_0)).trans hw285_0),((HB.out.cell (World.block_lt_of_cell? w _ hw285_1)).trans hw285_1),((HB.out.cell (World.block_lt_of_cell? w _ hw285_2)).trans hw285_2),((HB.out.cell (World.block_lt_of_cell? w _ hw285_3)).trans hw285_3),((HB.out.cell (World.block_lt_of_cell? w _ hw285_4)).trans hw285_4)⟩ (fun hHeld=>?_);clear hK K;refine nA 63 ?_;refine pA 9 67 HT_.out ?_;refine pA 10 68 HT_.out ?_;refine pA 11 69 HT_.out ?_;refine pA 12 70 HT_.out ?_;refine pA 13 71 HT_.out ?_;refine pA 14 72 HT_.out ?_;refine oA 15 73 HT_.out ?_;refine oA 16 74 HT_.out ?_;refine pA 17 75 HT_.out ?_;refine pA 18 76 HT_.out ?_;refine done_ (done_of HT_.out (by kernel_rfl)) ?_;try go_wp2
             go_ret
             exact ⟨zq4,zq97⟩
            have c30b0:decide (x7_4≤t283)=false:=decide_eq_false c30;clear c30;replace H:=ifI H;rcases H with ⟨c33,H⟩ | ⟨c33,H⟩
            ·have c33b0:decide (t283 < 0)=true:=decide_eq_true c33;clear c33;obtain rfl:=Option.some.inj H;try go_wp2
             replace BK280:=sd (blk_drew BK280.out);replace HB:=sd (below_drew1 HB.out);have p285:0≤(x7_4:Int):=od;have q285:x7_4 < (l0.length:Int):=od;obtain ⟨ad285,A285_1,c285_1,A285_4,c285_4,e285,hx285_0,hx285_1,hx285_2,hx285_3,hx285_4,hl285_1,hi285_1,hl285_4,hi285_4⟩:=at_T25 HR0.out x7_4 p285 q285;have hw285_4:=hx285_4;have hw285_3:=hx285_3;have hw285_2:=hx285_2;have hw285_1:=hx285_1;have hw285_0:=hx285_0
             cases e285
             replace hx285_0:=(HB.out.cell (World.block_lt_of_cell? w _ hx285_0)).trans hx285_0;replace hx285_1:=(HB.out.cell (World.block_lt_of_cell? w _ hx285_1)).trans hx285_1;replace hx285_2:=(HB.out.cell (World.block_lt_of_cell? w _ hx285_2)).trans hx285_2;replace hx285_3:=(HB.out.cell (World.block_lt_of_cell? w _ hx285_3)).trans hx285_3;replace hx285_4:=(HB.out.cell (World.block_lt_of_cell? w _ hx285_4)).trans hx285_4;have HR285_1:=sd hi285_1;have HC285_1:=sd hl285_1;clear hi285_1 hl285_1;have HR285_4:=sd hi285_4;have HC285_4:=sd hl285_4;clear hi285_4 hl285_4;replace p285:=eq_true p285;replace q285:=eq_true q285;refine start_ (n:=19) (S:=fun w'=>w'.cell? ⟨gb280,0,none⟩=some (.int .i64 a1_0)∧w'.cell? ⟨gb280,1,none⟩=some (.int .i64 a1_1)∧w'.cell? ⟨gb280,2,none⟩=some (.string a1_2)∧w'.cell? ⟨gb280,3,none⟩=some (.string a1_3)∧w'.cell? (ad285.add ((x7_4).toNat * 5))=some (.string ((rd_T25 l0 x7_4).f0))∧w'.cell? ⟨(ad285.add ((x7_4).toNat * 5)).block,(ad285.add ((x7_4).toNat * 5)).off+1,none⟩=some (.slice A285_1 ((rd_T25 l0 x7_4).f1).length c285_1)∧w'.cell? ⟨(ad285.add ((x7_4).toNat * 5)).block,(ad285.add ((x7_4).toNat * 5)).off+2,none⟩=some (.string ((rd_T25 l0 x7_4).f2))∧w'.cell? ⟨(ad285.add ((x7_4).toNat * 5)).block,(ad285.add ((x7_4).toNat * 5)).off+3,none⟩=some (.string ((rd_T25 l0 x7_4).f3))∧w'.cell? ⟨(ad285.add ((x7_4).toNat * 5)).block,(ad285.add ((x7_4).toNat * 5)).off+4,none⟩=some (.slice A285_4 ((rd_T25 l0 x7_4).f4).length c285_4)) (ds:=[]) #[false,false,false,false,false,false,false,false,false,false,false,false,false,false,false,false,false,false,false] (by kernel_rfl) rfl rfl ⟨(blk_cell BK280.out 0).trans rfl,(blk_cell BK280.out 1).trans rfl,(blk_cell BK280.out 2).trans rfl,(blk_cell BK280.out 3).trans rfl,((HB.out.cell (World.block_lt_of_cell? w _ hw285_0)).trans hw285_0),((HB.out.cell (World.block_lt_of_cell? w _ hw285_1)).trans hw285_1),((HB.out.cell (World.block_lt_of_cell? w _ hw285_2)).trans hw285_2),((HB.out.cell (World.block_lt_of_cell? w _ hw285_3)).trans hw285_3),((HB.out.cell (World.block_lt_of_cell? w _ hw285_4)).trans hw285_4)⟩ (fun hHeld=>?_);refine with_tabW lw48_RulesFirst.tab14 lw48_RulesFirst.bits14 (fun HT_ HW_=>?_);generalize wr.drew=w34 at BK280 HB HR285_1 HR285_4 hx285_0 hx285_1 hx285_2 hx285_3 hx285_4 hHeld ⊢;refine pA 0 58 HT_.out ?_;refine pA 1 59 HT_.out ?_;refine pA 2 60 HT_.out ?_;refine pA 6 64 HT_.out ?_;refine pA 7 65 HT_.out ?_;refine pA 8 66 HT_.out ?_;refine tA 3 61 HT_.out HW_.out hHeld ?_;refine tA 4 62 HT_.out HW_.out hHeld ?_;refine one_ (i:=5) (N:=some 63) #[true,true,true,true,true,true,true,true,true,false,false,false,false,false,false,false,false,false,false] rfl rfl (one_of HT_.out (by kernel_rfl)) (by decide) (fun K hK=>?_);refine goes_ Tryz.func12 (by kernel_rfl) rfl #[.agg #[.string ((rd_T25 l0 x7_4).f0),.slice A285_1 ((rd_T25 l0 x7_4).f1).length c285_1,.string ((rd_T25 l0 x7_4).f2),.string ((rd_T25 l0 x7_4).f3),.slice A285_4 ((rd_T25 l0 x7_4).f4).length c285_4],.agg #[.int .i64 a1_0,.int .i64 a1_1,.string a1_2,.string a1_3]] (by rfl) rfl rfl zq34 ?_;with_reducible refine (rules_Holds.calls k4 ((rd_T25 l0 x7_4).f0) _ _ ((rd_T25 l0 x7_4).f1) ((rd_T25 l0 x7_4).f2) ((rd_T25 l0 x7_4).f3) _ _ ((rd_T25 l0 x7_4).f4) a1_0 a1_1 a1_2 a1_3 t286 _ ?side1 ?side2 ?side3 ?side4 A28.out (gl_below HG.out zq98)).mono ?_
             (case side1=>exact zq100)
             (case side2=>exact HC285_1.out)
             (case side3=>exact zq101)
             (case side4=>exact HC285_4.out)
             rintro e w35 ⟨rfl,hb⟩;refine ⟨_,rfl,?_⟩;replace BK280:=bkm BK280 hb;replace HB:=hbm HB hb;clear hb;refine hK.out _ _ ⟨(blk_cell BK280.out 0).trans rfl,(blk_cell BK280.out 1).trans rfl,(blk_cell BK280.out 2).trans rfl,(blk_cell BK280.out 3).trans rfl,((HB.out.cell (World.block_lt_of_cell? w _ hw285_0)).trans hw285_0),((HB.out.cell (World.block_lt_of_cell? w _ hw285_1)).trans hw285_1),((HB.out.cell (World.block_lt_of_cell? w _ hw285_2)).trans hw285_2),((HB.out.cell (World.block_lt_of_cell? w _ hw285_3)).trans hw285_3),((HB.out.cell (World.block_lt_of_cell? w _ hw285_4)).trans hw285_4)⟩ (fun hHeld=>?_);clear hK K;refine nA 63 ?_;refine pA 9 67 HT_.out ?_;refine pA 10 68 HT_.out ?_;refine pA 11 69 HT_.out ?_;refine pA 12 70 HT_.out ?_;refine pA 13 71 HT_.out ?_;refine pA 14 72 HT_.out ?_;refine pA 15 73 HT_.out ?_;refine pA 16 74 HT_.out ?_;refine pA 17 75 HT_.out ?_;refine pA 18 76 HT_.out ?_;refine done_ (done_of HT_.out (by kernel_rfl)) ?_;try go_wp2
             go_ret
             exact ⟨zq4,zq97⟩
            have c33b0:decide (t283 < 0)=false:=decide_eq_false c33;clear c33;have H':=sd H;clear H;try go_wp2
            replace BK280:=sd (blk_drew BK280.out);replace HB:=sd (below_drew1 HB.out);have p285:0≤(x7_4:Int):=od;have q285:x7_4 < (l0.length:Int):=od;obtain ⟨ad285,A285_1,c285_1,A285_4,c285_4,e285,hx285_0,hx285_1,hx285_2,hx285_3,hx285_4,hl285_1,hi285_1,hl285_4,hi285_4⟩:=at_T25 HR0.out x7_4 p285 q285;have hw285_4:=hx285_4;have hw285_3:=hx285_3;have hw285_2:=hx285_2;have hw285_1:=hx285_1;have hw285_0:=hx285_0
            cases e285
            replace hx285_0:=(HB.out.cell (World.block_lt_of_cell? w _ hx285_0)).trans hx285_0;replace hx285_1:=(HB.out.cell (World.block_lt_of_cell? w _ hx285_1)).trans hx285_1;replace hx285_2:=(HB.out.cell (World.block_lt_of_cell? w _ hx285_2)).trans hx285_2;replace hx285_3:=(HB.out.cell (World.block_lt_of_cell? w _ hx285_3)).trans hx285_3;replace hx285_4:=(HB.out.cell (World.block_lt_of_cell? w _ hx285_4)).trans hx285_4;have HR285_1:=sd hi285_1;have HC285_1:=sd hl285_1;clear hi285_1 hl285_1;have HR285_4:=sd hi285_4;have HC285_4:=sd hl285_4;clear hi285_4 hl285_4;replace p285:=eq_true p285;replace q285:=eq_true q285;refine start_ (n:=19) (S:=fun w'=>w'.cell? ⟨gb280,0,none⟩=some (.int .i64 a1_0)∧w'.cell? ⟨gb280,1,none⟩=some (.int .i64 a1_1)∧w'.cell? ⟨gb280,2,none⟩=some (.string a1_2)∧w'.cell? ⟨gb280,3,none⟩=some (.string a1_3)∧w'.cell? (ad285.add ((x7_4).toNat * 5))=some (.string ((rd_T25 l0 x7_4).f0))∧w'.cell? ⟨(ad285.add ((x7_4).toNat * 5)).block,(ad285.add ((x7_4).toNat * 5)).off+1,none⟩=some (.slice A285_1 ((rd_T25 l0 x7_4).f1).length c285_1)∧w'.cell? ⟨(ad285.add ((x7_4).toNat * 5)).block,(ad285.add ((x7_4).toNat * 5)).off+2,none⟩=some (.string ((rd_T25 l0 x7_4).f2))∧w'.cell? ⟨(ad285.add ((x7_4).toNat * 5)).block,(ad285.add ((x7_4).toNat * 5)).off+3,none⟩=some (.string ((rd_T25 l0 x7_4).f3))∧w'.cell? ⟨(ad285.add ((x7_4).toNat * 5)).block,(ad285.add ((x7_4).toNat * 5)).off+4,none⟩=some (.slice A285_4 ((rd_T25 l0 x7_4).f4).length c285_4)) (ds:=[]) #[false,false,false,false,false,false,false,false,false,false,false,false,false,false,false,false,false,false,false] (by kernel_rfl) rfl rfl ⟨(blk_cell BK280.out 0).trans rfl,(blk_cell BK280.out 1).trans rfl,(blk_cell BK280.out 2).trans rfl,(blk_cell BK280.out 3).trans rfl,((HB.out.cell (World.block_lt_of_cell? w _ hw285_0)).trans hw285_0),((HB.out.cell (World.block_lt_of_cell? w _ hw285_1)).trans hw285_1),((HB.out.cell (World.block_lt_of_cell? w _ hw285_2)).trans hw285_2),((HB.out.cell (World.block_lt_of_cell? w _ hw285_3)).trans hw285_3),((HB.out.cell (World.block_lt_of_cell? w _ hw285_4)).trans hw285_4)⟩ (fun hHeld=>?_);refine with_tabW lw48_RulesFirst.tab14 lw48_RulesFirst.bits14 (fun HT_ HW_=>?_);generalize wr.drew=w36 at BK280 HB HR285_1 HR285_4 hx285_0 hx285_1 hx285_2 hx285_3 hx285_4 hHeld ⊢;refine pA 0 58 HT_.out ?_;refine pA 1 59 HT_.out ?_;refine pA 2 60 HT_.out ?_;refine pA 6 64 HT_.out ?_;refine pA 7 65 HT_.out ?_;refine pA 8 66 HT_.out ?_;refine tA 3 61 HT_.out HW_.out hHeld ?_;refine tA 4 62 HT_.out HW_.out hHeld ?_;refine one_ (i:=5) (N:=some 63) #[true,true,true,true,true,true,true,true,true,false,false,false,false,false,false,false,false,false,false] rfl rfl (one_of HT_.out (by kernel_rfl)) (by decide) (fun K hK=>?_);refine goes_ Tryz.func12 (by kernel_rfl) rfl #[.agg #[.string ((rd_T25 l0 x7_4).f0),.slice A285_1 ((rd_T25 l0 x7_4).f1).length c285_1,.string ((rd_T25 l0 x7_4).f2),.string ((rd_T25 l0 x7_4).f3),.slice A285_4 ((rd_T25 l0 x7_4).f4).length c285_4],.agg #[.int .i64 a1_0,.int .i64 a1_1,.string a1_2,.string a1_3]] (by rfl) rfl rfl zq34 ?_;with_reducible refine (rules_Holds.calls k4 ((rd_T25 l0 x7_4).f0) _ _ ((rd_T25 l0 x7_4).f1) ((rd_T25 l0 x7_4).f2) ((rd_T25 l0 x7_4).f3) _ _ ((rd_T25 l0 x7_4).f4) a1_0 a1_1 a1_2 a1_3 t286 _ ?side1 ?side2 ?side3 ?side4 A28.out (gl_below HG.out zq98)).mono ?_
            (case side1=>exact zq100)
            (case side2=>exact HC285_1.out)
            (case side3=>exact zq101)
            (case side4=>exact HC285_4.out)
            rintro e w37 ⟨rfl,hb⟩;refine ⟨_,rfl,?_⟩;replace BK280:=bkm BK280 hb;replace HB:=hbm HB hb;clear hb;refine hK.out _ _ ⟨(blk_cell BK280.out 0).trans rfl,(blk_cell BK280.out 1).trans rfl,(blk_cell BK280.out 2).trans rfl,(blk_cell BK280.out 3).trans rfl,((HB.out.cell (World.block_lt_of_cell? w _ hw285_0)).trans hw285_0),((HB.out.cell (World.block_lt_of_cell? w _ hw285_1)).trans hw285_1),((HB.out.cell (World.block_lt_of_cell? w _ hw285_2)).trans hw285_2),((HB.out.cell (World.block_lt_of_cell? w _ hw285_3)).trans hw285_3),((HB.out.cell (World.block_lt_of_cell? w _ hw285_4)).trans hw285_4)⟩ (fun hHeld=>?_);clear hK K;refine nA 63 ?_;refine pA 9 67 HT_.out ?_;refine pA 10 68 HT_.out ?_;refine pA 11 69 HT_.out ?_;refine pA 12 70 HT_.out ?_;refine pA 13 71 HT_.out ?_;refine pA 14 72 HT_.out ?_;refine pA 15 73 HT_.out ?_;refine pA 16 74 HT_.out ?_;refine pA 17 75 HT_.out ?_;refine pA 18 76 HT_.out ?_;refine done_ (done_of HT_.out (by kernel_rfl)) ?_;try go_wp2
            go_roundg k4
            case measure=>have:=HJ2.out;have:=HK2.out;have:=HJ16.out;have:=HK4.out;omega
            case rel=>exact ⟨(wrap64 (x7_4+1)),zq7,H',⟨by have:=HJ2.out;have:=HK2.out;have:=HJ16.out;have:=HK4.out;omega⟩,⟨zq96⟩,⟨zq97⟩⟩
           have c29b0:(t286 != (x7_4 == t283))=false:=by simpa using c29
           (try (have c29b1:decide (t286=(x7_4 == t283))=true:=by simpa using c29))
           (try (have c29b2:(t286 == (x7_4 == t283))=true:=by simpa using c29))
           clear c29;have H':=sd H;clear H;try go_wp2
           replace BK280:=sd (blk_drew BK280.out);replace HB:=sd (below_drew1 HB.out);have p285:0≤(x7_4:Int):=od;have q285:x7_4 < (l0.length:Int):=od;obtain ⟨ad285,A285_1,c285_1,A285_4,c285_4,e285,hx285_0,hx285_1,hx285_2,hx285_3,hx285_4,hl285_1,hi285_1,hl285_4,hi285_4⟩:=at_T25 HR0.out x7_4 p285 q285;have hw285_4:=hx285_4;have hw285_3:=hx285_3;have hw285_2:=hx285_2;have hw285_1:=hx285_1;have hw285_0:=hx285_0
           cases e285
           replace hx285_0:=(HB.out.cell (World.block_lt_of_cell? w _ hx285_0)).trans hx285_0;replace hx285_1:=(HB.out.cell (World.block_lt_of_cell? w _ hx285_1)).trans hx285_1;replace hx285_2:=(HB.out.cell (World.block_lt_of_cell? w _ hx285_2)).trans hx285_2;replace hx285_3:=(HB.out.cell (World.block_lt_of_cell? w _ hx285_3)).trans hx285_3;replace hx285_4:=(HB.out.cell (World.block_lt_of_cell? w _ hx285_4)).trans hx285_4;have HR285_1:=sd hi285_1;have HC285_1:=sd hl285_1;clear hi285_1 hl285_1;have HR285_4:=sd hi285_4;have HC285_4:=sd hl285_4;clear hi285_4 hl285_4;replace p285:=eq_true p285;replace q285:=eq_true q285;refine start_ (n:=19) (S:=fun w'=>w'.cell? ⟨gb280,0,none⟩=some (.int .i64 a1_0)∧w'.cell? ⟨gb280,1,none⟩=some (.int .i64 a1_1)∧w'.cell? ⟨gb280,2,none⟩=some (.string a1_2)∧w'.cell? ⟨gb280,3,none⟩=some (.string a1_3)∧w'.cell? (ad285.add ((x7_4).toNat * 5))=some (.string ((rd_T25 l0 x7_4).f0))∧w'.cell? ⟨(ad285.add ((x7_4).toNat * 5)).block,(ad285.add ((x7_4).toNat * 5)).off+1,none⟩=some (.slice A285_1 ((rd_T25 l0 x7_4).f1).length c285_1)∧w'.cell? ⟨(ad285.add ((x7_4).toNat * 5)).block,(ad285.add ((x7_4).toNat * 5)).off+2,none⟩=some (.string ((rd_T25 l0 x7_4).f2))∧w'.cell? ⟨(ad285.add ((x7_4).toNat * 5)).block,(ad285.add ((x7_4).toNat * 5)).off+3,none⟩=some (.string ((rd_T25 l0 x7_4).f3))∧w'.cell? ⟨(ad285.add ((x7_4).toNat * 5)).block,(ad285.add ((x7_4).toNat * 5)).off+4,none⟩=some (.slice A285_4 ((rd_T25 l0 x7_4).f4).length c285_4)) (ds:=[]) #[false,false,false,false,false,false,false,false,false,false,false,false,false,false,false,false,false,false,false] (by kernel_rfl) rfl rfl ⟨(blk_cell BK280.out 0).trans rfl,(blk_cell BK280.out 1).trans rfl,(blk_cell BK280.out 2).trans rfl,(blk_cell BK280.out 3).trans rfl,((HB.out.cell (World.block_lt_of_cell? w _ hw285_0)).trans hw285_0),((HB.out.cell (World.block_lt_of_cell? w _ hw285_1)).trans hw285_1),((HB.out.cell (World.block_lt_of_cell? w _ hw285_2)).trans hw285_2),((HB.out.cell (World.block_lt_of_cell? w _ hw285_3)).trans hw285_3),((HB.out.cell (World.block_lt_of_cell? w _ hw285_4)).trans hw285_4)⟩ (fun hHeld=>?_);refine with_tabW lw48_RulesFirst.tab14 lw48_RulesFirst.bits14 (fun HT_ HW_=>?_);generalize wr.drew=w38 at BK280 HB HR285_1 HR285_4 hx285_0 hx285_1 hx285_2 hx285_3 hx285_4 hHeld ⊢;refine pA 0 58 HT_.out ?_;refine pA 1 59 HT_.out ?_;refine pA 2 60 HT_.out ?_;refine pA 6 64 HT_.out ?_;refine pA 7 65 HT_.out ?_;refine pA 8 66 HT_.out ?_;refine tA 3 61 HT_.out HW_.out hHeld ?_;refine tA 4 62 HT_.out HW_.out hHeld ?_;refine one_ (i:=5) (N:=some 63) #[true,true,true,true,true,true,true,true,true,false,false,false,false,false,false,false,false,false,false] rfl rfl (one_of HT_.out (by kernel_rfl)) (by decide) (fun K hK=>?_);refine goes_ Tryz.func12 (by kernel_rfl) rfl #[.agg #[.string ((rd_T25 l0 x7_4).f0),.slice A285_1 ((rd_T25 l0 x7_4).f1).length c285_1,.string ((rd_T25 l0 x7_4).f2),.string ((rd_T25 l0 x7_4).f3),.slice A285_4 ((rd_T25 l0 x7_4).f4).length c285_4],.agg #[.int .i64 a1_0,.int .i64 a1_1,.string a1_2,.string a1_3]] (by rfl) rfl rfl zq34 ?_;with_reducible refine (rules_Holds.calls k4 ((rd_T25 l0 x7_4).f0) _ _ ((rd_T25 l0 x7_4).f1) ((rd_T25 l0 x7_4).f2) ((rd_T25 l0 x7_4).f3) _ _ ((rd_T25 l0 x7_4).f4) a1_0 a1_1 a1_2 a1_3 t286 _ ?side1 ?side2 ?side3 ?side4 A28.out (gl_below HG.out zq98)).mono ?_
           (case side1=>exact zq100)
           (case side2=>exact HC285_1.out)
           (case side3=>exact zq101)
           (case side4=>exact HC285_4.out)
           rintro e w39 ⟨rfl,hb⟩;refine ⟨_,rfl,?_⟩;replace BK280:=bkm BK280 hb;replace HB:=hbm HB hb;clear hb;refine hK.out _ _ ⟨(blk_cell BK280.out 0).trans rfl,(blk_cell BK280.out 1).trans rfl,(blk_cell BK280.out 2).trans rfl,(blk_cell BK280.out 3).trans rfl,((HB.out.cell (World.block_lt_of_cell? w _ hw285_0)).trans hw285_0),((HB.out.cell (World.block_lt_of_cell? w _ hw285_1)).trans hw285_1),((HB.out.cell (World.block_lt_of_cell? w _ hw285_2)).trans hw285_2),((HB.out.cell (World.block_lt_of_cell? w _ hw285_3)).trans hw285_3),((HB.out.cell (World.block_lt_of_cell? w _ hw285_4)).trans hw285_4)⟩ (fun hHeld=>?_);clear hK K;refine nA 63 ?_;refine pA 9 67 HT_.out ?_;refine pA 10 68 HT_.out ?_;refine oA 11 69 HT_.out ?_;refine oA 12 70 HT_.out ?_;refine oA 13 71 HT_.out ?_;refine oA 14 72 HT_.out ?_;refine oA 15 73 HT_.out ?_;refine oA 16 74 HT_.out ?_;refine oA 17 75 HT_.out ?_;refine pA 18 76 HT_.out ?_;refine done_ (done_of HT_.out (by kernel_rfl)) ?_;try go_wp2
           go_roundg k4
           case measure=>have:=HJ2.out;have:=HK2.out;have:=HJ16.out;have:=HK4.out;omega
           case rel=>exact ⟨(wrap64 (x7_4+1)),zq7,H',⟨by have:=HJ2.out;have:=HK2.out;have:=HJ16.out;have:=HK4.out;omega⟩,⟨zq96⟩,⟨zq97⟩⟩
          exact absurd H (by simp)
         have c26b0:decide (x7_4 < (l0.length:Int))=false:=decide_eq_false c26;clear c26;replace H:=bdI H;obtain ⟨t287,A40,H⟩:=H;(try dsimp only at H)
         obtain rfl:=Option.some.inj H;go_wp2_with (first | ((with_reducible refine gate_callee (f:=11) rfl ?_);refine gL 77 Tryz.func11 #[] ?_;(with_reducible refine (lw48_lives.calls  t287 _ A40.out (gl_below HG.out zq98)).mono ?_);rintro e w41 ⟨rfl,hb⟩;refine ⟨_,rfl,?_⟩;replace BK280:=bkm BK280 hb;replace HB:=hbm HB hb;clear hb))
         go_ret
         exact ⟨zq4,zq97⟩
end Go.Proofs.YtkbgkekegjfkfaaGreatDoor.A
namespace Go.Proofs.YtkbgkekegjfkfaaGreatDoor.B
open Go.Deep Go.ChangeShapes Go.WideShapes Go.ChangeAt Go.Joins WW
theorem Opens.arg {α:Type} {P:Program} {t e:TypeId} {d:Kd α} {G:List α→Prop} (h:Opens P t (Kd.slice e d) G) (ht:P.underlying t=some (.slice e)) {H:Type} {enc:TypeId×Value→H} {W:World} {base b0:Nat} {spare:Nat→Bool} {held:Bool} {r:Reach} {v:Value} {y:DataW H} {p:List MemPlace}
    (hv:Value.okWide P W r b0 t v) (hh:DataW.Trod enc P W base spare held t v y p) (hw:∀ x∈y.weights P t,x≤reachBytes):∃ (A:Option Addr) (c:Nat) (xs:List α),v=.slice A xs.length c∧xs.length≤c∧Kd.C d W A xs.length xs∧G xs:=by
  obtain ⟨a,len,cap,rfl⟩:=okWide_slice ht hv;obtain ⟨n,hn⟩:=hh;obtain ⟨xs,⟨A,c,he,hl,hC⟩,hG⟩:=h.get hn hw
  have he':Value.slice a len cap=.slice A xs.length c:=by
    have h2:(Value.slice a len cap).cells.toList=[.slice a len cap]:=rfl;rw [h2] at he;exact List.head_eq_of_cons_eq he
  exact ⟨A,c,xs,he',hl,hC,hG⟩
end Go.Proofs.YtkbgkekegjfkfaaGreatDoor.B
namespace Go.Proofs.YtkbgkekegjfkfaaGreatDoor.A
open Go.ChangeShapes Go.WideShapes Go.ChangeAt Go.Joins Go.RowKit B WW
set_option maxRecDepth 100000 in
theorem opens_rule25:Opens Tryz.prog 25 k25 (fun x=>GRule (x.f0,x.f1,x.f2,x.f3,x.f4)) :=
  Opens.iso opens_rule (fun x:S25=>(x.f0,x.f1,x.f2,x.f3,x.f4)) (fun p=>⟨p.1,p.2.1,p.2.2.1,p.2.2.2.1,p.2.2.2.2⟩) (fun _=>rfl) (fun _ h=>h)
set_option maxRecDepth 100000 in
theorem open_rules {H:Type} {enc:TypeId×Value→H} {W:World} {base b0:Nat} {spare:Nat→Bool} {held:Bool} {r:Reach} {v:Value} {y:DataW H} {p:List MemPlace}
    (hv:Value.okWide Tryz.prog W r b0 34 v) (hh:DataW.Trod enc Tryz.prog W base spare held 34 v y p) (hw:∀ x∈y.weights Tryz.prog 34,x≤reachBytes) :
    ∃ (a:Option Addr) (c:Nat) (xs:List S25),v=.slice a xs.length c∧xs.length≤c∧Kd.C k25 W a xs.length xs ∧
      ∀ x∈xs,((x.f0.size≤140737488351232∧x.f2.size≤140737488351232∧x.f3.size≤140737488351232)∧(∀ q∈x.f1,q.f2.size≤140737488351232)∧∀ q∈x.f4,q.f0.size≤140737488351232∧q.f1.size≤140737488351232):=by
  obtain ⟨a,c,xs,h1,h2,h3,h4,_⟩:=(Opens.slice (by kernel_rfl) (by kernel_rfl) opens_rule25).arg (by kernel_rfl) hv hh hw
  exact ⟨a,c,xs,h1,h2,h3,fun x hx=>by
    obtain ⟨g1,⟨g2,_,_⟩,g3,g4,g5,_,_⟩:=h4 x hx;exact ⟨⟨g1,g3,g4⟩,fun q hq=>(g2 q hq).2.2.1,g5⟩⟩
end Go.Proofs.YtkbgkekegjfkfaaGreatDoor.A
