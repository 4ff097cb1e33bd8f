-- By pack.py, a program of this session's.
import Derived.Handed
import Derived.Shelf.Vars
import Derived.Test.YtlblkojjpagbkaaDoorZ8
import Derived.Test.YtlblkojjpagbkaaDoorZ14
import Derived.Test.YtlblkojjpagbkaaDoorZ15
import Derived.Test.YtlblkojjpagbkaaDoorZ16
set_option linter.unusedVariables false
set_option linter.unusedSimpArgs false
namespace Go.Proofs.YtlblkojjpagbkaaDoor
namespace A
open Go.RowKit B WW WL WM
attribute [local go_sem] max2_int min2_int max_two min_two max_three min_three max_four min_four
set_option maxHeartbeats 8000000
set_option maxRecDepth 100000
mutual
def lw48_large.j0:Nat→Bool→ByteArray→List (S27)→ByteArray→ByteArray→List (S35)→Option (Bool)
|0,_,_,_,_,_,_=>none
|k+1,x28,x102000,x102001,x102002,x102003,x102004=>if x28=true then (some true) else (lw48_large.l0 k 0 x102000 x102001 x102002 x102003 x102004)
def lw48_large.l0:Nat→Int→ByteArray→List (S27)→ByteArray→ByteArray→List (S35)→Option (Bool)
|0,_,_,_,_,_,_=>none
|k+1,x3,x102000,x102001,x102002,x102003,x102004=>if x3 < (x102001.length:Int) then (if 0≤x3 then (if (((rd_T27 x102001 x3).f2).size:Int) > 400 then (some true) else (lw48_large.l0 k (wrap64 (x3+1)) x102000 x102001 x102002 x102003 x102004)) else (none)) else (lw48_large.l1 k 0 x102000 x102001 x102002 x102003 x102004)
def lw48_large.l1:Nat→Int→ByteArray→List (S27)→ByteArray→ByteArray→List (S35)→Option (Bool)
|0,_,_,_,_,_,_=>none
|k+1,x4,x102000,x102001,x102002,x102003,x102004=>if x4 < (x102004.length:Int) then (if 0≤x4 then (if (wrap64 ((((rd_T35 x102004 x4).f0).size:Int)+(((rd_T35 x102004 x4).f1).size:Int))) > 400 then (some true) else (lw48_large.l1 k (wrap64 (x4+1)) x102000 x102001 x102002 x102003 x102004)) else (none)) else (some false)
end
def lw48_large.f (k:Nat) (a0_0:ByteArray) (l0_1:List (S27)) (a0_2:ByteArray) (a0_3:ByteArray) (l0_4:List (S35)):Option (Bool):=if (l0_1.length:Int) > 20 then (lw48_large.j0 k true a0_0 l0_1 a0_2 a0_3 l0_4) else (if (l0_4.length:Int) > 20 then (lw48_large.j0 k true a0_0 l0_1 a0_2 a0_3 l0_4) else (lw48_large.j0 k (decide ((wrap64 ((wrap64 ((a0_0.size:Int)+(a0_2.size:Int)))+(a0_3.size:Int))) > 400)) a0_0 l0_1 a0_2 a0_3 l0_4))
theorem lw48_large.calls (k:Nat) (a0_0:ByteArray) (A0_1:Option Addr) (c0_1:Nat) (l0_1:List (S27)) (a0_2 a0_3:ByteArray) (A0_4:Option Addr) (c0_4:Nat) (l0_4:List (S35)) (r:Bool) (w:World) (hr0_1:Kd.C k27 w A0_1 l0_1.length l0_1) (hc0_1:l0_1.length≤c0_1) (hr0_4:Kd.C k35 w A0_4 l0_4.length l0_4) (hc0_4:l0_4.length≤c0_4) (h:lw48_large.f k a0_0 l0_1 a0_2 a0_3 l0_4=some r) :
  Calls Tryd.prog 4 #[.agg #[.string a0_0,.slice A0_1 l0_1.length c0_1,.string a0_2,.string a0_3,.slice A0_4 l0_4.length c0_4]] w fun e w'=>e=.returned (.bool r)∧Below w.heap.size w w':=by
 have hu25:=Tryd.underlying25;have HR0_1:=sd hr0_1;have HC0_1:=sd hc0_1;clear hr0_1 hc0_1;have HR0_4:=sd hr0_4;have HC0_4:=sd hc0_4;clear hr0_4 hc0_4;have HB:=sd (Below.refl w.heap.size w);have H:=h;clear h;unfold lw48_large.f at H;have HC2:=sd H;clear H;go_enter Tryd.func4,Tryd.ntmps4
 go_upto_region 1 with (first|((with_reducible refine gate_dst (N:=1) rfl ?_);(try (refine gate_guard (by rfl) ?_;dsimp only));refine bxA 1 #[.string a0_0,.slice A0_1 l0_1.length c0_1,.string a0_2,.string a0_3,.slice A0_4 l0_4.length c0_4] 25 ?_;intro gb101 hg w3 hbox hb;have BK101:=sd (hbox);have GW101:=gem hg HB;have GE101:=GW101;replace HB:=hbm HB hb;clear hb hbox hg))
 repeat (go_quiet (first|((with_reducible refine gate_dst (N:=1) rfl ?_);(try (refine gate_guard (by rfl) ?_;dsimp only));refine bxA 1 #[.string a0_0,.slice A0_1 l0_1.length c0_1,.string a0_2,.string a0_3,.slice A0_4 l0_4.length c0_4] 25 ?_;intro gb101 hg w3 hbox hb;have BK101:=sd (hbox);have GW101:=gem hg HB;have GE101:=GW101;replace HB:=hbm HB hb;clear hb hbox hg));go_upto_region 1 with (first|((with_reducible refine gate_dst (N:=1) rfl ?_);(try (refine gate_guard (by rfl) ?_;dsimp only));refine bxA 1 #[.string a0_0,.slice A0_1 l0_1.length c0_1,.string a0_2,.string a0_3,.slice A0_4 l0_4.length c0_4] 25 ?_;intro gb101 hg w3 hbox hb;have BK101:=sd (hbox);have GW101:=gem hg HB;have GE101:=GW101;replace HB:=hbm HB hb;clear hb hbox hg)))
 (try simp only [Act.put,List.setIfInBounds_toArray,List.set_cons_zero,List.set_cons_succ])
 go_cut [28] (fun v28 wc=>∃ (kq:Nat) (x28_1:Bool),v28=.bool x28_1∧Aside0 (lw48_large.j0 kq x28_1 a0_0 l0_1 a0_2 a0_3 l0_4=some r)∧Aside0 (kq≤k)∧Aside0 (wc.heap[gb101]?=some (.cells #[.string a0_0,(.slice A0_1 l0_1.length c0_1),.string a0_2,.string a0_3,(.slice A0_4 l0_4.length c0_4)] 25 (0,0)))∧Aside0 (Below w.heap.size w wc))
 case first =>
  have H:=HC2.out;clear HC2;replace H:=ifI H;rcases H with ⟨c4,H⟩|⟨c4,H⟩
  ·have c4b0:decide (20 < (l0_1.length:Int))=true:=decide_eq_true c4;have c4b1:decide (20 < l0_1.length)=true:=decide_eq_true (by omega);clear c4;(first|rw [c4b0]|(simp only [i64_w,i32_w];rw [c4b0])|skip)
   have H':=sd H;clear H;obtain ⟨_,_,_,_,_,_,_,_,_,_⟩:=bk5 BK101;go_wp2
   repeat (go_quiet (fail);try go_wp2)
   go_meet
   case rel=>exact ⟨_,(true),zq7,H',⟨by first|omega|exact Nat.le_refl _⟩,⟨zq62⟩,⟨zq63⟩⟩
  have c4b0:decide (20 < (l0_1.length:Int))=false:=decide_eq_false c4;have c4b1:decide (20 < l0_1.length)=false:=decide_eq_false (by omega);clear c4;(first|rw [c4b0]|(simp only [i64_w,i32_w];rw [c4b0])|skip)
  replace H:=ifI H;rcases H with ⟨c6,H⟩|⟨c6,H⟩
  ·have c6b0:decide (20 < (l0_4.length:Int))=true:=decide_eq_true c6;have c6b1:decide (20 < l0_4.length)=true:=decide_eq_true (by omega);clear c6;have H':=sd H;clear H;obtain ⟨_,_,_,_,_,_,_,_,_,_⟩:=bk5 BK101;go_wp2
   repeat (go_quiet (fail);try go_wp2)
   go_meet
   case rel=>exact ⟨_,(true),zq7,H',⟨by first|omega|exact Nat.le_refl _⟩,⟨zq62⟩,⟨zq63⟩⟩
  have c6b0:decide (20 < (l0_4.length:Int))=false:=decide_eq_false c6;have c6b1:decide (20 < l0_4.length)=false:=decide_eq_false (by omega);clear c6;have H':=sd H;clear H;obtain ⟨_,_,_,_,_,_,_,_,_,_⟩:=bk5 BK101;go_wp2
  repeat (go_quiet (fail);try go_wp2)
  go_meet
  case rel=>exact ⟨_,(decide ((wrap64 ((wrap64 ((a0_0.size:Int)+(a0_2.size:Int)))+(a0_3.size:Int))) > 400)),zq7,H',⟨by first|omega|exact Nat.le_refl _⟩,⟨zq62⟩,⟨zq63⟩⟩
 case rest =>
  clear HC2;try clear p2
  obtain ⟨kq,x28_1,rfl,HA,HJ1,BK101,HB⟩:=hcut
  cases kq with
 |zero=>exact absurd HA.out (by simp [lw48_large.j0])
 |succ kj1 =>
   have H:=HA.out;clear HA;simp only [lw48_large.j0] at H
   by_cases c9:x28_1=true
   ·subst c9;rw [if_pos rfl] at H;obtain rfl:=Option.some.inj H;go_wp2
    repeat (go_quiet (fail);try go_wp2)
    go_ret
    exact ⟨zq4,zq63⟩
   replace c9:=Bool.eq_false_iff.mpr c9;subst c9;rw [if_neg Bool.false_ne_true] at H;have H':=sd H;clear H;go_wp2
   repeat (go_quiet (fail);try go_wp2)
   go_loopg [3] kj1 (fun kq v3 w'=>∃ (x3_2:Int),v3=.int .i64 x3_2∧Aside0 (lw48_large.l0 kq x3_2 a0_0 l0_1 a0_2 a0_3 l0_4=some r)∧Aside0 (kq≤kj1)∧Aside0 (w'.heap[gb101]?=some (.cells #[.string a0_0,(.slice A0_1 l0_1.length c0_1),.string a0_2,.string a0_3,(.slice A0_4 l0_4.length c0_4)] 25 (0,0)))∧Aside0 (Below w.heap.size w w'))
   case atStart=>exact ⟨(0),zq7,H',⟨Nat.le_refl _⟩,⟨zq62⟩,⟨zq63⟩⟩
   case round =>
    clear H';try clear p2
    obtain ⟨x3_2,rfl,HA,HK2,BK101,HB⟩:=hrel
    cases gk with
   |zero=>exact absurd HA.out (by simp [lw48_large.l0])
   |succ k2 =>
     have H:=HA.out;clear HA;simp only [lw48_large.l0] at H
     replace H:=ifI H;rcases H with ⟨c10,H⟩|⟨c10,H⟩
     ·have c10b0:decide (x3_2 < (l0_1.length:Int))=true:=decide_eq_true c10;clear c10;replace H:=ifI H;rcases H with ⟨c11,H⟩|⟨c11,H⟩
      ·have c11b0:decide (0≤x3_2)=true:=decide_eq_true c11;clear c11;replace H:=ifI H;rcases H with ⟨c12,H⟩|⟨c12,H⟩
       ·have c12b0:decide (400 < (((rd_T27 l0_1 x3_2).f2).size:Int))=true:=decide_eq_true c12;have c12b1:decide (400 < ((rd_T27 l0_1 x3_2).f2).size)=true:=decide_eq_true (by omega);clear c12;obtain rfl:=Option.some.inj H;obtain ⟨_,_,_,_,_,_,_,_,_,_⟩:=bk5 BK101;have p102:0≤(x3_2:Int):=od;have q102:x3_2 < (l0_1.length:Int):=od;obtain ⟨ad102,e102,hx102_0,hx102_1,hx102_2,hx102_3⟩:=at_T27 HR0_1.out x3_2 p102 q102
        cases e102
        replace hx102_0:=(HB.out.cell (World.block_lt_of_cell? w _ hx102_0)).trans hx102_0;replace hx102_1:=(HB.out.cell (World.block_lt_of_cell? w _ hx102_1)).trans hx102_1;replace hx102_2:=(HB.out.cell (World.block_lt_of_cell? w _ hx102_2)).trans hx102_2;replace hx102_3:=(HB.out.cell (World.block_lt_of_cell? w _ hx102_3)).trans hx102_3;replace p102:=eq_true p102;replace q102:=eq_true q102;go_wp2
        repeat (go_quiet (fail);try go_wp2)
        go_ret
        exact ⟨zq4,zq63⟩
       have c12b0:decide (400 < (((rd_T27 l0_1 x3_2).f2).size:Int))=false:=decide_eq_false c12;have c12b1:decide (400 < ((rd_T27 l0_1 x3_2).f2).size)=false:=decide_eq_false (by omega);clear c12;have H':=sd H;clear H;obtain ⟨_,_,_,_,_,_,_,_,_,_⟩:=bk5 BK101;have p102:0≤(x3_2:Int):=od;have q102:x3_2 < (l0_1.length:Int):=od;obtain ⟨ad102,e102,hx102_0,hx102_1,hx102_2,hx102_3⟩:=at_T27 HR0_1.out x3_2 p102 q102
       cases e102
       replace hx102_0:=(HB.out.cell (World.block_lt_of_cell? w _ hx102_0)).trans hx102_0;replace hx102_1:=(HB.out.cell (World.block_lt_of_cell? w _ hx102_1)).trans hx102_1;replace hx102_2:=(HB.out.cell (World.block_lt_of_cell? w _ hx102_2)).trans hx102_2;replace hx102_3:=(HB.out.cell (World.block_lt_of_cell? w _ hx102_3)).trans hx102_3;replace p102:=eq_true p102;replace q102:=eq_true q102;go_wp2
       repeat (go_quiet (fail);try go_wp2)
       go_roundg k2
       case measure=>have:=HJ1.out;have:=HK2.out;omega
       case rel=>exact ⟨(wrap64 (x3_2+1)),zq7,H',⟨zq21⟩,⟨zq62⟩,⟨zq63⟩⟩
      exact absurd H (by simp)
     have c10b0:decide (x3_2 < (l0_1.length:Int))=false:=decide_eq_false c10;clear c10;have H':=sd H;clear H;obtain ⟨_,_,_,_,_,_,_,_,_,_⟩:=bk5 BK101;go_wp2
     repeat (go_quiet (fail);try go_wp2)
     go_loopg [4] k2 (fun kq v4 w'=>∃ (x4_3:Int),v4=.int .i64 x4_3∧Aside0 (lw48_large.l1 kq x4_3 a0_0 l0_1 a0_2 a0_3 l0_4=some r)∧Aside0 (kq≤k2)∧Aside0 (w'.heap[gb101]?=some (.cells #[.string a0_0,(.slice A0_1 l0_1.length c0_1),.string a0_2,.string a0_3,(.slice A0_4 l0_4.length c0_4)] 25 (0,0)))∧Aside0 (Below w.heap.size w w'))
     case atStart=>exact ⟨(0),zq7,H',⟨Nat.le_refl _⟩,⟨zq62⟩,⟨zq63⟩⟩
     case round =>
      clear H';try clear c1
      obtain ⟨x4_3,rfl,HA,HK3,BK101,HB⟩:=hrel
      cases gk with
     |zero=>exact absurd HA.out (by simp [lw48_large.l1])
     |succ k3 =>
       have H:=HA.out;clear HA;simp only [lw48_large.l1] at H
       replace H:=ifI H;rcases H with ⟨c16,H⟩|⟨c16,H⟩
       ·have c16b0:decide (x4_3 < (l0_4.length:Int))=true:=decide_eq_true c16;clear c16;replace H:=ifI H;rcases H with ⟨c17,H⟩|⟨c17,H⟩
        ·have c17b0:decide (0≤x4_3)=true:=decide_eq_true c17;clear c17;replace H:=ifI H;rcases H with ⟨c18,H⟩|⟨c18,H⟩
         ·have c18b0:decide (400 < (wrap64 ((((rd_T35 l0_4 x4_3).f0).size:Int)+(((rd_T35 l0_4 x4_3).f1).size:Int))))=true:=decide_eq_true c18;clear c18;obtain rfl:=Option.some.inj H;obtain ⟨_,_,_,_,_,_,_,_,_,_⟩:=bk5 BK101;have p103:0≤(x4_3:Int):=od;have q103:x4_3 < (l0_4.length:Int):=od;obtain ⟨ad103,e103,hx103_0,hx103_1⟩:=at_T35 HR0_4.out x4_3 p103 q103
          cases e103
          replace hx103_0:=(HB.out.cell (World.block_lt_of_cell? w _ hx103_0)).trans hx103_0;replace hx103_1:=(HB.out.cell (World.block_lt_of_cell? w _ hx103_1)).trans hx103_1;replace p103:=eq_true p103;replace q103:=eq_true q103;have p104:0≤(x4_3:Int):=od;have q104:x4_3 < (l0_4.length:Int):=od;obtain ⟨ad104,e104,hx104_0,hx104_1⟩:=at_T35 HR0_4.out x4_3 p104 q104;obtain rfl:ad103=ad104:=(by injection e104)
          replace hx104_0:=(HB.out.cell (World.block_lt_of_cell? w _ hx104_0)).trans hx104_0;replace hx104_1:=(HB.out.cell (World.block_lt_of_cell? w _ hx104_1)).trans hx104_1;replace p104:=eq_true p104;replace q104:=eq_true q104;go_wp2
          repeat (go_quiet (fail);try go_wp2)
          go_ret
          exact ⟨zq4,zq63⟩
         have c18b0:decide (400 < (wrap64 ((((rd_T35 l0_4 x4_3).f0).size:Int)+(((rd_T35 l0_4 x4_3).f1).size:Int))))=false:=decide_eq_false c18;clear c18;have H':=sd H;clear H;obtain ⟨_,_,_,_,_,_,_,_,_,_⟩:=bk5 BK101;have p103:0≤(x4_3:Int):=od;have q103:x4_3 < (l0_4.length:Int):=od;obtain ⟨ad103,e103,hx103_0,hx103_1⟩:=at_T35 HR0_4.out x4_3 p103 q103
         cases e103
         replace hx103_0:=(HB.out.cell (World.block_lt_of_cell? w _ hx103_0)).trans hx103_0;replace hx103_1:=(HB.out.cell (World.block_lt_of_cell? w _ hx103_1)).trans hx103_1;replace p103:=eq_true p103;replace q103:=eq_true q103;have p104:0≤(x4_3:Int):=od;have q104:x4_3 < (l0_4.length:Int):=od;obtain ⟨ad104,e104,hx104_0,hx104_1⟩:=at_T35 HR0_4.out x4_3 p104 q104;obtain rfl:ad103=ad104:=(by injection e104)
         replace hx104_0:=(HB.out.cell (World.block_lt_of_cell? w _ hx104_0)).trans hx104_0;replace hx104_1:=(HB.out.cell (World.block_lt_of_cell? w _ hx104_1)).trans hx104_1;replace p104:=eq_true p104;replace q104:=eq_true q104;go_wp2
         repeat (go_quiet (fail);try go_wp2)
         go_roundg k3
         case measure=>have:=HJ1.out;have:=HK2.out;have:=HK3.out;omega
         case rel=>exact ⟨(wrap64 (x4_3+1)),zq7,H',⟨by have:=HJ1.out;have:=HK2.out;have:=HK3.out;omega⟩,⟨zq62⟩,⟨zq63⟩⟩
        exact absurd H (by simp)
       have c16b0:decide (x4_3 < (l0_4.length:Int))=false:=decide_eq_false c16;clear c16;obtain rfl:=Option.some.inj H;obtain ⟨_,_,_,_,_,_,_,_,_,_⟩:=bk5 BK101;go_wp2
       repeat (go_quiet (fail);try go_wp2)
       go_ret
       exact ⟨zq4,zq63⟩
def lw48_example.f :Option (ByteArray×(List (S27))×ByteArray×ByteArray×(List (S35))):=some ((⟨#[114,101,110,116]⟩:ByteArray),(([(⟨1,3,(⟨#[]⟩:ByteArray),(-100)⟩:S27),(⟨3,4,(⟨#[114,101,110,116]⟩:ByteArray),0⟩:S27)]:List (S27))),(⟨#[53,49]⟩:ByteArray),(⟨#[112]⟩:ByteArray),(([(⟨(⟨#[100,101,112,116]⟩:ByteArray),(⟨#[120]⟩:ByteArray)⟩:S35)]:List (S35))))
theorem lw48_example.calls  (r1:ByteArray) (r2:List (S27)) (r3:ByteArray) (r4:ByteArray) (r5:List (S35)) (w:World) (h:lw48_example.f =some (r1,r2,r3,r4,r5)) :
  Calls Tryd.prog 10 #[] w fun e w'=>∃ v1_ v4_:Value,e=.returned (.agg #[.string r1,v1_,.string r3,.string r4,v4_])∧Kd.R k27 27 w' w.heap.size (fun _=>True) v1_ r2∧Kd.R k35 35 w' w.heap.size (fun _=>True) v4_ r5∧Below w.heap.size w w':=by
 have hu25:=Tryd.underlying25;have hu27:=Tryd.underlying27;have hu35:=Tryd.underlying35;have HB:=sd (Below.refl w.heap.size w);have H:=h;clear h;unfold lw48_example.f at H;obtain ⟨y174,hy174⟩:∃ y_:List (S27),y_=(([(⟨1,3,(⟨#[]⟩:ByteArray),(-100)⟩:S27),(⟨3,4,(⟨#[114,101,110,116]⟩:ByteArray),0⟩:S27)]:List (S27))):=⟨_,rfl⟩
 replace H:(some ((⟨#[114,101,110,116]⟩:ByteArray),y174,(⟨#[53,49]⟩:ByteArray),(⟨#[112]⟩:ByteArray),(([(⟨(⟨#[100,101,112,116]⟩:ByteArray),(⟨#[120]⟩:ByteArray)⟩:S35)]:List (S35)))))=some (r1,r2,r3,r4,r5):=by first|(rw [hy174];with_reducible exact H)|(have H2_:=(Option.bind_some _ _).symm.trans H;rw [hy174];with_reducible exact H2_)|(have H2_:=(Option.bind_some _ _).symm.trans H;with_reducible exact H2_)|with_reducible exact H|(rw [hy174];exact H)|exact H
 have Ny174:=sd hy174;clear hy174;obtain ⟨y177,hy177⟩:∃ y_:List (S35),y_=(([(⟨(⟨#[100,101,112,116]⟩:ByteArray),(⟨#[120]⟩:ByteArray)⟩:S35)]:List (S35))):=⟨_,rfl⟩
 replace H:(some ((⟨#[114,101,110,116]⟩:ByteArray),y174,(⟨#[53,49]⟩:ByteArray),(⟨#[112]⟩:ByteArray),y177))=some (r1,r2,r3,r4,r5):=by first|(rw [hy177];with_reducible exact H)|(have H2_:=(Option.bind_some _ _).symm.trans H;rw [hy177];with_reducible exact H2_)|(have H2_:=(Option.bind_some _ _).symm.trans H;with_reducible exact H2_)|with_reducible exact H|(rw [hy177];exact H)|exact H
 have Ny177:=sd hy177;clear hy177;simp only [Option.some.injEq,Prod.mk.injEq] at H
 obtain ⟨rfl,rfl,rfl,rfl,rfl⟩:=H;go_enter Tryd.func10,Tryd.ntmps10
 go_wp2_with (first|((with_reducible refine gate_dst (N:=0) rfl ?_);refine bxA 0 #[.string (⟨#[]⟩:ByteArray),.slice none 0 0,.string (⟨#[]⟩:ByteArray),.string (⟨#[]⟩:ByteArray),.slice none 0 0] 25 ?_;intro gb173 hg w1 hbox hb;have BK173:=sd (hbox);have GW173:=gem hg HB;have GE173:=GW173;replace HB:=hbm HB hb;clear hb hbox hg)|((with_reducible refine gate_dst (N:=3) rfl ?_);refine Kd.R_lit k27 _ 27 ?hg (N:=3) ?hd (xs:=([(⟨1,3,(⟨#[]⟩:ByteArray),(-100)⟩:S27),(⟨3,4,(⟨#[114,101,110,116]⟩:ByteArray),0⟩:S27)]:List (S27))) (inner:=[.int .i64 1,.int .i64 3,.string (⟨#[]⟩:ByteArray),.int .i64 (-100),.int .i64 3,.int .i64 4,.string (⟨#[114,101,110,116]⟩:ByteArray),.int .i64 0]) (ok:=fun _=>True) (okp:=fun _=>True) ?hr ?hp (fun _ hk=>hk) trivial (Below.refl _ _) (Nat.le_refl _) (by simp) ?_;(case hd=>rfl);(case hg=>rfl);(case hr=>first|(go_simp;done)|(go_simp;rfl));(case hp=>exact (Reps.c4 (show Kd.M k27 _ _ _ (⟨1,3,(⟨#[]⟩:ByteArray),(-100)⟩:S27) [.int .i64 1,.int .i64 3,.string (⟨#[]⟩:ByteArray),.int .i64 (-100)] from (k27_mkM _ _ _ (⟨1,3,(⟨#[]⟩:ByteArray),(-100)⟩:S27) )) (Reps.c4 (show Kd.M k27 _ _ _ (⟨3,4,(⟨#[114,101,110,116]⟩:ByteArray),0⟩:S27) [.int .i64 3,.int .i64 4,.string (⟨#[114,101,110,116]⟩:ByteArray),.int .i64 0] from (k27_mkM _ _ _ (⟨3,4,(⟨#[114,101,110,116]⟩:ByteArray),0⟩:S27) )) (Reps.none _ _))));intro v175 w2 ho3 hb hg_ hnew_;clear hg_ hnew_;(first|rw [← Ny174.out] at ho3|(simp only [Int.reduceToNat] at ho3;rw [← Ny174.out] at ho3));have HO176:=sd (Kd.R_lower ho3 (below_size zq80));replace BK173:=bkm BK173 hb;replace HB:=hbm HB hb;clear hb ho3)|((with_reducible refine gate_dst (N:=5) rfl ?_);refine Kd.R_lit k35 _ 35 ?hg (N:=5) ?hd (xs:=([(⟨(⟨#[100,101,112,116]⟩:ByteArray),(⟨#[120]⟩:ByteArray)⟩:S35)]:List (S35))) (inner:=[.string (⟨#[100,101,112,116]⟩:ByteArray),.string (⟨#[120]⟩:ByteArray)]) (ok:=fun _=>True) (okp:=fun _=>True) ?hr ?hp (fun _ hk=>hk) trivial (Below.refl _ _) (Nat.le_refl _) (by simp) ?_;(case hd=>rfl);(case hg=>rfl);(case hr=>first|(go_simp;done)|(go_simp;rfl));(case hp=>exact (Reps.c2 (show Kd.M k35 _ _ _ (⟨(⟨#[100,101,112,116]⟩:ByteArray),(⟨#[120]⟩:ByteArray)⟩:S35) [.string (⟨#[100,101,112,116]⟩:ByteArray),.string (⟨#[120]⟩:ByteArray)] from (k35_mkM _ _ _ (⟨(⟨#[100,101,112,116]⟩:ByteArray),(⟨#[120]⟩:ByteArray)⟩:S35) )) (Reps.none _ _)));intro v178 w4 ho5 hb hg_ hnew_;clear hg_ hnew_;(first|rw [← Ny177.out] at ho5|(simp only [Int.reduceToNat] at ho5;rw [← Ny177.out] at ho5));have HO179:=sd (Kd.R_lower ho5 (below_size zq80));replace HO176:=rbm HO176 hb;replace BK173:=bkm BK173 hb;replace HB:=hbm HB hb;clear hb ho5;obtain ⟨Ao6,co6,eo6⟩:=Kd.R_slice HO179.out;subst eo6;obtain ⟨Ao7,co7,eo7⟩:=Kd.R_slice HO176.out;subst eo7;obtain ⟨_,_,_,_,_,_,_,_,_,_⟩:=bk5 BK173))
 refine bodyPost_ret (results_cell_row rfl _ _ gb173 25 #[.string (⟨#[114,101,110,116]⟩:ByteArray),.slice Ao7 y174.length co7,.string (⟨#[53,49]⟩:ByteArray),.string (⟨#[112]⟩:ByteArray),.slice Ao6 y177.length co6] (0,0) _ rfl (by (with_reducible repeat (first|refine blk_drewN ?_ _|refine blk_drew ?_|refine blk_alloc ?_ _));refine blk_put (cs:=#[.string (⟨#[114,101,110,116]⟩:ByteArray),.slice Ao7 y174.length co7,.string (⟨#[53,49]⟩:ByteArray),.string (⟨#[112]⟩:ByteArray),.slice none 0 0]) ?_ 4 _ rfl;(with_reducible repeat (first|refine blk_drewN ?_ _|refine blk_drew ?_|refine blk_alloc ?_ _));refine blk_put (cs:=#[.string (⟨#[114,101,110,116]⟩:ByteArray),.slice Ao7 y174.length co7,.string (⟨#[53,49]⟩:ByteArray),.string (⟨#[]⟩:ByteArray),.slice none 0 0]) ?_ 3 _ rfl;(with_reducible repeat (first|refine blk_drewN ?_ _|refine blk_drew ?_|refine blk_alloc ?_ _));refine blk_put (cs:=#[.string (⟨#[114,101,110,116]⟩:ByteArray),.slice Ao7 y174.length co7,.string (⟨#[]⟩:ByteArray),.string (⟨#[]⟩:ByteArray),.slice none 0 0]) ?_ 2 _ rfl;(with_reducible repeat (first|refine blk_drewN ?_ _|refine blk_drew ?_|refine blk_alloc ?_ _));refine blk_put (cs:=#[.string (⟨#[114,101,110,116]⟩:ByteArray),.slice none 0 0,.string (⟨#[]⟩:ByteArray),.string (⟨#[]⟩:ByteArray),.slice none 0 0]) ?_ 1 _ rfl;(with_reducible repeat (first|refine blk_drewN ?_ _|refine blk_drew ?_|refine blk_alloc ?_ _));refine blk_put (cs:=#[.string (⟨#[]⟩:ByteArray),.slice none 0 0,.string (⟨#[]⟩:ByteArray),.string (⟨#[]⟩:ByteArray),.slice none 0 0]) ?_ 0 _ rfl;(with_reducible repeat (first|refine blk_drewN ?_ _|refine blk_drew ?_|refine blk_alloc ?_ _));exact BK173.out) Tryd.underlying25 rfl (by kernel_rfl)) rfl ?_;exact ⟨_,_,zq4,by (with_reducible repeat (first|apply Kd.R_alloc|apply Kd.R_drewN|apply Kd.R_drew));exact Kd.R_mono (Kd.R_far (p:=⟨gb173,4,none⟩) (Kd.R_far (p:=⟨gb173,3,none⟩) (Kd.R_far (p:=⟨gb173,2,none⟩) (Kd.R_far (p:=⟨gb173,1,none⟩) (Kd.R_far (p:=⟨gb173,0,none⟩) (Kd.R_types HO176.out BK173.out (by decide)) (fun _ hk=>hk.2) (.string (⟨#[114,101,110,116]⟩:ByteArray))) (fun _ hk=>hk.2) (.slice Ao7 y174.length co7)) (fun _ hk=>hk.2) (.string (⟨#[53,49]⟩:ByteArray))) (fun _ hk=>hk.2) (.string (⟨#[112]⟩:ByteArray))) (fun _ hk=>hk.2) (.slice Ao6 y177.length co6)) (fun _ hk=>trivial),by (with_reducible repeat (first|apply Kd.R_alloc|apply Kd.R_drewN|apply Kd.R_drew));exact Kd.R_mono (Kd.R_far (p:=⟨gb173,4,none⟩) (Kd.R_far (p:=⟨gb173,3,none⟩) (Kd.R_far (p:=⟨gb173,2,none⟩) (Kd.R_far (p:=⟨gb173,1,none⟩) (Kd.R_far (p:=⟨gb173,0,none⟩) (Kd.R_types HO179.out BK173.out (by decide)) (fun _ hk=>hk.2) (.string (⟨#[114,101,110,116]⟩:ByteArray))) (fun _ hk=>hk.2) (.slice Ao7 y174.length co7)) (fun _ hk=>hk.2) (.string (⟨#[53,49]⟩:ByteArray))) (fun _ hk=>hk.2) (.string (⟨#[112]⟩:ByteArray))) (fun _ hk=>hk.2) (.slice Ao6 y177.length co6)) (fun _ hk=>trivial),zq80⟩
theorem tail_all (k bd g:Nat) (p:PR) (vC vT vW:Value) (x:S66) (code:Bool) (p':PR) (r:Int) (w:World) (hp:RP w bd g p vC vT vW) (hbd:bd≤w.heap.size) (h5:5≤p.st) (h:moveR k p x code=some (p',r)) :
    Calls Tryd.prog 73 #[.pointer (some ⟨g,0,none⟩),.agg #[.int .i64 x.f0,.string x.f1,.int .i64 x.f2],.bool code] w (StepPost bd g vC vT vW p' r w):=by
  unfold moveR at h;rw [if_neg (by omega),if_neg (by omega),if_neg (by omega),if_neg (by omega),if_neg (by omega)] at h;split at h
  · rename_i e
    split at h
    · rename_i c
      obtain ⟨rfl,rfl⟩:=Prod.mk.inj (Option.some.inj h);exact tail_5 bd g p vC vT vW x code w hp hbd e c.1 c.2
    · cases h
  split at h
  · rename_i e;obtain ⟨rfl,rfl⟩:=Prod.mk.inj (Option.some.inj h);exact tail_6 bd g p vC vT vW x code w hp hbd e
  split at h
  · rename_i e;obtain ⟨rfl,rfl⟩:=Prod.mk.inj (Option.some.inj h);exact tail_7 bd g p vC vT vW x code w hp hbd e
  split at h
  · rename_i e;obtain ⟨rfl,rfl⟩:=Prod.mk.inj (Option.some.inj h);exact tail_8 bd g p vC vT vW x code w hp hbd e
  split at h
  · rename_i e;obtain ⟨rfl,rfl⟩:=Prod.mk.inj (Option.some.inj h);exact tail_9 bd g p vC vT vW x code w hp hbd e
  split at h
  · rename_i e
    split at h
    · rename_i c;obtain ⟨rfl,rfl⟩:=Prod.mk.inj (Option.some.inj h);exact tail_10 bd g p vC vT vW x code w hp hbd e c
    · cases h
  split at h
  · rename_i e;obtain ⟨rfl,rfl⟩:=Prod.mk.inj (Option.some.inj h);exact tail_11 bd g p vC vT vW x code w hp hbd e
  split at h
  · rename_i e
    split at h
    · rename_i c;obtain ⟨rfl,rfl⟩:=Prod.mk.inj (Option.some.inj h);exact tail_12 bd g p vC vT vW x code w hp hbd e c
    · cases h
  split at h
  · rename_i e;obtain ⟨rfl,rfl⟩:=Prod.mk.inj (Option.some.inj h);exact tail_13 bd g p vC vT vW x code w hp hbd e
  · cases h
theorem head_all (k bd g:Nat) (p:PR) (vC vT vW:Value) (x:S66) (code:Bool) (p':PR) (r:Int) (w:World) (hp:RP w bd g p vC vT vW) (hbd:bd≤w.heap.size) (hG:Gl w) (h:moveR k p x code=some (p',r)) :
    Calls Tryd.prog 52 #[.pointer (some ⟨g,0,none⟩),.agg #[.int .i64 x.f0,.string x.f1,.int .i64 x.f2],.bool code] w (StepPost bd g vC vT vW p' r w):=by
  rcases Int.lt_or_le p.st 5 with h5|h5
  · unfold moveR at h
    by_cases e:p.st=0
    · rw [if_pos e] at h;obtain ⟨rfl,rfl⟩:=Prod.mk.inj (Option.some.inj h);exact head_0 bd g p vC vT vW x code w hp hbd e
    rw [if_neg e] at h;by_cases e:p.st=1
    · rw [if_pos e] at h;obtain ⟨rfl,rfl⟩:=Prod.mk.inj (Option.some.inj h);exact head_1 bd g p vC vT vW x code w hp hbd e
    rw [if_neg e] at h;by_cases e:p.st=2
    · rw [if_pos e] at h;obtain ⟨rfl,rfl⟩:=Prod.mk.inj (Option.some.inj h);exact head_2 bd g p vC vT vW x code w hp hbd e
    rw [if_neg e] at h;by_cases e:p.st=3
    · rw [if_pos e] at h
      by_cases c:p.cs.length≤1000000
      · rw [if_pos c] at h;obtain ⟨rfl,rfl⟩:=Prod.mk.inj (Option.some.inj h);exact head_3 bd g p vC vT vW x code w hp hbd e hG c
      rw [if_neg c] at h;cases h
    rw [if_neg e] at h;by_cases e:p.st=4
    · rw [if_pos e] at h
      by_cases c:0 < p.cs.length
      · rw [if_pos c] at h
        obtain ⟨b,hb,h⟩:=Option.bind_eq_some_iff.mp h;obtain ⟨rfl,rfl⟩:=Prod.mk.inj (Option.some.inj h);exact head_4 bd g p vC vT vW x code w hp hbd e hG c k b hb
      rw [if_neg c] at h;cases h
    rw [if_neg e,if_neg (by omega),if_neg (by omega),if_neg (by omega),if_neg (by omega),if_neg (by omega),if_neg (by omega),if_neg (by omega),if_neg (by omega),if_neg (by omega)] at h
    cases h
  · exact head_t bd g p vC vT vW x code p' r w hp hbd h5 (fun W hW hb=>tail_all k bd g p vC vT vW x code p' r W hW hb h5 h)
theorem read_calls (k bd g:Nat) (p:PR) (vC vT vW:Value) (x:S66) (p':PR) (r:Int) (w:World) (hp:RP w bd g p vC vT vW) (hbd:bd≤w.heap.size) (hG:Gl w) (h:moveR k p x (codeX x)=some (p',r)) :
    Calls Tryd.prog 32 #[.pointer (some ⟨g,0,none⟩),.agg #[.int .i64 x.f0,.string x.f1,.int .i64 x.f2]] w (ReadPost bd g vC vT vW p' r w):=by
  have HP:=sd hp;have HF:=sd (FP.refl bd g vC vT vW w);have HG:=sd hG;have HH:=sd h;clear hp hG h;generalize hQ:ReadPost bd g vC vT vW p' r w=Post;have HQ:=sd hQ;clear hQ;go_enter Tryd.func32,Tryd.ntmps32
  go_upto_region 1 with (fail)
  have hB1:=below_alloc (Below.refl w.heap.size w) (Obj.cells #[Value.int IntKind.i64 x.f0,Value.string x.f1,Value.int IntKind.i64 x.f2] 66);have b0:(w.alloc (Obj.cells #[Value.int IntKind.i64 x.f0,Value.string x.f1,Value.int IntKind.i64 x.f2] 66)).heap[w.heap.size]?=some (.cells #[Value.int IntKind.i64 x.f0,Value.string x.f1,Value.int IntKind.i64 x.f2] 66 (0,0)):=blk_new _ _;replace HP:=sd (HP.out.below hB1);replace HF:=sd (HF.out.below hB1 hbd);replace HG:=sd (gl_below HG.out hB1);generalize w.alloc (Obj.cells #[Value.int IntKind.i64 x.f0,Value.string x.f1,Value.int IntKind.i64 x.f2] 66)=w1 at *;obtain ⟨gw,hgw⟩:∃ gw,gw=w.heap.size:=⟨_,rfl⟩
  rw [← hgw] at b0 ⊢;have BW:=sd b0;clear b0 hB1 hgw;obtain ⟨w0_,w1_,w2_,_,_,_⟩:=bk3 BW;by_cases e1:x.f0=1
  · obtain ⟨q1,q1_⟩:=eqI e1
    have hcx:codeX x=true:=decide_eq_true (Or.inl e1);rw [hcx] at HH;clear hcx e1;go_wp2_with fail
    refine (head_all k bd g p vC vT vW x _ p' r w1 HP.out (below_base HF.out.b hbd) HG.out HH.out).mono ?_;rintro e wn ⟨rfl,⟨vC',vT',vW',hp2⟩,hf2⟩;replace HF:=sd (HF.out.trans hf2);have HP2:=sd hp2;clear hf2 hp2 w0_ w1_ w2_;obtain ⟨⟨k0,k1,k2,k3,k4,k5,k6⟩,f0,f1,f2,f3,f4,f5,f6⟩:=HP2.out.facts;go_wp2_with fail
    rw [← HQ.out];exact ⟨by (try rfl),⟨_,_,_,HP2.out.set 5 (.int .i64 r) { p' with st:=r } rfl rfl rfl rfl⟩,FP.set (o:=5) HF.out HP2.out.hbd (.int .i64 r)⟩
  obtain ⟨q1,q1_⟩:=neI e1;by_cases e2:x.f0=2
  · obtain ⟨q2,q2_⟩:=eqI e2
    have hcx:codeX x=true:=decide_eq_true (Or.inr e2);rw [hcx] at HH;clear hcx e1 e2;go_wp2_with fail
    refine (head_all k bd g p vC vT vW x _ p' r w1 HP.out (below_base HF.out.b hbd) HG.out HH.out).mono ?_;rintro e wn ⟨rfl,⟨vC',vT',vW',hp2⟩,hf2⟩;replace HF:=sd (HF.out.trans hf2);have HP2:=sd hp2;clear hf2 hp2 w0_ w1_ w2_;obtain ⟨⟨k0,k1,k2,k3,k4,k5,k6⟩,f0,f1,f2,f3,f4,f5,f6⟩:=HP2.out.facts;go_wp2_with fail
    rw [← HQ.out];exact ⟨by (try rfl),⟨_,_,_,HP2.out.set 5 (.int .i64 r) { p' with st:=r } rfl rfl rfl rfl⟩,FP.set (o:=5) HF.out HP2.out.hbd (.int .i64 r)⟩
  obtain ⟨q2,q2_⟩:=neI e2;have hcx:codeX x=false:=decide_eq_false (fun h=>h.elim e1 e2);rw [hcx] at HH;clear hcx e1 e2;go_wp2_with fail
  refine (head_all k bd g p vC vT vW x _ p' r w1 HP.out (below_base HF.out.b hbd) HG.out HH.out).mono ?_;rintro e wn ⟨rfl,⟨vC',vT',vW',hp2⟩,hf2⟩;replace HF:=sd (HF.out.trans hf2);have HP2:=sd hp2;clear hf2 hp2 w0_ w1_ w2_;obtain ⟨⟨k0,k1,k2,k3,k4,k5,k6⟩,f0,f1,f2,f3,f4,f5,f6⟩:=HP2.out.facts;go_wp2_with fail
  rw [← HQ.out];exact ⟨by (try rfl),⟨_,_,_,HP2.out.set 5 (.int .i64 r) { p' with st:=r } rfl rfl rfl rfl⟩,FP.set (o:=5) HF.out HP2.out.hbd (.int .i64 r)⟩
abbrev RRes:=ByteArray×List S27×ByteArray×ByteArray×List S35×Int×Int
def noR (a e:Int):RRes:=(⟨#[]⟩,[],⟨#[]⟩,⟨#[]⟩,[],a,e)
def rules_Parse.f (k:Nat) (s:ByteArray):Option RRes :=
  (words_Cut.f k s).bind fun c=>if c.2.2=0 then (parL k c.1 pr0).bind fun y =>
    if y.2.2=0 then (if y.1.st=8∨y.1.st=13 then (if 0 < y.1.cs.length∧y.1.ws.length≤1000000 then (valL k y.1.ws 0 y.1.cs).bind fun v =>
      if v.2.2=0 then (rules_Check.f k y.1.nm v.1 y.1.acc y.1.par y.1.tg).bind fun e=>if e=0 then some (y.1.nm,v.1,y.1.acc,y.1.par,y.1.tg,0,0) else some (noR 0 e) else some (noR v.2.1 v.2.2) else none)
    else some (noR (s.size:Int) 27)) else some (noR y.2.1 y.2.2) else some (noR c.2.1 c.2.2)
def lw48_RulesNarrow.j0:Nat→Bool→ByteArray→List (S27)→ByteArray→ByteArray→List (S35)→Int→Int→ByteArray→Int→Int→Int→ByteArray→ByteArray→Option (Bool)
|0,_,_,_,_,_,_,_,_,_,_,_,_,_,_=>none
|k+1,x33,x227000,x227001,x227002,x227003,x227004,x228000,x228001,x228002,x228003,x229000,x229001,x229002,x229003=>if x33=true then (some true) else ((some (([]:List (S27)):List (S27))).bind fun y231=>(if y231.length+x227001.length < 3518437208883 then ((some (y231++x227001:List (S27))).bind fun y234=>((some (([(⟨x228000,x228001,x228002,x228003⟩:S27)]:List (S27)):List (S27))).bind fun y237=>(if y234.length+y237.length < 3518437208883 then ((rules_Holds.f k x227000 (y234++y237) x227002 x227003 x227004 x229000 x229001 x229002 x229003).bind fun t243=>(if t243=true then ((rules_Holds.f k x227000 x227001 x227002 x227003 x227004 x229000 x229001 x229002 x229003).bind fun t244=>(if t244=true then ((lw48_lives.f).bind fun t245=>(some t245)) else (some false))) else ((lw48_lives.f).bind fun t246=>(some t246)))) else (none)))) else (none)))
def lw48_RulesNarrow.f (k:Nat) (a0_0:ByteArray) (l0_1:List (S27)) (a0_2:ByteArray) (a0_3:ByteArray) (l0_4:List (S35)) (a1_0:Int) (a1_1:Int) (a1_2:ByteArray) (a1_3:Int) (a2_0:Int) (a2_1:Int) (a2_2:ByteArray) (a2_3:ByteArray):Option (Bool):=(lw48_large.f k a0_0 l0_1 a0_2 a0_3 l0_4).bind fun t229=>(if t229=true then (lw48_RulesNarrow.j0 k true a0_0 l0_1 a0_2 a0_3 l0_4 a1_0 a1_1 a1_2 a1_3 a2_0 a2_1 a2_2 a2_3) else (if (a2_2.size:Int) > 400 then (lw48_RulesNarrow.j0 k true a0_0 l0_1 a0_2 a0_3 l0_4 a1_0 a1_1 a1_2 a1_3 a2_0 a2_1 a2_2 a2_3) else (if (a2_3.size:Int) > 400 then (lw48_RulesNarrow.j0 k true a0_0 l0_1 a0_2 a0_3 l0_4 a1_0 a1_1 a1_2 a1_3 a2_0 a2_1 a2_2 a2_3) else (if (a1_2.size:Int) > 400 then (lw48_RulesNarrow.j0 k true a0_0 l0_1 a0_2 a0_3 l0_4 a1_0 a1_1 a1_2 a1_3 a2_0 a2_1 a2_2 a2_3) else (lw48_RulesNarrow.j0 k ((l0_1.length:Int) == 0) a0_0 l0_1 a0_2 a0_3 l0_4 a1_0 a1_1 a1_2 a1_3 a2_0 a2_1 a2_2 a2_3)))))
theorem lw48_RulesNarrow.tab4:rtab .any (opsOf Tryd.f3 4)=lw48_RulesNarrow.T4:=by kernel_rfl
end A
namespace B
open Go.Deep Go.ChangeShapes Go.WideShapes Go.ChangeAt Go.Joins WW
theorem weights_mem_all {H:Type} {P:Program} {e:TypeId} {l:List (DataW H)} {d:DataW H} (h:d∈l) {x:Nat} (hx:x∈d.weights P e):x∈DataW.weightsAll P e l:=by
  induction l with
 |nil=>cases h
 |cons a l ih =>
    rw [DataW.weightsAll];rcases List.mem_cons.mp h with rfl|h
    · exact List.mem_append_left _ hx
    · exact List.mem_append_right _ (ih h)
structure Opens {α:Type} (P:Program) (t:TypeId) (d:Kd α) (G:α→Prop):Prop where
  size:P.cellsOf t=d.sz
  get:∀ {H:Type} {enc:TypeId×Value→H} {W:World} {base:Nat} {spare:Nat→Bool} {held:Bool} {n:Nat} {cs:List Value} {y:DataW H×List MemPlace},DataW.trod enc P W base spare held n t cs=some y→(∀ x∈y.1.weights P t,x≤reachBytes)→∃ a,d.K W a cs∧G a
theorem Opens.int {P:Program} {t:TypeId} {k:IntKind} (ht:P.underlying t=some (.int k)) (hc:P.cellsOf t=1):Opens P t (Kd.int k) (fun x=>(Lit.int k x).wf=true) where
  size:=hc
  get h _:=by
    obtain ⟨x,rfl,_,hw⟩:=DataW.trod_int ht h;exact ⟨x,rfl,hw⟩
theorem Opens.string {P:Program} {t:TypeId} (ht:P.underlying t=some .string) (hc:P.cellsOf t=1):Opens P t Kd.string (fun s=>s.size≤140737488351232) where
  size:=hc
  get h hw:=by
    obtain ⟨x,rfl,rfl,_⟩:=DataW.trod_string ht h;refine ⟨x,rfl,?_⟩;have:=hw x.data.toList.length (by simp [DataW.weights]);rw [data_length] at this;exact this
theorem Opens.iso {α β:Type} {P:Program} {t:TypeId} {d:Kd α} {G:α→Prop} {G':β→Prop} (h:Opens P t d G) (f:β→α) (g:α→β) (hfg:∀ a,f (g a)=a) (hG:∀ a,G a→G' (g a)):Opens P t (Kd.iso d f) G' where
  size:=h.size
  get hh hw:=by
    obtain ⟨a,ha,hg⟩:=h.get hh hw;refine ⟨g a,?_,hG a hg⟩;show d.K _ (f (g a)) _
    rw [hfg];exact ha
theorem Opens.slice {α:Type} {P:Program} {t e:TypeId} {d:Kd α} {G:α→Prop} (ht:P.underlying t=some (.slice e)) (hc:P.cellsOf t=1) (h:Opens P e d G):Opens P t (Kd.slice e d) (fun xs=>(∀ x∈xs,G x)∧xs.length≤maxLen∧xs.length * P.bytesOf e≤140737488351232) where
  size:=hc
  get:=by
    intro H enc W base spare held n cs y hh hw;rcases open_slice ht hh with ⟨rfl,_⟩|⟨a,len,cap,m,n',D,Pl,rfl,_,hlc,hcm,hm,rfl,hel⟩
    · exact ⟨[],⟨none,0,rfl,Nat.le_refl _,rfl,Nat.zero_le _,fun h=>absurd h (Nat.lt_irrefl _)⟩,⟨fun x hx=>(by cases hx),Nat.zero_le _,by simp⟩⟩
    · have hml:len≤m:=by rw [hm];split <;> omega
      have hw1:∀ i,i < len→∀ x∈(D i).weights P e,x≤reachBytes:=by
        intro i hi x hx;refine hw x ?_;show x∈DataW.weights P t (.slice ((List.range len).map D) _)
        rw [DataW.weights,ht];refine List.mem_cons_of_mem _ (List.mem_append_left _ ?_);exact weights_mem_all (List.mem_map.mpr ⟨i,List.mem_range.mpr hi,rfl⟩) hx
      have hw2:len * P.bytesOf e≤140737488351232:=by
        have:=hw ((((List.range len).map D).length+((List.range (m - len)).map fun j=>D (len+j)).length) * P.bytesOf e) (by
          show _∈DataW.weights P t (.slice ((List.range len).map D) _)
          rw [DataW.weights,ht];exact List.mem_cons_self ..)
        rw [List.length_map,List.length_range] at this;exact Nat.le_trans (Nat.mul_le_mul_right _ (Nat.le_add_right _ _)) this
      have key:∀ i,i < len→∃ x:α,∃ cs',W.cells? base (a.add (i * d.sz)) d.sz=some cs'∧d.K W x cs'∧G x:=by
        intro i hi;obtain ⟨cs',h1,h2⟩:=hel i (by omega);obtain ⟨x,hx,hg⟩:=h.get h2 (hw1 i hi);rw [h.size] at h1;exact ⟨x,cs',h1,hx,hg⟩
      have build:∀ k,k≤len→∃ xs:List α,xs.length=k∧∀ j x,xs[j]?=some x→∃ cs',W.cells? base (a.add (j * d.sz)) d.sz=some cs'∧d.K W x cs'∧G x:=by
        intro k;induction k with
       |zero=>intro _;exact ⟨[],rfl,fun j x hj=>by simp at hj⟩
       |succ k ih =>
          intro hk;obtain ⟨xs,hxs,hget⟩:=ih (by omega);obtain ⟨x,hx⟩:=key k (by omega);refine ⟨xs++[x],by rw [List.length_append,hxs];rfl,fun j z hj=>?_⟩;by_cases hjk:j < k
          · rw [List.getElem?_append_left (by omega)] at hj;exact hget j z hj
          · rw [List.getElem?_append_right (by omega)] at hj
            obtain rfl:j=k:=by
              have:=(List.getElem?_eq_some_iff.mp hj).1;rw [List.length_singleton] at this;omega
            rw [hxs,Nat.sub_self] at hj;obtain rfl:x=z:=Option.some.inj hj;exact hx
      obtain ⟨xs,hxs,hget⟩:=build len (Nat.le_refl _);unfold maxLen at hcm;refine ⟨xs,⟨some a,cap,by rw [hxs],by omega,rfl,by omega,fun _=>⟨a,rfl,fun j x hj=>?_⟩⟩,⟨fun x hx=>?_,by unfold maxLen;omega,by rw [hxs];exact hw2⟩⟩
      · obtain ⟨cs',h1,h2,_⟩:=hget j x hj
        refine ⟨cs',d.K_len h2,h2,fun i u hu=>?_⟩;obtain ⟨_,h4,h3⟩:=World.cells?_some h1;have hi:=(List.getElem?_eq_some_iff.mp hu).1;have h5:=h3 i (by omega);rw [← hu,← h5,Deep.add_add]
      · obtain ⟨j,hj⟩:=List.getElem?_of_mem hx
        obtain ⟨_,_,_,hg⟩:=hget j x hj;exact hg
end B
namespace A
open Go.ChangeShapes Go.WideShapes Go.ChangeAt Go.Joins Go.RowKit B WW
abbrev GRule (x:ByteArray×List S27×ByteArray×ByteArray×List S35):Prop :=
  x.1.size≤140737488351232∧((∀ c∈x.2.1,(Lit.int .i64 c.f0).wf=true∧(Lit.int .i64 c.f1).wf=true∧c.f2.size≤140737488351232∧(Lit.int .i64 c.f3).wf=true)∧x.2.1.length≤maxLen∧x.2.1.length * Tryd.prog.bytesOf 27≤140737488351232)∧x.2.2.1.size≤140737488351232∧x.2.2.2.1.size≤140737488351232∧(∀ t∈x.2.2.2.2,t.f0.size≤140737488351232∧t.f1.size≤140737488351232)∧x.2.2.2.2.length≤maxLen∧x.2.2.2.2.length * Tryd.prog.bytesOf 35≤140737488351232
abbrev KLine:=Kd.pair (Kd.int .i64) (Kd.pair (Kd.int .i64) (Kd.pair Kd.string Kd.string))
end A
namespace B
open Go.ChangeShapes
set_option maxRecDepth 100000 in
theorem maxLen_some {W:World} (h:W.ShapedOpen Tryd.prog):∃ m,W.cell? ⟨1,0,none⟩=some (.int .i64 m) :=
  cell_of_shapedOpen_int (t:=3) (zero:=#[.int .i64 0]) h (of_decide_eq_true (by kernel_rfl)) (by kernel_rfl) rfl (by kernel_rfl) (by kernel_rfl) Tryd.underlying3
end B
namespace A
open Go.RowKit B WW WL WM
theorem large_l1 (nm:ByteArray) (cs:List S27) (acc par:ByteArray) (tg:List S35) (hs:∀ x∈tg,x.f0.size≤140737488351232∧x.f1.size≤140737488351232) (hl:tg.length≤1000) (R:List S35):∀ i:Nat,tg.drop i=R→Ev (fun k=>lw48_large.l1 k (i:Int) nm cs acc par tg) (bigT R):=by
  induction R with
 |nil =>
    intro i h;have:=List.drop_eq_nil_iff.mp h;refine Ev.step (fun k=>by rw [lw48_large.l1]) ?_;exact Ev.no (by omega) (Ev.is rfl)
 |cons x r ih =>
    intro i h;obtain ⟨hi,hx,hr⟩:=rd50_at h;have hm:=hs x (List.mem_of_mem_drop (i:=i) (by rw [h];exact List.mem_cons_self));refine Ev.step (fun k=>by rw [lw48_large.l1]) (Ev.yes (by omega) (Ev.yes (by omega) ?_));rw [hx,w_next i (by omega),w_in (by omega),bigT];exact Ev.both (fun e=>Ev.is (by rw [if_pos e])) (fun e=>by rw [if_neg e];exact ih (i+1) hr)
end A

end Go.Proofs.YtlblkojjpagbkaaDoor