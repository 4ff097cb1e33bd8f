-- By pack.py, a program of this session's.
import Derived.Test.YtkbgkekegjfkfaaGreatDoorY17
import Derived.Test.YtkbgkekegjfkfaaGreatDoorY18
import Derived.Test.YtkbgkekegjfkfaaGreatDoorY19
set_option linter.unusedVariables false
set_option linter.unusedSimpArgs false
namespace Go.Proofs.YtkbgkekegjfkfaaGreatDoor.A
open Go.RowKit B WW WL WM
attribute [local go_sem] max2_int min2_int max_two min_two max_three min_three max_four min_four
set_option maxHeartbeats 8000000
set_option maxRecDepth 100000
theorem lw48_large.calls (k:Nat) (a0_0:ByteArray) (A0_1:Option Addr) (c0_1:Nat) (l0_1:List (S48)) (a0_2 a0_3:ByteArray) (A0_4:Option Addr) (c0_4:Nat) (l0_4:List (S50)) (r:Bool) (w:World) (hr0_1:Kd.C k48 w A0_1 l0_1.length l0_1) (hc0_1:l0_1.length≤c0_1) (hr0_4:Kd.C k50 w A0_4 l0_4.length l0_4) (hc0_4:l0_4.length≤c0_4) (h:lw48_large.f k a0_0 l0_1 a0_2 a0_3 l0_4=some r) :
  Calls Tryz.prog 8 #[.agg #[.string a0_0,.slice A0_1 l0_1.length c0_1,.string a0_2,.string a0_3,.slice A0_4 l0_4.length c0_4]] w fun e w'=>e=.returned (.bool r)∧Below w.heap.size w w':=by
 have hu25:=Tryz.underlying25;have HR0_1:=sd hr0_1;have HC0_1:=sd hc0_1;clear hr0_1 hc0_1;have HR0_4:=sd hr0_4;have HC0_4:=sd hc0_4;clear hr0_4 hc0_4;have HB:=sd (Below.refl w.heap.size w);have H:=h;clear h;unfold lw48_large.f at H;have HC2:=sd H;clear H;go_enter Tryz.func8,Tryz.ntmps8
 go_upto_region 1 with (first | ((with_reducible refine gate_dst (N:=1) rfl ?_);(try (refine gate_guard (by rfl) ?_;dsimp only));refine bxA 1 #[.string a0_0,.slice A0_1 l0_1.length c0_1,.string a0_2,.string a0_3,.slice A0_4 l0_4.length c0_4] 25 ?_;intro gb101 hg w3 hbox hb;have BK101:=sd (hbox);have GW101:=gem hg HB;have GE101:=GW101;replace HB:=hbm HB hb;clear hb hbox hg))
 repeat (go_quiet (first | ((with_reducible refine gate_dst (N:=1) rfl ?_);(try (refine gate_guard (by rfl) ?_;dsimp only));refine bxA 1 #[.string a0_0,.slice A0_1 l0_1.length c0_1,.string a0_2,.string a0_3,.slice A0_4 l0_4.length c0_4] 25 ?_;intro gb101 hg w3 hbox hb;have BK101:=sd (hbox);have GW101:=gem hg HB;have GE101:=GW101;replace HB:=hbm HB hb;clear hb hbox hg));go_upto_region 1 with (first | ((with_reducible refine gate_dst (N:=1) rfl ?_);(try (refine gate_guard (by rfl) ?_;dsimp only));refine bxA 1 #[.string a0_0,.slice A0_1 l0_1.length c0_1,.string a0_2,.string a0_3,.slice A0_4 l0_4.length c0_4] 25 ?_;intro gb101 hg w3 hbox hb;have BK101:=sd (hbox);have GW101:=gem hg HB;have GE101:=GW101;replace HB:=hbm HB hb;clear hb hbox hg)))
 (try simp only [Act.put,List.setIfInBounds_toArray,List.set_cons_zero,List.set_cons_succ])
 go_cut [28] (fun v28 wc=>∃ (kq:Nat) (x28_1:Bool),v28=.bool x28_1∧Aside0 (lw48_large.j0 kq x28_1 a0_0 l0_1 a0_2 a0_3 l0_4=some r)∧Aside0 (kq≤k)∧Aside0 (wc.heap[gb101]?=some (.cells #[.string a0_0,(.slice A0_1 l0_1.length c0_1),.string a0_2,.string a0_3,(.slice A0_4 l0_4.length c0_4)] 25 (0,0)))∧Aside0 (Below w.heap.size w wc))
 case first =>
  have H:=HC2.out;clear HC2;replace H:=ifI H;rcases H with ⟨c4,H⟩ | ⟨c4,H⟩
  ·have c4b0:decide (20 < (l0_1.length:Int))=true:=decide_eq_true c4;have c4b1:decide (20 < l0_1.length)=true:=decide_eq_true (by omega);clear c4;(first | rw [c4b0] | (simp only [i64_w,i32_w];rw [c4b0]) | skip)
   have H':=sd H;clear H;obtain ⟨_,_,_,_,_,_,_,_,_,_⟩:=bk5 BK101;go_wp2
   repeat (go_quiet (fail);try go_wp2)
   go_meet
   case rel=>exact ⟨_,(true),zq7,H',⟨by first | omega | exact Nat.le_refl _⟩,⟨zq93⟩,⟨zq94⟩⟩
  have c4b0:decide (20 < (l0_1.length:Int))=false:=decide_eq_false c4;have c4b1:decide (20 < l0_1.length)=false:=decide_eq_false (by omega);clear c4;(first | rw [c4b0] | (simp only [i64_w,i32_w];rw [c4b0]) | skip)
  replace H:=ifI H;rcases H with ⟨c6,H⟩ | ⟨c6,H⟩
  ·have c6b0:decide (20 < (l0_4.length:Int))=true:=decide_eq_true c6;have c6b1:decide (20 < l0_4.length)=true:=decide_eq_true (by omega);clear c6;have H':=sd H;clear H;obtain ⟨_,_,_,_,_,_,_,_,_,_⟩:=bk5 BK101;go_wp2
   repeat (go_quiet (fail);try go_wp2)
   go_meet
   case rel=>exact ⟨_,(true),zq7,H',⟨by first | omega | exact Nat.le_refl _⟩,⟨zq93⟩,⟨zq94⟩⟩
  have c6b0:decide (20 < (l0_4.length:Int))=false:=decide_eq_false c6;have c6b1:decide (20 < l0_4.length)=false:=decide_eq_false (by omega);clear c6;have H':=sd H;clear H;obtain ⟨_,_,_,_,_,_,_,_,_,_⟩:=bk5 BK101;go_wp2
  repeat (go_quiet (fail);try go_wp2)
  go_meet
  case rel=>exact ⟨_,(decide ((wrap64 ((wrap64 ((a0_0.size:Int)+(a0_2.size:Int)))+(a0_3.size:Int))) > 400)),zq7,H',⟨by first | omega | exact Nat.le_refl _⟩,⟨zq93⟩,⟨zq94⟩⟩
 case rest =>
  clear HC2;try clear p2
  try clear c4
  try clear c4b0
  try clear c4b1
  try clear c6
  try clear c6b0
  try clear c6b1
  try clear p6
  try clear c8
  try clear hcz5_0
  try clear hcz5_1
  try clear hcz5_2
  try clear hcz5_3
  try clear hcz5_4
  try clear hcz7_0
  try clear hcz7_1
  try clear hcz7_2
  try clear hcz7_3
  try clear hcz7_4
  try clear hcz8_0
  try clear hcz8_1
  try clear hcz8_2
  try clear hcz8_3
  try clear hcz8_4
  try clear hfz5_0
  try clear hfz5_1
  try clear hfz5_2
  try clear hfz5_3
  try clear hfz5_4
  try clear hfz7_0
  try clear hfz7_1
  try clear hfz7_2
  try clear hfz7_3
  try clear hfz7_4
  try clear hfz8_0
  try clear hfz8_1
  try clear hfz8_2
  try clear hfz8_3
  try clear hfz8_4
  obtain ⟨kq,x28_1,rfl,HA,HJ1,BK101,HB⟩:=hcut
  cases kq with
  | zero=>exact absurd HA.out (by simp [lw48_large.j0])
  | succ kj1 =>
   have H:=HA.out;clear HA;simp only [lw48_large.j0] at H
   by_cases c9:x28_1=true
   ·subst c9;rw [if_pos rfl] at H;obtain rfl:=Option.some.inj H;go_wp2
    repeat (go_quiet (fail);try go_wp2)
    go_ret
    exact ⟨zq4,zq94⟩
   replace c9:=Bool.eq_false_iff.mpr c9;subst c9;rw [if_neg Bool.false_ne_true] at H;have H':=sd H;clear H;go_wp2
   repeat (go_quiet (fail);try go_wp2)
   go_loopg [3] kj1 (fun kq v3 w'=>∃ (x3_2:Int),v3=.int .i64 x3_2∧Aside0 (lw48_large.l0 kq x3_2 a0_0 l0_1 a0_2 a0_3 l0_4=some r)∧Aside0 (kq≤kj1)∧Aside0 (w'.heap[gb101]?=some (.cells #[.string a0_0,(.slice A0_1 l0_1.length c0_1),.string a0_2,.string a0_3,(.slice A0_4 l0_4.length c0_4)] 25 (0,0)))∧Aside0 (Below w.heap.size w w'))
   case atStart=>exact ⟨(0),zq7,H',⟨Nat.le_refl _⟩,⟨zq93⟩,⟨zq94⟩⟩
   case round =>
    clear H';try clear p2
    try clear c4
    try clear c4b0
    try clear c4b1
    try clear c6
    try clear c6b0
    try clear c6b1
    try clear p6
    try clear c8
    try clear c9
    try clear hcz5_0
    try clear hcz5_1
    try clear hcz5_2
    try clear hcz5_3
    try clear hcz5_4
    try clear hcz7_0
    try clear hcz7_1
    try clear hcz7_2
    try clear hcz7_3
    try clear hcz7_4
    try clear hcz8_0
    try clear hcz8_1
    try clear hcz8_2
    try clear hcz8_3
    try clear hcz8_4
    try clear hfz5_0
    try clear hfz5_1
    try clear hfz5_2
    try clear hfz5_3
    try clear hfz5_4
    try clear hfz7_0
    try clear hfz7_1
    try clear hfz7_2
    try clear hfz7_3
    try clear hfz7_4
    try clear hfz8_0
    try clear hfz8_1
    try clear hfz8_2
    try clear hfz8_3
    try clear hfz8_4
    try clear p2
    try clear p6
    obtain ⟨x3_2,rfl,HA,HK2,BK101,HB⟩:=hrel
    cases gk with
    | zero=>exact absurd HA.out (by simp [lw48_large.l0])
    | succ k2 =>
     have H:=HA.out;clear HA;simp only [lw48_large.l0] at H
     replace H:=ifI H;rcases H with ⟨c10,H⟩ | ⟨c10,H⟩
     ·have c10b0:decide (x3_2 < (l0_1.length:Int))=true:=decide_eq_true c10;clear c10;replace H:=ifI H;rcases H with ⟨c11,H⟩ | ⟨c11,H⟩
      ·have c11b0:decide (0≤x3_2)=true:=decide_eq_true c11;clear c11;replace H:=ifI H;rcases H with ⟨c12,H⟩ | ⟨c12,H⟩
       ·have c12b0:decide (400 < (((rd_T48 l0_1 x3_2).f2).size:Int))=true:=decide_eq_true c12;have c12b1:decide (400 < ((rd_T48 l0_1 x3_2).f2).size)=true:=decide_eq_true (by omega);clear c12;obtain rfl:=Option.some.inj H;obtain ⟨_,_,_,_,_,_,_,_,_,_⟩:=bk5 BK101;have p102:0≤(x3_2:Int):=od;have q102:x3_2 < (l0_1.length:Int):=od;obtain ⟨ad102,e102,hx102_0,hx102_1,hx102_2,hx102_3⟩:=at_T48 HR0_1.out x3_2 p102 q102
        cases e102
        replace hx102_0:=(HB.out.cell (World.block_lt_of_cell? w _ hx102_0)).trans hx102_0;replace hx102_1:=(HB.out.cell (World.block_lt_of_cell? w _ hx102_1)).trans hx102_1;replace hx102_2:=(HB.out.cell (World.block_lt_of_cell? w _ hx102_2)).trans hx102_2;replace hx102_3:=(HB.out.cell (World.block_lt_of_cell? w _ hx102_3)).trans hx102_3;replace p102:=eq_true p102;replace q102:=eq_true q102;go_wp2
        repeat (go_quiet (fail);try go_wp2)
        go_ret
        exact ⟨zq4,zq94⟩
       have c12b0:decide (400 < (((rd_T48 l0_1 x3_2).f2).size:Int))=false:=decide_eq_false c12;have c12b1:decide (400 < ((rd_T48 l0_1 x3_2).f2).size)=false:=decide_eq_false (by omega);clear c12;have H':=sd H;clear H;obtain ⟨_,_,_,_,_,_,_,_,_,_⟩:=bk5 BK101;have p102:0≤(x3_2:Int):=od;have q102:x3_2 < (l0_1.length:Int):=od;obtain ⟨ad102,e102,hx102_0,hx102_1,hx102_2,hx102_3⟩:=at_T48 HR0_1.out x3_2 p102 q102
       cases e102
       replace hx102_0:=(HB.out.cell (World.block_lt_of_cell? w _ hx102_0)).trans hx102_0;replace hx102_1:=(HB.out.cell (World.block_lt_of_cell? w _ hx102_1)).trans hx102_1;replace hx102_2:=(HB.out.cell (World.block_lt_of_cell? w _ hx102_2)).trans hx102_2;replace hx102_3:=(HB.out.cell (World.block_lt_of_cell? w _ hx102_3)).trans hx102_3;replace p102:=eq_true p102;replace q102:=eq_true q102;go_wp2
       repeat (go_quiet (fail);try go_wp2)
       go_roundg k2
       case measure=>have:=HJ1.out;have:=HK2.out;omega
       case rel=>exact ⟨(wrap64 (x3_2+1)),zq7,H',⟨zq23⟩,⟨zq93⟩,⟨zq94⟩⟩
      exact absurd H (by simp)
     have c10b0:decide (x3_2 < (l0_1.length:Int))=false:=decide_eq_false c10;clear c10;have H':=sd H;clear H;obtain ⟨_,_,_,_,_,_,_,_,_,_⟩:=bk5 BK101;go_wp2
     repeat (go_quiet (fail);try go_wp2)
     go_loopg [4] k2 (fun kq v4 w'=>∃ (x4_3:Int),v4=.int .i64 x4_3∧Aside0 (lw48_large.l1 kq x4_3 a0_0 l0_1 a0_2 a0_3 l0_4=some r)∧Aside0 (kq≤k2)∧Aside0 (w'.heap[gb101]?=some (.cells #[.string a0_0,(.slice A0_1 l0_1.length c0_1),.string a0_2,.string a0_3,(.slice A0_4 l0_4.length c0_4)] 25 (0,0)))∧Aside0 (Below w.heap.size w w'))
     case atStart=>exact ⟨(0),zq7,H',⟨Nat.le_refl _⟩,⟨zq93⟩,⟨zq94⟩⟩
     case round =>
      clear H';try clear c1
      try clear p1
      try clear q1
      try clear hx1
      try clear p2
      try clear c4
      try clear c4b0
      try clear c4b1
      try clear c6
      try clear c6b0
      try clear c6b1
      try clear p6
      try clear c8
      try clear c9
      try clear c10
      try clear c10b0
      try clear p10
      try clear q10
      try clear hx10
      try clear c11
      try clear c11b0
      try clear c12
      try clear c12b0
      try clear c12b1
      try clear hcz13_0
      try clear hcz13_1
      try clear hcz13_2
      try clear hcz13_3
      try clear hcz13_4
      try clear hcz14_0
      try clear hcz14_1
      try clear hcz14_2
      try clear hcz14_3
      try clear hcz14_4
      try clear hcz15_0
      try clear hcz15_1
      try clear hcz15_2
      try clear hcz15_3
      try clear hcz15_4
      try clear hcz5_0
      try clear hcz5_1
      try clear hcz5_2
      try clear hcz5_3
      try clear hcz5_4
      try clear hcz7_0
      try clear hcz7_1
      try clear hcz7_2
      try clear hcz7_3
      try clear hcz7_4
      try clear hcz8_0
      try clear hcz8_1
      try clear hcz8_2
      try clear hcz8_3
      try clear hcz8_4
      try clear hfz13_0
      try clear hfz13_1
      try clear hfz13_2
      try clear hfz13_3
      try clear hfz13_4
      try clear hfz14_0
      try clear hfz14_1
      try clear hfz14_2
      try clear hfz14_3
      try clear hfz14_4
      try clear hfz15_0
      try clear hfz15_1
      try clear hfz15_2
      try clear hfz15_3
      try clear hfz15_4
      try clear hfz5_0
      try clear hfz5_1
      try clear hfz5_2
      try clear hfz5_3
      try clear hfz5_4
      try clear hfz7_0
      try clear hfz7_1
      try clear hfz7_2
      try clear hfz7_3
      try clear hfz7_4
      try clear hfz8_0
      try clear hfz8_1
      try clear hfz8_2
      try clear hfz8_3
      try clear hfz8_4
      try clear hx102_0
      try clear hx102_1
      try clear hx102_2
      try clear hx102_3
      try clear p102
      try clear p2
      try clear p6
      try clear q102
      obtain ⟨x4_3,rfl,HA,HK3,BK101,HB⟩:=hrel
      cases gk with
      | zero=>exact absurd HA.out (by simp [lw48_large.l1])
      | succ k3 =>
       have H:=HA.out;clear HA;simp only [lw48_large.l1] at H
       replace H:=ifI H;rcases H with ⟨c16,H⟩ | ⟨c16,H⟩
       ·have c16b0:decide (x4_3 < (l0_4.length:Int))=true:=decide_eq_true c16;clear c16;replace H:=ifI H;rcases H with ⟨c17,H⟩ | ⟨c17,H⟩
        ·have c17b0:decide (0≤x4_3)=true:=decide_eq_true c17;clear c17;replace H:=ifI H;rcases H with ⟨c18,H⟩ | ⟨c18,H⟩
         ·have c18b0:decide (400 < (wrap64 ((((rd_T50 l0_4 x4_3).f0).size:Int)+(((rd_T50 l0_4 x4_3).f1).size:Int))))=true:=decide_eq_true c18;clear c18;obtain rfl:=Option.some.inj H;obtain ⟨_,_,_,_,_,_,_,_,_,_⟩:=bk5 BK101;have p103:0≤(x4_3:Int):=od;have q103:x4_3 < (l0_4.length:Int):=od;obtain ⟨ad103,e103,hx103_0,hx103_1⟩:=at_T50 HR0_4.out x4_3 p103 q103
          cases e103
          replace hx103_0:=(HB.out.cell (World.block_lt_of_cell? w _ hx103_0)).trans hx103_0;replace hx103_1:=(HB.out.cell (World.block_lt_of_cell? w _ hx103_1)).trans hx103_1;replace p103:=eq_true p103;replace q103:=eq_true q103;have p104:0≤(x4_3:Int):=od;have q104:x4_3 < (l0_4.length:Int):=od;obtain ⟨ad104,e104,hx104_0,hx104_1⟩:=at_T50 HR0_4.out x4_3 p104 q104;obtain rfl:ad103=ad104:=(by injection e104)
          replace hx104_0:=(HB.out.cell (World.block_lt_of_cell? w _ hx104_0)).trans hx104_0;replace hx104_1:=(HB.out.cell (World.block_lt_of_cell? w _ hx104_1)).trans hx104_1;replace p104:=eq_true p104;replace q104:=eq_true q104;go_wp2
          repeat (go_quiet (fail);try go_wp2)
          go_ret
          exact ⟨zq4,zq94⟩
         have c18b0:decide (400 < (wrap64 ((((rd_T50 l0_4 x4_3).f0).size:Int)+(((rd_T50 l0_4 x4_3).f1).size:Int))))=false:=decide_eq_false c18;clear c18;have H':=sd H;clear H;obtain ⟨_,_,_,_,_,_,_,_,_,_⟩:=bk5 BK101;have p103:0≤(x4_3:Int):=od;have q103:x4_3 < (l0_4.length:Int):=od;obtain ⟨ad103,e103,hx103_0,hx103_1⟩:=at_T50 HR0_4.out x4_3 p103 q103
         cases e103
         replace hx103_0:=(HB.out.cell (World.block_lt_of_cell? w _ hx103_0)).trans hx103_0;replace hx103_1:=(HB.out.cell (World.block_lt_of_cell? w _ hx103_1)).trans hx103_1;replace p103:=eq_true p103;replace q103:=eq_true q103;have p104:0≤(x4_3:Int):=od;have q104:x4_3 < (l0_4.length:Int):=od;obtain ⟨ad104,e104,hx104_0,hx104_1⟩:=at_T50 HR0_4.out x4_3 p104 q104;obtain rfl:ad103=ad104:=(by injection e104)
         replace hx104_0:=(HB.out.cell (World.block_lt_of_cell? w _ hx104_0)).trans hx104_0;replace hx104_1:=(HB.out.cell (World.block_lt_of_cell? w _ hx104_1)).trans hx104_1;replace p104:=eq_true p104;replace q104:=eq_true q104;go_wp2
         repeat (go_quiet (fail);try go_wp2)
         go_roundg k3
         case measure=>have:=HJ1.out;have:=HK2.out;have:=HK3.out;omega
         case rel=>exact ⟨(wrap64 (x4_3+1)),zq7,H',⟨by have:=HJ1.out;have:=HK2.out;have:=HK3.out;omega⟩,⟨zq93⟩,⟨zq94⟩⟩
        exact absurd H (by simp)
       have c16b0:decide (x4_3 < (l0_4.length:Int))=false:=decide_eq_false c16;clear c16;obtain rfl:=Option.some.inj H;obtain ⟨_,_,_,_,_,_,_,_,_,_⟩:=bk5 BK101;go_wp2
       repeat (go_quiet (fail);try go_wp2)
       go_ret
       exact ⟨zq4,zq94⟩
theorem head_0 (bd g:Nat) (p:PR) (vC vT vW:Value) (x:S73) (code:Bool) (w:World) (hp:RP w bd g p vC vT vW) (hbd:bd≤w.heap.size) (hst:p.st=0) :
    Calls Tryz.prog 81 #[.pointer (some ⟨g,0,none⟩),.agg #[.int .i64 x.f0,.string x.f1,.int .i64 x.f2],.bool code] w (StepPost bd g vC vT vW (p) (fol (keyB x (⟨#[114,117,108,101]⟩:ByteArray)) 1) w):=by
  have hmf:∀ (fn:Fn) (first cap:Array Value) (w:World),(Instr.makeFunc fn first cap).run Tryz.prog w=.ok (.func fn first cap) w:=fun _ _ _ _=>rfl
  have HP:=sd hp;have HNE:=sd (show ¬ w.heap.size=g from fun h=>by have:=blk_lt hp.blk;omega);have HNW:=sd (Kd.R_lt HP.out.rW);have HF:=sd (FP.refl bd g vC vT vW w);clear hp;generalize hQ:StepPost bd g vC vT vW (p) (fol (keyB x (⟨#[114,117,108,101]⟩:ByteArray)) 1) w=Post;have HQ:=sd hQ;clear hQ;go_enter Tryz.func81,Tryz.ntmps81
  go_upto_region 1 with (fail)
  have hB1:=below_alloc (Below.refl w.heap.size w) (Obj.cells #[Value.int IntKind.i64 x.f0,Value.string x.f1,Value.int IntKind.i64 x.f2] 73);have b0:(w.alloc (Obj.cells #[Value.int IntKind.i64 x.f0,Value.string x.f1,Value.int IntKind.i64 x.f2] 73)).heap[w.heap.size]?=some (.cells #[Value.int IntKind.i64 x.f0,Value.string x.f1,Value.int IntKind.i64 x.f2] 73 (0,0)):=blk_new _ _;replace HP:=sd (HP.out.below hB1);replace HF:=sd (HF.out.below hB1 hbd);generalize w.alloc (Obj.cells #[Value.int IntKind.i64 x.f0,Value.string x.f1,Value.int IntKind.i64 x.f2] 73)=w1 at *;obtain ⟨gw,hgw⟩:∃ gw,gw=w.heap.size:=⟨_,rfl⟩
  have hgg:gw≠g:=by have:=blk_lt HP.out.blk;have:=hB1.size;intro h;rw [hgw] at h;exact absurd h (HNE.out)
  have HGN:=sd (show some gw≠Value.ownBlock vW from fun e=>by have:=HNW.out gw e.symm;omega);clear HNW;rw [← hgw] at b0 ⊢;have BW:=sd b0;have HB1:=sd hB1;clear b0 hB1 hgw;obtain ⟨⟨k0,k1,k2,k3,k4,k5,k6⟩,f0,f1,f2,f3,f4,f5,f6⟩:=HP.out.facts;rw [hst] at k5;obtain ⟨w0_,w1_,w2_,_,_,_⟩:=bk3 BW;go_wp2_with fail
  refine (key_calls gw x.f0 x.f1 (⟨#[114,117,108,101]⟩:ByteArray) _ w0_ w1_).mono ?_;rintro e wn ⟨rfl,hd⟩;obtain ⟨⟨nd,rfl⟩⟩:=hd;replace HP:=sd (HP.out.below (pw_below_drewN (Below.refl _ _) nd));replace HF:=sd (HF.out.below (pw_below_drewN (Below.refl _ _) nd) hbd);generalize w1.drewN nd=w2 at HP HF ⊢;go_wp2_with fail
  refine (follow_calls _ 1 _).mono ?_;rintro e wn ⟨rfl,hd⟩;obtain ⟨⟨nd,rfl⟩⟩:=hd;replace HP:=sd (HP.out.below (pw_below_drewN (Below.refl _ _) nd));replace HF:=sd (HF.out.below (pw_below_drewN (Below.refl _ _) nd) hbd);generalize w2.drewN nd=w3 at HP HF ⊢;go_wp2_with fail
  rw [← HQ.out];exact ⟨by (try rfl),⟨_,_,_,HP.out⟩,HF.out⟩
theorem head_2 (bd g:Nat) (p:PR) (vC vT vW:Value) (x:S73) (code:Bool) (w:World) (hp:RP w bd g p vC vT vW) (hbd:bd≤w.heap.size) (hst:p.st=2) :
    Calls Tryz.prog 81 #[.pointer (some ⟨g,0,none⟩),.agg #[.int .i64 x.f0,.string x.f1,.int .i64 x.f2],.bool code] w (StepPost bd g vC vT vW (p) (fol (keyB x (⟨#[105,102]⟩:ByteArray)) 3) w):=by
  have hmf:∀ (fn:Fn) (first cap:Array Value) (w:World),(Instr.makeFunc fn first cap).run Tryz.prog w=.ok (.func fn first cap) w:=fun _ _ _ _=>rfl
  have HP:=sd hp;have HNE:=sd (show ¬ w.heap.size=g from fun h=>by have:=blk_lt hp.blk;omega);have HNW:=sd (Kd.R_lt HP.out.rW);have HF:=sd (FP.refl bd g vC vT vW w);clear hp;generalize hQ:StepPost bd g vC vT vW (p) (fol (keyB x (⟨#[105,102]⟩:ByteArray)) 3) w=Post;have HQ:=sd hQ;clear hQ;go_enter Tryz.func81,Tryz.ntmps81
  go_upto_region 1 with (fail)
  have hB1:=below_alloc (Below.refl w.heap.size w) (Obj.cells #[Value.int IntKind.i64 x.f0,Value.string x.f1,Value.int IntKind.i64 x.f2] 73);have b0:(w.alloc (Obj.cells #[Value.int IntKind.i64 x.f0,Value.string x.f1,Value.int IntKind.i64 x.f2] 73)).heap[w.heap.size]?=some (.cells #[Value.int IntKind.i64 x.f0,Value.string x.f1,Value.int IntKind.i64 x.f2] 73 (0,0)):=blk_new _ _;replace HP:=sd (HP.out.below hB1);replace HF:=sd (HF.out.below hB1 hbd);generalize w.alloc (Obj.cells #[Value.int IntKind.i64 x.f0,Value.string x.f1,Value.int IntKind.i64 x.f2] 73)=w1 at *;obtain ⟨gw,hgw⟩:∃ gw,gw=w.heap.size:=⟨_,rfl⟩
  have hgg:gw≠g:=by have:=blk_lt HP.out.blk;have:=hB1.size;intro h;rw [hgw] at h;exact absurd h (HNE.out)
  have HGN:=sd (show some gw≠Value.ownBlock vW from fun e=>by have:=HNW.out gw e.symm;omega);clear HNW;rw [← hgw] at b0 ⊢;have BW:=sd b0;have HB1:=sd hB1;clear b0 hB1 hgw;obtain ⟨⟨k0,k1,k2,k3,k4,k5,k6⟩,f0,f1,f2,f3,f4,f5,f6⟩:=HP.out.facts;rw [hst] at k5;obtain ⟨w0_,w1_,w2_,_,_,_⟩:=bk3 BW;go_wp2_with fail
  refine (key_calls gw x.f0 x.f1 (⟨#[105,102]⟩:ByteArray) _ w0_ w1_).mono ?_;rintro e wn ⟨rfl,hd⟩;obtain ⟨⟨nd,rfl⟩⟩:=hd;replace HP:=sd (HP.out.below (pw_below_drewN (Below.refl _ _) nd));replace HF:=sd (HF.out.below (pw_below_drewN (Below.refl _ _) nd) hbd);generalize w1.drewN nd=w2 at HP HF ⊢;go_wp2_with fail
  refine (follow_calls _ 3 _).mono ?_;rintro e wn ⟨rfl,hd⟩;obtain ⟨⟨nd,rfl⟩⟩:=hd;replace HP:=sd (HP.out.below (pw_below_drewN (Below.refl _ _) nd));replace HF:=sd (HF.out.below (pw_below_drewN (Below.refl _ _) nd) hbd);generalize w2.drewN nd=w3 at HP HF ⊢;go_wp2_with fail
  rw [← HQ.out];exact ⟨by (try rfl),⟨_,_,_,HP.out⟩,HF.out⟩
theorem tail_13 (bd g:Nat) (p:PR) (vC vT vW:Value) (x:S73) (code:Bool) (w:World) (hp:RP w bd g p vC vT vW) (hbd:bd≤w.heap.size) (hst:p.st=13) :
    Calls Tryz.prog 115 #[.pointer (some ⟨g,0,none⟩),.agg #[.int .i64 x.f0,.string x.f1,.int .i64 x.f2],.bool code] w (StepPost bd g vC vT vW (p) (fol (keyB x (⟨#[116,97,103]⟩:ByteArray)) 10) w):=by
  have hmf:∀ (fn:Fn) (first cap:Array Value) (w:World),(Instr.makeFunc fn first cap).run Tryz.prog w=.ok (.func fn first cap) w:=fun _ _ _ _=>rfl
  have HP:=sd hp;have HNE:=sd (show ¬ w.heap.size=g from fun h=>by have:=blk_lt hp.blk;omega);have HNW:=sd (Kd.R_lt HP.out.rW);have HF:=sd (FP.refl bd g vC vT vW w);clear hp;generalize hQ:StepPost bd g vC vT vW (p) (fol (keyB x (⟨#[116,97,103]⟩:ByteArray)) 10) w=Post;have HQ:=sd hQ;clear hQ;go_enter Tryz.func115,Tryz.ntmps115
  go_upto_region 1 with (fail)
  have hB1:=below_alloc (Below.refl w.heap.size w) (Obj.cells #[Value.int IntKind.i64 x.f0,Value.string x.f1,Value.int IntKind.i64 x.f2] 73);have b0:(w.alloc (Obj.cells #[Value.int IntKind.i64 x.f0,Value.string x.f1,Value.int IntKind.i64 x.f2] 73)).heap[w.heap.size]?=some (.cells #[Value.int IntKind.i64 x.f0,Value.string x.f1,Value.int IntKind.i64 x.f2] 73 (0,0)):=blk_new _ _;replace HP:=sd (HP.out.below hB1);replace HF:=sd (HF.out.below hB1 hbd);generalize w.alloc (Obj.cells #[Value.int IntKind.i64 x.f0,Value.string x.f1,Value.int IntKind.i64 x.f2] 73)=w1 at *;obtain ⟨gw,hgw⟩:∃ gw,gw=w.heap.size:=⟨_,rfl⟩
  have hgg:gw≠g:=by have:=blk_lt HP.out.blk;have:=hB1.size;intro h;rw [hgw] at h;exact absurd h (HNE.out)
  have HGN:=sd (show some gw≠Value.ownBlock vW from fun e=>by have:=HNW.out gw e.symm;omega);clear HNW;rw [← hgw] at b0 ⊢;have BW:=sd b0;have HB1:=sd hB1;clear b0 hB1 hgw;obtain ⟨⟨k0,k1,k2,k3,k4,k5,k6⟩,f0,f1,f2,f3,f4,f5,f6⟩:=HP.out.facts;rw [hst] at k5;obtain ⟨w0_,w1_,w2_,_,_,_⟩:=bk3 BW;go_wp2_with fail
  refine (key2_calls gw x.f0 x.f1 (⟨#[116,97,103]⟩:ByteArray) _ w0_ w1_).mono ?_;rintro e wn ⟨rfl,hd⟩;obtain ⟨⟨nd,rfl⟩⟩:=hd;replace HP:=sd (HP.out.below (pw_below_drewN (Below.refl _ _) nd));replace HF:=sd (HF.out.below (pw_below_drewN (Below.refl _ _) nd) hbd);generalize w1.drewN nd=w2 at HP HF ⊢;go_wp2_with fail
  refine (follow_calls _ 10 _).mono ?_;rintro e wn ⟨rfl,hd⟩;obtain ⟨⟨nd,rfl⟩⟩:=hd;replace HP:=sd (HP.out.below (pw_below_drewN (Below.refl _ _) nd));replace HF:=sd (HF.out.below (pw_below_drewN (Below.refl _ _) nd) hbd);generalize w2.drewN nd=w3 at HP HF ⊢;go_wp2_with fail
  rw [← HQ.out];exact ⟨by (try rfl),⟨_,_,_,HP.out⟩,HF.out⟩
def moveR (k:Nat) (p:PR) (x:S73) (code:Bool):Option (PR×Int) :=
  if p.st=0 then some (p,fol (keyB x (⟨#[114,117,108,101]⟩:ByteArray)) 1) else
  if p.st=1 then some ({ p with nm:=x.f1 },fol code 2) else
  if p.st=2 then some (p,fol (keyB x (⟨#[105,102]⟩:ByteArray)) 3) else
  if p.st=3 then (if p.cs.length≤1000000 then some ({ p with cs:=p.cs++[⟨numS fieldL x.f1 0,0,⟨#[]⟩,0⟩] },fol (decide (x.f0=1∧numS fieldL x.f1 0 > 0)) 4) else none) else
  if p.st=4 then (if 0 < p.cs.length then (rules_suits.f k (rd_T48 p.cs ((p.cs.length - 1:Nat):Int)).f0 (numS opL x.f1 0)).bind fun b=>some ({ p with cs:=p.cs.set (p.cs.length - 1) { rd_T48 p.cs ((p.cs.length - 1:Nat):Int) with f1:=numS opL x.f1 0 } },fol (decide (x.f0=1) && b) 5) else none) else
  if p.st=5 then (if p.ws.length≤1000000∧0 < p.cs.length then some ({ p with ws:=p.ws++[x] },if (rd_T48 p.cs ((p.cs.length - 1:Nat):Int)).f0=1∨(rd_T48 p.cs ((p.cs.length - 1:Nat):Int)).f0=4 then fol (decide (x.f0=2)) 6 else fol (decide (x.f0=3)) 6) else none) else
  if p.st=6 then some (p,if keyB x (⟨#[97,110,100]⟩:ByteArray)=true then 3 else fol (keyB x (⟨#[116,104,101,110]⟩:ByteArray)) 7) else
  if p.st=7 then some ({ p with acc:=x.f1 },fol code 8) else
  if p.st=8 then some (p,if keyB x (⟨#[112,97,114,116,121]⟩:ByteArray)=true then 9 else fol (keyB x (⟨#[116,97,103]⟩:ByteArray)) 10) else
  if p.st=9 then some ({ p with par:=x.f1 },fol code 13) else
  if p.st=10 then (if p.tg.length≤1000000 then some ({ p with tg:=p.tg++[⟨x.f1,⟨#[]⟩⟩] },fol code 11) else none) else
  if p.st=11 then some (p,fol (decide (x.f0=4) && (x.f1.toList == ([61]:List UInt8))) 12) else
  if p.st=12 then (if 0 < p.tg.length then some ({ p with tg:=p.tg.set (p.tg.length - 1) { rd_T50 p.tg ((p.tg.length - 1:Nat):Int) with f1:=x.f1 } },fol code 13) else none) else
  if p.st=13 then some (p,fol (keyB x (⟨#[116,97,103]⟩:ByteArray)) 10) else none
theorem head_t (bd g:Nat) (p:PR) (vC vT vW:Value) (x:S73) (code:Bool) (p':PR) (r:Int) (w:World) (hp:RP w bd g p vC vT vW) (hbd:bd≤w.heap.size) (h5:5≤p.st)
    (ht:∀ W,RP W bd g p vC vT vW→bd≤W.heap.size→Calls Tryz.prog 115 #[.pointer (some ⟨g,0,none⟩),.agg #[.int .i64 x.f0,.string x.f1,.int .i64 x.f2],.bool code] W (StepPost bd g vC vT vW p' r W)) :
    Calls Tryz.prog 81 #[.pointer (some ⟨g,0,none⟩),.agg #[.int .i64 x.f0,.string x.f1,.int .i64 x.f2],.bool code] w (StepPost bd g vC vT vW p' r w):=by
  have hmf:∀ (fn:Fn) (first cap:Array Value) (w:World),(Instr.makeFunc fn first cap).run Tryz.prog w=.ok (.func fn first cap) w:=fun _ _ _ _=>rfl
  have HP:=sd hp;have HF:=sd (FP.refl bd g vC vT vW w);have HT:=sd ht;clear hp ht;generalize hQ:StepPost bd g vC vT vW p' r w=Post;have HQ:=sd hQ;clear hQ;have q0:decide (p.st=0)=false:=decide_eq_false (by omega);have q1:decide (p.st=1)=false:=decide_eq_false (by omega);have q2:decide (p.st=2)=false:=decide_eq_false (by omega);have q3:decide (p.st=3)=false:=decide_eq_false (by omega);have q4:decide (p.st=4)=false:=decide_eq_false (by omega);go_enter Tryz.func81,Tryz.ntmps81
  go_upto_region 1 with (fail)
  have hB1:=below_alloc (Below.refl w.heap.size w) (Obj.cells #[Value.int IntKind.i64 x.f0,Value.string x.f1,Value.int IntKind.i64 x.f2] 73);have b0:(w.alloc (Obj.cells #[Value.int IntKind.i64 x.f0,Value.string x.f1,Value.int IntKind.i64 x.f2] 73)).heap[w.heap.size]?=some (.cells #[Value.int IntKind.i64 x.f0,Value.string x.f1,Value.int IntKind.i64 x.f2] 73 (0,0)):=blk_new _ _;replace HP:=sd (HP.out.below hB1);replace HF:=sd (HF.out.below hB1 hbd);generalize w.alloc (Obj.cells #[Value.int IntKind.i64 x.f0,Value.string x.f1,Value.int IntKind.i64 x.f2] 73)=w1 at *;obtain ⟨gw,hgw⟩:∃ gw,gw=w.heap.size:=⟨_,rfl⟩
  rw [← hgw] at b0 ⊢;have BW:=sd b0;clear b0 hB1 hgw;obtain ⟨⟨k0,k1,k2,k3,k4,k5,k6⟩,f0,f1,f2,f3,f4,f5,f6⟩:=HP.out.facts;obtain ⟨w0_,w1_,w2_,_,_,_⟩:=bk3 BW;go_wp2_with fail
  refine (HT.out _ HP.out (below_base HF.out.b hbd)).mono ?_;rintro e w2 ⟨rfl,⟨vC',vT',vW',hp2⟩,hf2⟩;replace HF:=sd (HF.out.trans hf2);have HP2:=sd hp2;clear hf2 hp2 k0 k1 k2 k3 k4 k5 k6 f0 f1 f2 f3 f4 f5 f6 w0_ w1_ w2_;go_wp2_with fail
  rw [← HQ.out];exact ⟨by (try rfl),⟨_,_,_,HP2.out⟩,HF.out⟩
def parL (k:Nat):List S73→PR→Option (PR×Int×Int)
  | [],p=>some (p,0,0)
  | x :: r,p=>(moveR k p x (codeX x)).bind fun y=>if y.2=14 then some (p,x.f2,27) else parL k r { y.1 with st:=y.2 }
theorem two25 (W:World) (x:S25) {A1 A4:Option Addr} {c1 c4:Nat} (l1:x.f1.length≤c1) (h1:Kd.C k48 W A1 x.f1.length x.f1) (l4:x.f4.length≤c4) (h4:Kd.C k50 W A4 x.f4.length x.f4) :
  Kd.C k25 (W.alloc (.cells #[.string ⟨#[]⟩,.slice none 0 0,.string ⟨#[]⟩,.string ⟨#[]⟩,.slice none 0 0,.string x.f0,.slice A1 x.f1.length c1,.string x.f2,.string x.f3,.slice A4 x.f4.length c4] 25)) (some ⟨W.heap.size,0,none⟩) 2 [z25,x]:=by
 have hbl:=below_alloc (Below.refl W.heap.size W) (.cells #[.string ⟨#[]⟩,.slice none 0 0,.string ⟨#[]⟩,.string ⟨#[]⟩,.slice none 0 0,.string x.f0,.slice A1 x.f1.length c1,.string x.f2,.string x.f3,.slice A4 x.f4.length c4] 25);have hb:=fun k=>blk_cell (blk_new W (.cells #[.string ⟨#[]⟩,.slice none 0 0,.string ⟨#[]⟩,.string ⟨#[]⟩,.slice none 0 0,.string x.f0,.slice A1 x.f1.length c1,.string x.f2,.string x.f3,.slice A4 x.f4.length c4] 25)) k
 refine ⟨rfl,by decide,fun _=>⟨_,rfl,fun j p hj=>?_⟩⟩
 cases j with
 | zero =>
  obtain rfl:=Option.some.inj hj;refine ⟨[.string ⟨#[]⟩,.slice none 0 0,.string ⟨#[]⟩,.string ⟨#[]⟩,.slice none 0 0],rfl,k25_mk _ z25 (A1:=none) (c1:=0) (Nat.le_refl _) (Kd.C_nil _ _) (A4:=none) (c4:=0) (Nat.le_refl _) (Kd.C_nil _ _),fun i u hu=>?_⟩;rw [show k25.sz=5 from rfl,add_at];rcases i with _ | _ | _ | _ | _ | i
  ·exact (hb 0).trans hu
  ·exact (hb 1).trans hu
  ·exact (hb 2).trans hu
  ·exact (hb 3).trans hu
  ·exact (hb 4).trans hu
  ·cases hu
 | succ j =>
  cases j with
  | zero =>
   obtain rfl:=Option.some.inj hj;refine ⟨[.string x.f0,.slice A1 x.f1.length c1,.string x.f2,.string x.f3,.slice A4 x.f4.length c4],rfl,k25_mk _ x l1 (Kd.C_below h1 hbl) l4 (Kd.C_below h4 hbl),fun i u hu=>?_⟩;rw [show k25.sz=5 from rfl,add_at];rcases i with _ | _ | _ | _ | _ | i
   ·exact (hb 5).trans hu
   ·exact (hb 6).trans hu
   ·exact (hb 7).trans hu
   ·exact (hb 8).trans hu
   ·exact (hb 9).trans hu
   ·cases hu
  | succ j=>cases hj
def livesR:S25:=⟨⟨#[114,101,110,116]⟩,livesC,⟨#[53,49]⟩,⟨#[112]⟩,livesG⟩
theorem lives_walk (w:World) (hG:Gl w)
  (C1:Aside0 (∀ W,Calls Tryz.prog 27 #[] W fun e w'=>∃ v1 v4:Value,e=.returned (.agg #[.string ⟨#[114,101,110,116]⟩,v1,.string ⟨#[53,49]⟩,.string ⟨#[112]⟩,v4])∧Kd.R k48 48 w' W.heap.size (fun _=>True) v1 livesC∧Kd.R k50 50 w' W.heap.size (fun _=>True) v4 livesG∧Below W.heap.size W w'))
  (C2:Aside0 (∀ W A c A4 c4,Kd.C k48 W A livesC.length livesC→livesC.length≤c→Kd.C k50 W A4 livesG.length livesG→livesG.length≤c4→Gl W→Calls Tryz.prog 16 #[.agg #[.string ⟨#[114,101,110,116]⟩,.slice A livesC.length c,.string ⟨#[53,49]⟩,.string ⟨#[112]⟩,.slice A4 livesG.length c4]] W fun e w'=>e=.returned (.tuple #[.string livesX,.int .i64 0])∧Below W.heap.size W w'))
  (C3:Aside0 (∀ W,Gl W→Calls Tryz.prog 18 #[.string livesX] W fun e w'=>∃ v1 v4:Value,e=.returned (.tuple #[.agg #[.string ⟨#[114,101,110,116]⟩,v1,.string ⟨#[53,49]⟩,.string ⟨#[112]⟩,v4],.int .i64 0,.int .i64 0])∧Kd.R k48 48 w' W.heap.size (fun _=>True) v1 livesC∧Kd.R k50 50 w' W.heap.size (fun _=>True) v4 livesG∧Below W.heap.size W w'))
  (C4:Aside0 (∀ W,Gl W→Calls Tryz.prog 18 #[.string livesY] W fun e w'=>∃ v1 v4:Value,e=.returned (.tuple #[.agg #[.string ⟨#[]⟩,v1,.string ⟨#[]⟩,.string ⟨#[]⟩,v4],.int .i64 20,.int .i64 27])∧Kd.R k48 48 w' W.heap.size (fun _=>True) v1 []∧Kd.R k50 50 w' W.heap.size (fun _=>True) v4 []∧Below W.heap.size W w'))
  (C5:Aside0 (∀ W A c A4 c4 B d B4 d4,Kd.C k48 W A livesC.length livesC→livesC.length≤c→Kd.C k50 W A4 livesG.length livesG→livesG.length≤c4→Kd.C k48 W B livesC.length livesC→livesC.length≤d→Kd.C k50 W B4 livesG.length livesG→livesG.length≤d4→Calls Tryz.prog 19 #[.agg #[.string ⟨#[114,101,110,116]⟩,.slice A livesC.length c,.string ⟨#[53,49]⟩,.string ⟨#[112]⟩,.slice A4 livesG.length c4],.agg #[.string ⟨#[114,101,110,116]⟩,.slice B livesC.length d,.string ⟨#[53,49]⟩,.string ⟨#[112]⟩,.slice B4 livesG.length d4]] W fun e w'=>e=.returned (.bool true)∧Below W.heap.size W w'))
  (C6:Aside0 (∀ W A c A4 c4,Kd.C k48 W A livesC.length livesC→livesC.length≤c→Kd.C k50 W A4 livesG.length livesG→livesG.length≤c4→Gl W→Calls Tryz.prog 12 #[.agg #[.string ⟨#[114,101,110,116]⟩,.slice A livesC.length c,.string ⟨#[53,49]⟩,.string ⟨#[112]⟩,.slice A4 livesG.length c4],.agg #[.int .i64 9,.int .i64 (-120),.string ⟨#[]⟩,.string ⟨#[116,104,101,32,114,101,110,116]⟩]] W fun e w'=>e=.returned (.bool true)∧Below W.heap.size W w'))
  (C7:Aside0 (∀ W A,Kd.C k25 W A 2 [z25,livesR]→Gl W→Calls Tryz.prog 14 #[.slice A 2 2,.agg #[.int .i64 9,.int .i64 (-120),.string ⟨#[]⟩,.string ⟨#[116,104,101,32,114,101,110,116]⟩]] W fun e w'=>e=.returned (.int .i64 1)∧Below W.heap.size W w')) :
  Calls Tryz.prog 11 #[] w fun e w'=>e=.returned (.bool true)∧Below w.heap.size w w':=by
 have HP:=sd (show ∀ W,Below w.heap.size w W→(fun (e:Ending) (w':World)=>e=.returned (.bool true)∧Below w.heap.size w w') (.returned (.bool true)) W from fun W hW=>⟨rfl,hW⟩);generalize (fun (e:Ending) (w':World)=>e=.returned (.bool true)∧Below w.heap.size w w')=Post at HP ⊢;have HG:=sd hG;have HB:=sd (Below.refl w.heap.size w);clear hG;go_enter Tryz.func11,Tryz.ntmps11
 go_wp2_with fail
 refine (C1.out _).mono ?_;rintro e W1 ⟨v1,v4,rfl,hR,hT,hb⟩;obtain ⟨A1,c1,rfl,hc1,hC1⟩:=Kd.R_reads hR;obtain ⟨A4,c4,rfl,hc4,hC4⟩:=Kd.R_reads hT;replace HB:=sd (HB.out.trans (hb.mono HB.out.size));have P1:=sd hC1;have P2:=sd hc1;have P3:=sd hC4;have P4:=sd hc4;clear hR hT hb hC1 hc1 hC4 hc4;go_wp2_with fail
 refine (C2.out _ _ _ _ _ P1.out P2.out P3.out P4.out (gl_below HG.out HB.out)).mono ?_;rintro e W2 ⟨rfl,hb⟩;replace HB:=sd (HB.out.trans (hb.mono HB.out.size));clear hb P1 P2 P3 P4;go_wp2_with fail
 refine (C3.out _ (gl_below HG.out HB.out)).mono ?_;rintro e W3 ⟨v1,v4,rfl,hR,hT,hb⟩;obtain ⟨A,c,rfl,hc1,hC1⟩:=Kd.R_reads hR;obtain ⟨A4',c4',rfl,hc4,hC4⟩:=Kd.R_reads hT;replace HB:=sd (HB.out.trans (hb.mono HB.out.size));have P1:=sd hC1;have P2:=sd hc1;have P3:=sd hC4;have P4:=sd hc4;clear hR hT hb hC1 hc1 hC4 hc4;go_upto_region 3 with (fail)
 have hbl:=below_alloc (Below.refl W3.heap.size W3) (.cells #[.string ⟨#[114,101,110,116]⟩,.slice A livesC.length c,.string ⟨#[53,49]⟩,.string ⟨#[112]⟩,.slice A4' livesG.length c4'] 25);have b3:=blk_new W3 (.cells #[.string ⟨#[114,101,110,116]⟩,.slice A livesC.length c,.string ⟨#[53,49]⟩,.string ⟨#[112]⟩,.slice A4' livesG.length c4'] 25);generalize W3.alloc (.cells #[.string ⟨#[114,101,110,116]⟩,.slice A livesC.length c,.string ⟨#[53,49]⟩,.string ⟨#[112]⟩,.slice A4' livesG.length c4'] 25)=W4 at *;obtain ⟨g3,hg3⟩:∃ g,g=W3.heap.size:=⟨_,rfl⟩
 rw [← hg3] at b3 ⊢;have B3:=sd b3;replace P1:=sd (Kd.C_below P1.out hbl);replace P3:=sd (Kd.C_below P3.out hbl);replace HB:=sd (HB.out.trans (hbl.mono HB.out.size));clear hbl b3 hg3;go_wp2_with fail
 refine (C4.out _ (gl_below HG.out HB.out)).mono ?_;rintro e W5 ⟨v1,v4,rfl,hR,hT,hb⟩;obtain ⟨B_,d_,rfl⟩:=Kd.R_slice hR;obtain ⟨B4_,d4_,rfl⟩:=Kd.R_slice hT;replace B3:=sd (blk_below B3.out hb);replace P1:=sd (Kd.C_below P1.out hb);replace P3:=sd (Kd.C_below P3.out hb);replace HB:=sd (HB.out.trans (hb.mono HB.out.size));clear hR hT hb;go_upto_region 5 with (fail)
 obtain ⟨W6,hW6⟩:∃ W,W=W5.alloc (.cells #[.string ⟨#[]⟩,.slice B_ 0 d_,.string ⟨#[]⟩,.string ⟨#[]⟩,.slice B4_ 0 d4_] 25):=⟨_,rfl⟩
 have hb1:Below W5.heap.size W5 W6:=by rw [hW6];exact below_alloc (Below.refl _ _) _
 have e1:W6.heap.size=W5.heap.size+1:=by rw [hW6];simp
 rw [← hW6];have hb2:=below_alloc (Below.refl W6.heap.size W6) (.cells #[.int .i64 9,.int .i64 (-120),.string ⟨#[]⟩,.string ⟨#[116,104,101,32,114,101,110,116]⟩] 32);have b9:=blk_new W6 (.cells #[.int .i64 9,.int .i64 (-120),.string ⟨#[]⟩,.string ⟨#[116,104,101,32,114,101,110,116]⟩] 32);rw [e1] at b9;have hbx:=hb1.trans (hb2.mono hb1.size);generalize W6.alloc (.cells #[.int .i64 9,.int .i64 (-120),.string ⟨#[]⟩,.string ⟨#[116,104,101,32,114,101,110,116]⟩] 32)=W7 at *;obtain ⟨g9,hg9⟩:∃ g,g=W5.heap.size+1:=⟨_,rfl⟩
 rw [show (⟨W5.heap.size+1,0,none⟩:Addr)=⟨g9,0,none⟩ by rw [hg9]];rw [← hg9] at b9;have B9:=sd b9;replace B3:=sd (blk_below B3.out hbx);replace P1:=sd (Kd.C_below P1.out hbx);replace P3:=sd (Kd.C_below P3.out hbx);replace HB:=sd (HB.out.trans (hbx.mono HB.out.size));clear hW6 hb1 e1 hb2 b9 hbx hg9;have hbx:=below_drew1 (Below.refl W7.heap.size W7);replace B3:=sd (blk_below B3.out hbx);replace B9:=sd (blk_below B9.out hbx);replace HB:=sd (HB.out.trans (hbx.mono HB.out.size));replace P1:=sd (Kd.C_below P1.out hbx);replace P3:=sd (Kd.C_below P3.out hbx);clear hbx;obtain ⟨k0,k1,k2,k3,k4,_⟩:=bk5 B3;obtain ⟨m0,m1,m2,m3,_⟩:=bk4 B9;refine start_ (n:=41) (S:=fun w'=>w'.cell? ⟨g3,0,none⟩=some (.string ⟨#[114,101,110,116]⟩)∧w'.cell? ⟨g3,1,none⟩=some (.slice A livesC.length c)∧w'.cell? ⟨g3,2,none⟩=some (.string ⟨#[53,49]⟩)∧w'.cell? ⟨g3,3,none⟩=some (.string ⟨#[112]⟩)∧w'.cell? ⟨g3,4,none⟩=some (.slice A4' livesG.length c4')∧w'.cell? ⟨g9,0,none⟩=some (.int .i64 9)∧w'.cell? ⟨g9,1,none⟩=some (.int .i64 (-120))∧w'.cell? ⟨g9,2,none⟩=some (.string ⟨#[]⟩)∧w'.cell? ⟨g9,3,none⟩=some (.string ⟨#[116,104,101,32,114,101,110,116]⟩)) (ds:=[]) #[false,false,false,false,false,false,false,false,false,false,false,false,false,false,false,false,false,false,false,false,false,false,false,false,false,false,false,false,false,false,false,false,false,false,false,false,false,false,false,false,false] (by kernel_rfl) rfl rfl ⟨k0,k1,k2,k3,k4,m0,m1,m2,m3⟩ (fun hHeld=>?_);clear k0 k1 k2 k3 k4 m0 m1 m2 m3;generalize W7.drew=W8 at *;refine pB 0 26 ?_;refine pure_ (i:=1) (N:=some 27) (v:=.bool true) (a':=?_) #[true,true,false,false,false,false,false,false,false,false,false,false,false,false,false,false,false,false,false,false,false,false,false,false,false,false,false,false,false,false,false,false,false,false,false,false,false,false,false,false,false] rfl rfl (by kernel_rfl) (fun _ _ _ h=>h) (.inl ⟨by rfl,by intro w';go_simp;exact livesX_L⟩) ?_ ?_;rotate_left
 ·simp only [Act.put,List.setIfInBounds_toArray,List.set_cons_zero,List.set_cons_succ,i64_w,i32_w]
  rfl
 refine pB 2 28 ?_;refine pB 3 29 ?_;refine pB 4 30 ?_;refine pB 5 31 ?_;refine pB 6 32 ?_;refine tB 7 33 hHeld ?_;refine one_ (i:=8) (N:=some 34) #[true,true,true,true,true,true,true,true,true,false,false,false,false,false,false,false,false,false,false,false,false,false,false,false,false,false,false,false,false,false,false,false,false,false,false,false,false,false,false,false,false] rfl rfl (by kernel_rfl) (by decide) (fun K hK=>?_);refine goes_ Tryz.func27 (by kernel_rfl) rfl #[] (by rfl) rfl rfl zq30 ?_;refine (C1.out _).mono ?_;rintro e W9 ⟨v1,v4,rfl,hR,hT,hb⟩;obtain ⟨F1,Fc1,rfl,hc1,hC1⟩:=Kd.R_reads hR;obtain ⟨F4,Fc4,rfl,hc4,hC4⟩:=Kd.R_reads hT;have Q1:=sd hC1;have Q2:=sd hc1;have Q3:=sd hC4;have Q4:=sd hc4;clear hR hT hC1 hc1 hC4 hc4;refine ⟨_,rfl,?_⟩;replace B3:=sd (blk_below B3.out hb);replace B9:=sd (blk_below B9.out hb);replace HB:=sd (HB.out.trans (hb.mono HB.out.size));replace P1:=sd (Kd.C_below P1.out hb);replace P3:=sd (Kd.C_below P3.out hb);clear hb hHeld;obtain ⟨k0,k1,k2,k3,k4,_⟩:=bk5 B3;obtain ⟨m0,m1,m2,m3,_⟩:=bk4 B9;refine hK.out _ _ ⟨k0,k1,k2,k3,k4,m0,m1,m2,m3⟩ (fun hHeld=>?_);clear hK K k0 k1 k2 k3 k4 m0 m1 m2 m3;refine nA 34 ?_;refine one_ (i:=9) (N:=some 35) #[true,true,true,true,true,true,true,true,true,true,false,false,false,false,false,false,false,false,false,false,false,false,false,false,false,false,false,false,false,false,false,false,false,false,false,false,false,false,false,false,false] rfl rfl (by kernel_rfl) (by decide) (fun K hK=>?_);refine goes_ Tryz.func19 (by kernel_rfl) rfl #[.agg #[.string ⟨#[114,101,110,116]⟩,.slice A livesC.length c,.string ⟨#[53,49]⟩,.string ⟨#[112]⟩,.slice A4' livesG.length c4'],.agg #[.string ⟨#[114,101,110,116]⟩,.slice F1 livesC.length Fc1,.string ⟨#[53,49]⟩,.string ⟨#[112]⟩,.slice F4 livesG.length Fc4]] (by rfl) rfl rfl zq30 ?_;refine (C5.out _ _ _ _ _ _ _ _ _ P1.out P2.out P3.out P4.out Q1.out Q2.out Q3.out Q4.out).mono ?_;rintro e W10 ⟨rfl,hb⟩;refine ⟨_,rfl,?_⟩;replace B3:=sd (blk_below B3.out hb);replace B9:=sd (blk_below B9.out hb);replace HB:=sd (HB.out.trans (hb.mono HB.out.size));clear hb hHeld;obtain ⟨k0,k1,k2,k3,k4,_⟩:=bk5 B3;obtain ⟨m0,m1,m2,m3,_⟩:=bk4 B9;refine hK.out _ _ ⟨k0,k1,k2,k3,k4,m0,m1,m2,m3⟩ (fun hHeld=>?_);clear hK K k0 k1 k2 k3 k4 m0 m1 m2 m3;refine nA 35 ?_;clear P1 P2 P3 P4 Q1 Q2 Q3 Q4;refine pB 10 36 ?_;refine pB 11 37 ?_;refine pB 12 38 ?_;refine pB 13 39 ?_;refine pB 14 40 ?_;refine pB 15 41 ?_;refine pB 16 42 ?_;refine pB 17 43 ?_;refine pB 18 44 ?_;refine pB 19 45 ?_;refine pB 20 46 ?_;refine pB 21 47 ?_;refine pB 22 48 ?_;refine pB 23 49 ?_;refine pB 24 50 ?_;refine pB 25 51 ?_;refine pB 26 52 ?_;refine pB 27 53 ?_;refine tB 29 55 hHeld ?_;refine one_ (i:=28) (N:=some 54) #[true,true,true,true,true,true,true,true,true,true,true,true,true,true,true,true,true,true,true,true,true,true,true,true,true,true,true,true,true,true,false,false,false,false,false,false,false,false,false,false,false] rfl rfl (by kernel_rfl) (by decide) (fun K hK=>?_);refine goes_ Tryz.func27 (by kernel_rfl) rfl #[] (by rfl) rfl rfl zq30 ?_;refine (C1.out _).mono ?_;rintro e W11 ⟨v1,v4,rfl,hR,hT,hb⟩;obtain ⟨F1,Fc1,rfl,hc1,hC1⟩:=Kd.R_reads hR;obtain ⟨F4,Fc4,rfl,hc4,hC4⟩:=Kd.R_reads hT;have P1:=sd hC1;have P2:=sd hc1;have P3:=sd hC4;have P4:=sd hc4;clear hR hT hC1 hc1 hC4 hc4;refine ⟨_,rfl,?_⟩;replace B3:=sd (blk_below B3.out hb);replace B9:=sd (blk_below B9.out hb);replace HB:=sd (HB.out.trans (hb.mono HB.out.size));clear hb hHeld;obtain ⟨k0,k1,k2,k3,k4,_⟩:=bk5 B3;obtain ⟨m0,m1,m2,m3,_⟩:=bk4 B9;refine hK.out _ _ ⟨k0,k1,k2,k3,k4,m0,m1,m2,m3⟩ (fun hHeld=>?_);clear hK K k0 k1 k2 k3 k4 m0 m1 m2 m3;refine nA 54 ?_;refine one_ (i:=30) (N:=some 56) #[true,true,true,true,true,true,true,true,true,true,true,true,true,true,true,true,true,true,true,true,true,true,true,true,true,true,true,true,true,true,true,false,false,false,false,false,false,false,false,false,false] rfl rfl (by kernel_rfl) (by decide) (fun K hK=>?_);refine goes_ Tryz.func12 (by kernel_rfl) rfl #[.agg #[.string ⟨#[114,101,110,116]⟩,.slice F1 livesC.length Fc1,.string ⟨#[53,49]⟩,.string ⟨#[112]⟩,.slice F4 livesG.length Fc4],.agg #[.int .i64 9,.int .i64 (-120),.string ⟨#[]⟩,.string ⟨#[116,104,101,32,114,101,110,116]⟩]] (by rfl) rfl rfl zq30 ?_;refine (C6.out _ _ _ _ _ P1.out P2.out P3.out P4.out (gl_below HG.out HB.out)).mono ?_;rintro e W12 ⟨rfl,hb⟩;refine ⟨_,rfl,?_⟩;replace B3:=sd (blk_below B3.out hb);replace B9:=sd (blk_below B9.out hb);replace HB:=sd (HB.out.trans (hb.mono HB.out.size));clear hb hHeld;obtain ⟨k0,k1,k2,k3,k4,_⟩:=bk5 B3;obtain ⟨m0,m1,m2,m3,_⟩:=bk4 B9;refine hK.out _ _ ⟨k0,k1,k2,k3,k4,m0,m1,m2,m3⟩ (fun hHeld=>?_);clear hK K k0 k1 k2 k3 k4 m0 m1 m2 m3;refine nA 56 ?_;clear P1 P2 P3 P4;refine pB 31 57 ?_;refine pB 32 58 ?_;refine pB 33 59 ?_;refine tB 36 62 hHeld ?_;refine one_ (i:=34) (N:=some 60) #[true,true,true,true,true,true,true,true,true,true,true,true,true,true,true,true,true,true,true,true,true,true,true,true,true,true,true,true,true,true,true,true,true,true,true,false,true,false,false,false,false] rfl rfl (by kernel_rfl) (by decide) (fun K hK=>?_);refine goes_ Tryz.func27 (by kernel_rfl) rfl #[] (by rfl) rfl rfl zq30 ?_;refine (C1.out _).mono ?_;rintro e W13 ⟨v1,v4,rfl,hR,hT,hb⟩;obtain ⟨F1,Fc1,rfl,hc1,hC1⟩:=Kd.R_reads hR;obtain ⟨F4,Fc4,rfl,hc4,hC4⟩:=Kd.R_reads hT;have P1:=sd hC1;have P2:=sd hc1;have P3:=sd hC4;have P4:=sd hc4;clear hR hT hC1 hc1 hC4 hc4;refine ⟨_,rfl,?_⟩;replace B3:=sd (blk_below B3.out hb);replace B9:=sd (blk_below B9.out hb);replace HB:=sd (HB.out.trans (hb.mono HB.out.size));clear hb hHeld;obtain ⟨k0,k1,k2,k3,k4,_⟩:=bk5 B3;obtain ⟨m0,m1,m2,m3,_⟩:=bk4 B9;refine hK.out _ _ ⟨k0,k1,k2,k3,k4,m0,m1,m2,m3⟩ (fun hHeld=>?_);clear hK K k0 k1 k2 k3 k4 m0 m1 m2 m3;refine nA 60 ?_;have T2:=sd (two25 W13 livesR P2.out P1.out P4.out P3.out);refine one_ (i:=35) (N:=some 61) #[true,true,true,true,true,true,true,true,true,true,true,true,true,true,true,true,true,true,true,true,true,true,true,true,true,true,true,true,true,true,true,true,true,true,true,true,true,false,false,false,false] rfl rfl (by kernel_rfl) (by decide) (fun K hK=>?_);refine value_ (v:=.slice (some ⟨W13.heap.size,0,none⟩) 2 2) (w1:=W13.alloc (.cells #[.string ⟨#[]⟩,.slice none 0 0,.string ⟨#[]⟩,.string ⟨#[]⟩,.slice none 0 0,.string ⟨#[114,101,110,116]⟩,.slice F1 livesC.length Fc1,.string ⟨#[53,49]⟩,.string ⟨#[112]⟩,.slice F4 livesG.length Fc4] 25)) (by rfl) rfl (by go_simp) ?_;have hb:=below_alloc (Below.refl W13.heap.size W13) (.cells #[.string ⟨#[]⟩,.slice none 0 0,.string ⟨#[]⟩,.string ⟨#[]⟩,.slice none 0 0,.string ⟨#[114,101,110,116]⟩,.slice F1 livesC.length Fc1,.string ⟨#[53,49]⟩,.string ⟨#[112]⟩,.slice F4 livesG.length Fc4] 25);replace B3:=sd (blk_below B3.out hb);replace B9:=sd (blk_below B9.out hb);replace HB:=sd (HB.out.trans (hb.mono HB.out.size));clear hb hHeld P1 P2 P3 P4;obtain ⟨k0,k1,k2,k3,k4,_⟩:=bk5 B3;obtain ⟨m0,m1,m2,m3,_⟩:=bk4 B9;refine hK.out _ _ ⟨k0,k1,k2,k3,k4,m0,m1,m2,m3⟩ (fun hHeld=>?_);clear hK K k0 k1 k2 k3 k4 m0 m1 m2 m3;refine nA 61 ?_;refine one_ (i:=37) (N:=some 63) #[true,true,true,true,true,true,true,true,true,true,true,true,true,true,true,true,true,true,true,true,true,true,true,true,true,true,true,true,true,true,true,true,true,true,true,true,true,true,false,false,false] rfl rfl (by kernel_rfl) (by decide) (fun K hK=>?_);refine goes_ Tryz.func14 (by kernel_rfl) rfl #[.slice (some ⟨W13.heap.size,0,none⟩) 2 2,.agg #[.int .i64 9,.int .i64 (-120),.string ⟨#[]⟩,.string ⟨#[116,104,101,32,114,101,110,116]⟩]] (by rfl) rfl rfl zq30 ?_;refine (C7.out _ _ T2.out (gl_below HG.out HB.out)).mono ?_;rintro e W14 ⟨rfl,hb⟩;refine ⟨_,rfl,?_⟩;replace B3:=sd (blk_below B3.out hb);replace B9:=sd (blk_below B9.out hb);replace HB:=sd (HB.out.trans (hb.mono HB.out.size));clear hb hHeld;obtain ⟨k0,k1,k2,k3,k4,_⟩:=bk5 B3;obtain ⟨m0,m1,m2,m3,_⟩:=bk4 B9;refine hK.out _ _ ⟨k0,k1,k2,k3,k4,m0,m1,m2,m3⟩ (fun hHeld=>?_);clear hK K k0 k1 k2 k3 k4 m0 m1 m2 m3;refine nA 63 ?_;refine pB 38 64 ?_;refine pB 39 65 ?_;refine pB 40 0 ?_;refine done_ (by kernel_rfl) ?_;go_wp2_with fail
 exact HP.out _ HB.out
end Go.Proofs.YtkbgkekegjfkfaaGreatDoor.A
