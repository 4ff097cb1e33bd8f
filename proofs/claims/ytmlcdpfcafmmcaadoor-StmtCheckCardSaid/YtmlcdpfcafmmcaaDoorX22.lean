-- By pack.py, a program of this session's.
import Derived.Test.YtmlcdpfcafmmcaaDoorX12
import Derived.Test.YtmlcdpfcafmmcaaDoorX21
set_option linter.unusedVariables false
set_option linter.unusedSimpArgs false
namespace Go.Proofs.YtmlcdpfcafmmcaaDoor.A
open Go.RowKit B WW WL WM
theorem zq41 {P:Prop} (h:P:=by (with_reducible repeat (first | refine blk_drewN ?_ _ | refine blk_drew ?_ | refine blk_alloc ?_ _));exact BK101.out):P:=h
theorem zq42 {P:Prop} (h:P:=by repeat (first | (with_reducible first | exact HB.out | apply below_alloc | apply pw_below_drewN | apply below_drew1 | refine below_set ?_ GE101.out) | exact HB.out)):P:=h
end Go.Proofs.YtmlcdpfcafmmcaaDoor.A
namespace Go.Proofs.YtmlcdpfcafmmcaaDoor.A
open Go.RowKit B WW WL WM
def lightL:List S44→Bool
  | []=>true
  | x :: r=>if (x.f2.size:Int) > 100 then false else if (x.f3.size:Int) > 100 then false else lightL r
def lightS (acc cur:ByteArray) (ls:List S44):Bool:=if (ls.length:Int) > 230 then false else if (acc.size:Int) > 100 then false else if (cur.size:Int) > 100 then false else lightL ls
theorem lightL_all {ls:List S44} (h:lightL ls=true):∀ x∈ls,x.f2.size≤100∧x.f3.size≤100:=by
  induction ls with
  | nil=>intro x hx;cases hx
  | cons y r ih =>
    rw [lightL] at h;split at h
    · cases h
    split at h
    · cases h
    intro x hx;rcases List.mem_cons.mp hx with rfl | hx
    · omega
    · exact ih h x hx
theorem lightS_is {acc cur:ByteArray} {ls:List S44} (h:lightS acc cur ls=true):acc.size≤100∧cur.size≤100∧ls.length≤230∧∀ x∈ls,x.f2.size≤100∧x.f3.size≤100:=by
  unfold lightS at h;split at h
  · cases h
  split at h
  · cases h
  split at h
  · cases h
  exact ⟨by omega,by omega,by omega,lightL_all h⟩
theorem lightS_short {acc cur:ByteArray} {ls:List S44} (h:lightS acc cur ls=true):acc.size≤1000000∧cur.size≤1000000∧Short ls:=by
  obtain ⟨h1,h2,h3,h4⟩:=lightS_is h;exact ⟨by omega,by omega,fun x hx=>by have:=h4 x hx;omega⟩
end Go.Proofs.YtmlcdpfcafmmcaaDoor.A
namespace Go.Proofs.YtmlcdpfcafmmcaaDoor.A
open Go.RowKit B WW WL WM
attribute [local go_sem] max2_int min2_int max_two min_two max_three min_three max_four min_four
set_option maxHeartbeats 8000000
set_option maxRecDepth 100000
mutual
def lw47_light.j0:Nat→Bool→ByteArray→ByteArray→Int→Int→Int→List (S44)→Option (Bool)
 | 0,_,_,_,_,_,_,_=>none
 | k+1,x19,x102000,x102001,x102002,x102003,x102004,x102005=>if x19=true then (some false) else (lw47_light.l0 k 0 x102000 x102001 x102002 x102003 x102004 x102005)
def lw47_light.l0:Nat→Int→ByteArray→ByteArray→Int→Int→Int→List (S44)→Option (Bool)
 | 0,_,_,_,_,_,_,_=>none
 | k+1,x3,x102000,x102001,x102002,x102003,x102004,x102005=>if x3 < (x102005.length:Int) then (if 0≤x3 then (if (((rd_T44 x102005 x3).f2).size:Int) > 100 then (some false) else (if (((rd_T44 x102005 x3).f3).size:Int) > 100 then (some false) else (lw47_light.l0 k (wrap64 (x3+1)) x102000 x102001 x102002 x102003 x102004 x102005))) else (none)) else (some true)
end
def lw47_light.f (k:Nat) (a0_0:ByteArray) (a0_1:ByteArray) (a0_2:Int) (a0_3:Int) (a0_4:Int) (l0_5:List (S44)):Option (Bool):=if (l0_5.length:Int) > 230 then (lw47_light.j0 k true a0_0 a0_1 a0_2 a0_3 a0_4 l0_5) else (if (a0_0.size:Int) > 100 then (lw47_light.j0 k true a0_0 a0_1 a0_2 a0_3 a0_4 l0_5) else (lw47_light.j0 k (decide ((a0_1.size:Int) > 100)) a0_0 a0_1 a0_2 a0_3 a0_4 l0_5))
theorem lw47_light.calls (k:Nat) (a0_0 a0_1:ByteArray) (a0_2 a0_3 a0_4:Int) (A0_5:Option Addr) (c0_5:Nat) (l0_5:List (S44)) (r:Bool) (w:World) (hr0_5:Kd.C k44 w A0_5 l0_5.length l0_5) (hc0_5:l0_5.length≤c0_5) (h:lw47_light.f k a0_0 a0_1 a0_2 a0_3 a0_4 l0_5=some r) :
  Calls Tryd.prog 10 #[.agg #[.string a0_0,.string a0_1,.int .i64 a0_2,.int .i64 a0_3,.int .i64 a0_4,.slice A0_5 l0_5.length c0_5]] w fun e w'=>e=.returned (.bool r)∧Below w.heap.size w w':=by
 have hu24:=Tryd.underlying24;have HR0_5:=sd hr0_5;have HC0_5:=sd hc0_5;clear hr0_5 hc0_5;have HB:=sd (Below.refl w.heap.size w);have H:=h;clear h;unfold lw47_light.f at H;have HC2:=sd H;clear H;go_enter Tryd.func10,Tryd.ntmps10
 go_upto_region 1 with (first | ((with_reducible refine gate_dst (N:=1) rfl ?_);(try (refine gate_guard (by rfl) ?_;dsimp only));refine bxA 1 #[.string a0_0,.string a0_1,.int .i64 a0_2,.int .i64 a0_3,.int .i64 a0_4,.slice A0_5 l0_5.length c0_5] 24 ?_;intro gb101 hg w3 hbox hb;have BK101:=sd (hbox);have GW101:=gem hg HB;have GE101:=GW101;replace HB:=hbm HB hb;clear hb hbox hg))
 (try simp only [Act.put,List.setIfInBounds_toArray,List.set_cons_zero,List.set_cons_succ])
 go_cut [19] (fun v19 wc=>∃ (kq:Nat) (x19_1:Bool),v19=.bool x19_1∧Aside0 (lw47_light.j0 kq x19_1 a0_0 a0_1 a0_2 a0_3 a0_4 l0_5=some r)∧Aside0 (kq≤k)∧Aside0 (wc.heap[gb101]?=some (.cells #[.string a0_0,.string a0_1,.int .i64 a0_2,.int .i64 a0_3,.int .i64 a0_4,(.slice A0_5 l0_5.length c0_5)] 24 (0,0)))∧Aside0 (Below w.heap.size w wc))
 case first =>
  have H:=HC2.out;clear HC2;replace H:=ifI H;rcases H with ⟨c4,H⟩ | ⟨c4,H⟩
  ·have c4b0:decide (230 < (l0_5.length:Int))=true:=decide_eq_true c4;have c4b1:decide (230 < l0_5.length)=true:=decide_eq_true (by omega);clear c4;(first | rw [c4b0] | (simp only [i64_w,i32_w];rw [c4b0]) | skip)
   have H':=sd H;clear H;obtain ⟨_,_,_,_,_,_,_,_,_,_,_,_⟩:=bk6 BK101;go_wp2
   go_meet
   case rel=>exact ⟨_,(true),zq1,H',⟨by first | omega | exact Nat.le_refl _⟩,⟨zq41⟩,⟨zq42⟩⟩
  have c4b0:decide (230 < (l0_5.length:Int))=false:=decide_eq_false c4;have c4b1:decide (230 < l0_5.length)=false:=decide_eq_false (by omega);clear c4;(first | rw [c4b0] | (simp only [i64_w,i32_w];rw [c4b0]) | skip)
  replace H:=ifI H;rcases H with ⟨c6,H⟩ | ⟨c6,H⟩
  ·have c6b0:decide (100 < (a0_0.size:Int))=true:=decide_eq_true c6;have c6b1:decide (100 < a0_0.size)=true:=decide_eq_true (by omega);clear c6;have H':=sd H;clear H;obtain ⟨_,_,_,_,_,_,_,_,_,_,_,_⟩:=bk6 BK101;go_wp2
   go_meet
   case rel=>exact ⟨_,(true),zq1,H',⟨by first | omega | exact Nat.le_refl _⟩,⟨zq41⟩,⟨zq42⟩⟩
  have c6b0:decide (100 < (a0_0.size:Int))=false:=decide_eq_false c6;have c6b1:decide (100 < a0_0.size)=false:=decide_eq_false (by omega);clear c6;have H':=sd H;clear H;obtain ⟨_,_,_,_,_,_,_,_,_,_,_,_⟩:=bk6 BK101;go_wp2
  go_meet
  case rel=>exact ⟨_,(decide ((a0_1.size:Int) > 100)),zq1,H',⟨by first | omega | exact Nat.le_refl _⟩,⟨zq41⟩,⟨zq42⟩⟩
 case rest =>
  clear HC2;try clear c1
  try clear p2
  try clear c4
  try clear c4b0
  try clear c4b1
  try clear c6
  try clear c6b0
  try clear c6b1
  try clear hcz5_0
  try clear hcz5_1
  try clear hcz5_2
  try clear hcz5_3
  try clear hcz5_4
  try clear hcz5_5
  try clear hcz7_0
  try clear hcz7_1
  try clear hcz7_2
  try clear hcz7_3
  try clear hcz7_4
  try clear hcz7_5
  try clear hcz8_0
  try clear hcz8_1
  try clear hcz8_2
  try clear hcz8_3
  try clear hcz8_4
  try clear hcz8_5
  try clear hfz5_0
  try clear hfz5_1
  try clear hfz5_2
  try clear hfz5_3
  try clear hfz5_4
  try clear hfz5_5
  try clear hfz7_0
  try clear hfz7_1
  try clear hfz7_2
  try clear hfz7_3
  try clear hfz7_4
  try clear hfz7_5
  try clear hfz8_0
  try clear hfz8_1
  try clear hfz8_2
  try clear hfz8_3
  try clear hfz8_4
  try clear hfz8_5
  obtain ⟨kq,x19_1,rfl,HA,HJ1,BK101,HB⟩:=hcut
  cases kq with
  | zero=>exact absurd HA.out (by simp [lw47_light.j0])
  | succ kj1 =>
   have H:=HA.out;clear HA;simp only [lw47_light.j0] at H
   by_cases c9:x19_1=true
   ·subst c9;rw [if_pos rfl] at H;obtain rfl:=Option.some.inj H;go_wp2
    go_ret
    exact ⟨zq10,zq42⟩
   replace c9:=Bool.eq_false_iff.mpr c9;subst c9;rw [if_neg Bool.false_ne_true] at H;have H':=sd H;clear H;go_wp2
   go_loopg [3] kj1 (fun kq v3 w'=>∃ (x3_2:Int),v3=.int .i64 x3_2∧Aside0 (lw47_light.l0 kq x3_2 a0_0 a0_1 a0_2 a0_3 a0_4 l0_5=some r)∧Aside0 (kq≤kj1)∧Aside0 (w'.heap[gb101]?=some (.cells #[.string a0_0,.string a0_1,.int .i64 a0_2,.int .i64 a0_3,.int .i64 a0_4,(.slice A0_5 l0_5.length c0_5)] 24 (0,0)))∧Aside0 (Below w.heap.size w w'))
   case atStart=>exact ⟨(0),zq1,H',⟨Nat.le_refl _⟩,⟨zq41⟩,⟨zq42⟩⟩
   case round =>
    clear H';try clear c1
    try clear p2
    try clear c4
    try clear c4b0
    try clear c4b1
    try clear c6
    try clear c6b0
    try clear c6b1
    try clear c9
    try clear hcz5_0
    try clear hcz5_1
    try clear hcz5_2
    try clear hcz5_3
    try clear hcz5_4
    try clear hcz5_5
    try clear hcz7_0
    try clear hcz7_1
    try clear hcz7_2
    try clear hcz7_3
    try clear hcz7_4
    try clear hcz7_5
    try clear hcz8_0
    try clear hcz8_1
    try clear hcz8_2
    try clear hcz8_3
    try clear hcz8_4
    try clear hcz8_5
    try clear hfz5_0
    try clear hfz5_1
    try clear hfz5_2
    try clear hfz5_3
    try clear hfz5_4
    try clear hfz5_5
    try clear hfz7_0
    try clear hfz7_1
    try clear hfz7_2
    try clear hfz7_3
    try clear hfz7_4
    try clear hfz7_5
    try clear hfz8_0
    try clear hfz8_1
    try clear hfz8_2
    try clear hfz8_3
    try clear hfz8_4
    try clear hfz8_5
    try clear p2
    obtain ⟨x3_2,rfl,HA,HK2,BK101,HB⟩:=hrel
    cases gk with
    | zero=>exact absurd HA.out (by simp [lw47_light.l0])
    | succ k2 =>
     have H:=HA.out;clear HA;simp only [lw47_light.l0] at H
     replace H:=ifI H;rcases H with ⟨c10,H⟩ | ⟨c10,H⟩
     ·have c10b0:decide (x3_2 < (l0_5.length:Int))=true:=decide_eq_true c10;clear c10;replace H:=ifI H;rcases H with ⟨c11,H⟩ | ⟨c11,H⟩
      ·have c11b0:decide (0≤x3_2)=true:=decide_eq_true c11;clear c11;replace H:=ifI H;rcases H with ⟨c12,H⟩ | ⟨c12,H⟩
       ·have c12b0:decide (100 < (((rd_T44 l0_5 x3_2).f2).size:Int))=true:=decide_eq_true c12;have c12b1:decide (100 < ((rd_T44 l0_5 x3_2).f2).size)=true:=decide_eq_true (by omega);clear c12;obtain rfl:=Option.some.inj H;obtain ⟨_,_,_,_,_,_,_,_,_,_,_,_⟩:=bk6 BK101;have p102:0≤(x3_2:Int):=od;have q102:x3_2 < (l0_5.length:Int):=od;obtain ⟨ad102,e102,hx102_0,hx102_1,hx102_2,hx102_3⟩:=at_T44 HR0_5.out x3_2 p102 q102
        cases e102
        replace hx102_0:=(HB.out.cell (World.block_lt_of_cell? w _ hx102_0)).trans hx102_0;replace hx102_1:=(HB.out.cell (World.block_lt_of_cell? w _ hx102_1)).trans hx102_1;replace hx102_2:=(HB.out.cell (World.block_lt_of_cell? w _ hx102_2)).trans hx102_2;replace hx102_3:=(HB.out.cell (World.block_lt_of_cell? w _ hx102_3)).trans hx102_3;replace p102:=eq_true p102;replace q102:=eq_true q102;go_wp2
        go_ret
        exact ⟨zq10,zq42⟩
       have c12b0:decide (100 < (((rd_T44 l0_5 x3_2).f2).size:Int))=false:=decide_eq_false c12;have c12b1:decide (100 < ((rd_T44 l0_5 x3_2).f2).size)=false:=decide_eq_false (by omega);clear c12;replace H:=ifI H;rcases H with ⟨c14,H⟩ | ⟨c14,H⟩
       ·have c14b0:decide (100 < (((rd_T44 l0_5 x3_2).f3).size:Int))=true:=decide_eq_true c14;have c14b1:decide (100 < ((rd_T44 l0_5 x3_2).f3).size)=true:=decide_eq_true (by omega);clear c14;obtain rfl:=Option.some.inj H;obtain ⟨_,_,_,_,_,_,_,_,_,_,_,_⟩:=bk6 BK101;have p102:0≤(x3_2:Int):=od;have q102:x3_2 < (l0_5.length:Int):=od;obtain ⟨ad102,e102,hx102_0,hx102_1,hx102_2,hx102_3⟩:=at_T44 HR0_5.out x3_2 p102 q102
        cases e102
        replace hx102_0:=(HB.out.cell (World.block_lt_of_cell? w _ hx102_0)).trans hx102_0;replace hx102_1:=(HB.out.cell (World.block_lt_of_cell? w _ hx102_1)).trans hx102_1;replace hx102_2:=(HB.out.cell (World.block_lt_of_cell? w _ hx102_2)).trans hx102_2;replace hx102_3:=(HB.out.cell (World.block_lt_of_cell? w _ hx102_3)).trans hx102_3;replace p102:=eq_true p102;replace q102:=eq_true q102;have p103:0≤(x3_2:Int):=od;have q103:x3_2 < (l0_5.length:Int):=od;obtain ⟨ad103,e103,hx103_0,hx103_1,hx103_2,hx103_3⟩:=at_T44 HR0_5.out x3_2 p103 q103;obtain rfl:ad102=ad103:=(by injection e103)
        replace hx103_0:=(HB.out.cell (World.block_lt_of_cell? w _ hx103_0)).trans hx103_0;replace hx103_1:=(HB.out.cell (World.block_lt_of_cell? w _ hx103_1)).trans hx103_1;replace hx103_2:=(HB.out.cell (World.block_lt_of_cell? w _ hx103_2)).trans hx103_2;replace hx103_3:=(HB.out.cell (World.block_lt_of_cell? w _ hx103_3)).trans hx103_3;replace p103:=eq_true p103;replace q103:=eq_true q103;go_wp2
        go_ret
        exact ⟨zq10,zq42⟩
       have c14b0:decide (100 < (((rd_T44 l0_5 x3_2).f3).size:Int))=false:=decide_eq_false c14;have c14b1:decide (100 < ((rd_T44 l0_5 x3_2).f3).size)=false:=decide_eq_false (by omega);clear c14;have H':=sd H;clear H;obtain ⟨_,_,_,_,_,_,_,_,_,_,_,_⟩:=bk6 BK101;have p102:0≤(x3_2:Int):=od;have q102:x3_2 < (l0_5.length:Int):=od;obtain ⟨ad102,e102,hx102_0,hx102_1,hx102_2,hx102_3⟩:=at_T44 HR0_5.out x3_2 p102 q102
       cases e102
       replace hx102_0:=(HB.out.cell (World.block_lt_of_cell? w _ hx102_0)).trans hx102_0;replace hx102_1:=(HB.out.cell (World.block_lt_of_cell? w _ hx102_1)).trans hx102_1;replace hx102_2:=(HB.out.cell (World.block_lt_of_cell? w _ hx102_2)).trans hx102_2;replace hx102_3:=(HB.out.cell (World.block_lt_of_cell? w _ hx102_3)).trans hx102_3;replace p102:=eq_true p102;replace q102:=eq_true q102;have p103:0≤(x3_2:Int):=od;have q103:x3_2 < (l0_5.length:Int):=od;obtain ⟨ad103,e103,hx103_0,hx103_1,hx103_2,hx103_3⟩:=at_T44 HR0_5.out x3_2 p103 q103;obtain rfl:ad102=ad103:=(by injection e103)
       replace hx103_0:=(HB.out.cell (World.block_lt_of_cell? w _ hx103_0)).trans hx103_0;replace hx103_1:=(HB.out.cell (World.block_lt_of_cell? w _ hx103_1)).trans hx103_1;replace hx103_2:=(HB.out.cell (World.block_lt_of_cell? w _ hx103_2)).trans hx103_2;replace hx103_3:=(HB.out.cell (World.block_lt_of_cell? w _ hx103_3)).trans hx103_3;replace p103:=eq_true p103;replace q103:=eq_true q103;go_wp2
       go_roundg k2
       case measure=>have:=HJ1.out;have:=HK2.out;omega
       case rel=>exact ⟨(wrap64 (x3_2+1)),zq1,H',⟨by have:=HJ1.out;have:=HK2.out;omega⟩,⟨zq41⟩,⟨zq42⟩⟩
      exact absurd H (by simp)
     have c10b0:decide (x3_2 < (l0_5.length:Int))=false:=decide_eq_false c10;clear c10;obtain rfl:=Option.some.inj H;obtain ⟨_,_,_,_,_,_,_,_,_,_,_,_⟩:=bk6 BK101;go_wp2
     go_ret
     exact ⟨zq10,zq42⟩
end Go.Proofs.YtmlcdpfcafmmcaaDoor.A
namespace Go.Proofs.YtmlcdpfcafmmcaaDoor.A
open Go.RowKit B WW WL WM
theorem light_ev (acc cur:ByteArray) (no op cl:Int) (ls:List S44):Ev (fun k=>lw47_light.f k acc cur no op cl ls) (lightS acc cur ls):=by
  have loop:ls.length≤230→∀ (R:List S44) (i:Nat),ls.drop i=R→Ev (fun k=>lw47_light.l0 k (i:Int) acc cur no op cl ls) (lightL R):=fun hl R=>by
    induction R with
    | nil =>
      intro i h;have:=List.drop_eq_nil_iff.mp h;refine Ev.step (fun k=>by rw [lw47_light.l0]) ?_;exact Ev.no (by omega) (Ev.is rfl)
    | cons x r ih =>
      intro i h;obtain ⟨hi,hx,hr⟩:=rd44_at h;refine Ev.step (fun k=>by rw [lw47_light.l0]) (Ev.yes (by omega) (Ev.yes (by omega) ?_));rw [hx,w_next i (by omega),lightL];refine Ev.both (fun e=>Ev.is (by rw [if_pos e])) (fun e=>?_);rw [if_neg e];refine Ev.both (fun e=>Ev.is (by rw [if_pos e])) (fun e=>?_);rw [if_neg e];exact ih (i+1) hr
  have tr:Ev (fun k=>lw47_light.j0 k true acc cur no op cl ls) false:=Ev.step (fun k=>by rw [lw47_light.j0]) (Ev.yes rfl (Ev.is rfl));unfold lw47_light.f lightS;refine Ev.both (fun e=>by rw [if_pos e];exact tr) (fun e=>?_);rw [if_neg e];refine Ev.both (fun e=>by rw [if_pos e];exact tr) (fun e2=>?_);rw [if_neg e2];by_cases c:(cur.size:Int) > 100
  · rw [if_pos c,decide_eq_true c];exact tr
  · rw [if_neg c,decide_eq_false c]
    refine Ev.step (fun k=>by rw [lw47_light.j0]) ?_;exact Ev.no (by decide) (loop (by omega) ls 0 rfl)
end Go.Proofs.YtmlcdpfcafmmcaaDoor.A
namespace Go.Proofs.YtmlcdpfcafmmcaaDoor.A
open Go.ChangeShapes Go.WideShapes Go.ChangeAt Go.Joins Go.RowKit B WW
set_option maxRecDepth 100000 in
theorem opens_line:Opens Tryd.prog 44 k44 (fun x=>(Lit.int .i64 x.f0).wf=true∧(Lit.int .i64 x.f1).wf=true∧x.f2.size≤140737488351232∧x.f3.size≤140737488351232) :=
  Opens.iso (Opens.struct (fs := #[⟨"Day", 3, 0, false, "", "", 0⟩, ⟨"Amount", 3, 1, false, "", "", 8⟩, ⟨"Ref", 9, 2, false, "", "", 16⟩, ⟨"Text", 9, 3, false, "", "", 32⟩]) (by kernel_rfl) (by kernel_rfl)
    (OpensF.cons (Opens.int Tryd.underlying3 (by kernel_rfl)) rfl (OpensF.cons (Opens.int Tryd.underlying3 (by kernel_rfl)) rfl (OpensF.cons (Opens.string Tryd.underlying9 (by kernel_rfl)) rfl (OpensF.one (Opens.string Tryd.underlying9 (by kernel_rfl)) rfl) rfl) rfl) rfl))
    (fun x:S44=>(x.f0,x.f1,x.f2,x.f3)) (fun p=>⟨p.1,p.2.1,p.2.2.1,p.2.2.2⟩) (fun _=>rfl) (fun _ h=>h)
set_option maxRecDepth 100000 in
theorem opens_stmt:Opens Tryd.prog 24 (Kd.pair Kd.string (Kd.pair Kd.string (Kd.pair (Kd.int .i64) (Kd.pair (Kd.int .i64) (Kd.pair (Kd.int .i64) (Kd.slice 44 k44)))))) (fun x=>x.1.size≤140737488351232∧x.2.1.size≤140737488351232∧(Lit.int .i64 x.2.2.1).wf=true∧(Lit.int .i64 x.2.2.2.1).wf=true∧(Lit.int .i64 x.2.2.2.2.1).wf=true∧(∀ y∈x.2.2.2.2.2,(Lit.int .i64 y.f0).wf=true∧(Lit.int .i64 y.f1).wf=true∧y.f2.size≤140737488351232∧y.f3.size≤140737488351232)∧x.2.2.2.2.2.length≤maxLen∧x.2.2.2.2.2.length * Tryd.prog.bytesOf 44≤140737488351232) :=
  Opens.struct (fs := #[⟨"Account", 9, 0, false, "", "", 0⟩, ⟨"Cur", 9, 1, false, "", "", 16⟩, ⟨"No", 3, 2, false, "", "", 32⟩, ⟨"Open", 3, 3, false, "", "", 40⟩, ⟨"Close", 3, 4, false, "", "", 48⟩, ⟨"Lines", 22, 5, false, "", "", 56⟩]) (by kernel_rfl) (by kernel_rfl)
    (OpensF.cons (Opens.string Tryd.underlying9 (by kernel_rfl)) rfl (OpensF.cons (Opens.string Tryd.underlying9 (by kernel_rfl)) rfl (OpensF.cons (Opens.int Tryd.underlying3 (by kernel_rfl)) rfl (OpensF.cons (Opens.int Tryd.underlying3 (by kernel_rfl)) rfl (OpensF.cons (Opens.int Tryd.underlying3 (by kernel_rfl)) rfl (OpensF.one (Opens.slice (by kernel_rfl) (by kernel_rfl) opens_line) rfl) rfl) rfl) rfl) rfl) rfl)
set_option maxRecDepth 100000 in
theorem open_stmt {H:Type} {enc:TypeId×Value→H} {W:World} {base b0:Nat} {spare:Nat→Bool} {held:Bool} {r:Reach} {v:Value} {y:DataW H} {p:List MemPlace}
    (hv:Value.okWide Tryd.prog W r b0 24 v) (hh:DataW.Trod enc Tryd.prog W base spare held 24 v y p) (hw:∀ x∈y.weights Tryd.prog 24,x≤reachBytes) :
    ∃ (acc cur:ByteArray) (no op cl:Int) (a:Option Addr) (c:Nat) (xs:List S44),v=.agg #[.string acc,.string cur,.int .i64 no,.int .i64 op,.int .i64 cl,.slice a xs.length c]∧xs.length≤c∧Kd.C k44 W a xs.length xs∧(I64 no∧I64 op∧I64 cl)∧∀ x∈xs,I64 x.f0∧I64 x.f1:=by
  obtain ⟨cs,⟨acc,cur,no,op,cl,xs⟩,rfl,⟨_,_,hcs,rfl,_,_,rfl,rfl,_,_,rfl,rfl,_,_,rfl,rfl,_,_,rfl,rfl,A,c,rfl,h1,h2⟩,_,_,h3,h4,h5,h6,_⟩:=opens_stmt.agg Tryd.underlying24 hv hh hw;obtain ⟨l⟩:=cs;obtain rfl:l=_:=hcs;exact ⟨acc,cur,no,op,cl,A,c,xs,rfl,h1,h2,⟨bounds_i64 h3,bounds_i64 h4,bounds_i64 h5⟩,fun x hx=>⟨bounds_i64 (h6 x hx).1,bounds_i64 (h6 x hx).2.1⟩⟩
end Go.Proofs.YtmlcdpfcafmmcaaDoor.A
