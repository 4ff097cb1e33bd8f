-- By pack.py, a program of this session's.
import Derived.Test.YtkbgkekegjfkfaaGreatDoorX23
import Derived.Test.YtkbgkekegjfkfaaGreatDoorX24
set_option linter.unusedVariables false
set_option linter.unusedSimpArgs false
namespace Go.Proofs.YtkbgkekegjfkfaaGreatDoor.A
open Go.RowKit B WW WL WM
theorem zq102 {P:Prop} (h:P:=by (with_reducible repeat (first | refine blk_drewN ?_ _ | refine blk_drew ?_ | refine blk_alloc ?_ _));exact BK271.out):P:=h
theorem zq103 {P:Prop} (h:P:=by (with_reducible repeat (first | refine blk_drewN ?_ _ | refine blk_drew ?_ | refine blk_alloc ?_ _));exact BK272.out):P:=h
theorem zq104 {P:Prop} (h:P:=by repeat (first | (with_reducible first | exact HB.out | apply below_alloc | apply pw_below_drewN | apply below_drew1 | refine below_set ?_ GE271.out | refine below_set ?_ GE272.out) | exact HB.out)):P:=h
theorem zq105 {P:Prop} (h:P:=by repeat (first | (with_reducible first | exact HB.out | exact Below.refl _ _ | apply below_alloc | apply pw_below_drewN | apply below_drew1 | refine below_set ?_ GE271.out | refine below_set ?_ GE272.out) | exact HB.out)):P:=h
end Go.Proofs.YtkbgkekegjfkfaaGreatDoor.A
namespace Go.Proofs.YtkbgkekegjfkfaaGreatDoor.A
open Go.RowKit B WW WL WM
attribute [local go_sem] max2_int min2_int max_two min_two max_three min_three max_four min_four
set_option maxHeartbeats 8000000
set_option maxRecDepth 100000
def lw48_RulesHolds.j0:Nat→Bool→ByteArray→List (S48)→ByteArray→ByteArray→List (S50)→Int→Int→ByteArray→ByteArray→Option (Bool)
 | 0,_,_,_,_,_,_,_,_,_,_=>none
 | k+1,x18,x272000,x272001,x272002,x272003,x272004,x273000,x273001,x273002,x273003=>if x18=true then (some true) else ((rules_Holds.f k x272000 x272001 x272002 x272003 x272004 x273000 x273001 x273002 x273003).bind fun t274=>((rf48_Holds.f k x272000 x272001 x272002 x272003 x272004 x273000 x273001 x273002 x273003).bind fun t275=>(if (t274 == t275)=true then ((lw48_lives.f).bind fun t276=>(some t276)) else (some false))))
def lw48_RulesHolds.f (k:Nat) (a0_0:ByteArray) (l0_1:List (S48)) (a0_2:ByteArray) (a0_3:ByteArray) (l0_4:List (S50)) (a1_0:Int) (a1_1:Int) (a1_2:ByteArray) (a1_3:ByteArray):Option (Bool):=(lw48_large.f k a0_0 l0_1 a0_2 a0_3 l0_4).bind fun t273=>(if t273=true then (lw48_RulesHolds.j0 k true a0_0 l0_1 a0_2 a0_3 l0_4 a1_0 a1_1 a1_2 a1_3) else (if (a1_2.size:Int) > 400 then (lw48_RulesHolds.j0 k true a0_0 l0_1 a0_2 a0_3 l0_4 a1_0 a1_1 a1_2 a1_3) else (lw48_RulesHolds.j0 k (decide ((a1_3.size:Int) > 400)) a0_0 l0_1 a0_2 a0_3 l0_4 a1_0 a1_1 a1_2 a1_3)))
def lw48_RulesHolds.T3:Bool×List (List Nat×List Nat):=(true,[([],[]),([],[]),([0,1],[0,1]),([],[]),([],[]),([3,4,2],[3,4]),([2,5],[2,5]),([6,5],[6]),([7,7],[7]),([7,8],[7,8]),([9,8,0,1,2,3,4,5,6,7,8,9],[9])])
def lw48_RulesHolds.B3:List Nat:=[0,0,3,0,0,31,63,127,255,511,1023]
theorem lw48_RulesHolds.tab3:rtab .any (opsOf Tryz.f4 3)=lw48_RulesHolds.T3:=by kernel_rfl
theorem lw48_RulesHolds.bits3:waitsOk lw48_RulesHolds.T3.2 lw48_RulesHolds.B3=true:=by kernel_rfl
theorem lw48_RulesHolds.calls (k:Nat) (a0_0:ByteArray) (A0_1:Option Addr) (c0_1:Nat) (l0_1:List (S48)) (a0_2 a0_3:ByteArray) (A0_4:Option Addr) (c0_4:Nat) (l0_4:List (S50)) (a1_0 a1_1:Int) (a1_2 a1_3:ByteArray) (r:Bool) (w:World) (hr0_1:Kd.C k48 w A0_1 l0_1.length l0_1) (hc0_1:l0_1.length≤c0_1) (hr0_4:Kd.C k50 w A0_4 l0_4.length l0_4) (hc0_4:l0_4.length≤c0_4) (h:lw48_RulesHolds.f k a0_0 l0_1 a0_2 a0_3 l0_4 a1_0 a1_1 a1_2 a1_3=some r) (hG:Gl w) :
  Calls Tryz.prog 4 #[.agg #[.string a0_0,.slice A0_1 l0_1.length c0_1,.string a0_2,.string a0_3,.slice A0_4 l0_4.length c0_4],.agg #[.int .i64 a1_0,.int .i64 a1_1,.string a1_2,.string a1_3]] w fun e w'=>e=.returned (.bool r)∧Below w.heap.size w w':=by
 have HG:=sd hG;clear hG;have hu25:=Tryz.underlying25;have hu32:=Tryz.underlying32;have HR0_1:=sd hr0_1;have HC0_1:=sd hc0_1;clear hr0_1 hc0_1;have HR0_4:=sd hr0_4;have HC0_4:=sd hc0_4;clear hr0_4 hc0_4;have HB:=sd (Below.refl w.heap.size w);have H:=h;clear h;unfold lw48_RulesHolds.f at H;have HC3:=sd H;clear H;go_enter Tryz.func4,Tryz.ntmps4
 go_upto_region 1 with (first | ((with_reducible refine gate_dst (N:=2) rfl ?_);(try (refine gate_guard (by rfl) ?_;dsimp only));refine bxA 2 #[.string a0_0,.slice A0_1 l0_1.length c0_1,.string a0_2,.string a0_3,.slice A0_4 l0_4.length c0_4] 25 ?_;intro gb271 hg w4 hbox hb;have BK271:=sd (hbox);have GW271:=gem hg HB;have GE271:=GW271;replace HB:=hbm HB hb;clear hb hbox hg) | ((with_reducible refine gate_dst (N:=3) rfl ?_);(try (refine gate_guard (by rfl) ?_;dsimp only));refine bxA 3 #[.int .i64 a1_0,.int .i64 a1_1,.string a1_2,.string a1_3] 32 ?_;intro gb272 hg w5 hbox hb;have BK272:=sd (hbox);have GW272:=gem hg HB;have GE272:=GW272;have NB271_272:=nlm hg BK271;have NB272_271:=ngm hg BK271;replace BK271:=bkm BK271 hb;replace HB:=hbm HB hb;clear hb hbox hg))
 (try simp only [Act.put,List.setIfInBounds_toArray,List.set_cons_zero,List.set_cons_succ])
 go_cut [18] (fun v18 wc=>∃ (kq:Nat) (x18_2:Bool),v18=.bool x18_2∧Aside0 (lw48_RulesHolds.j0 kq x18_2 a0_0 l0_1 a0_2 a0_3 l0_4 a1_0 a1_1 a1_2 a1_3=some r)∧Aside0 (kq≤k)∧Aside0 (wc.heap[gb271]?=some (.cells #[.string a0_0,(.slice A0_1 l0_1.length c0_1),.string a0_2,.string a0_3,(.slice A0_4 l0_4.length c0_4)] 25 (0,0)))∧Aside0 (wc.heap[gb272]?=some (.cells #[.int .i64 a1_0,.int .i64 a1_1,.string a1_2,.string a1_3] 32 (0,0)))∧Aside0 (Below w.heap.size w wc))
 case first =>
  have H:=HC3.out;clear HC3;replace H:=bdI H;obtain ⟨t273,A6,H⟩:=H;(try dsimp only at H)
  by_cases c7:t273=true
  ·subst c7;rw [if_pos rfl] at H;have H':=sd H;clear H;have hnb8:=NB271_272.out;have hnc8:=NB272_271.out;obtain ⟨_,_,_,_,_,_,_,_,_,_⟩:=bk5 BK271;go_wp2_with (first | ((with_reducible refine gate_callee (f:=8) rfl ?_);refine gL 6 Tryz.func8 #[.agg #[.string a0_0,.slice A0_1 l0_1.length c0_1,.string a0_2,.string a0_3,.slice A0_4 l0_4.length c0_4]] ?_;(with_reducible refine (lw48_large.calls k a0_0 _ _ l0_1 a0_2 a0_3 _ _ l0_4 true _ ?side1 ?side2 ?side3 ?side4 A6.out).mono ?_);(case side1=>exact zq48);(case side2=>exact HC0_1.out);(case side3=>exact zq40);(case side4=>exact HC0_4.out);rintro e w10 ⟨rfl,hb⟩;refine ⟨_,rfl,?_⟩;replace BK271:=bkm BK271 hb;replace BK272:=bkm BK272 hb;replace HB:=hbm HB hb;clear hb))
   go_meet
   case rel=>exact ⟨_,(true),zq7,H',⟨by first | omega | exact Nat.le_refl _⟩,⟨zq102⟩,⟨zq103⟩,⟨zq104⟩⟩
  replace c7:=Bool.eq_false_iff.mpr c7;subst c7;rw [if_neg Bool.false_ne_true] at H;replace H:=ifI H;rcases H with ⟨c11,H⟩ | ⟨c11,H⟩
  ·have c11b0:decide (400 < (a1_2.size:Int))=true:=decide_eq_true c11;have c11b1:decide (400 < a1_2.size)=true:=decide_eq_true (by omega);clear c11;(first | rw [c11b0] | (simp only [i64_w,i32_w];rw [c11b0]) | skip)
   have H':=sd H;clear H;have hnb12:=NB271_272.out;have hnc12:=NB272_271.out;obtain ⟨_,_,_,_,_,_,_,_,_,_⟩:=bk5 BK271;go_wp2_with (first | ((with_reducible refine gate_callee (f:=8) rfl ?_);refine gL 6 Tryz.func8 #[.agg #[.string a0_0,.slice A0_1 l0_1.length c0_1,.string a0_2,.string a0_3,.slice A0_4 l0_4.length c0_4]] ?_;(with_reducible refine (lw48_large.calls k a0_0 _ _ l0_1 a0_2 a0_3 _ _ l0_4 false _ ?side1 ?side2 ?side3 ?side4 A6.out).mono ?_);(case side1=>exact zq48);(case side2=>exact HC0_1.out);(case side3=>exact zq40);(case side4=>exact HC0_4.out);rintro e w14 ⟨rfl,hb⟩;refine ⟨_,rfl,?_⟩;replace BK271:=bkm BK271 hb;replace BK272:=bkm BK272 hb;replace HB:=hbm HB hb;clear hb;obtain ⟨_,_,_,_,_,_,_,_⟩:=bk4 BK272))
   go_meet
   case rel=>exact ⟨_,(true),zq7,H',⟨by first | omega | exact Nat.le_refl _⟩,⟨zq102⟩,⟨zq103⟩,⟨zq104⟩⟩
  have c11b0:decide (400 < (a1_2.size:Int))=false:=decide_eq_false c11;have c11b1:decide (400 < a1_2.size)=false:=decide_eq_false (by omega);clear c11;(first | rw [c11b0] | (simp only [i64_w,i32_w];rw [c11b0]) | skip)
  have H':=sd H;clear H;have hnb16:=NB271_272.out;have hnc16:=NB272_271.out;obtain ⟨_,_,_,_,_,_,_,_,_,_⟩:=bk5 BK271;go_wp2_with (first | ((with_reducible refine gate_callee (f:=8) rfl ?_);refine gL 6 Tryz.func8 #[.agg #[.string a0_0,.slice A0_1 l0_1.length c0_1,.string a0_2,.string a0_3,.slice A0_4 l0_4.length c0_4]] ?_;(with_reducible refine (lw48_large.calls k a0_0 _ _ l0_1 a0_2 a0_3 _ _ l0_4 false _ ?side1 ?side2 ?side3 ?side4 A6.out).mono ?_);(case side1=>exact zq48);(case side2=>exact HC0_1.out);(case side3=>exact zq40);(case side4=>exact HC0_4.out);rintro e w18 ⟨rfl,hb⟩;refine ⟨_,rfl,?_⟩;replace BK271:=bkm BK271 hb;replace BK272:=bkm BK272 hb;replace HB:=hbm HB hb;clear hb;obtain ⟨_,_,_,_,_,_,_,_⟩:=bk4 BK272))
  go_meet
  case rel=>exact ⟨_,(decide ((a1_3.size:Int) > 400)),zq7,H',⟨by first | omega | exact Nat.le_refl _⟩,⟨zq102⟩,⟨zq103⟩,⟨zq104⟩⟩
 case rest =>
  clear HC3;try clear c1
  try clear p2
  try clear c4
  try clear c7
  try clear c8
  try clear c11
  try clear c11b0
  try clear c11b1
  try clear c12
  try clear c16
  try clear hcz13_0
  try clear hcz13_1
  try clear hcz13_2
  try clear hcz13_3
  try clear hcz13_4
  try clear hcz15_0
  try clear hcz15_1
  try clear hcz15_2
  try clear hcz15_3
  try clear hcz17_0
  try clear hcz17_1
  try clear hcz17_2
  try clear hcz17_3
  try clear hcz17_4
  try clear hcz19_0
  try clear hcz19_1
  try clear hcz19_2
  try clear hcz19_3
  try clear hcz9_0
  try clear hcz9_1
  try clear hcz9_2
  try clear hcz9_3
  try clear hcz9_4
  try clear hfz13_0
  try clear hfz13_1
  try clear hfz13_2
  try clear hfz13_3
  try clear hfz13_4
  try clear hfz15_0
  try clear hfz15_1
  try clear hfz15_2
  try clear hfz15_3
  try clear hfz17_0
  try clear hfz17_1
  try clear hfz17_2
  try clear hfz17_3
  try clear hfz17_4
  try clear hfz19_0
  try clear hfz19_1
  try clear hfz19_2
  try clear hfz19_3
  try clear hfz9_0
  try clear hfz9_1
  try clear hfz9_2
  try clear hfz9_3
  try clear hfz9_4
  obtain ⟨kq,x18_2,rfl,HA,HJ2,BK271,BK272,HB⟩:=hcut
  cases kq with
  | zero=>exact absurd HA.out (by simp [lw48_RulesHolds.j0])
  | succ kj2 =>
   have H:=HA.out;clear HA;simp only [lw48_RulesHolds.j0] at H
   by_cases c20:x18_2=true
   ·subst c20;rw [if_pos rfl] at H;obtain rfl:=Option.some.inj H;go_wp2
    go_ret
    exact ⟨zq4,zq104⟩
   replace c20:=Bool.eq_false_iff.mpr c20;subst c20;rw [if_neg Bool.false_ne_true] at H;replace H:=bdI H;obtain ⟨t274,A21,H⟩:=H;(try dsimp only at H)
   replace H:=bdI H;obtain ⟨t275,A22,H⟩:=H;(try dsimp only at H)
   replace H:=ifI H;rcases H with ⟨c23,H⟩ | ⟨c23,H⟩
   ·have c23b0:(t274 == t275)=true:=c23;(try (have c23b1:decide (t274=t275)=true:=by simpa using c23))
    (try (have c23b2:(t274 == t275)=true:=by simpa using c23))
    clear c23;replace H:=bdI H;obtain ⟨t276,A24,H⟩:=H;(try dsimp only at H)
    obtain rfl:=Option.some.inj H;try go_wp2
    replace BK271:=sd (blk_drew BK271.out);replace BK272:=sd (blk_drew BK272.out);replace HB:=sd (below_drew1 HB.out);refine start_ (n:=11) (S:=fun w'=>w'.cell? ⟨gb271,0,none⟩=some (.string a0_0)∧w'.cell? ⟨gb271,1,none⟩=some (.slice A0_1 l0_1.length c0_1)∧w'.cell? ⟨gb271,2,none⟩=some (.string a0_2)∧w'.cell? ⟨gb271,3,none⟩=some (.string a0_3)∧w'.cell? ⟨gb271,4,none⟩=some (.slice A0_4 l0_4.length c0_4)∧w'.cell? ⟨gb272,0,none⟩=some (.int .i64 a1_0)∧w'.cell? ⟨gb272,1,none⟩=some (.int .i64 a1_1)∧w'.cell? ⟨gb272,2,none⟩=some (.string a1_2)∧w'.cell? ⟨gb272,3,none⟩=some (.string a1_3)) (ds:=[]) #[false,false,false,false,false,false,false,false,false,false,false] (by kernel_rfl) rfl rfl ⟨(blk_cell BK271.out 0).trans rfl,(blk_cell BK271.out 1).trans rfl,(blk_cell BK271.out 2).trans rfl,(blk_cell BK271.out 3).trans rfl,(blk_cell BK271.out 4).trans rfl,(blk_cell BK272.out 0).trans rfl,(blk_cell BK272.out 1).trans rfl,(blk_cell BK272.out 2).trans rfl,(blk_cell BK272.out 3).trans rfl⟩ (fun hHeld=>?_);refine with_tabW lw48_RulesHolds.tab3 lw48_RulesHolds.bits3 (fun HT_ HW_=>?_);generalize wc.drew=w25 at BK271 BK272 HB hHeld ⊢;refine tA 0 19 HT_.out HW_.out hHeld ?_;refine tA 1 20 HT_.out HW_.out hHeld ?_;refine tA 3 22 HT_.out HW_.out hHeld ?_;refine tA 4 23 HT_.out HW_.out hHeld ?_;refine one_ (i:=2) (N:=some 21) #[true,true,true,true,true,false,false,false,false,false,false] rfl rfl (one_of HT_.out (by kernel_rfl)) (by decide) (fun K hK=>?_);refine goes_ Tryz.func12 (by kernel_rfl) rfl #[.agg #[.string a0_0,.slice A0_1 l0_1.length c0_1,.string a0_2,.string a0_3,.slice A0_4 l0_4.length c0_4],.agg #[.int .i64 a1_0,.int .i64 a1_1,.string a1_2,.string a1_3]] (by rfl) rfl rfl zq34 ?_;with_reducible refine (rules_Holds.calls kj2 a0_0 _ _ l0_1 a0_2 a0_3 _ _ l0_4 a1_0 a1_1 a1_2 a1_3 t274 _ ?side1 ?side2 ?side3 ?side4 A21.out (gl_below HG.out zq105)).mono ?_
    (case side1=>exact zq48)
    (case side2=>exact HC0_1.out)
    (case side3=>exact zq40)
    (case side4=>exact HC0_4.out)
    rintro e w26 ⟨rfl,hb⟩;refine ⟨_,rfl,?_⟩;replace BK271:=bkm BK271 hb;replace BK272:=bkm BK272 hb;replace HB:=hbm HB hb;clear hb;refine hK.out _ _ ⟨(blk_cell BK271.out 0).trans rfl,(blk_cell BK271.out 1).trans rfl,(blk_cell BK271.out 2).trans rfl,(blk_cell BK271.out 3).trans rfl,(blk_cell BK271.out 4).trans rfl,(blk_cell BK272.out 0).trans rfl,(blk_cell BK272.out 1).trans rfl,(blk_cell BK272.out 2).trans rfl,(blk_cell BK272.out 3).trans rfl⟩ (fun hHeld=>?_);clear hK K;refine nA 21 ?_;refine one_ (i:=5) (N:=some 24) #[true,true,true,true,true,true,false,false,false,false,false] rfl rfl (one_of HT_.out (by kernel_rfl)) (by decide) (fun K hK=>?_);refine goes_ Tryz.func13 (by kernel_rfl) rfl #[.agg #[.string a0_0,.slice A0_1 l0_1.length c0_1,.string a0_2,.string a0_3,.slice A0_4 l0_4.length c0_4],.agg #[.int .i64 a1_0,.int .i64 a1_1,.string a1_2,.string a1_3]] (by rfl) rfl rfl zq34 ?_;with_reducible refine (rf48_Holds.calls kj2 a0_0 _ _ l0_1 a0_2 a0_3 _ _ l0_4 a1_0 a1_1 a1_2 a1_3 t275 _ ?side1 ?side2 ?side3 ?side4 A22.out).mono ?_
    (case side1=>exact zq48)
    (case side2=>exact HC0_1.out)
    (case side3=>exact zq40)
    (case side4=>exact HC0_4.out)
    rintro e w27 ⟨rfl,hb⟩;refine ⟨_,rfl,?_⟩;replace BK271:=bkm BK271 hb;replace BK272:=bkm BK272 hb;replace HB:=hbm HB hb;clear hb;refine hK.out _ _ ⟨(blk_cell BK271.out 0).trans rfl,(blk_cell BK271.out 1).trans rfl,(blk_cell BK271.out 2).trans rfl,(blk_cell BK271.out 3).trans rfl,(blk_cell BK271.out 4).trans rfl,(blk_cell BK272.out 0).trans rfl,(blk_cell BK272.out 1).trans rfl,(blk_cell BK272.out 2).trans rfl,(blk_cell BK272.out 3).trans rfl⟩ (fun hHeld=>?_);clear hK K;refine nA 24 ?_;refine pA 6 25 HT_.out ?_;refine pA 7 26 HT_.out ?_;refine one_ (i:=8) (N:=some 27) #[true,true,true,true,true,true,true,true,true,false,false] rfl rfl (one_of HT_.out (by kernel_rfl)) (by decide) (fun K hK=>?_);refine goes_ Tryz.func11 (by kernel_rfl) rfl #[] (by rfl) rfl rfl zq34 ?_;with_reducible refine (lw48_lives.calls  t276 _ A24.out (gl_below HG.out zq105)).mono ?_
    rintro e w28 ⟨rfl,hb⟩;refine ⟨_,rfl,?_⟩;replace BK271:=bkm BK271 hb;replace BK272:=bkm BK272 hb;replace HB:=hbm HB hb;clear hb;refine hK.out _ _ ⟨(blk_cell BK271.out 0).trans rfl,(blk_cell BK271.out 1).trans rfl,(blk_cell BK271.out 2).trans rfl,(blk_cell BK271.out 3).trans rfl,(blk_cell BK271.out 4).trans rfl,(blk_cell BK272.out 0).trans rfl,(blk_cell BK272.out 1).trans rfl,(blk_cell BK272.out 2).trans rfl,(blk_cell BK272.out 3).trans rfl⟩ (fun hHeld=>?_);clear hK K;refine nA 27 ?_;refine pA 9 28 HT_.out ?_;refine pA 10 4 HT_.out ?_;refine done_ (done_of HT_.out (by kernel_rfl)) ?_;try go_wp2
    go_ret
    exact ⟨zq4,zq104⟩
   have c23b0:(t274 == t275)=false:=by simpa using c23
   (try (have c23b1:decide (t274=t275)=false:=by simpa using c23))
   (try (have c23b2:(t274 == t275)=false:=by simpa using c23))
   (try (have c23b3:¬ (t274=t275):=by simpa using c23))
   clear c23;obtain rfl:=Option.some.inj H;try go_wp2
   replace BK271:=sd (blk_drew BK271.out);replace BK272:=sd (blk_drew BK272.out);replace HB:=sd (below_drew1 HB.out);refine start_ (n:=11) (S:=fun w'=>w'.cell? ⟨gb271,0,none⟩=some (.string a0_0)∧w'.cell? ⟨gb271,1,none⟩=some (.slice A0_1 l0_1.length c0_1)∧w'.cell? ⟨gb271,2,none⟩=some (.string a0_2)∧w'.cell? ⟨gb271,3,none⟩=some (.string a0_3)∧w'.cell? ⟨gb271,4,none⟩=some (.slice A0_4 l0_4.length c0_4)∧w'.cell? ⟨gb272,0,none⟩=some (.int .i64 a1_0)∧w'.cell? ⟨gb272,1,none⟩=some (.int .i64 a1_1)∧w'.cell? ⟨gb272,2,none⟩=some (.string a1_2)∧w'.cell? ⟨gb272,3,none⟩=some (.string a1_3)) (ds:=[]) #[false,false,false,false,false,false,false,false,false,false,false] (by kernel_rfl) rfl rfl ⟨(blk_cell BK271.out 0).trans rfl,(blk_cell BK271.out 1).trans rfl,(blk_cell BK271.out 2).trans rfl,(blk_cell BK271.out 3).trans rfl,(blk_cell BK271.out 4).trans rfl,(blk_cell BK272.out 0).trans rfl,(blk_cell BK272.out 1).trans rfl,(blk_cell BK272.out 2).trans rfl,(blk_cell BK272.out 3).trans rfl⟩ (fun hHeld=>?_);refine with_tabW lw48_RulesHolds.tab3 lw48_RulesHolds.bits3 (fun HT_ HW_=>?_);generalize wc.drew=w29 at BK271 BK272 HB hHeld ⊢;refine tA 0 19 HT_.out HW_.out hHeld ?_;refine tA 1 20 HT_.out HW_.out hHeld ?_;refine tA 3 22 HT_.out HW_.out hHeld ?_;refine tA 4 23 HT_.out HW_.out hHeld ?_;refine one_ (i:=2) (N:=some 21) #[true,true,true,true,true,false,false,false,false,false,false] rfl rfl (one_of HT_.out (by kernel_rfl)) (by decide) (fun K hK=>?_);refine goes_ Tryz.func12 (by kernel_rfl) rfl #[.agg #[.string a0_0,.slice A0_1 l0_1.length c0_1,.string a0_2,.string a0_3,.slice A0_4 l0_4.length c0_4],.agg #[.int .i64 a1_0,.int .i64 a1_1,.string a1_2,.string a1_3]] (by rfl) rfl rfl zq34 ?_;with_reducible refine (rules_Holds.calls kj2 a0_0 _ _ l0_1 a0_2 a0_3 _ _ l0_4 a1_0 a1_1 a1_2 a1_3 t274 _ ?side1 ?side2 ?side3 ?side4 A21.out (gl_below HG.out zq105)).mono ?_
   (case side1=>exact zq48)
   (case side2=>exact HC0_1.out)
   (case side3=>exact zq40)
   (case side4=>exact HC0_4.out)
   rintro e w30 ⟨rfl,hb⟩;refine ⟨_,rfl,?_⟩;replace BK271:=bkm BK271 hb;replace BK272:=bkm BK272 hb;replace HB:=hbm HB hb;clear hb;refine hK.out _ _ ⟨(blk_cell BK271.out 0).trans rfl,(blk_cell BK271.out 1).trans rfl,(blk_cell BK271.out 2).trans rfl,(blk_cell BK271.out 3).trans rfl,(blk_cell BK271.out 4).trans rfl,(blk_cell BK272.out 0).trans rfl,(blk_cell BK272.out 1).trans rfl,(blk_cell BK272.out 2).trans rfl,(blk_cell BK272.out 3).trans rfl⟩ (fun hHeld=>?_);clear hK K;refine nA 21 ?_;refine one_ (i:=5) (N:=some 24) #[true,true,true,true,true,true,false,false,false,false,false] rfl rfl (one_of HT_.out (by kernel_rfl)) (by decide) (fun K hK=>?_);refine goes_ Tryz.func13 (by kernel_rfl) rfl #[.agg #[.string a0_0,.slice A0_1 l0_1.length c0_1,.string a0_2,.string a0_3,.slice A0_4 l0_4.length c0_4],.agg #[.int .i64 a1_0,.int .i64 a1_1,.string a1_2,.string a1_3]] (by rfl) rfl rfl zq34 ?_;with_reducible refine (rf48_Holds.calls kj2 a0_0 _ _ l0_1 a0_2 a0_3 _ _ l0_4 a1_0 a1_1 a1_2 a1_3 t275 _ ?side1 ?side2 ?side3 ?side4 A22.out).mono ?_
   (case side1=>exact zq48)
   (case side2=>exact HC0_1.out)
   (case side3=>exact zq40)
   (case side4=>exact HC0_4.out)
   rintro e w31 ⟨rfl,hb⟩;refine ⟨_,rfl,?_⟩;replace BK271:=bkm BK271 hb;replace BK272:=bkm BK272 hb;replace HB:=hbm HB hb;clear hb;refine hK.out _ _ ⟨(blk_cell BK271.out 0).trans rfl,(blk_cell BK271.out 1).trans rfl,(blk_cell BK271.out 2).trans rfl,(blk_cell BK271.out 3).trans rfl,(blk_cell BK271.out 4).trans rfl,(blk_cell BK272.out 0).trans rfl,(blk_cell BK272.out 1).trans rfl,(blk_cell BK272.out 2).trans rfl,(blk_cell BK272.out 3).trans rfl⟩ (fun hHeld=>?_);clear hK K;refine nA 24 ?_;refine pA 6 25 HT_.out ?_;refine pA 7 26 HT_.out ?_;refine oA 8 27 HT_.out ?_;refine pA 9 28 HT_.out ?_;refine pA 10 4 HT_.out ?_;refine done_ (done_of HT_.out (by kernel_rfl)) ?_;try go_wp2
   go_ret
   exact ⟨zq4,zq104⟩
end Go.Proofs.YtkbgkekegjfkfaaGreatDoor.A
