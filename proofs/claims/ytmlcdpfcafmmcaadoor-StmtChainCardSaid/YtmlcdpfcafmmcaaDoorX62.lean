-- By pack.py, a program of this session's.
import Derived.Test.YtmlcdpfcafmmcaaDoorX18
import Derived.Test.YtmlcdpfcafmmcaaDoorX20
import Derived.Test.YtmlcdpfcafmmcaaDoorX22
set_option linter.unusedVariables false
set_option linter.unusedSimpArgs false
namespace Go.Proofs.YtmlcdpfcafmmcaaDoor.A
open Go.RowKit B WW WL WM
theorem zq97 {P:Prop} (h:P:=by repeat (first | (with_reducible first | exact HB.out | exact Below.refl _ _ | apply below_alloc | apply pw_below_drewN | apply below_drew1 | refine below_set ?_ GE516.out | refine below_set ?_ GE517.out) | exact HB.out)):P:=h
theorem zq98 {P:Prop} (h:P:=by (with_reducible repeat (first | refine blk_drewN ?_ _ | refine blk_drew ?_ | refine blk_alloc ?_ _));exact BK516.out):P:=h
theorem zq99 {P:Prop} (h:P:=by (with_reducible repeat (first | refine blk_drewN ?_ _ | refine blk_drew ?_ | refine blk_alloc ?_ _));exact BK517.out):P:=h
theorem zq100 {P:Prop} (h:P:=by repeat (first | (with_reducible first | exact HB.out | apply below_alloc | apply pw_below_drewN | apply below_drew1 | refine below_set ?_ GE516.out | refine below_set ?_ GE517.out) | exact HB.out)):P:=h
end Go.Proofs.YtmlcdpfcafmmcaaDoor.A
namespace Go.Proofs.YtmlcdpfcafmmcaaDoor.A
open Go.RowKit B WW WL WM
attribute [local go_sem] max2_int min2_int max_two min_two max_three min_three max_four min_four
set_option maxHeartbeats 8000000
set_option maxRecDepth 100000
mutual
def lw47_StmtChain.j0:Nat→Bool→ByteArray→ByteArray→Int→Int→Int→List (S44)→ByteArray→ByteArray→Int→Int→Int→List (S44)→Option (Bool)
 | 0,_,_,_,_,_,_,_,_,_,_,_,_,_=>none
 | k+1,x21,x517000,x517001,x517002,x517003,x517004,x517005,x518000,x518001,x518002,x518003,x518004,x518005=>if x21=true then ((lw47_lives.f).bind fun t521=>(some t521)) else (lw47_StmtChain.l0 k x517003 0 x517000 x517001 x517002 x517003 x517004 x517005 x518000 x518001 x518002 x518003 x518004 x518005)
def lw47_StmtChain.l0:Nat→Int→Int→ByteArray→ByteArray→Int→Int→Int→List (S44)→ByteArray→ByteArray→Int→Int→Int→List (S44)→Option (Bool)
 | 0,_,_,_,_,_,_,_,_,_,_,_,_,_,_=>none
 | k+1,x5,x6,x517000,x517001,x517002,x517003,x517004,x517005,x518000,x518001,x518002,x518003,x518004,x518005=>if x6 < (x517005.length:Int) then (if 0≤x6 then (lw47_StmtChain.l0 k (wrap64 (x5+((rd_T44 x517005 x6).f1))) (wrap64 (x6+1)) x517000 x517001 x517002 x517003 x517004 x517005 x518000 x518001 x518002 x518003 x518004 x518005) else (none)) else (lw47_StmtChain.l1 k x5 0 x517000 x517001 x517002 x517003 x517004 x517005 x518000 x518001 x518002 x518003 x518004 x518005)
def lw47_StmtChain.l1:Nat→Int→Int→ByteArray→ByteArray→Int→Int→Int→List (S44)→ByteArray→ByteArray→Int→Int→Int→List (S44)→Option (Bool)
 | 0,_,_,_,_,_,_,_,_,_,_,_,_,_,_=>none
 | k+1,x5,x7,x517000,x517001,x517002,x517003,x517004,x517005,x518000,x518001,x518002,x518003,x518004,x518005=>if x7 < (x518005.length:Int) then (if 0≤x7 then (lw47_StmtChain.l1 k (wrap64 (x5+((rd_T44 x518005 x7).f1))) (wrap64 (x7+1)) x517000 x517001 x517002 x517003 x517004 x517005 x518000 x518001 x518002 x518003 x518004 x518005) else (none)) else (if x5=x518004 then ((stmt_Follows.f k x518000 x518001 x518002 x518003 x518004 x518005 x517000 x517001 x517002 x517003 x517004 x517005).bind fun t524=>(if t524=true then (some false) else ((lw47_lives.f).bind fun t525=>(some t525)))) else (some false))
end
def lw47_StmtChain.f (k:Nat) (a0_0:ByteArray) (a0_1:ByteArray) (a0_2:Int) (a0_3:Int) (a0_4:Int) (l0_5:List (S44)) (a1_0:ByteArray) (a1_1:ByteArray) (a1_2:Int) (a1_3:Int) (a1_4:Int) (l1_5:List (S44)):Option (Bool):=(lw47_light.f k a0_0 a0_1 a0_2 a0_3 a0_4 l0_5).bind fun t518=>(if t518=true then ((lw47_light.f k a1_0 a1_1 a1_2 a1_3 a1_4 l1_5).bind fun t519=>(if t519=true then ((stmt_Follows.f k a0_0 a0_1 a0_2 a0_3 a0_4 l0_5 a1_0 a1_1 a1_2 a1_3 a1_4 l1_5).bind fun t520=>(lw47_StmtChain.j0 k (!t520) a0_0 a0_1 a0_2 a0_3 a0_4 l0_5 a1_0 a1_1 a1_2 a1_3 a1_4 l1_5)) else (lw47_StmtChain.j0 k true a0_0 a0_1 a0_2 a0_3 a0_4 l0_5 a1_0 a1_1 a1_2 a1_3 a1_4 l1_5))) else (lw47_StmtChain.j0 k true a0_0 a0_1 a0_2 a0_3 a0_4 l0_5 a1_0 a1_1 a1_2 a1_3 a1_4 l1_5))
theorem lw47_StmtChain.calls (k:Nat) (a0_0 a0_1:ByteArray) (a0_2 a0_3 a0_4:Int) (A0_5:Option Addr) (c0_5:Nat) (l0_5:List (S44)) (a1_0 a1_1:ByteArray) (a1_2 a1_3 a1_4:Int) (A1_5:Option Addr) (c1_5:Nat) (l1_5:List (S44)) (r:Bool) (w:World) (hr0_5:Kd.C k44 w A0_5 l0_5.length l0_5) (hc0_5:l0_5.length≤c0_5) (hr1_5:Kd.C k44 w A1_5 l1_5.length l1_5) (hc1_5:l1_5.length≤c1_5) (h:lw47_StmtChain.f k a0_0 a0_1 a0_2 a0_3 a0_4 l0_5 a1_0 a1_1 a1_2 a1_3 a1_4 l1_5=some r) (hG:Gl w) :
  Calls Tryd.prog 9 #[.agg #[.string a0_0,.string a0_1,.int .i64 a0_2,.int .i64 a0_3,.int .i64 a0_4,.slice A0_5 l0_5.length c0_5],.agg #[.string a1_0,.string a1_1,.int .i64 a1_2,.int .i64 a1_3,.int .i64 a1_4,.slice A1_5 l1_5.length c1_5]] w fun e w'=>e=.returned (.bool r)∧Below w.heap.size w w':=by
 have HG:=sd hG;clear hG;have hu24:=Tryd.underlying24;have HR0_5:=sd hr0_5;have HC0_5:=sd hc0_5;clear hr0_5 hc0_5;have HR1_5:=sd hr1_5;have HC1_5:=sd hc1_5;clear hr1_5 hc1_5;have HB:=sd (Below.refl w.heap.size w);have H:=h;clear h;unfold lw47_StmtChain.f at H;have HC3:=sd H;clear H;go_enter Tryd.func9,Tryd.ntmps9
 go_upto_region 1 with (first | ((with_reducible refine gate_dst (N:=2) rfl ?_);refine bxA 2 #[.string a0_0,.string a0_1,.int .i64 a0_2,.int .i64 a0_3,.int .i64 a0_4,.slice A0_5 l0_5.length c0_5] 24 ?_;intro gb516 hg w4 hbox hb;have BK516:=sd (hbox);have GW516:=gem hg HB;have GE516:=GW516;replace HB:=hbm HB hb;clear hb hbox hg) | ((with_reducible refine gate_dst (N:=3) rfl ?_);refine bxA 3 #[.string a1_0,.string a1_1,.int .i64 a1_2,.int .i64 a1_3,.int .i64 a1_4,.slice A1_5 l1_5.length c1_5] 24 ?_;intro gb517 hg w5 hbox hb;have BK517:=sd (hbox);have GW517:=gem hg HB;have GE517:=GW517;have NB516_517:=nlm hg BK516;have NB517_516:=ngm hg BK516;replace BK516:=bkm BK516 hb;replace HB:=hbm HB hb;clear hb hbox hg))
 (try simp only [Act.put,List.setIfInBounds_toArray,List.set_cons_zero,List.set_cons_succ])
 go_cut [21] (fun v21 wc=>∃ (kq:Nat) (x21_2:Bool),v21=.bool x21_2∧Aside0 (lw47_StmtChain.j0 kq x21_2 a0_0 a0_1 a0_2 a0_3 a0_4 l0_5 a1_0 a1_1 a1_2 a1_3 a1_4 l1_5=some r)∧Aside0 (kq≤k)∧Aside0 (wc.heap[gb516]?=some (.cells #[.string a0_0,.string a0_1,.int .i64 a0_2,.int .i64 a0_3,.int .i64 a0_4,(.slice A0_5 l0_5.length c0_5)] 24 (0,0)))∧Aside0 (wc.heap[gb517]?=some (.cells #[.string a1_0,.string a1_1,.int .i64 a1_2,.int .i64 a1_3,.int .i64 a1_4,(.slice A1_5 l1_5.length c1_5)] 24 (0,0)))∧Aside0 (Below w.heap.size w wc))
 case first =>
  have H:=HC3.out;clear HC3;replace H:=bdI H;obtain ⟨t518,A6,H⟩:=H;(try dsimp only at H)
  by_cases c7:t518=true
  ·subst c7;rw [if_pos rfl] at H;replace H:=bdI H;obtain ⟨t519,A8,H⟩:=H;(try dsimp only at H)
   by_cases c9:t519=true
   ·subst c9;rw [if_pos rfl] at H;replace H:=bdI H;obtain ⟨t520,A10,H⟩:=H;(try dsimp only at H)
    have H':=sd H;clear H;have hnb11:=NB516_517.out;have hnc11:=NB517_516.out;obtain ⟨_,_,_,_,_,_,_,_,_,_,_,_⟩:=bk6 BK516;go_wp2_with (first | ((with_reducible refine gate_callee (f:=10) rfl ?_);refine gL 9 Tryd.func10 #[.agg #[.string a0_0,.string a0_1,.int .i64 a0_2,.int .i64 a0_3,.int .i64 a0_4,.slice A0_5 l0_5.length c0_5]] ?_;(with_reducible refine (lw47_light.calls k a0_0 a0_1 a0_2 a0_3 a0_4 _ _ l0_5 true _ ?side1 ?side2 A6.out).mono ?_);(case side1=>exact zq25);(case side2=>exact HC0_5.out);rintro e w13 ⟨rfl,hb⟩;refine ⟨_,rfl,?_⟩;replace BK516:=bkm BK516 hb;replace BK517:=bkm BK517 hb;replace HB:=hbm HB hb;clear hb;obtain ⟨_,_,_,_,_,_,_,_,_,_,_,_⟩:=bk6 BK517) | (go_at_call 10;(with_reducible refine (lw47_light.calls k a1_0 a1_1 a1_2 a1_3 a1_4 _ _ l1_5 true _ ?side1 ?side2 A8.out).mono ?_);(case side1=>exact zq26);(case side2=>exact HC1_5.out);rintro e w15 ⟨rfl,hb⟩;replace BK516:=bkm BK516 hb;replace BK517:=bkm BK517 hb;replace HB:=hbm HB hb;clear hb;obtain ⟨_,_,_,_,_,_,_,_,_,_,_,_⟩:=bk6 BK516;obtain ⟨_,_,_,_,_,_,_,_,_,_,_,_⟩:=bk6 BK517) | (go_at_call 14;(with_reducible refine (stmt_Follows.calls k a0_0 a0_1 a0_2 a0_3 a0_4 _ _ l0_5 a1_0 a1_1 a1_2 a1_3 a1_4 _ _ l1_5 t520 _ ?side1 ?side2 ?side3 ?side4 A10.out (gl_below HG.out zq97)).mono ?_);(case side1=>exact zq25);(case side2=>exact HC0_5.out);(case side3=>exact zq26);(case side4=>exact HC1_5.out);rintro e w18 ⟨rfl,hb⟩;replace BK516:=bkm BK516 hb;replace BK517:=bkm BK517 hb;replace HB:=hbm HB hb;clear hb))
    go_meet
    case rel=>exact ⟨_,(!t520),zq1,H',⟨by first | omega | exact Nat.le_refl _⟩,⟨zq98⟩,⟨zq99⟩,⟨zq100⟩⟩
   replace c9:=Bool.eq_false_iff.mpr c9;subst c9;rw [if_neg Bool.false_ne_true] at H;have H':=sd H;clear H;have hnb19:=NB516_517.out;have hnc19:=NB517_516.out;obtain ⟨_,_,_,_,_,_,_,_,_,_,_,_⟩:=bk6 BK516;go_wp2_with (first | ((with_reducible refine gate_callee (f:=10) rfl ?_);refine gL 9 Tryd.func10 #[.agg #[.string a0_0,.string a0_1,.int .i64 a0_2,.int .i64 a0_3,.int .i64 a0_4,.slice A0_5 l0_5.length c0_5]] ?_;(with_reducible refine (lw47_light.calls k a0_0 a0_1 a0_2 a0_3 a0_4 _ _ l0_5 true _ ?side1 ?side2 A6.out).mono ?_);(case side1=>exact zq25);(case side2=>exact HC0_5.out);rintro e w21 ⟨rfl,hb⟩;refine ⟨_,rfl,?_⟩;replace BK516:=bkm BK516 hb;replace BK517:=bkm BK517 hb;replace HB:=hbm HB hb;clear hb;obtain ⟨_,_,_,_,_,_,_,_,_,_,_,_⟩:=bk6 BK517) | (go_at_call 10;(with_reducible refine (lw47_light.calls k a1_0 a1_1 a1_2 a1_3 a1_4 _ _ l1_5 false _ ?side1 ?side2 A8.out).mono ?_);(case side1=>exact zq26);(case side2=>exact HC1_5.out);rintro e w23 ⟨rfl,hb⟩;replace BK516:=bkm BK516 hb;replace BK517:=bkm BK517 hb;replace HB:=hbm HB hb;clear hb))
   go_meet
   case rel=>exact ⟨_,(true),zq1,H',⟨by first | omega | exact Nat.le_refl _⟩,⟨zq98⟩,⟨zq99⟩,⟨zq100⟩⟩
  replace c7:=Bool.eq_false_iff.mpr c7;subst c7;rw [if_neg Bool.false_ne_true] at H;have H':=sd H;clear H;have hnb24:=NB516_517.out;have hnc24:=NB517_516.out;obtain ⟨_,_,_,_,_,_,_,_,_,_,_,_⟩:=bk6 BK516;go_wp2_with (first | ((with_reducible refine gate_callee (f:=10) rfl ?_);refine gL 9 Tryd.func10 #[.agg #[.string a0_0,.string a0_1,.int .i64 a0_2,.int .i64 a0_3,.int .i64 a0_4,.slice A0_5 l0_5.length c0_5]] ?_;(with_reducible refine (lw47_light.calls k a0_0 a0_1 a0_2 a0_3 a0_4 _ _ l0_5 false _ ?side1 ?side2 A6.out).mono ?_);(case side1=>exact zq25);(case side2=>exact HC0_5.out);rintro e w26 ⟨rfl,hb⟩;refine ⟨_,rfl,?_⟩;replace BK516:=bkm BK516 hb;replace BK517:=bkm BK517 hb;replace HB:=hbm HB hb;clear hb))
  go_meet
  case rel=>exact ⟨_,(true),zq1,H',⟨by first | omega | exact Nat.le_refl _⟩,⟨zq98⟩,⟨zq99⟩,⟨zq100⟩⟩
 case rest =>
  clear HC3;try clear c1
  try clear c2
  try clear p2
  try clear c7
  try clear c9
  try clear c10
  try clear c11
  try clear c19
  try clear c24
  try clear hcz12_0
  try clear hcz12_1
  try clear hcz12_2
  try clear hcz12_3
  try clear hcz12_4
  try clear hcz12_5
  try clear hcz14_0
  try clear hcz14_1
  try clear hcz14_2
  try clear hcz14_3
  try clear hcz14_4
  try clear hcz14_5
  try clear hcz16_0
  try clear hcz16_1
  try clear hcz16_2
  try clear hcz16_3
  try clear hcz16_4
  try clear hcz16_5
  try clear hcz17_0
  try clear hcz17_1
  try clear hcz17_2
  try clear hcz17_3
  try clear hcz17_4
  try clear hcz17_5
  try clear hcz20_0
  try clear hcz20_1
  try clear hcz20_2
  try clear hcz20_3
  try clear hcz20_4
  try clear hcz20_5
  try clear hcz22_0
  try clear hcz22_1
  try clear hcz22_2
  try clear hcz22_3
  try clear hcz22_4
  try clear hcz22_5
  try clear hcz25_0
  try clear hcz25_1
  try clear hcz25_2
  try clear hcz25_3
  try clear hcz25_4
  try clear hcz25_5
  try clear hfz12_0
  try clear hfz12_1
  try clear hfz12_2
  try clear hfz12_3
  try clear hfz12_4
  try clear hfz12_5
  try clear hfz14_0
  try clear hfz14_1
  try clear hfz14_2
  try clear hfz14_3
  try clear hfz14_4
  try clear hfz14_5
  try clear hfz16_0
  try clear hfz16_1
  try clear hfz16_2
  try clear hfz16_3
  try clear hfz16_4
  try clear hfz16_5
  try clear hfz17_0
  try clear hfz17_1
  try clear hfz17_2
  try clear hfz17_3
  try clear hfz17_4
  try clear hfz17_5
  try clear hfz20_0
  try clear hfz20_1
  try clear hfz20_2
  try clear hfz20_3
  try clear hfz20_4
  try clear hfz20_5
  try clear hfz22_0
  try clear hfz22_1
  try clear hfz22_2
  try clear hfz22_3
  try clear hfz22_4
  try clear hfz22_5
  try clear hfz25_0
  try clear hfz25_1
  try clear hfz25_2
  try clear hfz25_3
  try clear hfz25_4
  try clear hfz25_5
  obtain ⟨kq,x21_2,rfl,HA,HJ2,BK516,BK517,HB⟩:=hcut
  cases kq with
  | zero=>exact absurd HA.out (by simp [lw47_StmtChain.j0])
  | succ kj2 =>
   have H:=HA.out;clear HA;simp only [lw47_StmtChain.j0] at H
   by_cases c27:x21_2=true
   ·subst c27;rw [if_pos rfl] at H;replace H:=bdI H;obtain ⟨t521,A28,H⟩:=H;(try dsimp only at H)
    obtain rfl:=Option.some.inj H;go_wp2_with (first | ((with_reducible refine gate_callee (f:=11) rfl ?_);refine gL 22 Tryd.func11 #[] ?_;(with_reducible refine (lw47_lives.calls  t521 _ A28.out (gl_below HG.out zq97)).mono ?_);rintro e w29 ⟨rfl,hb⟩;refine ⟨_,rfl,?_⟩;replace BK516:=bkm BK516 hb;replace BK517:=bkm BK517 hb;replace HB:=hbm HB hb;clear hb))
    go_ret
    exact ⟨zq10,zq100⟩
   replace c27:=Bool.eq_false_iff.mpr c27;subst c27;rw [if_neg Bool.false_ne_true] at H;have H':=sd H;clear H;have hnb30:=NB516_517.out;have hnc30:=NB517_516.out;obtain ⟨_,_,_,_,_,_,_,_,_,_,_,_⟩:=bk6 BK516;go_wp2
   go_loopg [5,6] kj2 (fun kq v5 v6 w'=>∃ (x5_2:Int) (x6_2:Int),v5=.int .i64 x5_2∧v6=.int .i64 x6_2∧Aside0 (lw47_StmtChain.l0 kq x5_2 x6_2 a0_0 a0_1 a0_2 a0_3 a0_4 l0_5 a1_0 a1_1 a1_2 a1_3 a1_4 l1_5=some r)∧Aside0 (kq≤kj2)∧Aside0 (w'.heap[gb516]?=some (.cells #[.string a0_0,.string a0_1,.int .i64 a0_2,.int .i64 a0_3,.int .i64 a0_4,(.slice A0_5 l0_5.length c0_5)] 24 (0,0)))∧Aside0 (w'.heap[gb517]?=some (.cells #[.string a1_0,.string a1_1,.int .i64 a1_2,.int .i64 a1_3,.int .i64 a1_4,(.slice A1_5 l1_5.length c1_5)] 24 (0,0)))∧Aside0 (Below w.heap.size w w'))
   case atStart=>exact ⟨(a0_3),(0),zq1,zq1,H',⟨Nat.le_refl _⟩,⟨zq98⟩,⟨zq99⟩,⟨zq100⟩⟩
   case round =>
    clear H';try clear c1
    try clear c2
    try clear p2
    try clear c3
    try clear c7
    try clear c9
    try clear c10
    try clear c11
    try clear c19
    try clear c24
    try clear c27
    try clear c30
    try clear hcz12_0
    try clear hcz12_1
    try clear hcz12_2
    try clear hcz12_3
    try clear hcz12_4
    try clear hcz12_5
    try clear hcz14_0
    try clear hcz14_1
    try clear hcz14_2
    try clear hcz14_3
    try clear hcz14_4
    try clear hcz14_5
    try clear hcz16_0
    try clear hcz16_1
    try clear hcz16_2
    try clear hcz16_3
    try clear hcz16_4
    try clear hcz16_5
    try clear hcz17_0
    try clear hcz17_1
    try clear hcz17_2
    try clear hcz17_3
    try clear hcz17_4
    try clear hcz17_5
    try clear hcz20_0
    try clear hcz20_1
    try clear hcz20_2
    try clear hcz20_3
    try clear hcz20_4
    try clear hcz20_5
    try clear hcz22_0
    try clear hcz22_1
    try clear hcz22_2
    try clear hcz22_3
    try clear hcz22_4
    try clear hcz22_5
    try clear hcz25_0
    try clear hcz25_1
    try clear hcz25_2
    try clear hcz25_3
    try clear hcz25_4
    try clear hcz25_5
    try clear hcz31_0
    try clear hcz31_1
    try clear hcz31_2
    try clear hcz31_3
    try clear hcz31_4
    try clear hcz31_5
    try clear hfz12_0
    try clear hfz12_1
    try clear hfz12_2
    try clear hfz12_3
    try clear hfz12_4
    try clear hfz12_5
    try clear hfz14_0
    try clear hfz14_1
    try clear hfz14_2
    try clear hfz14_3
    try clear hfz14_4
    try clear hfz14_5
    try clear hfz16_0
    try clear hfz16_1
    try clear hfz16_2
    try clear hfz16_3
    try clear hfz16_4
    try clear hfz16_5
    try clear hfz17_0
    try clear hfz17_1
    try clear hfz17_2
    try clear hfz17_3
    try clear hfz17_4
    try clear hfz17_5
    try clear hfz20_0
    try clear hfz20_1
    try clear hfz20_2
    try clear hfz20_3
    try clear hfz20_4
    try clear hfz20_5
    try clear hfz22_0
    try clear hfz22_1
    try clear hfz22_2
    try clear hfz22_3
    try clear hfz22_4
    try clear hfz22_5
    try clear hfz25_0
    try clear hfz25_1
    try clear hfz25_2
    try clear hfz25_3
    try clear hfz25_4
    try clear hfz25_5
    try clear hfz31_0
    try clear hfz31_1
    try clear hfz31_2
    try clear hfz31_3
    try clear hfz31_4
    try clear hfz31_5
    try clear p2
    obtain ⟨x5_2,x6_2,rfl,rfl,HA,HK2,BK516,BK517,HB⟩:=hrel
    cases gk with
    | zero=>exact absurd HA.out (by simp [lw47_StmtChain.l0])
    | succ k2 =>
     have H:=HA.out;clear HA;simp only [lw47_StmtChain.l0] at H
     replace H:=ifI H;rcases H with ⟨c32,H⟩ | ⟨c32,H⟩
     ·have c32b0:decide (x6_2 < (l0_5.length:Int))=true:=decide_eq_true c32;clear c32;replace H:=ifI H;rcases H with ⟨c33,H⟩ | ⟨c33,H⟩
      ·have c33b0:decide (0≤x6_2)=true:=decide_eq_true c33;clear c33;have H':=sd H;clear H;have hnb34:=NB516_517.out;have hnc34:=NB517_516.out;obtain ⟨_,_,_,_,_,_,_,_,_,_,_,_⟩:=bk6 BK516;have p522:0≤(x6_2:Int):=od;have q522:x6_2 < (l0_5.length:Int):=od;obtain ⟨ad522,e522,hx522_0,hx522_1,hx522_2,hx522_3⟩:=at_T44 HR0_5.out x6_2 p522 q522
       cases e522
       replace hx522_0:=(HB.out.cell (World.block_lt_of_cell? w _ hx522_0)).trans hx522_0;replace hx522_1:=(HB.out.cell (World.block_lt_of_cell? w _ hx522_1)).trans hx522_1;replace hx522_2:=(HB.out.cell (World.block_lt_of_cell? w _ hx522_2)).trans hx522_2;replace hx522_3:=(HB.out.cell (World.block_lt_of_cell? w _ hx522_3)).trans hx522_3;replace p522:=eq_true p522;replace q522:=eq_true q522;go_wp2
       go_roundg k2
       case measure=>have:=HJ2.out;have:=HK2.out;omega
       case rel=>exact ⟨(wrap64 (x5_2+((rd_T44 l0_5 x6_2).f1))),(wrap64 (x6_2+1)),zq1,zq1,H',⟨by have:=HJ2.out;have:=HK2.out;omega⟩,⟨zq98⟩,⟨zq99⟩,⟨zq100⟩⟩
      exact absurd H (by simp)
     have c32b0:decide (x6_2 < (l0_5.length:Int))=false:=decide_eq_false c32;clear c32;have H':=sd H;clear H;have hnb36:=NB516_517.out;have hnc36:=NB517_516.out;obtain ⟨_,_,_,_,_,_,_,_,_,_,_,_⟩:=bk6 BK516;go_wp2
     go_loopg [5,7] k2 (fun kq v5 v7 w'=>∃ (x5_3:Int) (x7_3:Int),v5=.int .i64 x5_3∧v7=.int .i64 x7_3∧Aside0 (lw47_StmtChain.l1 kq x5_3 x7_3 a0_0 a0_1 a0_2 a0_3 a0_4 l0_5 a1_0 a1_1 a1_2 a1_3 a1_4 l1_5=some r)∧Aside0 (kq≤k2)∧Aside0 (w'.heap[gb516]?=some (.cells #[.string a0_0,.string a0_1,.int .i64 a0_2,.int .i64 a0_3,.int .i64 a0_4,(.slice A0_5 l0_5.length c0_5)] 24 (0,0)))∧Aside0 (w'.heap[gb517]?=some (.cells #[.string a1_0,.string a1_1,.int .i64 a1_2,.int .i64 a1_3,.int .i64 a1_4,(.slice A1_5 l1_5.length c1_5)] 24 (0,0)))∧Aside0 (Below w.heap.size w w'))
     case atStart=>exact ⟨(x5_2),(0),zq1,zq1,H',⟨Nat.le_refl _⟩,⟨zq98⟩,⟨zq99⟩,⟨zq100⟩⟩
     case round =>
      clear H';try clear c1
      try clear c2
      try clear p2
      try clear c3
      try clear p5
      try clear q5
      try clear hx5
      try clear p6
      try clear c7
      try clear c9
      try clear c10
      try clear c11
      try clear c19
      try clear c24
      try clear c27
      try clear c30
      try clear c32
      try clear c32b0
      try clear c33
      try clear c33b0
      try clear c34
      try clear c36
      try clear hcz12_0
      try clear hcz12_1
      try clear hcz12_2
      try clear hcz12_3
      try clear hcz12_4
      try clear hcz12_5
      try clear hcz14_0
      try clear hcz14_1
      try clear hcz14_2
      try clear hcz14_3
      try clear hcz14_4
      try clear hcz14_5
      try clear hcz16_0
      try clear hcz16_1
      try clear hcz16_2
      try clear hcz16_3
      try clear hcz16_4
      try clear hcz16_5
      try clear hcz17_0
      try clear hcz17_1
      try clear hcz17_2
      try clear hcz17_3
      try clear hcz17_4
      try clear hcz17_5
      try clear hcz20_0
      try clear hcz20_1
      try clear hcz20_2
      try clear hcz20_3
      try clear hcz20_4
      try clear hcz20_5
      try clear hcz22_0
      try clear hcz22_1
      try clear hcz22_2
      try clear hcz22_3
      try clear hcz22_4
      try clear hcz22_5
      try clear hcz25_0
      try clear hcz25_1
      try clear hcz25_2
      try clear hcz25_3
      try clear hcz25_4
      try clear hcz25_5
      try clear hcz31_0
      try clear hcz31_1
      try clear hcz31_2
      try clear hcz31_3
      try clear hcz31_4
      try clear hcz31_5
      try clear hcz35_0
      try clear hcz35_1
      try clear hcz35_2
      try clear hcz35_3
      try clear hcz35_4
      try clear hcz35_5
      try clear hcz37_0
      try clear hcz37_1
      try clear hcz37_2
      try clear hcz37_3
      try clear hcz37_4
      try clear hcz37_5
      try clear hfz12_0
      try clear hfz12_1
      try clear hfz12_2
      try clear hfz12_3
      try clear hfz12_4
      try clear hfz12_5
      try clear hfz14_0
      try clear hfz14_1
      try clear hfz14_2
      try clear hfz14_3
      try clear hfz14_4
      try clear hfz14_5
      try clear hfz16_0
      try clear hfz16_1
      try clear hfz16_2
      try clear hfz16_3
      try clear hfz16_4
      try clear hfz16_5
      try clear hfz17_0
      try clear hfz17_1
      try clear hfz17_2
      try clear hfz17_3
      try clear hfz17_4
      try clear hfz17_5
      try clear hfz20_0
      try clear hfz20_1
      try clear hfz20_2
      try clear hfz20_3
      try clear hfz20_4
      try clear hfz20_5
      try clear hfz22_0
      try clear hfz22_1
      try clear hfz22_2
      try clear hfz22_3
      try clear hfz22_4
      try clear hfz22_5
      try clear hfz25_0
      try clear hfz25_1
      try clear hfz25_2
      try clear hfz25_3
      try clear hfz25_4
      try clear hfz25_5
      try clear hfz31_0
      try clear hfz31_1
      try clear hfz31_2
      try clear hfz31_3
      try clear hfz31_4
      try clear hfz31_5
      try clear hfz35_0
      try clear hfz35_1
      try clear hfz35_2
      try clear hfz35_3
      try clear hfz35_4
      try clear hfz35_5
      try clear hfz37_0
      try clear hfz37_1
      try clear hfz37_2
      try clear hfz37_3
      try clear hfz37_4
      try clear hfz37_5
      try clear hx522_0
      try clear hx522_1
      try clear hx522_2
      try clear hx522_3
      try clear p2
      try clear p522
      try clear q522
      obtain ⟨x5_3,x7_3,rfl,rfl,HA,HK3,BK516,BK517,HB⟩:=hrel
      cases gk with
      | zero=>exact absurd HA.out (by simp [lw47_StmtChain.l1])
      | succ k3 =>
       have H:=HA.out;clear HA;simp only [lw47_StmtChain.l1] at H
       replace H:=ifI H;rcases H with ⟨c38,H⟩ | ⟨c38,H⟩
       ·have c38b0:decide (x7_3 < (l1_5.length:Int))=true:=decide_eq_true c38;clear c38;replace H:=ifI H;rcases H with ⟨c39,H⟩ | ⟨c39,H⟩
        ·have c39b0:decide (0≤x7_3)=true:=decide_eq_true c39;clear c39;have H':=sd H;clear H;have hnb40:=NB517_516.out;have hnc40:=NB516_517.out;obtain ⟨_,_,_,_,_,_,_,_,_,_,_,_⟩:=bk6 BK517;have p523:0≤(x7_3:Int):=od;have q523:x7_3 < (l1_5.length:Int):=od;obtain ⟨ad523,e523,hx523_0,hx523_1,hx523_2,hx523_3⟩:=at_T44 HR1_5.out x7_3 p523 q523
         cases e523
         replace hx523_0:=(HB.out.cell (World.block_lt_of_cell? w _ hx523_0)).trans hx523_0;replace hx523_1:=(HB.out.cell (World.block_lt_of_cell? w _ hx523_1)).trans hx523_1;replace hx523_2:=(HB.out.cell (World.block_lt_of_cell? w _ hx523_2)).trans hx523_2;replace hx523_3:=(HB.out.cell (World.block_lt_of_cell? w _ hx523_3)).trans hx523_3;replace p523:=eq_true p523;replace q523:=eq_true q523;go_wp2
         go_roundg k3
         case measure=>have:=HJ2.out;have:=HK2.out;have:=HK3.out;omega
         case rel=>exact ⟨(wrap64 (x5_3+((rd_T44 l1_5 x7_3).f1))),(wrap64 (x7_3+1)),zq1,zq1,H',⟨by have:=HJ2.out;have:=HK2.out;have:=HK3.out;omega⟩,⟨zq98⟩,⟨zq99⟩,⟨zq100⟩⟩
        exact absurd H (by simp)
       have c38b0:decide (x7_3 < (l1_5.length:Int))=false:=decide_eq_false c38;clear c38;replace H:=ifI H;rcases H with ⟨c42,H⟩ | ⟨c42,H⟩
       ·obtain ⟨c42b0,c42b1⟩:=eqI c42;clear c42;replace H:=bdI H;obtain ⟨t524,A43,H⟩:=H;(try dsimp only at H)
        by_cases c44:t524=true
        ·subst c44;rw [if_pos rfl] at H;obtain rfl:=Option.some.inj H;have hnb45:=NB517_516.out;have hnc45:=NB516_517.out;obtain ⟨_,_,_,_,_,_,_,_,_,_,_,_⟩:=bk6 BK517;obtain ⟨_,_,_,_,_,_,_,_,_,_,_,_⟩:=bk6 BK516;go_wp2_with (first | (go_at_call 14;(with_reducible refine (stmt_Follows.calls k3 a1_0 a1_1 a1_2 a1_3 a1_4 _ _ l1_5 a0_0 a0_1 a0_2 a0_3 a0_4 _ _ l0_5 true _ ?side1 ?side2 ?side3 ?side4 A43.out (gl_below HG.out zq97)).mono ?_);(case side1=>exact zq26);(case side2=>exact HC1_5.out);(case side3=>exact zq25);(case side4=>exact HC0_5.out);rintro e w48 ⟨rfl,hb⟩;replace BK516:=bkm BK516 hb;replace BK517:=bkm BK517 hb;replace HB:=hbm HB hb;clear hb))
         go_ret
         exact ⟨zq10,zq100⟩
        replace c44:=Bool.eq_false_iff.mpr c44;subst c44;rw [if_neg Bool.false_ne_true] at H;replace H:=bdI H;obtain ⟨t525,A49,H⟩:=H;(try dsimp only at H)
        obtain rfl:=Option.some.inj H;have hnb50:=NB517_516.out;have hnc50:=NB516_517.out;obtain ⟨_,_,_,_,_,_,_,_,_,_,_,_⟩:=bk6 BK517;obtain ⟨_,_,_,_,_,_,_,_,_,_,_,_⟩:=bk6 BK516;go_wp2_with (first | (go_at_call 14;(with_reducible refine (stmt_Follows.calls k3 a1_0 a1_1 a1_2 a1_3 a1_4 _ _ l1_5 a0_0 a0_1 a0_2 a0_3 a0_4 _ _ l0_5 false _ ?side1 ?side2 ?side3 ?side4 A43.out (gl_below HG.out zq97)).mono ?_);(case side1=>exact zq26);(case side2=>exact HC1_5.out);(case side3=>exact zq25);(case side4=>exact HC0_5.out);rintro e w53 ⟨rfl,hb⟩;replace BK516:=bkm BK516 hb;replace BK517:=bkm BK517 hb;replace HB:=hbm HB hb;clear hb) | (go_at_call 11;(with_reducible refine (lw47_lives.calls  t525 _ A49.out (gl_below HG.out zq97)).mono ?_);rintro e w54 ⟨rfl,hb⟩;replace BK516:=bkm BK516 hb;replace BK517:=bkm BK517 hb;replace HB:=hbm HB hb;clear hb))
        go_ret
        exact ⟨zq10,zq100⟩
       obtain ⟨c42b0,c42b1⟩:=neI c42;obtain rfl:=Option.some.inj H;have hnb55:=NB517_516.out;have hnc55:=NB516_517.out;obtain ⟨_,_,_,_,_,_,_,_,_,_,_,_⟩:=bk6 BK517;go_wp2
       go_ret
       exact ⟨zq10,zq100⟩
end Go.Proofs.YtmlcdpfcafmmcaaDoor.A
