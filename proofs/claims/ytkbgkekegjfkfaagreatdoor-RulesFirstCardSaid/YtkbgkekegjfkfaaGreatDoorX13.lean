-- By pack.py, a program of this session's.
import Derived.Test.YtkbgkekegjfkfaaGreatDoorX7
import Derived.Test.YtkbgkekegjfkfaaGreatDoorX9
import Derived.Test.YtkbgkekegjfkfaaGreatDoorX10
set_option linter.unusedVariables false
set_option linter.unusedSimpArgs false
namespace Go.Proofs.YtkbgkekegjfkfaaGreatDoor.A
open Go.RowKit B WW WL WM
attribute [local go_sem] max2_int min2_int max_two min_two max_three min_three max_four min_four
set_option maxHeartbeats 8000000
set_option maxRecDepth 100000
theorem rules_Check.calls (k:Nat) (a0_0:ByteArray) (A0_1:Option Addr) (c0_1:Nat) (l0_1:List (S48)) (a0_2 a0_3:ByteArray) (A0_4:Option Addr) (c0_4:Nat) (l0_4:List (S50)) (r:Int) (w:World) (hr0_1:Kd.C k48 w A0_1 l0_1.length l0_1) (hc0_1:l0_1.length≤c0_1) (hr0_4:Kd.C k50 w A0_4 l0_4.length l0_4) (hc0_4:l0_4.length≤c0_4) (h:rules_Check.f k a0_0 l0_1 a0_2 a0_3 l0_4=some r) :
  Calls Tryz.prog 9 #[.agg #[.string a0_0,.slice A0_1 l0_1.length c0_1,.string a0_2,.string a0_3,.slice A0_4 l0_4.length c0_4]] w fun e w'=>e=.returned (.int .i64 r)∧Below w.heap.size w w':=by
 have hu25:=Tryz.underlying25;have hu48:=Tryz.underlying48;have HR0_1:=sd hr0_1;have HC0_1:=sd hc0_1;clear hr0_1 hc0_1;have HR0_4:=sd hr0_4;have HC0_4:=sd hc0_4;clear hr0_4 hc0_4;have HB:=sd (Below.refl w.heap.size w);have H:=h;clear h;unfold rules_Check.f at H;have HC2:=sd H;clear H;go_enter Tryz.func9,Tryz.ntmps9
 go_upto_region 1 with (first | ((with_reducible refine gate_dst (N:=1) rfl ?_);refine bxA 1 #[.string a0_0,.slice A0_1 l0_1.length c0_1,.string a0_2,.string a0_3,.slice A0_4 l0_4.length c0_4] 25 ?_;intro gb117 hg w3 hbox hb;have BK117:=sd (hbox);have GW117:=gem hg HB;have GE117:=GW117;replace HB:=hbm HB hb;clear hb hbox hg))
 (try simp only [Act.put,List.setIfInBounds_toArray,List.set_cons_zero,List.set_cons_succ])
 go_cut [6] (fun v6 wc=>∃ (kq:Nat) (x6_1:Bool),v6=.bool x6_1∧Aside0 (rules_Check.j0 kq x6_1 a0_0 l0_1 a0_2 a0_3 l0_4=some r)∧Aside0 (kq≤k)∧Aside0 (wc.heap[gb117]?=some (.cells #[.string a0_0,(.slice A0_1 l0_1.length c0_1),.string a0_2,.string a0_3,(.slice A0_4 l0_4.length c0_4)] 25 (0,0)))∧Aside0 (Below w.heap.size w wc))
 case first =>
  have H:=HC2.out;clear HC2;replace H:=bdI H;obtain ⟨t118,A4,H⟩:=H;(try dsimp only at H)
  by_cases c5:t118=true
  ·subst c5;rw [if_pos rfl] at H;replace H:=bdI H;obtain ⟨t119,A6,H⟩:=H;(try dsimp only at H)
   by_cases c7:t119=true
   ·subst c7;rw [if_pos rfl] at H;replace H:=ifI H;rcases H with ⟨c8,H⟩ | ⟨c8,H⟩
    ·obtain ⟨c8b0,c8b1⟩:=eqI c8;clear c8;(first | rw [c8b0] | (simp only [i64_w,i32_w];rw [c8b0]) | skip)
     have H':=sd H;clear H;obtain ⟨_,_,_,_,_,_,_,_,_,_⟩:=bk5 BK117;go_wp2_with (first | ((with_reducible refine gate_callee (f:=21) rfl ?_);refine gL 9 Tryz.func21 #[.string a0_0] ?_;(with_reducible refine (words_Code.calls a0_0 true _ A4.out).mono ?_);rintro e w' ⟨rfl,⟨nd,rfl⟩⟩;refine ⟨_,rfl,?_⟩) | (go_at_call 21;(with_reducible refine (words_Code.calls a0_2 true _ A6.out).mono ?_);rintro e w' ⟨rfl,⟨nd,rfl⟩⟩))
     go_meet
     case rel=>exact ⟨_,(false),zq7,H',⟨by first | omega | exact Nat.le_refl _⟩,⟨zq120⟩,⟨zq121⟩⟩
    obtain ⟨c8b0,c8b1⟩:=neI c8;(first | rw [c8b0] | (simp only [i64_w,i32_w];rw [c8b0]) | skip)
    replace H:=bdI H;obtain ⟨t120,A10,H⟩:=H;(try dsimp only at H)
    have H':=sd H;clear H;obtain ⟨_,_,_,_,_,_,_,_,_,_⟩:=bk5 BK117;go_wp2_with (first | ((with_reducible refine gate_callee (f:=21) rfl ?_);refine gL 9 Tryz.func21 #[.string a0_0] ?_;(with_reducible refine (words_Code.calls a0_0 true _ A4.out).mono ?_);rintro e w' ⟨rfl,⟨nd,rfl⟩⟩;refine ⟨_,rfl,?_⟩) | (go_at_call 21;(with_reducible refine (words_Code.calls a0_2 true _ A6.out).mono ?_);rintro e w' ⟨rfl,⟨nd,rfl⟩⟩) | (go_at_call 21;(with_reducible refine (words_Code.calls a0_3 t120 _ A10.out).mono ?_);rintro e w' ⟨rfl,⟨nd,rfl⟩⟩))
    go_meet
    case rel=>exact ⟨_,(!t120),zq7,H',⟨by first | omega | exact Nat.le_refl _⟩,⟨zq120⟩,⟨zq121⟩⟩
   replace c7:=Bool.eq_false_iff.mpr c7;subst c7;rw [if_neg Bool.false_ne_true] at H;have H':=sd H;clear H;obtain ⟨_,_,_,_,_,_,_,_,_,_⟩:=bk5 BK117;go_wp2_with (first | ((with_reducible refine gate_callee (f:=21) rfl ?_);refine gL 9 Tryz.func21 #[.string a0_0] ?_;(with_reducible refine (words_Code.calls a0_0 true _ A4.out).mono ?_);rintro e w' ⟨rfl,⟨nd,rfl⟩⟩;refine ⟨_,rfl,?_⟩) | (go_at_call 21;(with_reducible refine (words_Code.calls a0_2 false _ A6.out).mono ?_);rintro e w' ⟨rfl,⟨nd,rfl⟩⟩))
   go_meet
   case rel=>exact ⟨_,(true),zq7,H',⟨by first | omega | exact Nat.le_refl _⟩,⟨zq120⟩,⟨zq121⟩⟩
  replace c5:=Bool.eq_false_iff.mpr c5;subst c5;rw [if_neg Bool.false_ne_true] at H;have H':=sd H;clear H;obtain ⟨_,_,_,_,_,_,_,_,_,_⟩:=bk5 BK117;go_wp2_with (first | ((with_reducible refine gate_callee (f:=21) rfl ?_);refine gL 9 Tryz.func21 #[.string a0_0] ?_;(with_reducible refine (words_Code.calls a0_0 false _ A4.out).mono ?_);rintro e w' ⟨rfl,⟨nd,rfl⟩⟩;refine ⟨_,rfl,?_⟩))
  go_meet
  case rel=>exact ⟨_,(true),zq7,H',⟨by first | omega | exact Nat.le_refl _⟩,⟨zq120⟩,⟨zq121⟩⟩
 case rest =>
  clear HC2;try clear c2
  try clear p2
  try clear c5
  try clear c7
  try clear c8
  try clear c8b0
  try clear c8b1
  try clear c9
  try clear hcz11_0
  try clear hcz11_1
  try clear hcz11_2
  try clear hcz11_3
  try clear hcz11_4
  try clear hcz12_0
  try clear hcz12_1
  try clear hcz12_2
  try clear hcz12_3
  try clear hcz12_4
  try clear hcz13_0
  try clear hcz13_1
  try clear hcz13_2
  try clear hcz13_3
  try clear hcz13_4
  try clear hcz9_0
  try clear hcz9_1
  try clear hcz9_2
  try clear hcz9_3
  try clear hcz9_4
  try clear hfz11_0
  try clear hfz11_1
  try clear hfz11_2
  try clear hfz11_3
  try clear hfz11_4
  try clear hfz12_0
  try clear hfz12_1
  try clear hfz12_2
  try clear hfz12_3
  try clear hfz12_4
  try clear hfz13_0
  try clear hfz13_1
  try clear hfz13_2
  try clear hfz13_3
  try clear hfz13_4
  try clear hfz9_0
  try clear hfz9_1
  try clear hfz9_2
  try clear hfz9_3
  try clear hfz9_4
  obtain ⟨kq,x6_1,rfl,HA,HJ1,BK117,HB⟩:=hcut
  cases kq with
  | zero=>exact absurd HA.out (by simp [rules_Check.j0])
  | succ kj1 =>
   have H:=HA.out;clear HA;simp only [rules_Check.j0] at H
   by_cases c14:x6_1=true
   ·subst c14;rw [if_pos rfl] at H;obtain rfl:=Option.some.inj H;go_wp2
    go_ret
    exact ⟨zq4,zq121⟩
   replace c14:=Bool.eq_false_iff.mpr c14;subst c14;rw [if_neg Bool.false_ne_true] at H;replace H:=bdI H;obtain ⟨t121,A15,H⟩:=H;(try dsimp only at H)
   by_cases c16:t121=true
   ·subst c16;rw [if_pos rfl] at H;replace H:=ifI H;rcases H with ⟨c17,H⟩ | ⟨c17,H⟩
    ·obtain ⟨c17b0,c17b1⟩:=eqI c17;clear c17;obtain rfl:=Option.some.inj H;obtain ⟨_,_,_,_,_,_,_,_,_,_⟩:=bk5 BK117;go_wp2_with (first | ((with_reducible refine gate_callee (f:=22) rfl ?_);refine gL 31 Tryz.func22 #[.slice A0_4 l0_4.length c0_4] ?_;(with_reducible refine (dims_Right.calls kj1 _ _ l0_4 true _ ?side1 ?side2 A15.out).mono ?_);(case side1=>exact zq40);(case side2=>exact HC0_4.out);rintro e w19 ⟨rfl,hb⟩;refine ⟨_,rfl,?_⟩;replace BK117:=bkm BK117 hb;replace HB:=hbm HB hb;clear hb;obtain ⟨_,_,_,_,_,_,_,_,_,_⟩:=bk5 BK117))
     go_ret
     exact ⟨zq4,zq121⟩
    obtain ⟨c17b0,c17b1⟩:=neI c17;have c17b2:¬ (l0_1=[]):=fun h_=>c17 (by rw [h_];rfl)
    replace H:=ifI H;rcases H with ⟨c21,H⟩ | ⟨c21,H⟩
    ·have c21b0:decide (8 < (l0_1.length:Int))=true:=decide_eq_true c21;have c21b1:decide (8 < l0_1.length)=true:=decide_eq_true (by omega);clear c21;obtain rfl:=Option.some.inj H;obtain ⟨_,_,_,_,_,_,_,_,_,_⟩:=bk5 BK117;go_wp2_with (first | ((with_reducible refine gate_callee (f:=22) rfl ?_);refine gL 31 Tryz.func22 #[.slice A0_4 l0_4.length c0_4] ?_;(with_reducible refine (dims_Right.calls kj1 _ _ l0_4 true _ ?side1 ?side2 A15.out).mono ?_);(case side1=>exact zq40);(case side2=>exact HC0_4.out);rintro e w23 ⟨rfl,hb⟩;refine ⟨_,rfl,?_⟩;replace BK117:=bkm BK117 hb;replace HB:=hbm HB hb;clear hb;obtain ⟨_,_,_,_,_,_,_,_,_,_⟩:=bk5 BK117))
     go_ret
     exact ⟨zq4,zq121⟩
    have c21b0:decide (8 < (l0_1.length:Int))=false:=decide_eq_false c21;have c21b1:decide (8 < l0_1.length)=false:=decide_eq_false (by omega);clear c21;have H':=sd H;clear H;obtain ⟨_,_,_,_,_,_,_,_,_,_⟩:=bk5 BK117;go_wp2_with (first | ((with_reducible refine gate_callee (f:=22) rfl ?_);refine gL 31 Tryz.func22 #[.slice A0_4 l0_4.length c0_4] ?_;(with_reducible refine (dims_Right.calls kj1 _ _ l0_4 true _ ?side1 ?side2 A15.out).mono ?_);(case side1=>exact zq40);(case side2=>exact HC0_4.out);rintro e w26 ⟨rfl,hb⟩;refine ⟨_,rfl,?_⟩;replace BK117:=bkm BK117 hb;replace HB:=hbm HB hb;clear hb;obtain ⟨_,_,_,_,_,_,_,_,_,_⟩:=bk5 BK117))
    go_loopg [46] kj1 (fun kq v46 w'=>∃ (x46_2:Int),v46=.int .i64 x46_2∧Aside0 (rules_Check.l0 kq l0_1 (l0_1.length:Int) x46_2=some r)∧Aside0 (kq≤kj1)∧Aside0 (w'.heap[gb117]?=some (.cells #[.string a0_0,(.slice A0_1 l0_1.length c0_1),.string a0_2,.string a0_3,(.slice A0_4 l0_4.length c0_4)] 25 (0,0)))∧Aside0 (Below w.heap.size w w'))
    case atStart=>exact ⟨(0),zq7,H',⟨Nat.le_refl _⟩,⟨zq120⟩,⟨zq121⟩⟩
    case round =>
     clear H';try clear c1
     try clear c2
     try clear p2
     try clear c5
     try clear c7
     try clear c8
     try clear c8b0
     try clear c8b1
     try clear c9
     try clear c14
     try clear c16
     try clear c17
     try clear c17b0
     try clear c17b1
     try clear c17b2
     try clear c21
     try clear c21b0
     try clear c21b1
     try clear c22
     try clear hcz11_0
     try clear hcz11_1
     try clear hcz11_2
     try clear hcz11_3
     try clear hcz11_4
     try clear hcz12_0
     try clear hcz12_1
     try clear hcz12_2
     try clear hcz12_3
     try clear hcz12_4
     try clear hcz13_0
     try clear hcz13_1
     try clear hcz13_2
     try clear hcz13_3
     try clear hcz13_4
     try clear hcz18_0
     try clear hcz18_1
     try clear hcz18_2
     try clear hcz18_3
     try clear hcz18_4
     try clear hcz20_0
     try clear hcz20_1
     try clear hcz20_2
     try clear hcz20_3
     try clear hcz20_4
     try clear hcz22_0
     try clear hcz22_1
     try clear hcz22_2
     try clear hcz22_3
     try clear hcz22_4
     try clear hcz24_0
     try clear hcz24_1
     try clear hcz24_2
     try clear hcz24_3
     try clear hcz24_4
     try clear hcz25_0
     try clear hcz25_1
     try clear hcz25_2
     try clear hcz25_3
     try clear hcz25_4
     try clear hcz27_0
     try clear hcz27_1
     try clear hcz27_2
     try clear hcz27_3
     try clear hcz27_4
     try clear hcz9_0
     try clear hcz9_1
     try clear hcz9_2
     try clear hcz9_3
     try clear hcz9_4
     try clear hfz11_0
     try clear hfz11_1
     try clear hfz11_2
     try clear hfz11_3
     try clear hfz11_4
     try clear hfz12_0
     try clear hfz12_1
     try clear hfz12_2
     try clear hfz12_3
     try clear hfz12_4
     try clear hfz13_0
     try clear hfz13_1
     try clear hfz13_2
     try clear hfz13_3
     try clear hfz13_4
     try clear hfz18_0
     try clear hfz18_1
     try clear hfz18_2
     try clear hfz18_3
     try clear hfz18_4
     try clear hfz20_0
     try clear hfz20_1
     try clear hfz20_2
     try clear hfz20_3
     try clear hfz20_4
     try clear hfz22_0
     try clear hfz22_1
     try clear hfz22_2
     try clear hfz22_3
     try clear hfz22_4
     try clear hfz24_0
     try clear hfz24_1
     try clear hfz24_2
     try clear hfz24_3
     try clear hfz24_4
     try clear hfz25_0
     try clear hfz25_1
     try clear hfz25_2
     try clear hfz25_3
     try clear hfz25_4
     try clear hfz27_0
     try clear hfz27_1
     try clear hfz27_2
     try clear hfz27_3
     try clear hfz27_4
     try clear hfz9_0
     try clear hfz9_1
     try clear hfz9_2
     try clear hfz9_3
     try clear hfz9_4
     try clear p2
     obtain ⟨x46_2,rfl,HA,HK2,BK117,HB⟩:=hrel
     cases gk with
     | zero=>exact absurd HA.out (by simp [rules_Check.l0])
     | succ k2 =>
      have H:=HA.out;clear HA;simp only [rules_Check.l0] at H
      replace H:=ifI H;rcases H with ⟨c28,H⟩ | ⟨c28,H⟩
      ·have c28b0:decide (x46_2 < (l0_1.length:Int))=true:=decide_eq_true c28;clear c28;replace H:=ifI H;rcases H with ⟨c29,H⟩ | ⟨c29,H⟩
       ·have c29b0:decide (0≤x46_2)=true:=decide_eq_true c29;clear c29;replace H:=ifI H;rcases H with ⟨c30,H⟩ | ⟨c30,H⟩
        ·have c30b0:decide (x46_2 < (l0_1.length:Int))=true:=decide_eq_true c30;clear c30;replace H:=bdI H;obtain ⟨t124,A31,H⟩:=H;(try dsimp only at H)
         replace H:=ifI H;rcases H with ⟨c32,H⟩ | ⟨c32,H⟩
         ·obtain ⟨c32b0,c32b1⟩:=eqI c32;clear c32;have H':=sd H;clear H;have p122:0≤(x46_2:Int):=od;have q122:x46_2 < (l0_1.length:Int):=od;obtain ⟨ad122,e122,hx122_0,hx122_1,hx122_2,hx122_3⟩:=at_T48 HR0_1.out x46_2 p122 q122
          cases e122
          replace hx122_0:=(HB.out.cell (World.block_lt_of_cell? w _ hx122_0)).trans hx122_0;replace hx122_1:=(HB.out.cell (World.block_lt_of_cell? w _ hx122_1)).trans hx122_1;replace hx122_2:=(HB.out.cell (World.block_lt_of_cell? w _ hx122_2)).trans hx122_2;replace hx122_3:=(HB.out.cell (World.block_lt_of_cell? w _ hx122_3)).trans hx122_3;replace p122:=eq_true p122;replace q122:=eq_true q122;go_wp2_with (first | ((with_reducible refine gate_dst (N:=4) rfl ?_);refine bxA 4 #[.int .i64 0,.int .i64 0,.string (⟨#[]⟩:ByteArray),.int .i64 0] 48 ?_;intro gb123 hg w33 hbox hb;have BK123:=sd (hbox);have GW123:=gem hg HB;have GE123:=GW123;have NB117_123:=nlm hg BK117;have NB123_117:=ngm hg BK117;replace BK117:=bkm BK117 hb;replace HB:=hbm HB hb;clear hb hbox hg;have hnb34:=NB123_117.out;have hnc34:=NB117_123.out;obtain ⟨_,_,_,_,_,_,_,_⟩:=bk4 BK123) | ((with_reducible refine gate_callee (f:=23) rfl ?_);refine gL 51 Tryz.func23 #[.agg #[.int .i64 ((rd_T48 l0_1 x46_2).f0),.int .i64 ((rd_T48 l0_1 x46_2).f1),.string ((rd_T48 l0_1 x46_2).f2),.int .i64 ((rd_T48 l0_1 x46_2).f3)]] ?_;(with_reducible refine (rules_cond.calls k2 ((rd_T48 l0_1 x46_2).f0) ((rd_T48 l0_1 x46_2).f1) ((rd_T48 l0_1 x46_2).f2) ((rd_T48 l0_1 x46_2).f3) t124 _ A31.out).mono ?_);rintro e w36 ⟨rfl,hb⟩;refine ⟨_,rfl,?_⟩;replace BK117:=sd (blk_below (g:=gb117) (o:=.cells #[.string a0_0,.slice (some ad122) l0_1.length c0_1,.string a0_2,.string a0_3,.slice A0_4 l0_4.length c0_4] 25 (0,0)) (by (with_reducible repeat (first | refine blk_drewN ?_ _ | refine blk_drew ?_ | refine blk_alloc ?_ _));refine blk_far ?_ NB117_123.out _;(with_reducible repeat (first | refine blk_drewN ?_ _ | refine blk_drew ?_ | refine blk_alloc ?_ _));refine blk_far ?_ NB117_123.out _;(with_reducible repeat (first | refine blk_drewN ?_ _ | refine blk_drew ?_ | refine blk_alloc ?_ _));refine blk_far ?_ NB117_123.out _;(with_reducible repeat (first | refine blk_drewN ?_ _ | refine blk_drew ?_ | refine blk_alloc ?_ _));refine blk_far ?_ NB117_123.out _;(with_reducible repeat (first | refine blk_drewN ?_ _ | refine blk_drew ?_ | refine blk_alloc ?_ _));exact BK117.out) hb);replace BK123:=sd (blk_below (g:=gb123) (o:=.cells #[.int .i64 ((rd_T48 l0_1 x46_2).f0),.int .i64 ((rd_T48 l0_1 x46_2).f1),.string ((rd_T48 l0_1 x46_2).f2),.int .i64 ((rd_T48 l0_1 x46_2).f3)] 48 (0,0)) (by (with_reducible repeat (first | refine blk_drewN ?_ _ | refine blk_drew ?_ | refine blk_alloc ?_ _));refine blk_put (cs:=#[.int .i64 ((rd_T48 l0_1 x46_2).f0),.int .i64 ((rd_T48 l0_1 x46_2).f1),.string ((rd_T48 l0_1 x46_2).f2),.int .i64 0]) ?_ 3 _ rfl;(with_reducible repeat (first | refine blk_drewN ?_ _ | refine blk_drew ?_ | refine blk_alloc ?_ _));refine blk_put (cs:=#[.int .i64 ((rd_T48 l0_1 x46_2).f0),.int .i64 ((rd_T48 l0_1 x46_2).f1),.string (⟨#[]⟩:ByteArray),.int .i64 0]) ?_ 2 _ rfl;(with_reducible repeat (first | refine blk_drewN ?_ _ | refine blk_drew ?_ | refine blk_alloc ?_ _));refine blk_put (cs:=#[.int .i64 ((rd_T48 l0_1 x46_2).f0),.int .i64 0,.string (⟨#[]⟩:ByteArray),.int .i64 0]) ?_ 1 _ rfl;(with_reducible repeat (first | refine blk_drewN ?_ _ | refine blk_drew ?_ | refine blk_alloc ?_ _));refine blk_put (cs:=#[.int .i64 0,.int .i64 0,.string (⟨#[]⟩:ByteArray),.int .i64 0]) ?_ 0 _ rfl;(with_reducible repeat (first | refine blk_drewN ?_ _ | refine blk_drew ?_ | refine blk_alloc ?_ _));exact BK123.out) hb);replace HB:=hbm HB hb;clear hb))
          go_roundg k2
          case measure=>have:=HJ1.out;have:=HK2.out;omega
          case rel=>exact ⟨(wrap64 (x46_2+1)),zq7,H',⟨zq23⟩,⟨zq120⟩,⟨by repeat (first | (with_reducible first | exact HB.out | apply below_alloc | apply pw_below_drewN | apply below_drew1 | refine below_set ?_ GE117.out | refine below_set ?_ GE123.out) | exact HB.out)⟩⟩
         obtain ⟨c32b0,c32b1⟩:=neI c32;obtain rfl:=Option.some.inj H;have p122:0≤(x46_2:Int):=od;have q122:x46_2 < (l0_1.length:Int):=od;obtain ⟨ad122,e122,hx122_0,hx122_1,hx122_2,hx122_3⟩:=at_T48 HR0_1.out x46_2 p122 q122
         cases e122
         replace hx122_0:=(HB.out.cell (World.block_lt_of_cell? w _ hx122_0)).trans hx122_0;replace hx122_1:=(HB.out.cell (World.block_lt_of_cell? w _ hx122_1)).trans hx122_1;replace hx122_2:=(HB.out.cell (World.block_lt_of_cell? w _ hx122_2)).trans hx122_2;replace hx122_3:=(HB.out.cell (World.block_lt_of_cell? w _ hx122_3)).trans hx122_3;replace p122:=eq_true p122;replace q122:=eq_true q122;go_wp2_with (first | ((with_reducible refine gate_dst (N:=4) rfl ?_);refine bxA 4 #[.int .i64 0,.int .i64 0,.string (⟨#[]⟩:ByteArray),.int .i64 0] 48 ?_;intro gb123 hg w37 hbox hb;have BK123:=sd (hbox);have GW123:=gem hg HB;have GE123:=GW123;have NB117_123:=nlm hg BK117;have NB123_117:=ngm hg BK117;replace BK117:=bkm BK117 hb;replace HB:=hbm HB hb;clear hb hbox hg;have hnb38:=NB123_117.out;have hnc38:=NB117_123.out;obtain ⟨_,_,_,_,_,_,_,_⟩:=bk4 BK123) | ((with_reducible refine gate_callee (f:=23) rfl ?_);refine gL 51 Tryz.func23 #[.agg #[.int .i64 ((rd_T48 l0_1 x46_2).f0),.int .i64 ((rd_T48 l0_1 x46_2).f1),.string ((rd_T48 l0_1 x46_2).f2),.int .i64 ((rd_T48 l0_1 x46_2).f3)]] ?_;(with_reducible refine (rules_cond.calls k2 ((rd_T48 l0_1 x46_2).f0) ((rd_T48 l0_1 x46_2).f1) ((rd_T48 l0_1 x46_2).f2) ((rd_T48 l0_1 x46_2).f3) t124 _ A31.out).mono ?_);rintro e w40 ⟨rfl,hb⟩;refine ⟨_,rfl,?_⟩;replace BK117:=sd (blk_below (g:=gb117) (o:=.cells #[.string a0_0,.slice (some ad122) l0_1.length c0_1,.string a0_2,.string a0_3,.slice A0_4 l0_4.length c0_4] 25 (0,0)) (by (with_reducible repeat (first | refine blk_drewN ?_ _ | refine blk_drew ?_ | refine blk_alloc ?_ _));refine blk_far ?_ NB117_123.out _;(with_reducible repeat (first | refine blk_drewN ?_ _ | refine blk_drew ?_ | refine blk_alloc ?_ _));refine blk_far ?_ NB117_123.out _;(with_reducible repeat (first | refine blk_drewN ?_ _ | refine blk_drew ?_ | refine blk_alloc ?_ _));refine blk_far ?_ NB117_123.out _;(with_reducible repeat (first | refine blk_drewN ?_ _ | refine blk_drew ?_ | refine blk_alloc ?_ _));refine blk_far ?_ NB117_123.out _;(with_reducible repeat (first | refine blk_drewN ?_ _ | refine blk_drew ?_ | refine blk_alloc ?_ _));exact BK117.out) hb);replace BK123:=sd (blk_below (g:=gb123) (o:=.cells #[.int .i64 ((rd_T48 l0_1 x46_2).f0),.int .i64 ((rd_T48 l0_1 x46_2).f1),.string ((rd_T48 l0_1 x46_2).f2),.int .i64 ((rd_T48 l0_1 x46_2).f3)] 48 (0,0)) (by (with_reducible repeat (first | refine blk_drewN ?_ _ | refine blk_drew ?_ | refine blk_alloc ?_ _));refine blk_put (cs:=#[.int .i64 ((rd_T48 l0_1 x46_2).f0),.int .i64 ((rd_T48 l0_1 x46_2).f1),.string ((rd_T48 l0_1 x46_2).f2),.int .i64 0]) ?_ 3 _ rfl;(with_reducible repeat (first | refine blk_drewN ?_ _ | refine blk_drew ?_ | refine blk_alloc ?_ _));refine blk_put (cs:=#[.int .i64 ((rd_T48 l0_1 x46_2).f0),.int .i64 ((rd_T48 l0_1 x46_2).f1),.string (⟨#[]⟩:ByteArray),.int .i64 0]) ?_ 2 _ rfl;(with_reducible repeat (first | refine blk_drewN ?_ _ | refine blk_drew ?_ | refine blk_alloc ?_ _));refine blk_put (cs:=#[.int .i64 ((rd_T48 l0_1 x46_2).f0),.int .i64 0,.string (⟨#[]⟩:ByteArray),.int .i64 0]) ?_ 1 _ rfl;(with_reducible repeat (first | refine blk_drewN ?_ _ | refine blk_drew ?_ | refine blk_alloc ?_ _));refine blk_put (cs:=#[.int .i64 0,.int .i64 0,.string (⟨#[]⟩:ByteArray),.int .i64 0]) ?_ 0 _ rfl;(with_reducible repeat (first | refine blk_drewN ?_ _ | refine blk_drew ?_ | refine blk_alloc ?_ _));exact BK123.out) hb);replace HB:=hbm HB hb;clear hb))
         go_ret
         exact ⟨zq4,by repeat (first | (with_reducible first | exact HB.out | apply below_alloc | apply pw_below_drewN | apply below_drew1 | refine below_set ?_ GE117.out | refine below_set ?_ GE123.out) | exact HB.out)⟩
        exact absurd H (by simp)
       exact absurd H (by simp)
      have c28b0:decide (x46_2 < (l0_1.length:Int))=false:=decide_eq_false c28;clear c28;obtain rfl:=Option.some.inj H;go_wp2
      go_ret
      exact ⟨zq4,zq121⟩
   replace c16:=Bool.eq_false_iff.mpr c16;subst c16;rw [if_neg Bool.false_ne_true] at H;obtain rfl:=Option.some.inj H;obtain ⟨_,_,_,_,_,_,_,_,_,_⟩:=bk5 BK117;go_wp2_with (first | ((with_reducible refine gate_callee (f:=22) rfl ?_);refine gL 31 Tryz.func22 #[.slice A0_4 l0_4.length c0_4] ?_;(with_reducible refine (dims_Right.calls kj1 _ _ l0_4 false _ ?side1 ?side2 A15.out).mono ?_);(case side1=>exact zq40);(case side2=>exact HC0_4.out);rintro e w42 ⟨rfl,hb⟩;refine ⟨_,rfl,?_⟩;replace BK117:=bkm BK117 hb;replace HB:=hbm HB hb;clear hb))
   go_ret
   exact ⟨zq4,zq121⟩
theorem words_Quote.calls (k:Nat) (a0 r1:ByteArray) (r2:Int) (w:World) (h:words_Quote.f k a0=some (r1,r2)) :
  Calls Tryz.prog 74 #[.string a0] w fun e w'=>e=.returned (.tuple #[.string r1,.int .i64 r2])∧Below w.heap.size w w':=by
 have HB:=sd (Below.refl w.heap.size w);have H:=h;clear h;unfold words_Quote.f at H;replace H:=bdI H;obtain ⟨t179,A2,H⟩:=H;(try dsimp only at H)
 by_cases c3:t179=true
 ·subst c3;rw [if_pos rfl] at H;obtain ⟨y180,hy180⟩:∃ y_:List Int,y_=(([34]:List Int)):=⟨_,rfl⟩
  replace H:(words_Quote.l0 k a0 y180 (a0.size:Int) 0)=some (r1,r2):=by first | (rw [hy180];with_reducible exact H) | (have H2_:=(Option.bind_some _ _).symm.trans H;rw [hy180];with_reducible exact H2_) | (have H2_:=(Option.bind_some _ _).symm.trans H;with_reducible exact H2_) | with_reducible exact H | (rw [hy180];exact H) | exact H
  have Ny180:=sd hy180;clear hy180;have H':=sd H;clear H;go_enter Tryz.func74,Tryz.ntmps74
  go_wp2_with (first | ((with_reducible refine gate_callee (f:=53) rfl ?_);refine gL 7 Tryz.func53 #[.string a0] ?_;(with_reducible refine (words_Plain.calls a0 true _ A2.out).mono ?_);rintro e w' ⟨rfl,⟨nd,rfl⟩⟩;refine ⟨_,rfl,?_⟩) | ((with_reducible refine gate_dst (N:=9) rfl ?_);refine Kd.R_lit (Kd.int .u8) _ 5 ?hg (N:=9) ?hd (xs:=([34]:List Int)) (inner:=[.int .u8 34]) (ok:=fun _=>True) (okp:=fun _=>True) ?hr ?hp (fun _ hk=>hk) trivial (Below.refl _ _) (Nat.le_refl _) (by simp) ?_;(case hd=>rfl);(case hg=>rfl);(case hr=>first | (go_simp;done) | (go_simp;rfl));(case hp=>exact (Reps.one (show Kd.M (Kd.int .u8) _ _ _ 34 [.int .u8 34] from rfl) (Reps.none _ _)));intro v181 w4 ho5 hb hg_ hnew_;clear hg_ hnew_;(first | rw [← Ny180.out] at ho5 | (simp only [Int.reduceToNat] at ho5;rw [← Ny180.out] at ho5));have HO182:=sd (Kd.R_lower ho5 (below_size zq6));replace HB:=hbm HB hb;clear hb ho5))
  go_loopg [4,12] k (fun kq v4 v12 w'=>∃ (x4_1:List Int) (x12_1:Int),v12=.int .i64 x12_1∧Aside0 (words_Quote.l0 kq a0 x4_1 (a0.size:Int) x12_1=some (r1,r2))∧Aside0 (kq≤k)∧Aside0 (Kd.R (Kd.int .u8) 5 w' w.heap.size (fun _=>True) v4 x4_1)∧Aside0 (Below w.heap.size w w'))
  case atStart=>exact ⟨(y180),(0),zq7,H',⟨Nat.le_refl _⟩,⟨by (with_reducible repeat (first | apply Kd.R_alloc | apply Kd.R_drewN | apply Kd.R_drew));exact HO182.out⟩,⟨zq6⟩⟩
  case round =>
   clear H';try clear p2
   try clear c3
   try clear c5
   obtain ⟨x4_1,x12_1,rfl,HA,HK1,HO_4,HB⟩:=hrel
   cases gk with
   | zero=>exact absurd HA.out (by simp [words_Quote.l0])
   | succ k1 =>
    have H:=HA.out;clear HA;simp only [words_Quote.l0] at H
    replace H:=ifI H;rcases H with ⟨c6,H⟩ | ⟨c6,H⟩
    ·have c6b0:decide (x12_1 < (a0.size:Int))=true:=decide_eq_true c6;clear c6;replace H:=ifI H;rcases H with ⟨c7,H⟩ | ⟨c7,H⟩
     ·have c7b0:decide (0≤x12_1)=true:=decide_eq_true c7;clear c7;replace H:=ifI H;rcases H with ⟨c8,H⟩ | ⟨c8,H⟩
      ·have c8b0:decide (x12_1 < (a0.size:Int))=true:=decide_eq_true c8;clear c8;replace H:=ifI H;rcases H with ⟨c10,H⟩ | ⟨c10,H⟩
       ·obtain ⟨c10b0,c10b1⟩:=eqI c10;clear c10;replace H:=ifI H;rcases H with ⟨c11,H⟩ | ⟨c11,H⟩
        ·have LMc11:=sd c11;clear c11;obtain ⟨y183,hy183⟩:∃ y_:List Int,y_=(x4_1++[92]):=⟨_,rfl⟩
         replace H:(if y183.length < 140737488355328 then (words_Quote.l0 k1 a0 (y183++[bt a0 x12_1]) (a0.size:Int) (wrap64 (x12_1+1))) else (none))=some (r1,r2):=by first | (rw [hy183];with_reducible exact H) | (have H2_:=(Option.bind_some _ _).symm.trans H;rw [hy183];with_reducible exact H2_) | (have H2_:=(Option.bind_some _ _).symm.trans H;with_reducible exact H2_) | with_reducible exact H | (rw [hy183];exact H) | exact H
         have Ny183:=sd hy183;clear hy183;replace H:=ifI H;rcases H with ⟨c13,H⟩ | ⟨c13,H⟩
         ·have LMc13:=sd c13;clear c13;obtain ⟨y186,hy186⟩:∃ y_:List Int,y_=(y183++[bt a0 x12_1]):=⟨_,rfl⟩
          replace H:(words_Quote.l0 k1 a0 y186 (a0.size:Int) (wrap64 (x12_1+1)))=some (r1,r2):=by first | (rw [hy186];with_reducible exact H) | (have H2_:=(Option.bind_some _ _).symm.trans H;rw [hy186];with_reducible exact H2_) | (have H2_:=(Option.bind_some _ _).symm.trans H;with_reducible exact H2_) | with_reducible exact H | (rw [hy186];exact H) | exact H
          have Ny186:=sd hy186;clear hy186;have H':=sd H;clear H;have p9:0≤(x12_1:Int):=od;have q9:x12_1 < (a0.size:Int):=od;have hx9:=bt_at a0 x12_1;replace p9:=eq_true p9;replace q9:=eq_true q9;go_wp2_with (first | ((with_reducible refine gate_builtin (b:=.append) (xs:=#[.tmp 25,.tmp 26]) rfl ?_);at_builtin;refine Kd.R_append (Kd.int .u8) (w0:=w) w.heap.size rfl (.tmp 25) (.tmp 26) 102 5 (.int .u8 0) 1 rfl Tryz.underlying102 info5 rfl (by decide) (by omega) u4 x4_1 92 [.int .u8 92] (fun _=>True) (fun _=>False) rfl rfl ?aP (fun _ hk=>hk.elim) ?aF ?aO ?aB ?aS ?aL ?_;(case aP=>exact rfl);(case aB=>exact zq6);(case aF=>exact (fun _ _=>trivial));(case aO=>exact zq53);(case aS=>exact (below_size zq6));(case aL=>have:=LMc11.out;omega);intro v184 w14 ho hb hg hat;rw [← Ny183.out] at ho;have HO185:=sd (ho);replace HB:=sd (hb);clear HO_4;clear ho hb hg hat;have p12:0≤(x12_1:Int):=od;have q12:x12_1 < (a0.size:Int):=od;have hx12:=bt_at a0 x12_1;replace p12:=eq_true p12;replace q12:=eq_true q12) | ((with_reducible refine gate_builtin (b:=.append) (xs:=#[.tmp 28,.tmp 32]) rfl ?_);at_builtin;refine Kd.R_append (Kd.int .u8) (w0:=w) w.heap.size rfl (.tmp 28) (.tmp 32) 102 5 (.int .u8 0) 1 rfl Tryz.underlying102 info5 rfl (by decide) (by omega) v184 y183 (bt a0 x12_1) [.int .u8 (bt a0 x12_1)] (fun _=>True) (fun _=>False) rfl rfl ?aP (fun _ hk=>hk.elim) ?aF ?aO ?aB ?aS ?aL ?_;(case aP=>exact rfl);(case aB=>exact zq6);(case aF=>exact (fun _ _=>trivial));(case aO=>exact (by (with_reducible repeat (first | apply Kd.R_alloc | apply Kd.R_drewN | apply Kd.R_drew));exact HO185.out));(case aS=>exact (below_size zq6));(case aL=>have:=LMc13.out;omega);intro v187 w15 ho hb hg hat;rw [← Ny186.out] at ho;have HO188:=sd (ho);replace HB:=sd (hb);clear HO185;clear ho hb hg hat))
          go_roundg k1
          case measure=>have:=HK1.out;omega
          case rel=>exact ⟨(y186),(wrap64 (x12_1+1)),zq7,H',⟨by have:=HK1.out;omega⟩,⟨by (with_reducible repeat (first | apply Kd.R_alloc | apply Kd.R_drewN | apply Kd.R_drew));exact HO188.out⟩,⟨zq6⟩⟩
         exact absurd H (by simp)
        exact absurd H (by simp)
       obtain ⟨c10b0,c10b1⟩:=neI c10;replace H:=ifI H;rcases H with ⟨c17,H⟩ | ⟨c17,H⟩
       ·obtain ⟨c17b0,c17b1⟩:=eqI c17;clear c17;replace H:=ifI H;rcases H with ⟨c18,H⟩ | ⟨c18,H⟩
        ·have LMc18:=sd c18;clear c18;obtain ⟨y189,hy189⟩:∃ y_:List Int,y_=(x4_1++[92]):=⟨_,rfl⟩
         replace H:(if y189.length < 140737488355328 then (words_Quote.l0 k1 a0 (y189++[bt a0 x12_1]) (a0.size:Int) (wrap64 (x12_1+1))) else (none))=some (r1,r2):=by first | (rw [hy189];with_reducible exact H) | (have H2_:=(Option.bind_some _ _).symm.trans H;rw [hy189];with_reducible exact H2_) | (have H2_:=(Option.bind_some _ _).symm.trans H;with_reducible exact H2_) | with_reducible exact H | (rw [hy189];exact H) | exact H
         have Ny189:=sd hy189;clear hy189;replace H:=ifI H;rcases H with ⟨c20,H⟩ | ⟨c20,H⟩
         ·have LMc20:=sd c20;clear c20;obtain ⟨y192,hy192⟩:∃ y_:List Int,y_=(y189++[bt a0 x12_1]):=⟨_,rfl⟩
          replace H:(words_Quote.l0 k1 a0 y192 (a0.size:Int) (wrap64 (x12_1+1)))=some (r1,r2):=by first | (rw [hy192];with_reducible exact H) | (have H2_:=(Option.bind_some _ _).symm.trans H;rw [hy192];with_reducible exact H2_) | (have H2_:=(Option.bind_some _ _).symm.trans H;with_reducible exact H2_) | with_reducible exact H | (rw [hy192];exact H) | exact H
          have Ny192:=sd hy192;clear hy192;have H':=sd H;clear H;have p9:0≤(x12_1:Int):=od;have q9:x12_1 < (a0.size:Int):=od;have hx9:=bt_at a0 x12_1;replace p9:=eq_true p9;replace q9:=eq_true q9;have p16:0≤(x12_1:Int):=od;have q16:x12_1 < (a0.size:Int):=od;have hx16:=bt_at a0 x12_1;replace p16:=eq_true p16;replace q16:=eq_true q16;go_wp2_with (first | ((with_reducible refine gate_builtin (b:=.append) (xs:=#[.tmp 25,.tmp 26]) rfl ?_);at_builtin;refine Kd.R_append (Kd.int .u8) (w0:=w) w.heap.size rfl (.tmp 25) (.tmp 26) 102 5 (.int .u8 0) 1 rfl Tryz.underlying102 info5 rfl (by decide) (by omega) u4 x4_1 92 [.int .u8 92] (fun _=>True) (fun _=>False) rfl rfl ?aP (fun _ hk=>hk.elim) ?aF ?aO ?aB ?aS ?aL ?_;(case aP=>exact rfl);(case aB=>exact zq6);(case aF=>exact (fun _ _=>trivial));(case aO=>exact zq53);(case aS=>exact (below_size zq6));(case aL=>have:=LMc18.out;omega);intro v190 w21 ho hb hg hat;rw [← Ny189.out] at ho;have HO191:=sd (ho);replace HB:=sd (hb);clear HO_4;clear ho hb hg hat;have p19:0≤(x12_1:Int):=od;have q19:x12_1 < (a0.size:Int):=od;have hx19:=bt_at a0 x12_1;replace p19:=eq_true p19;replace q19:=eq_true q19) | ((with_reducible refine gate_builtin (b:=.append) (xs:=#[.tmp 28,.tmp 32]) rfl ?_);at_builtin;refine Kd.R_append (Kd.int .u8) (w0:=w) w.heap.size rfl (.tmp 28) (.tmp 32) 102 5 (.int .u8 0) 1 rfl Tryz.underlying102 info5 rfl (by decide) (by omega) v190 y189 (bt a0 x12_1) [.int .u8 (bt a0 x12_1)] (fun _=>True) (fun _=>False) rfl rfl ?aP (fun _ hk=>hk.elim) ?aF ?aO ?aB ?aS ?aL ?_;(case aP=>exact rfl);(case aB=>exact zq6);(case aF=>exact (fun _ _=>trivial));(case aO=>exact (by (with_reducible repeat (first | apply Kd.R_alloc | apply Kd.R_drewN | apply Kd.R_drew));exact HO191.out));(case aS=>exact (below_size zq6));(case aL=>have:=LMc20.out;omega);intro v193 w22 ho hb hg hat;rw [← Ny192.out] at ho;have HO194:=sd (ho);replace HB:=sd (hb);clear HO191;clear ho hb hg hat))
          go_roundg k1
          case measure=>have:=HK1.out;omega
          case rel=>exact ⟨(y192),(wrap64 (x12_1+1)),zq7,H',⟨by have:=HK1.out;omega⟩,⟨by (with_reducible repeat (first | apply Kd.R_alloc | apply Kd.R_drewN | apply Kd.R_drew));exact HO194.out⟩,⟨zq6⟩⟩
         exact absurd H (by simp)
        exact absurd H (by simp)
       obtain ⟨c17b0,c17b1⟩:=neI c17;replace H:=ifI H;rcases H with ⟨c24,H⟩ | ⟨c24,H⟩
       ·have LMc24:=sd c24;clear c24;obtain ⟨y195,hy195⟩:∃ y_:List Int,y_=(x4_1++[bt a0 x12_1]):=⟨_,rfl⟩
        replace H:(words_Quote.l0 k1 a0 y195 (a0.size:Int) (wrap64 (x12_1+1)))=some (r1,r2):=by first | (rw [hy195];with_reducible exact H) | (have H2_:=(Option.bind_some _ _).symm.trans H;rw [hy195];with_reducible exact H2_) | (have H2_:=(Option.bind_some _ _).symm.trans H;with_reducible exact H2_) | with_reducible exact H | (rw [hy195];exact H) | exact H
        have Ny195:=sd hy195;clear hy195;have H':=sd H;clear H;have p9:0≤(x12_1:Int):=od;have q9:x12_1 < (a0.size:Int):=od;have hx9:=bt_at a0 x12_1;replace p9:=eq_true p9;replace q9:=eq_true q9;have p16:0≤(x12_1:Int):=od;have q16:x12_1 < (a0.size:Int):=od;have hx16:=bt_at a0 x12_1;replace p16:=eq_true p16;replace q16:=eq_true q16;have p23:0≤(x12_1:Int):=od;have q23:x12_1 < (a0.size:Int):=od;have hx23:=bt_at a0 x12_1;replace p23:=eq_true p23;replace q23:=eq_true q23;go_wp2_with (first | ((with_reducible refine gate_builtin (b:=.append) (xs:=#[.tmp 28,.tmp 32]) rfl ?_);at_builtin;refine Kd.R_append (Kd.int .u8) (w0:=w) w.heap.size rfl (.tmp 28) (.tmp 32) 102 5 (.int .u8 0) 1 rfl Tryz.underlying102 info5 rfl (by decide) (by omega) u4 x4_1 (bt a0 x12_1) [.int .u8 (bt a0 x12_1)] (fun _=>True) (fun _=>False) rfl rfl ?aP (fun _ hk=>hk.elim) ?aF ?aO ?aB ?aS ?aL ?_;(case aP=>exact rfl);(case aB=>exact zq6);(case aF=>exact (fun _ _=>trivial));(case aO=>exact zq53);(case aS=>exact (below_size zq6));(case aL=>have:=LMc24.out;omega);intro v196 w25 ho hb hg hat;rw [← Ny195.out] at ho;have HO197:=sd (ho);replace HB:=sd (hb);clear HO_4;clear ho hb hg hat))
        go_roundg k1
        case measure=>have:=HK1.out;omega
        case rel=>exact ⟨(y195),(wrap64 (x12_1+1)),zq7,H',⟨by have:=HK1.out;omega⟩,⟨by (with_reducible repeat (first | apply Kd.R_alloc | apply Kd.R_drewN | apply Kd.R_drew));exact HO197.out⟩,⟨zq6⟩⟩
       exact absurd H (by simp)
      exact absurd H (by simp)
     exact absurd H (by simp)
    have c6b0:decide (x12_1 < (a0.size:Int))=false:=decide_eq_false c6;clear c6;replace H:=ifI H;rcases H with ⟨c26,H⟩ | ⟨c26,H⟩
    ·have LMc26:=sd c26;clear c26;obtain ⟨y198,hy198⟩:∃ y_:List Int,y_=(x4_1++[34]):=⟨_,rfl⟩
     replace H:(some (strOfNums y198,0))=some (r1,r2):=by first | (rw [hy198];with_reducible exact H) | (have H2_:=(Option.bind_some _ _).symm.trans H;rw [hy198];with_reducible exact H2_) | (have H2_:=(Option.bind_some _ _).symm.trans H;with_reducible exact H2_) | with_reducible exact H | (rw [hy198];exact H) | exact H
     have Ny198:=sd hy198;clear hy198;simp only [Option.some.injEq,Prod.mk.injEq] at H
     obtain ⟨rfl,rfl⟩:=H;go_wp2_with (first | ((with_reducible refine gate_builtin (b:=.append) (xs:=#[.tmp 35,.tmp 36]) rfl ?_);at_builtin;refine Kd.R_append (Kd.int .u8) (w0:=w) w.heap.size rfl (.tmp 35) (.tmp 36) 102 5 (.int .u8 0) 1 rfl Tryz.underlying102 info5 rfl (by decide) (by omega) u4 x4_1 34 [.int .u8 34] (fun _=>True) (fun _=>False) rfl rfl ?aP (fun _ hk=>hk.elim) ?aF ?aO ?aB ?aS ?aL ?_;(case aP=>exact rfl);(case aB=>exact zq6);(case aF=>exact (fun _ _=>trivial));(case aO=>exact zq53);(case aS=>exact (below_size zq6));(case aL=>have:=LMc26.out;omega);intro v199 w27 ho hb hg hat;rw [← Ny198.out] at ho;have HO200:=sd (ho);replace HB:=sd (hb);clear HO_4;clear ho hb hg hat;have hcv28:=own_string (P:=Tryz.prog) Tryz.underlying102 Tryz.underlying5 Tryz.underlying9 (Kd.own_of_R HO200.out)))
     go_ret2
     exact ⟨zq4,zq6⟩
    exact absurd H (by simp)
 replace c3:=Bool.eq_false_iff.mpr c3;subst c3;rw [if_neg Bool.false_ne_true] at H;simp only [Option.some.injEq,Prod.mk.injEq] at H
 obtain ⟨rfl,rfl⟩:=H;go_enter Tryz.func74,Tryz.ntmps74
 go_wp2_with (first | ((with_reducible refine gate_callee (f:=53) rfl ?_);refine gL 7 Tryz.func53 #[.string a0] ?_;(with_reducible refine (words_Plain.calls a0 false _ A2.out).mono ?_);rintro e w' ⟨rfl,⟨nd,rfl⟩⟩;refine ⟨_,rfl,?_⟩))
 go_ret2
 exact ⟨zq4,zq6⟩
theorem days_Of.calls (k:Nat) (a0_0 a0_1 a0_2 r1 r2:Int) (w:World) (h:days_Of.f k a0_0 a0_1 a0_2=some (r1,r2)) (hG:Gl w) :
  Calls Tryz.prog 121 #[.agg #[.int .i64 a0_0,.int .i64 a0_1,.int .i64 a0_2]] w fun e w'=>e=.returned (.tuple #[.int .i64 r1,.int .i64 r2])∧Below w.heap.size w w':=by
 have HG:=sd hG;clear hG;have hu112:=Tryz.underlying112;have HB:=sd (Below.refl w.heap.size w);have H:=h;clear h;unfold days_Of.f at H;have HC2:=sd H;clear H;go_enter Tryz.func121,Tryz.ntmps121
 go_upto_region 1 with (first | ((with_reducible refine gate_dst (N:=1) rfl ?_);refine bxA 1 #[.int .i64 a0_0,.int .i64 a0_1,.int .i64 a0_2] 112 ?_;intro gb236 hg w3 hbox hb;have BK236:=sd (hbox);have GW236:=gem hg HB;have GE236:=GW236;replace HB:=hbm HB hb;clear hb hbox hg))
 repeat (go_quiet (first | ((with_reducible refine gate_dst (N:=1) rfl ?_);refine bxA 1 #[.int .i64 a0_0,.int .i64 a0_1,.int .i64 a0_2] 112 ?_;intro gb236 hg w3 hbox hb;have BK236:=sd (hbox);have GW236:=gem hg HB;have GE236:=GW236;replace HB:=hbm HB hb;clear hb hbox hg));go_upto_region 1 with (first | ((with_reducible refine gate_dst (N:=1) rfl ?_);refine bxA 1 #[.int .i64 a0_0,.int .i64 a0_1,.int .i64 a0_2] 112 ?_;intro gb236 hg w3 hbox hb;have BK236:=sd (hbox);have GW236:=gem hg HB;have GE236:=GW236;replace HB:=hbm HB hb;clear hb hbox hg)))
 (try simp only [Act.put,List.setIfInBounds_toArray,List.set_cons_zero,List.set_cons_succ])
 go_cut [27] (fun v27 wc=>∃ (kq:Nat) (x27_1:Bool),v27=.bool x27_1∧Aside0 (days_Of.j0 kq x27_1 a0_0 a0_1 a0_2=some (r1,r2))∧Aside0 (kq≤k)∧Aside0 (wc.heap[gb236]?=some (.cells #[.int .i64 a0_0,.int .i64 a0_1,.int .i64 a0_2] 112 (0,0)))∧Aside0 (Below w.heap.size w wc))
 case first =>
  have H:=HC2.out;clear HC2;replace H:=ifI H;rcases H with ⟨c4,H⟩ | ⟨c4,H⟩
  ·have c4b0:decide (a0_0 < 1900)=true:=decide_eq_true c4;clear c4;(first | rw [c4b0] | (simp only [i64_w,i32_w];rw [c4b0]) | skip)
   have H':=sd H;clear H;obtain ⟨_,_,_,_,_,_⟩:=bk3 BK236;go_wp2
   repeat (go_quiet (fail);try go_wp2)
   go_meet
   case rel=>exact ⟨_,(true),zq7,H',⟨by first | omega | exact Nat.le_refl _⟩,⟨zq20⟩,⟨zq21⟩⟩
  have c4b0:decide (a0_0 < 1900)=false:=decide_eq_false c4;clear c4;(first | rw [c4b0] | (simp only [i64_w,i32_w];rw [c4b0]) | skip)
  replace H:=ifI H;rcases H with ⟨c6,H⟩ | ⟨c6,H⟩
  ·have c6b0:decide (2199 < a0_0)=true:=decide_eq_true c6;clear c6;have H':=sd H;clear H;obtain ⟨_,_,_,_,_,_⟩:=bk3 BK236;go_wp2
   repeat (go_quiet (fail);try go_wp2)
   go_meet
   case rel=>exact ⟨_,(true),zq7,H',⟨by first | omega | exact Nat.le_refl _⟩,⟨zq20⟩,⟨zq21⟩⟩
  have c6b0:decide (2199 < a0_0)=false:=decide_eq_false c6;clear c6;replace H:=ifI H;rcases H with ⟨c8,H⟩ | ⟨c8,H⟩
  ·have c8b0:decide (a0_2 < 1)=true:=decide_eq_true c8;clear c8;have H':=sd H;clear H;obtain ⟨_,_,_,_,_,_⟩:=bk3 BK236;go_wp2
   repeat (go_quiet (fail);try go_wp2)
   go_meet
   case rel=>exact ⟨_,(true),zq7,H',⟨by first | omega | exact Nat.le_refl _⟩,⟨zq20⟩,⟨zq21⟩⟩
  have c8b0:decide (a0_2 < 1)=false:=decide_eq_false c8;clear c8;replace H:=bdI H;obtain ⟨t237,A10,H⟩:=H;(try dsimp only at H)
  have H':=sd H;clear H;obtain ⟨_,_,_,_,_,_⟩:=bk3 BK236;go_wp2_with (first | (go_at_call 134;(with_reducible refine (days_Length.calls a0_0 a0_1 t237 _ A10.out (gl_below HG.out zq22)).mono ?_);rintro e w' ⟨rfl,⟨nd,rfl⟩⟩;(try first | exact ⟨rfl,_,World.drewN_drewN _ _ _⟩ | exact ⟨rfl,_,Eq.trans (World.drewN_drewN _ _ _) (congrArg (World.drewN _) (Nat.add_assoc _ _ _))⟩)))
  repeat (go_quiet (first | (go_at_call 134;(with_reducible refine (days_Length.calls a0_0 a0_1 t237 _ A10.out (gl_below HG.out zq22)).mono ?_);rintro e w' ⟨rfl,⟨nd,rfl⟩⟩;(try first | exact ⟨rfl,_,World.drewN_drewN _ _ _⟩ | exact ⟨rfl,_,Eq.trans (World.drewN_drewN _ _ _) (congrArg (World.drewN _) (Nat.add_assoc _ _ _))⟩)));try go_wp2_with (first | (go_at_call 134;(with_reducible refine (days_Length.calls a0_0 a0_1 t237 _ A10.out (gl_below HG.out zq22)).mono ?_);rintro e w' ⟨rfl,⟨nd,rfl⟩⟩;(try first | exact ⟨rfl,_,World.drewN_drewN _ _ _⟩ | exact ⟨rfl,_,Eq.trans (World.drewN_drewN _ _ _) (congrArg (World.drewN _) (Nat.add_assoc _ _ _))⟩))))
  go_meet
  case rel=>exact ⟨_,(decide (a0_2 > t237)),zq7,H',⟨by first | omega | exact Nat.le_refl _⟩,⟨zq20⟩,⟨zq21⟩⟩
 case rest =>
  clear HC2;try clear c1
  try clear p2
  try clear c4
  try clear c4b0
  try clear c6
  try clear c6b0
  try clear c8
  try clear c8b0
  try clear hcz11_0
  try clear hcz11_1
  try clear hcz11_2
  try clear hcz5_0
  try clear hcz5_1
  try clear hcz5_2
  try clear hcz7_0
  try clear hcz7_1
  try clear hcz7_2
  try clear hcz9_0
  try clear hcz9_1
  try clear hcz9_2
  try clear hfz11_0
  try clear hfz11_1
  try clear hfz11_2
  try clear hfz5_0
  try clear hfz5_1
  try clear hfz5_2
  try clear hfz7_0
  try clear hfz7_1
  try clear hfz7_2
  try clear hfz9_0
  try clear hfz9_1
  try clear hfz9_2
  obtain ⟨kq,x27_1,rfl,HA,HJ1,BK236,HB⟩:=hcut
  cases kq with
  | zero=>exact absurd HA.out (by simp [days_Of.j0])
  | succ kj1 =>
   have H:=HA.out;clear HA;simp only [days_Of.j0] at H
   by_cases c12:x27_1=true
   ·subst c12;rw [if_pos rfl] at H;simp only [Option.some.injEq,Prod.mk.injEq] at H
    obtain ⟨rfl,rfl⟩:=H;go_wp2
    repeat (go_quiet (fail);try go_wp2)
    go_ret2
    exact ⟨zq4,zq21⟩
   replace c12:=Bool.eq_false_iff.mpr c12;subst c12;rw [if_neg Bool.false_ne_true] at H;replace H:=bdI H;obtain ⟨t238,A13,H⟩:=H;(try dsimp only at H)
   have H':=sd H;clear H;obtain ⟨_,_,_,_,_,_⟩:=bk3 BK236;go_wp2_with (first | (go_at_call 133;(with_reducible refine (days_before.calls a0_0 t238 _ A13.out).mono ?_);rintro e w' ⟨rfl,⟨nd,rfl⟩⟩;(try first | exact ⟨rfl,_,World.drewN_drewN _ _ _⟩ | exact ⟨rfl,_,Eq.trans (World.drewN_drewN _ _ _) (congrArg (World.drewN _) (Nat.add_assoc _ _ _))⟩)))
   repeat (go_quiet (first | (go_at_call 133;(with_reducible refine (days_before.calls a0_0 t238 _ A13.out).mono ?_);rintro e w' ⟨rfl,⟨nd,rfl⟩⟩;(try first | exact ⟨rfl,_,World.drewN_drewN _ _ _⟩ | exact ⟨rfl,_,Eq.trans (World.drewN_drewN _ _ _) (congrArg (World.drewN _) (Nat.add_assoc _ _ _))⟩)));try go_wp2_with (first | (go_at_call 133;(with_reducible refine (days_before.calls a0_0 t238 _ A13.out).mono ?_);rintro e w' ⟨rfl,⟨nd,rfl⟩⟩;(try first | exact ⟨rfl,_,World.drewN_drewN _ _ _⟩ | exact ⟨rfl,_,Eq.trans (World.drewN_drewN _ _ _) (congrArg (World.drewN _) (Nat.add_assoc _ _ _))⟩))))
   go_loopg [2,4] kj1 (fun kq v2 v4 w'=>∃ (x2_2:Int) (x4_2:Int),v2=.int .i64 x2_2∧v4=.int .i64 x4_2∧Aside0 (days_Of.l0 kq x2_2 x4_2 a0_0 a0_1 a0_2=some (r1,r2))∧Aside0 (kq≤kj1)∧Aside0 (w'.heap[gb236]?=some (.cells #[.int .i64 a0_0,.int .i64 a0_1,.int .i64 a0_2] 112 (0,0)))∧Aside0 (Below w.heap.size w w'))
   case atStart=>exact ⟨(wrap64 ((wrap64 (t238+a0_2)) - 1)),(1),zq7,zq7,H',⟨Nat.le_refl _⟩,⟨zq20⟩,⟨zq21⟩⟩
   case round =>
    clear H';try clear c1
    try clear p2
    try clear c4
    try clear c4b0
    try clear c6
    try clear c6b0
    try clear p6
    try clear c8
    try clear c8b0
    try clear c12
    try clear hcz11_0
    try clear hcz11_1
    try clear hcz11_2
    try clear hcz14_0
    try clear hcz14_1
    try clear hcz14_2
    try clear hcz5_0
    try clear hcz5_1
    try clear hcz5_2
    try clear hcz7_0
    try clear hcz7_1
    try clear hcz7_2
    try clear hcz9_0
    try clear hcz9_1
    try clear hcz9_2
    try clear hfz11_0
    try clear hfz11_1
    try clear hfz11_2
    try clear hfz14_0
    try clear hfz14_1
    try clear hfz14_2
    try clear hfz5_0
    try clear hfz5_1
    try clear hfz5_2
    try clear hfz7_0
    try clear hfz7_1
    try clear hfz7_2
    try clear hfz9_0
    try clear hfz9_1
    try clear hfz9_2
    try clear p2
    obtain ⟨x2_2,x4_2,rfl,rfl,HA,HK2,BK236,HB⟩:=hrel
    cases gk with
    | zero=>exact absurd HA.out (by simp [days_Of.l0])
    | succ k2 =>
     have H:=HA.out;clear HA;simp only [days_Of.l0] at H
     replace H:=ifI H;rcases H with ⟨c15,H⟩ | ⟨c15,H⟩
     ·have c15b0:decide (x4_2 < a0_1)=true:=decide_eq_true c15;clear c15;replace H:=bdI H;obtain ⟨t239,A16,H⟩:=H;(try dsimp only at H)
      have H':=sd H;clear H;obtain ⟨_,_,_,_,_,_⟩:=bk3 BK236;go_wp2_with (first | (go_at_call 134;(with_reducible refine (days_Length.calls a0_0 x4_2 t239 _ A16.out (gl_below HG.out zq22)).mono ?_);rintro e w' ⟨rfl,⟨nd,rfl⟩⟩;(try first | exact ⟨rfl,_,World.drewN_drewN _ _ _⟩ | exact ⟨rfl,_,Eq.trans (World.drewN_drewN _ _ _) (congrArg (World.drewN _) (Nat.add_assoc _ _ _))⟩)))
      repeat (go_quiet (first | (go_at_call 134;(with_reducible refine (days_Length.calls a0_0 x4_2 t239 _ A16.out (gl_below HG.out zq22)).mono ?_);rintro e w' ⟨rfl,⟨nd,rfl⟩⟩;(try first | exact ⟨rfl,_,World.drewN_drewN _ _ _⟩ | exact ⟨rfl,_,Eq.trans (World.drewN_drewN _ _ _) (congrArg (World.drewN _) (Nat.add_assoc _ _ _))⟩)));try go_wp2_with (first | (go_at_call 134;(with_reducible refine (days_Length.calls a0_0 x4_2 t239 _ A16.out (gl_below HG.out zq22)).mono ?_);rintro e w' ⟨rfl,⟨nd,rfl⟩⟩;(try first | exact ⟨rfl,_,World.drewN_drewN _ _ _⟩ | exact ⟨rfl,_,Eq.trans (World.drewN_drewN _ _ _) (congrArg (World.drewN _) (Nat.add_assoc _ _ _))⟩))))
      go_roundg k2
      case measure=>have:=HJ1.out;have:=HK2.out;omega
      case rel=>exact ⟨(wrap64 (x2_2+t239)),(wrap64 (x4_2+1)),zq7,zq7,H',⟨zq23⟩,⟨zq20⟩,⟨zq21⟩⟩
     have c15b0:decide (x4_2 < a0_1)=false:=decide_eq_false c15;clear c15;simp only [Option.some.injEq,Prod.mk.injEq] at H
     obtain ⟨rfl,rfl⟩:=H;obtain ⟨_,_,_,_,_,_⟩:=bk3 BK236;go_wp2
     repeat (go_quiet (fail);try go_wp2)
     go_ret2
     exact ⟨zq4,zq21⟩
end Go.Proofs.YtkbgkekegjfkfaaGreatDoor.A
