-- By pack.py, a program of this session's.
import Derived.Test.YtkbgkekegjfkfaaGreatDoorY12
import Derived.Test.YtkbgkekegjfkfaaGreatDoorY13
set_option linter.unusedVariables false
set_option linter.unusedSimpArgs false
namespace Go.Proofs.YtkbgkekegjfkfaaGreatDoor.A
open Go.RowKit B WW WL WM
attribute [local go_sem] max2_int min2_int max_two min_two max_three min_three max_four min_four
set_option maxHeartbeats 8000000
set_option maxRecDepth 100000
theorem rules_Check.calls (k:Nat) (a0_0:ByteArray) (A0_1:Option Addr) (c0_1:Nat) (l0_1:List (S48)) (a0_2 a0_3:ByteArray) (A0_4:Option Addr) (c0_4:Nat) (l0_4:List (S50)) (r:Int) (w:World) (hr0_1:Kd.C k48 w A0_1 l0_1.length l0_1) (hc0_1:l0_1.length≤c0_1) (hr0_4:Kd.C k50 w A0_4 l0_4.length l0_4) (hc0_4:l0_4.length≤c0_4) (h:rules_Check.f k a0_0 l0_1 a0_2 a0_3 l0_4=some r) :
  Calls Tryz.prog 9 #[.agg #[.string a0_0,.slice A0_1 l0_1.length c0_1,.string a0_2,.string a0_3,.slice A0_4 l0_4.length c0_4]] w fun e w'=>e=.returned (.int .i64 r)∧Below w.heap.size w w':=by
 have hu25:=Tryz.underlying25;have hu48:=Tryz.underlying48;have HR0_1:=sd hr0_1;have HC0_1:=sd hc0_1;clear hr0_1 hc0_1;have HR0_4:=sd hr0_4;have HC0_4:=sd hc0_4;clear hr0_4 hc0_4;have HB:=sd (Below.refl w.heap.size w);have H:=h;clear h;unfold rules_Check.f at H;have HC2:=sd H;clear H;go_enter Tryz.func9,Tryz.ntmps9
 go_upto_region 1 with (first | ((with_reducible refine gate_dst (N:=1) rfl ?_);refine bxA 1 #[.string a0_0,.slice A0_1 l0_1.length c0_1,.string a0_2,.string a0_3,.slice A0_4 l0_4.length c0_4] 25 ?_;intro gb117 hg w3 hbox hb;have BK117:=sd (hbox);have GW117:=gem hg HB;have GE117:=GW117;replace HB:=hbm HB hb;clear hb hbox hg))
 (try simp only [Act.put,List.setIfInBounds_toArray,List.set_cons_zero,List.set_cons_succ])
 go_cut [6] (fun v6 wc=>∃ (kq:Nat) (x6_1:Bool),v6=.bool x6_1∧Aside0 (rules_Check.j0 kq x6_1 a0_0 l0_1 a0_2 a0_3 l0_4=some r)∧Aside0 (kq≤k)∧Aside0 (wc.heap[gb117]?=some (.cells #[.string a0_0,(.slice A0_1 l0_1.length c0_1),.string a0_2,.string a0_3,(.slice A0_4 l0_4.length c0_4)] 25 (0,0)))∧Aside0 (Below w.heap.size w wc))
 case first =>
  have H:=HC2.out;clear HC2;replace H:=bdI H;obtain ⟨t118,A4,H⟩:=H;(try dsimp only at H)
  by_cases c5:t118=true
  ·subst c5;rw [if_pos rfl] at H;replace H:=bdI H;obtain ⟨t119,A6,H⟩:=H;(try dsimp only at H)
   by_cases c7:t119=true
   ·subst c7;rw [if_pos rfl] at H;replace H:=ifI H;rcases H with ⟨c8,H⟩ | ⟨c8,H⟩
    ·obtain ⟨c8b0,c8b1⟩:=eqI c8;clear c8;(first | rw [c8b0] | (simp only [i64_w,i32_w];rw [c8b0]) | skip)
     have H':=sd H;clear H;obtain ⟨_,_,_,_,_,_,_,_,_,_⟩:=bk5 BK117;go_wp2_with (first | ((with_reducible refine gate_callee (f:=21) rfl ?_);refine gL 9 Tryz.func21 #[.string a0_0] ?_;(with_reducible refine (words_Code.calls a0_0 true _ A4.out).mono ?_);rintro e w' ⟨rfl,⟨nd,rfl⟩⟩;refine ⟨_,rfl,?_⟩) | (go_at_call 21;(with_reducible refine (words_Code.calls a0_2 true _ A6.out).mono ?_);rintro e w' ⟨rfl,⟨nd,rfl⟩⟩))
     go_meet
     case rel=>exact ⟨_,(false),zq7,H',⟨by first | omega | exact Nat.le_refl _⟩,⟨zq120⟩,⟨zq121⟩⟩
    obtain ⟨c8b0,c8b1⟩:=neI c8;(first | rw [c8b0] | (simp only [i64_w,i32_w];rw [c8b0]) | skip)
    replace H:=bdI H;obtain ⟨t120,A10,H⟩:=H;(try dsimp only at H)
    have H':=sd H;clear H;obtain ⟨_,_,_,_,_,_,_,_,_,_⟩:=bk5 BK117;go_wp2_with (first | ((with_reducible refine gate_callee (f:=21) rfl ?_);refine gL 9 Tryz.func21 #[.string a0_0] ?_;(with_reducible refine (words_Code.calls a0_0 true _ A4.out).mono ?_);rintro e w' ⟨rfl,⟨nd,rfl⟩⟩;refine ⟨_,rfl,?_⟩) | (go_at_call 21;(with_reducible refine (words_Code.calls a0_2 true _ A6.out).mono ?_);rintro e w' ⟨rfl,⟨nd,rfl⟩⟩) | (go_at_call 21;(with_reducible refine (words_Code.calls a0_3 t120 _ A10.out).mono ?_);rintro e w' ⟨rfl,⟨nd,rfl⟩⟩))
    go_meet
    case rel=>exact ⟨_,(!t120),zq7,H',⟨by first | omega | exact Nat.le_refl _⟩,⟨zq120⟩,⟨zq121⟩⟩
   replace c7:=Bool.eq_false_iff.mpr c7;subst c7;rw [if_neg Bool.false_ne_true] at H;have H':=sd H;clear H;obtain ⟨_,_,_,_,_,_,_,_,_,_⟩:=bk5 BK117;go_wp2_with (first | ((with_reducible refine gate_callee (f:=21) rfl ?_);refine gL 9 Tryz.func21 #[.string a0_0] ?_;(with_reducible refine (words_Code.calls a0_0 true _ A4.out).mono ?_);rintro e w' ⟨rfl,⟨nd,rfl⟩⟩;refine ⟨_,rfl,?_⟩) | (go_at_call 21;(with_reducible refine (words_Code.calls a0_2 false _ A6.out).mono ?_);rintro e w' ⟨rfl,⟨nd,rfl⟩⟩))
   go_meet
   case rel=>exact ⟨_,(true),zq7,H',⟨by first | omega | exact Nat.le_refl _⟩,⟨zq120⟩,⟨zq121⟩⟩
  replace c5:=Bool.eq_false_iff.mpr c5;subst c5;rw [if_neg Bool.false_ne_true] at H;have H':=sd H;clear H;obtain ⟨_,_,_,_,_,_,_,_,_,_⟩:=bk5 BK117;go_wp2_with (first | ((with_reducible refine gate_callee (f:=21) rfl ?_);refine gL 9 Tryz.func21 #[.string a0_0] ?_;(with_reducible refine (words_Code.calls a0_0 false _ A4.out).mono ?_);rintro e w' ⟨rfl,⟨nd,rfl⟩⟩;refine ⟨_,rfl,?_⟩))
  go_meet
  case rel=>exact ⟨_,(true),zq7,H',⟨by first | omega | exact Nat.le_refl _⟩,⟨zq120⟩,⟨zq121⟩⟩
 case rest =>
  clear HC2;try clear c2
  try clear p2
  try clear c5
  try clear c7
  try clear c8
  try clear c8b0
  try clear c8b1
  try clear c9
  try clear hcz11_0
  try clear hcz11_1
  try clear hcz11_2
  try clear hcz11_3
  try clear hcz11_4
  try clear hcz12_0
  try clear hcz12_1
  try clear hcz12_2
  try clear hcz12_3
  try clear hcz12_4
  try clear hcz13_0
  try clear hcz13_1
  try clear hcz13_2
  try clear hcz13_3
  try clear hcz13_4
  try clear hcz9_0
  try clear hcz9_1
  try clear hcz9_2
  try clear hcz9_3
  try clear hcz9_4
  try clear hfz11_0
  try clear hfz11_1
  try clear hfz11_2
  try clear hfz11_3
  try clear hfz11_4
  try clear hfz12_0
  try clear hfz12_1
  try clear hfz12_2
  try clear hfz12_3
  try clear hfz12_4
  try clear hfz13_0
  try clear hfz13_1
  try clear hfz13_2
  try clear hfz13_3
  try clear hfz13_4
  try clear hfz9_0
  try clear hfz9_1
  try clear hfz9_2
  try clear hfz9_3
  try clear hfz9_4
  obtain ⟨kq,x6_1,rfl,HA,HJ1,BK117,HB⟩:=hcut
  cases kq with
  | zero=>exact absurd HA.out (by simp [rules_Check.j0])
  | succ kj1 =>
   have H:=HA.out;clear HA;simp only [rules_Check.j0] at H
   by_cases c14:x6_1=true
   ·subst c14;rw [if_pos rfl] at H;obtain rfl:=Option.some.inj H;go_wp2
    go_ret
    exact ⟨zq4,zq121⟩
   replace c14:=Bool.eq_false_iff.mpr c14;subst c14;rw [if_neg Bool.false_ne_true] at H;replace H:=bdI H;obtain ⟨t121,A15,H⟩:=H;(try dsimp only at H)
   by_cases c16:t121=true
   ·subst c16;rw [if_pos rfl] at H;replace H:=ifI H;rcases H with ⟨c17,H⟩ | ⟨c17,H⟩
    ·obtain ⟨c17b0,c17b1⟩:=eqI c17;clear c17;obtain rfl:=Option.some.inj H;obtain ⟨_,_,_,_,_,_,_,_,_,_⟩:=bk5 BK117;go_wp2_with (first | ((with_reducible refine gate_callee (f:=22) rfl ?_);refine gL 31 Tryz.func22 #[.slice A0_4 l0_4.length c0_4] ?_;(with_reducible refine (dims_Right.calls kj1 _ _ l0_4 true _ ?side1 ?side2 A15.out).mono ?_);(case side1=>exact zq40);(case side2=>exact HC0_4.out);rintro e w19 ⟨rfl,hb⟩;refine ⟨_,rfl,?_⟩;replace BK117:=bkm BK117 hb;replace HB:=hbm HB hb;clear hb;obtain ⟨_,_,_,_,_,_,_,_,_,_⟩:=bk5 BK117))
     go_ret
     exact ⟨zq4,zq121⟩
    obtain ⟨c17b0,c17b1⟩:=neI c17;have c17b2:¬ (l0_1=[]):=fun h_=>c17 (by rw [h_];rfl)
    replace H:=ifI H;rcases H with ⟨c21,H⟩ | ⟨c21,H⟩
    ·have c21b0:decide (8 < (l0_1.length:Int))=true:=decide_eq_true c21;have c21b1:decide (8 < l0_1.length)=true:=decide_eq_true (by omega);clear c21;obtain rfl:=Option.some.inj H;obtain ⟨_,_,_,_,_,_,_,_,_,_⟩:=bk5 BK117;go_wp2_with (first | ((with_reducible refine gate_callee (f:=22) rfl ?_);refine gL 31 Tryz.func22 #[.slice A0_4 l0_4.length c0_4] ?_;(with_reducible refine (dims_Right.calls kj1 _ _ l0_4 true _ ?side1 ?side2 A15.out).mono ?_);(case side1=>exact zq40);(case side2=>exact HC0_4.out);rintro e w23 ⟨rfl,hb⟩;refine ⟨_,rfl,?_⟩;replace BK117:=bkm BK117 hb;replace HB:=hbm HB hb;clear hb;obtain ⟨_,_,_,_,_,_,_,_,_,_⟩:=bk5 BK117))
     go_ret
     exact ⟨zq4,zq121⟩
    have c21b0:decide (8 < (l0_1.length:Int))=false:=decide_eq_false c21;have c21b1:decide (8 < l0_1.length)=false:=decide_eq_false (by omega);clear c21;have H':=sd H;clear H;obtain ⟨_,_,_,_,_,_,_,_,_,_⟩:=bk5 BK117;go_wp2_with (first | ((with_reducible refine gate_callee (f:=22) rfl ?_);refine gL 31 Tryz.func22 #[.slice A0_4 l0_4.length c0_4] ?_;(with_reducible refine (dims_Right.calls kj1 _ _ l0_4 true _ ?side1 ?side2 A15.out).mono ?_);(case side1=>exact zq40);(case side2=>exact HC0_4.out);rintro e w26 ⟨rfl,hb⟩;refine ⟨_,rfl,?_⟩;replace BK117:=bkm BK117 hb;replace HB:=hbm HB hb;clear hb;obtain ⟨_,_,_,_,_,_,_,_,_,_⟩:=bk5 BK117))
    go_loopg [46] kj1 (fun kq v46 w'=>∃ (x46_2:Int),v46=.int .i64 x46_2∧Aside0 (rules_Check.l0 kq l0_1 (l0_1.length:Int) x46_2=some r)∧Aside0 (kq≤kj1)∧Aside0 (w'.heap[gb117]?=some (.cells #[.string a0_0,(.slice A0_1 l0_1.length c0_1),.string a0_2,.string a0_3,(.slice A0_4 l0_4.length c0_4)] 25 (0,0)))∧Aside0 (Below w.heap.size w w'))
    case atStart=>exact ⟨(0),zq7,H',⟨Nat.le_refl _⟩,⟨zq120⟩,⟨zq121⟩⟩
    case round =>
     clear H';try clear c1
     try clear c2
     try clear p2
     try clear c5
     try clear c7
     try clear c8
     try clear c8b0
     try clear c8b1
     try clear c9
     try clear c14
     try clear c16
     try clear c17
     try clear c17b0
     try clear c17b1
     try clear c17b2
     try clear c21
     try clear c21b0
     try clear c21b1
     try clear c22
     try clear hcz11_0
     try clear hcz11_1
     try clear hcz11_2
     try clear hcz11_3
     try clear hcz11_4
     try clear hcz12_0
     try clear hcz12_1
     try clear hcz12_2
     try clear hcz12_3
     try clear hcz12_4
     try clear hcz13_0
     try clear hcz13_1
     try clear hcz13_2
     try clear hcz13_3
     try clear hcz13_4
     try clear hcz18_0
     try clear hcz18_1
     try clear hcz18_2
     try clear hcz18_3
     try clear hcz18_4
     try clear hcz20_0
     try clear hcz20_1
     try clear hcz20_2
     try clear hcz20_3
     try clear hcz20_4
     try clear hcz22_0
     try clear hcz22_1
     try clear hcz22_2
     try clear hcz22_3
     try clear hcz22_4
     try clear hcz24_0
     try clear hcz24_1
     try clear hcz24_2
     try clear hcz24_3
     try clear hcz24_4
     try clear hcz25_0
     try clear hcz25_1
     try clear hcz25_2
     try clear hcz25_3
     try clear hcz25_4
     try clear hcz27_0
     try clear hcz27_1
     try clear hcz27_2
     try clear hcz27_3
     try clear hcz27_4
     try clear hcz9_0
     try clear hcz9_1
     try clear hcz9_2
     try clear hcz9_3
     try clear hcz9_4
     try clear hfz11_0
     try clear hfz11_1
     try clear hfz11_2
     try clear hfz11_3
     try clear hfz11_4
     try clear hfz12_0
     try clear hfz12_1
     try clear hfz12_2
     try clear hfz12_3
     try clear hfz12_4
     try clear hfz13_0
     try clear hfz13_1
     try clear hfz13_2
     try clear hfz13_3
     try clear hfz13_4
     try clear hfz18_0
     try clear hfz18_1
     try clear hfz18_2
     try clear hfz18_3
     try clear hfz18_4
     try clear hfz20_0
     try clear hfz20_1
     try clear hfz20_2
     try clear hfz20_3
     try clear hfz20_4
     try clear hfz22_0
     try clear hfz22_1
     try clear hfz22_2
     try clear hfz22_3
     try clear hfz22_4
     try clear hfz24_0
     try clear hfz24_1
     try clear hfz24_2
     try clear hfz24_3
     try clear hfz24_4
     try clear hfz25_0
     try clear hfz25_1
     try clear hfz25_2
     try clear hfz25_3
     try clear hfz25_4
     try clear hfz27_0
     try clear hfz27_1
     try clear hfz27_2
     try clear hfz27_3
     try clear hfz27_4
     try clear hfz9_0
     try clear hfz9_1
     try clear hfz9_2
     try clear hfz9_3
     try clear hfz9_4
     try clear p2
     obtain ⟨x46_2,rfl,HA,HK2,BK117,HB⟩:=hrel
     cases gk with
     | zero=>exact absurd HA.out (by simp [rules_Check.l0])
     | succ k2 =>
      have H:=HA.out;clear HA;simp only [rules_Check.l0] at H
      replace H:=ifI H;rcases H with ⟨c28,H⟩ | ⟨c28,H⟩
      ·have c28b0:decide (x46_2 < (l0_1.length:Int))=true:=decide_eq_true c28;clear c28;replace H:=ifI H;rcases H with ⟨c29,H⟩ | ⟨c29,H⟩
       ·have c29b0:decide (0≤x46_2)=true:=decide_eq_true c29;clear c29;replace H:=ifI H;rcases H with ⟨c30,H⟩ | ⟨c30,H⟩
        ·have c30b0:decide (x46_2 < (l0_1.length:Int))=true:=decide_eq_true c30;clear c30;replace H:=bdI H;obtain ⟨t124,A31,H⟩:=H;(try dsimp only at H)
         replace H:=ifI H;rcases H with ⟨c32,H⟩ | ⟨c32,H⟩
         ·obtain ⟨c32b0,c32b1⟩:=eqI c32;clear c32;have H':=sd H;clear H;have p122:0≤(x46_2:Int):=od;have q122:x46_2 < (l0_1.length:Int):=od;obtain ⟨ad122,e122,hx122_0,hx122_1,hx122_2,hx122_3⟩:=at_T48 HR0_1.out x46_2 p122 q122
          cases e122
          replace hx122_0:=(HB.out.cell (World.block_lt_of_cell? w _ hx122_0)).trans hx122_0;replace hx122_1:=(HB.out.cell (World.block_lt_of_cell? w _ hx122_1)).trans hx122_1;replace hx122_2:=(HB.out.cell (World.block_lt_of_cell? w _ hx122_2)).trans hx122_2;replace hx122_3:=(HB.out.cell (World.block_lt_of_cell? w _ hx122_3)).trans hx122_3;replace p122:=eq_true p122;replace q122:=eq_true q122;go_wp2_with (first | ((with_reducible refine gate_dst (N:=4) rfl ?_);refine bxA 4 #[.int .i64 0,.int .i64 0,.string (⟨#[]⟩:ByteArray),.int .i64 0] 48 ?_;intro gb123 hg w33 hbox hb;have BK123:=sd (hbox);have GW123:=gem hg HB;have GE123:=GW123;have NB117_123:=nlm hg BK117;have NB123_117:=ngm hg BK117;replace BK117:=bkm BK117 hb;replace HB:=hbm HB hb;clear hb hbox hg;have hnb34:=NB123_117.out;have hnc34:=NB117_123.out;obtain ⟨_,_,_,_,_,_,_,_⟩:=bk4 BK123) | ((with_reducible refine gate_callee (f:=23) rfl ?_);refine gL 51 Tryz.func23 #[.agg #[.int .i64 ((rd_T48 l0_1 x46_2).f0),.int .i64 ((rd_T48 l0_1 x46_2).f1),.string ((rd_T48 l0_1 x46_2).f2),.int .i64 ((rd_T48 l0_1 x46_2).f3)]] ?_;(with_reducible refine (rules_cond.calls k2 ((rd_T48 l0_1 x46_2).f0) ((rd_T48 l0_1 x46_2).f1) ((rd_T48 l0_1 x46_2).f2) ((rd_T48 l0_1 x46_2).f3) t124 _ A31.out).mono ?_);rintro e w36 ⟨rfl,hb⟩;refine ⟨_,rfl,?_⟩;replace BK117:=sd (blk_below (g:=gb117) (o:=.cells #[.string a0_0,.slice (some ad122) l0_1.length c0_1,.string a0_2,.string a0_3,.slice A0_4 l0_4.length c0_4] 25 (0,0)) (by (with_reducible repeat (first | refine blk_drewN ?_ _ | refine blk_drew ?_ | refine blk_alloc ?_ _));refine blk_far ?_ NB117_123.out _;(with_reducible repeat (first | refine blk_drewN ?_ _ | refine blk_drew ?_ | refine blk_alloc ?_ _));refine blk_far ?_ NB117_123.out _;(with_reducible repeat (first | refine blk_drewN ?_ _ | refine blk_drew ?_ | refine blk_alloc ?_ _));refine blk_far ?_ NB117_123.out _;(with_reducible repeat (first | refine blk_drewN ?_ _ | refine blk_drew ?_ | refine blk_alloc ?_ _));refine blk_far ?_ NB117_123.out _;(with_reducible repeat (first | refine blk_drewN ?_ _ | refine blk_drew ?_ | refine blk_alloc ?_ _));exact BK117.out) hb);replace BK123:=sd (blk_below (g:=gb123) (o:=.cells #[.int .i64 ((rd_T48 l0_1 x46_2).f0),.int .i64 ((rd_T48 l0_1 x46_2).f1),.string ((rd_T48 l0_1 x46_2).f2),.int .i64 ((rd_T48 l0_1 x46_2).f3)] 48 (0,0)) (by (with_reducible repeat (first | refine blk_drewN ?_ _ | refine blk_drew ?_ | refine blk_alloc ?_ _));refine blk_put (cs:=#[.int .i64 ((rd_T48 l0_1 x46_2).f0),.int .i64 ((rd_T48 l0_1 x46_2).f1),.string ((rd_T48 l0_1 x46_2).f2),.int .i64 0]) ?_ 3 _ rfl;(with_reducible repeat (first | refine blk_drewN ?_ _ | refine blk_drew ?_ | refine blk_alloc ?_ _));refine blk_put (cs:=#[.int .i64 ((rd_T48 l0_1 x46_2).f0),.int .i64 ((rd_T48 l0_1 x46_2).f1),.string (⟨#[]⟩:ByteArray),.int .i64 0]) ?_ 2 _ rfl;(with_reducible repeat (first | refine blk_drewN ?_ _ | refine blk_drew ?_ | refine blk_alloc ?_ _));refine blk_put (cs:=#[.int .i64 ((rd_T48 l0_1 x46_2).f0),.int .i64 0,.string (⟨#[]⟩:ByteArray),.int .i64 0]) ?_ 1 _ rfl;(with_reducible repeat (first | refine blk_drewN ?_ _ | refine blk_drew ?_ | refine blk_alloc ?_ _));refine blk_put (cs:=#[.int .i64 0,.int .i64 0,.string (⟨#[]⟩:ByteArray),.int .i64 0]) ?_ 0 _ rfl;(with_reducible repeat (first | refine blk_drewN ?_ _ | refine blk_drew ?_ | refine blk_alloc ?_ _));exact BK123.out) hb);replace HB:=hbm HB hb;clear hb))
          go_roundg k2
          case measure=>have:=HJ1.out;have:=HK2.out;omega
          case rel=>exact ⟨(wrap64 (x46_2+1)),zq7,H',⟨zq23⟩,⟨zq120⟩,⟨by repeat (first | (with_reducible first | exact HB.out | apply below_alloc | apply pw_below_drewN | apply below_drew1 | refine below_set ?_ GE117.out | refine below_set ?_ GE123.out) | exact HB.out)⟩⟩
         obtain ⟨c32b0,c32b1⟩:=neI c32;obtain rfl:=Option.some.inj H;have p122:0≤(x46_2:Int):=od;have q122:x46_2 < (l0_1.length:Int):=od;obtain ⟨ad122,e122,hx122_0,hx122_1,hx122_2,hx122_3⟩:=at_T48 HR0_1.out x46_2 p122 q122
         cases e122
         replace hx122_0:=(HB.out.cell (World.block_lt_of_cell? w _ hx122_0)).trans hx122_0;replace hx122_1:=(HB.out.cell (World.block_lt_of_cell? w _ hx122_1)).trans hx122_1;replace hx122_2:=(HB.out.cell (World.block_lt_of_cell? w _ hx122_2)).trans hx122_2;replace hx122_3:=(HB.out.cell (World.block_lt_of_cell? w _ hx122_3)).trans hx122_3;replace p122:=eq_true p122;replace q122:=eq_true q122;go_wp2_with (first | ((with_reducible refine gate_dst (N:=4) rfl ?_);refine bxA 4 #[.int .i64 0,.int .i64 0,.string (⟨#[]⟩:ByteArray),.int .i64 0] 48 ?_;intro gb123 hg w37 hbox hb;have BK123:=sd (hbox);have GW123:=gem hg HB;have GE123:=GW123;have NB117_123:=nlm hg BK117;have NB123_117:=ngm hg BK117;replace BK117:=bkm BK117 hb;replace HB:=hbm HB hb;clear hb hbox hg;have hnb38:=NB123_117.out;have hnc38:=NB117_123.out;obtain ⟨_,_,_,_,_,_,_,_⟩:=bk4 BK123) | ((with_reducible refine gate_callee (f:=23) rfl ?_);refine gL 51 Tryz.func23 #[.agg #[.int .i64 ((rd_T48 l0_1 x46_2).f0),.int .i64 ((rd_T48 l0_1 x46_2).f1),.string ((rd_T48 l0_1 x46_2).f2),.int .i64 ((rd_T48 l0_1 x46_2).f3)]] ?_;(with_reducible refine (rules_cond.calls k2 ((rd_T48 l0_1 x46_2).f0) ((rd_T48 l0_1 x46_2).f1) ((rd_T48 l0_1 x46_2).f2) ((rd_T48 l0_1 x46_2).f3) t124 _ A31.out).mono ?_);rintro e w40 ⟨rfl,hb⟩;refine ⟨_,rfl,?_⟩;replace BK117:=sd (blk_below (g:=gb117) (o:=.cells #[.string a0_0,.slice (some ad122) l0_1.length c0_1,.string a0_2,.string a0_3,.slice A0_4 l0_4.length c0_4] 25 (0,0)) (by (with_reducible repeat (first | refine blk_drewN ?_ _ | refine blk_drew ?_ | refine blk_alloc ?_ _));refine blk_far ?_ NB117_123.out _;(with_reducible repeat (first | refine blk_drewN ?_ _ | refine blk_drew ?_ | refine blk_alloc ?_ _));refine blk_far ?_ NB117_123.out _;(with_reducible repeat (first | refine blk_drewN ?_ _ | refine blk_drew ?_ | refine blk_alloc ?_ _));refine blk_far ?_ NB117_123.out _;(with_reducible repeat (first | refine blk_drewN ?_ _ | refine blk_drew ?_ | refine blk_alloc ?_ _));refine blk_far ?_ NB117_123.out _;(with_reducible repeat (first | refine blk_drewN ?_ _ | refine blk_drew ?_ | refine blk_alloc ?_ _));exact BK117.out) hb);replace BK123:=sd (blk_below (g:=gb123) (o:=.cells #[.int .i64 ((rd_T48 l0_1 x46_2).f0),.int .i64 ((rd_T48 l0_1 x46_2).f1),.string ((rd_T48 l0_1 x46_2).f2),.int .i64 ((rd_T48 l0_1 x46_2).f3)] 48 (0,0)) (by (with_reducible repeat (first | refine blk_drewN ?_ _ | refine blk_drew ?_ | refine blk_alloc ?_ _));refine blk_put (cs:=#[.int .i64 ((rd_T48 l0_1 x46_2).f0),.int .i64 ((rd_T48 l0_1 x46_2).f1),.string ((rd_T48 l0_1 x46_2).f2),.int .i64 0]) ?_ 3 _ rfl;(with_reducible repeat (first | refine blk_drewN ?_ _ | refine blk_drew ?_ | refine blk_alloc ?_ _));refine blk_put (cs:=#[.int .i64 ((rd_T48 l0_1 x46_2).f0),.int .i64 ((rd_T48 l0_1 x46_2).f1),.string (⟨#[]⟩:ByteArray),.int .i64 0]) ?_ 2 _ rfl;(with_reducible repeat (first | refine blk_drewN ?_ _ | refine blk_drew ?_ | refine blk_alloc ?_ _));refine blk_put (cs:=#[.int .i64 ((rd_T48 l0_1 x46_2).f0),.int .i64 0,.string (⟨#[]⟩:ByteArray),.int .i64 0]) ?_ 1 _ rfl;(with_reducible repeat (first | refine blk_drewN ?_ _ | refine blk_drew ?_ | refine blk_alloc ?_ _));refine blk_put (cs:=#[.int .i64 0,.int .i64 0,.string (⟨#[]⟩:ByteArray),.int .i64 0]) ?_ 0 _ rfl;(with_reducible repeat (first | refine blk_drewN ?_ _ | refine blk_drew ?_ | refine blk_alloc ?_ _));exact BK123.out) hb);replace HB:=hbm HB hb;clear hb))
         go_ret
         exact ⟨zq4,by repeat (first | (with_reducible first | exact HB.out | apply below_alloc | apply pw_below_drewN | apply below_drew1 | refine below_set ?_ GE117.out | refine below_set ?_ GE123.out) | exact HB.out)⟩
        exact absurd H (by simp)
       exact absurd H (by simp)
      have c28b0:decide (x46_2 < (l0_1.length:Int))=false:=decide_eq_false c28;clear c28;obtain rfl:=Option.some.inj H;go_wp2
      go_ret
      exact ⟨zq4,zq121⟩
   replace c16:=Bool.eq_false_iff.mpr c16;subst c16;rw [if_neg Bool.false_ne_true] at H;obtain rfl:=Option.some.inj H;obtain ⟨_,_,_,_,_,_,_,_,_,_⟩:=bk5 BK117;go_wp2_with (first | ((with_reducible refine gate_callee (f:=22) rfl ?_);refine gL 31 Tryz.func22 #[.slice A0_4 l0_4.length c0_4] ?_;(with_reducible refine (dims_Right.calls kj1 _ _ l0_4 false _ ?side1 ?side2 A15.out).mono ?_);(case side1=>exact zq40);(case side2=>exact HC0_4.out);rintro e w42 ⟨rfl,hb⟩;refine ⟨_,rfl,?_⟩;replace BK117:=bkm BK117 hb;replace HB:=hbm HB hb;clear hb))
   go_ret
   exact ⟨zq4,zq121⟩
def num_size.f (a0:Int):Option (Int):=if I64 a0 then some (a0.natAbs:Int) else none
theorem num_size.calls (a0 r:Int) (w:World) (h:num_size.f a0=some r) :
  Calls Tryz.prog 100 #[.int .i64 a0] w fun e w'=>e=.returned (.int .u64 r)∧Drawn0 w w':=by
 unfold num_size.f at h;split at h <;> simp only [Option.some.injEq,reduceCtorEq] at h
 rename_i hb
 subst h;refine (num_size.same a0 hb w).mono ?_;rintro e w' ⟨rfl,rfl⟩;exact ⟨rfl,Drawn0.refl _⟩
def days_Text.T4:Bool×List (List Nat×List Nat):=(true,[([],[]),([0],[0]),([1],[1]),([2],[2]),([],[]),([4],[4]),([5,2],[5]),([3,6],[3,6]),([7],[7]),([],[]),([9],[9]),([10,6],[10]),([8,11],[8,11]),([12,11,0,1,2,3,4,5,6,7,8,9,10,11,12],[12]),([13,0,1,2,3,4,5,6,7,8,9,10,11,12,13],[])])
def days_Text.B4:List Nat:=[0,1,3,7,0,16,55,127,255,0,512,1655,4095,8191,16383]
theorem days_Text.tab4:rtab .any (opsOf Tryz.f73 4)=days_Text.T4:=by kernel_rfl
theorem days_Text.bits4:waitsOk days_Text.T4.2 days_Text.B4=true:=by kernel_rfl
theorem days_Text.calls (k:Nat) (a0:Int) (r1:ByteArray) (r2:Int) (w:World) (h:days_Text.f k a0=some (r1,r2)) (hG:Gl w) :
  Calls Tryz.prog 73 #[.int .i64 a0] w fun e w'=>e=.returned (.tuple #[.string r1,.int .i64 r2])∧Below w.heap.size w w':=by
 have HG:=sd hG;clear hG;have hu112:=Tryz.underlying112;have HB:=sd (Below.refl w.heap.size w);have H:=h;clear h;unfold days_Text.f at H;replace H:=bdI H;obtain ⟨⟨t171,t172,t173,t174⟩,A2,H⟩:=H;(try dsimp only at H)
 replace H:=ifI H;rcases H with ⟨c3,H⟩ | ⟨c3,H⟩
 ·obtain ⟨c3b0,c3b1⟩:=eqI c3;clear c3;replace H:=bdI H;obtain ⟨t176,A4,H⟩:=H;(try dsimp only at H)
  replace H:=ifI H;rcases H with ⟨c5,H⟩ | ⟨c5,H⟩
  ·have c5b0:=eq_true c5;have c5b1:decide (t176.size+1≤9223372036854775807)=true:=decide_eq_true c5;try have c5b2:(9223372036854775807 < t176.size+1)=False:=eq_false (Nat.not_lt.2 c5)
   replace H:=bdI H;obtain ⟨t177,A6,H⟩:=H;(try dsimp only at H)
   replace H:=ifI H;rcases H with ⟨c7,H⟩ | ⟨c7,H⟩
   ·have c7b0:=eq_true c7;have c7b1:decide ((t176++(⟨#[45]⟩:ByteArray)).size+t177.size≤9223372036854775807)=true:=decide_eq_true c7;try have c7b2:(9223372036854775807 < (t176++(⟨#[45]⟩:ByteArray)).size+t177.size)=False:=eq_false (Nat.not_lt.2 c7)
    try have c7y:(9223372036854775807 < t176.size+1+t177.size)=False:=by have h_:=c7b2;simp only [ByteArray.size_append] at h_;exact h_
    replace H:=ifI H;rcases H with ⟨c8,H⟩ | ⟨c8,H⟩
    ·have c8b0:=eq_true c8;have c8b1:decide (((t176++(⟨#[45]⟩:ByteArray))++t177).size+1≤9223372036854775807)=true:=decide_eq_true c8;try have c8b2:(9223372036854775807 < ((t176++(⟨#[45]⟩:ByteArray))++t177).size+1)=False:=eq_false (Nat.not_lt.2 c8)
     try have c8y:(9223372036854775807 < t176.size+1+t177.size+1)=False:=by have h_:=c8b2;simp only [ByteArray.size_append] at h_;exact h_
     replace H:=bdI H;obtain ⟨t178,A9,H⟩:=H;(try dsimp only at H)
     replace H:=ifI H;rcases H with ⟨c10,H⟩ | ⟨c10,H⟩
     ·have c10b0:=eq_true c10;have c10b1:decide ((((t176++(⟨#[45]⟩:ByteArray))++t177)++(⟨#[45]⟩:ByteArray)).size+t178.size≤9223372036854775807)=true:=decide_eq_true c10;try have c10b2:(9223372036854775807 < (((t176++(⟨#[45]⟩:ByteArray))++t177)++(⟨#[45]⟩:ByteArray)).size+t178.size)=False:=eq_false (Nat.not_lt.2 c10)
      try have c10y:(9223372036854775807 < t176.size+1+t177.size+1+t178.size)=False:=by have h_:=c10b2;simp only [ByteArray.size_append] at h_;exact h_
      simp only [Option.some.injEq,Prod.mk.injEq] at H
      obtain ⟨rfl,rfl⟩:=H;go_enter Tryz.func73,Tryz.ntmps73
      try go_wp2_with (first | ((with_reducible refine gate_callee (f:=101) rfl ?_);refine gL 7 Tryz.func101 #[.int .i64 a0] ?_;(with_reducible refine (days_Date.calls k a0 t171 t172 t173 t174 _ A2.out (gl_below HG.out zq22)).mono ?_);rintro e w11 ⟨rfl,hb⟩;refine ⟨_,rfl,?_⟩;replace HB:=hbm HB hb;clear hb) | ((with_reducible refine gate_dst (N:=4) rfl ?_);refine bxA 4 #[.int .i64 0,.int .i64 0,.int .i64 0] 112 ?_;intro gb175 hg w12 hbox hb;have BK175:=sd (hbox);have GW175:=gem hg HB;have GE175:=GW175;replace HB:=hbm HB hb;clear hb hbox hg;obtain ⟨_,_,_,_,_,_⟩:=bk3 BK175))
      have n0_:Aside0 ((((w12.setCell ⟨gb175,0,none⟩ (.int .i64 t171)).setCell ⟨gb175,1,none⟩ (.int .i64 t172)).setCell ⟨gb175,2,none⟩ (.int .i64 t173)).heap[gb175]?=some (.cells #[.int .i64 t171,.int .i64 t172,.int .i64 t173] 112 (0,0))):=⟨by (with_reducible repeat (first | refine blk_drewN ?_ _ | refine blk_drew ?_ | refine blk_alloc ?_ _));refine blk_put (cs:=#[.int .i64 t171,.int .i64 t172,.int .i64 0]) ?_ 2 _ rfl;(with_reducible repeat (first | refine blk_drewN ?_ _ | refine blk_drew ?_ | refine blk_alloc ?_ _));refine blk_put (cs:=#[.int .i64 t171,.int .i64 0,.int .i64 0]) ?_ 1 _ rfl;(with_reducible repeat (first | refine blk_drewN ?_ _ | refine blk_drew ?_ | refine blk_alloc ?_ _));refine blk_put (cs:=#[.int .i64 0,.int .i64 0,.int .i64 0]) ?_ 0 _ rfl;(with_reducible repeat (first | refine blk_drewN ?_ _ | refine blk_drew ?_ | refine blk_alloc ?_ _));exact BK175.out⟩
      have n1_:Aside0 (Below w.heap.size w (((w12.setCell ⟨gb175,0,none⟩ (.int .i64 t171)).setCell ⟨gb175,1,none⟩ (.int .i64 t172)).setCell ⟨gb175,2,none⟩ (.int .i64 t173))):=⟨zq128⟩
      (try clear BK175)
      (try clear HB)
      generalize (((w12.setCell ⟨gb175,0,none⟩ (.int .i64 t171)).setCell ⟨gb175,1,none⟩ (.int .i64 t172)).setCell ⟨gb175,2,none⟩ (.int .i64 t173))=w14 at n0_ n1_ ⊢;have BK175:=n0_;have HB:=n1_;clear n0_ n1_;replace BK175:=sd (blk_drew BK175.out);replace HB:=sd (below_drew1 HB.out);refine start_ (n:=15) (S:=fun w'=>w'.cell? ⟨gb175,0,none⟩=some (.int .i64 t171)∧w'.cell? ⟨gb175,1,none⟩=some (.int .i64 t172)∧w'.cell? ⟨gb175,2,none⟩=some (.int .i64 t173)) (ds:=[]) #[false,false,false,false,false,false,false,false,false,false,false,false,false,false,false] (by kernel_rfl) rfl rfl ⟨(blk_cell BK175.out 0).trans rfl,(blk_cell BK175.out 1).trans rfl,(blk_cell BK175.out 2).trans rfl⟩ (fun hHeld=>?_);refine with_tabW days_Text.tab4 days_Text.bits4 (fun HT_ HW_=>?_);generalize w14.drew=w15 at BK175 HB hHeld ⊢;refine pA 0 13 HT_.out ?_;refine pA 4 17 HT_.out ?_;refine pA 9 22 HT_.out ?_;refine tA 1 14 HT_.out HW_.out hHeld ?_;refine tA 5 18 HT_.out HW_.out hHeld ?_;refine tA 10 23 HT_.out HW_.out hHeld ?_;refine one_ (i:=2) (N:=some 15) #[true,true,true,false,true,true,false,false,false,true,true,false,false,false,false] rfl rfl (one_of HT_.out (by kernel_rfl)) (by decide) (fun K hK=>?_);refine goes_ Tryz.func72 (by kernel_rfl) rfl #[.int .i64 t171] (by rfl) rfl rfl zq34 ?_;with_reducible refine (num_Text.calls t171 t176 _ A4.out).mono ?_
      rintro e w16 ⟨rfl,hb⟩;refine ⟨_,rfl,?_⟩;replace BK175:=bkm BK175 hb;replace HB:=hbm HB hb;clear hb;refine hK.out _ _ ⟨(blk_cell BK175.out 0).trans rfl,(blk_cell BK175.out 1).trans rfl,(blk_cell BK175.out 2).trans rfl⟩ (fun hHeld=>?_);clear hK K;refine nA 15 ?_;refine pA 3 16 HT_.out ?_;refine one_ (i:=6) (N:=some 19) #[true,true,true,true,true,true,true,false,false,true,true,false,false,false,false] rfl rfl (one_of HT_.out (by kernel_rfl)) (by decide) (fun K hK=>?_);refine goes_ Tryz.func102 (by kernel_rfl) rfl #[.int .i64 t172] (by rfl) rfl rfl zq34 ?_;with_reducible refine (days_padded.calls t172 t177 _ A6.out).mono ?_
      rintro e w17 ⟨rfl,hb⟩;refine ⟨_,rfl,?_⟩;replace BK175:=bkm BK175 hb;replace HB:=hbm HB hb;clear hb;refine hK.out _ _ ⟨(blk_cell BK175.out 0).trans rfl,(blk_cell BK175.out 1).trans rfl,(blk_cell BK175.out 2).trans rfl⟩ (fun hHeld=>?_);clear hK K;refine nA 19 ?_;refine pA 7 20 HT_.out ?_;refine pA 8 21 HT_.out ?_;refine one_ (i:=11) (N:=some 24) #[true,true,true,true,true,true,true,true,true,true,true,true,false,false,false] rfl rfl (one_of HT_.out (by kernel_rfl)) (by decide) (fun K hK=>?_);refine goes_ Tryz.func102 (by kernel_rfl) rfl #[.int .i64 t173] (by rfl) rfl rfl zq34 ?_;with_reducible refine (days_padded.calls t173 t178 _ A9.out).mono ?_
      rintro e w18 ⟨rfl,hb⟩;refine ⟨_,rfl,?_⟩;replace BK175:=bkm BK175 hb;replace HB:=hbm HB hb;clear hb;refine hK.out _ _ ⟨(blk_cell BK175.out 0).trans rfl,(blk_cell BK175.out 1).trans rfl,(blk_cell BK175.out 2).trans rfl⟩ (fun hHeld=>?_);clear hK K;refine nA 24 ?_;refine pA 12 25 HT_.out ?_;refine pA 13 2 HT_.out ?_;refine pA 14 3 HT_.out ?_;refine done_ (done_of HT_.out (by kernel_rfl)) ?_;try go_wp2
      go_ret2
      exact ⟨zq4,zq128⟩
     exact absurd H (by simp)
    exact absurd H (by simp)
   exact absurd H (by simp)
  exact absurd H (by simp)
 obtain ⟨c3b0,c3b1⟩:=neI c3;simp only [Option.some.injEq,Prod.mk.injEq] at H
 obtain ⟨rfl,rfl⟩:=H;go_enter Tryz.func73,Tryz.ntmps73
 go_wp2_with (first | ((with_reducible refine gate_callee (f:=101) rfl ?_);refine gL 7 Tryz.func101 #[.int .i64 a0] ?_;(with_reducible refine (days_Date.calls k a0 t171 t172 t173 t174 _ A2.out (gl_below HG.out zq22)).mono ?_);rintro e w19 ⟨rfl,hb⟩;refine ⟨_,rfl,?_⟩;replace HB:=hbm HB hb;clear hb) | ((with_reducible refine gate_dst (N:=4) rfl ?_);refine bxA 4 #[.int .i64 0,.int .i64 0,.int .i64 0] 112 ?_;intro gb175 hg w20 hbox hb;have BK175:=sd (hbox);have GW175:=gem hg HB;have GE175:=GW175;replace HB:=hbm HB hb;clear hb hbox hg;obtain ⟨_,_,_,_,_,_⟩:=bk3 BK175))
 go_ret2
 exact ⟨zq4,zq128⟩
theorem rules_operand.calls (k:Nat) (a0_0 a0_1:Int) (a0_2:ByteArray) (a0_3:Int) (r:ByteArray) (w:World) (h:rules_operand.f k a0_0 a0_1 a0_2 a0_3=some r) (hG:Gl w) :
  Calls Tryz.prog 31 #[.agg #[.int .i64 a0_0,.int .i64 a0_1,.string a0_2,.int .i64 a0_3]] w fun e w'=>e=.returned (.string r)∧Below w.heap.size w w':=by
 have HG:=sd hG;clear hG;have hu48:=Tryz.underlying48;have HB:=sd (Below.refl w.heap.size w);have H:=h;clear h;unfold rules_operand.f at H;replace H:=ifI H;rcases H with ⟨c2,H⟩ | ⟨c2,H⟩
 ·obtain ⟨c2b0,c2b1⟩:=eqI c2;clear c2;replace H:=bdI H;obtain ⟨t202,A3,H⟩:=H;(try dsimp only at H)
  obtain rfl:=Option.some.inj H;go_enter Tryz.func31,Tryz.ntmps31
  go_wp2_with (first | ((with_reducible refine gate_dst (N:=1) rfl ?_);refine bxA 1 #[.int .i64 a0_0,.int .i64 a0_1,.string a0_2,.int .i64 a0_3] 48 ?_;intro gb201 hg w4 hbox hb;have BK201:=sd (hbox);have GW201:=gem hg HB;have GE201:=GW201;replace HB:=hbm HB hb;clear hb hbox hg;obtain ⟨_,_,_,_,_,_,_,_⟩:=bk4 BK201) | ((with_reducible refine gate_callee (f:=72) rfl ?_);refine gL 13 Tryz.func72 #[.int .i64 a0_3] ?_;(with_reducible refine (num_Text.calls a0_3 t202 _ A3.out).mono ?_);rintro e w6 ⟨rfl,hb⟩;refine ⟨_,rfl,?_⟩;replace BK201:=bkm BK201 hb;replace HB:=hbm HB hb;clear hb))
  go_ret
  exact ⟨zq4,zq129⟩
 obtain ⟨c2b0,c2b1⟩:=neI c2;replace H:=ifI H;rcases H with ⟨c7,H⟩ | ⟨c7,H⟩
 ·obtain ⟨c7b0,c7b1⟩:=eqI c7;clear c7;replace H:=bdI H;obtain ⟨⟨t203,t204⟩,A8,H⟩:=H;(try dsimp only at H)
  obtain rfl:=Option.some.inj H;go_enter Tryz.func31,Tryz.ntmps31
  go_wp2_with (first | ((with_reducible refine gate_dst (N:=1) rfl ?_);refine bxA 1 #[.int .i64 a0_0,.int .i64 a0_1,.string a0_2,.int .i64 a0_3] 48 ?_;intro gb201 hg w9 hbox hb;have BK201:=sd (hbox);have GW201:=gem hg HB;have GE201:=GW201;replace HB:=hbm HB hb;clear hb hbox hg;obtain ⟨_,_,_,_,_,_,_,_⟩:=bk4 BK201) | ((with_reducible refine gate_callee (f:=73) rfl ?_);refine gL 19 Tryz.func73 #[.int .i64 a0_3] ?_;(with_reducible refine (days_Text.calls k a0_3 t203 t204 _ A8.out (gl_below HG.out (by repeat (first | (with_reducible first | exact HB.out | exact Below.refl _ _ | apply below_alloc | apply pw_below_drewN | apply below_drew1 | refine below_set ?_ GE201.out) | exact HB.out)))).mono ?_);rintro e w11 ⟨rfl,hb⟩;refine ⟨_,rfl,?_⟩;replace BK201:=bkm BK201 hb;replace HB:=hbm HB hb;clear hb))
  go_ret
  exact ⟨zq4,zq129⟩
 obtain ⟨c7b0,c7b1⟩:=neI c7;replace H:=bdI H;obtain ⟨⟨t205,t206⟩,A12,H⟩:=H;(try dsimp only at H)
 obtain rfl:=Option.some.inj H;go_enter Tryz.func31,Tryz.ntmps31
 go_wp2_with (first | ((with_reducible refine gate_dst (N:=1) rfl ?_);refine bxA 1 #[.int .i64 a0_0,.int .i64 a0_1,.string a0_2,.int .i64 a0_3] 48 ?_;intro gb201 hg w13 hbox hb;have BK201:=sd (hbox);have GW201:=gem hg HB;have GE201:=GW201;replace HB:=hbm HB hb;clear hb hbox hg;obtain ⟨_,_,_,_,_,_,_,_⟩:=bk4 BK201) | ((with_reducible refine gate_callee (f:=74) rfl ?_);refine gL 26 Tryz.func74 #[.string a0_2] ?_;(with_reducible refine (words_Quote.calls k a0_2 t205 t206 _ A12.out).mono ?_);rintro e w15 ⟨rfl,hb⟩;refine ⟨_,rfl,?_⟩;replace BK201:=bkm BK201 hb;replace HB:=hbm HB hb;clear hb))
 go_ret
 exact ⟨zq4,zq129⟩
def num_Mul.f (a0:Int) (a1:Int):Option (Int×Bool):=if I64 a0∧I64 a1 then some (fit (a0 * a1)) else none
theorem num_Mul.calls (a0 a1 r1:Int) (r2:Bool) (w:World) (h:num_Mul.f a0 a1=some (r1,r2)) :
  Calls Tryz.prog 119 #[.int .i64 a0,.int .i64 a1] w fun e w'=>e=.returned (.tuple #[.int .i64 r1,.bool r2])∧Drawn0 w w':=by
 unfold num_Mul.f at h;split at h <;> simp only [Option.some.injEq,reduceCtorEq] at h
 rename_i hb
 have h0:num_size.f a0=some (a0.natAbs:Int):=by unfold num_size.f;rw [if_pos hb.1]
 have h1:num_size.f a1=some (a1.natAbs:Int):=by unfold num_size.f;rw [if_pos hb.2]
 have h2:bits_Mul64.f (a0.natAbs:Int) (a1.natAbs:Int)=some (((a0.natAbs * a1.natAbs:Nat):Int) / 18446744073709551616,((a0.natAbs * a1.natAbs:Nat):Int) % 18446744073709551616):=by
  have:=hb.1;have:=hb.2;unfold I64 at *;unfold bits_Mul64.f;rw [if_pos (by omega)];simp
 obtain ⟨x,hx⟩:∃ x,x=((a0.natAbs * a1.natAbs:Nat):Int) / 18446744073709551616:=⟨_,rfl⟩
 obtain ⟨y,hy⟩:∃ y,y=((a0.natAbs * a1.natAbs:Nat):Int) % 18446744073709551616:=⟨_,rfl⟩
 rw [← hx,← hy] at h2;have key:=mul_ways h.symm hx hy;clear hx hy h;have H0:=sd h0;have H1:=sd h1;have H2:=sd h2;clear h0 h1 h2 hb;obtain ⟨s,hs⟩:∃ s,s=(decide (a0 < 0) != decide (a1 < 0)):=⟨_,rfl⟩
 replace key:=key s hs.symm
 by_cases ha:a0 < 0 <;> by_cases hb:a1 < 0 <;> (have hs':s=_:=hs.trans (by simp only [ha,hb,decide_true,decide_false,bne_self_eq_false,Bool.true_bne,Bool.false_bne,Bool.not_false];rfl)) <;> subst hs' <;>
  simp only [Bool.false_eq_true,if_false,if_true] at key <;> clear hs <;> (rcases key with ⟨hm,hw,b1,b2⟩ | ⟨hm,b1⟩ | ⟨hm,b1,b2⟩) <;> simp only [Prod.mk.injEq] at hm <;> (obtain ⟨rfl,rfl⟩:=hm)
 all_goals
  (try (have HW:=sd hw;clear hw))
  (first | have da:=decide_eq_true ha | have da:=decide_eq_false ha)
  (first | have db:=decide_eq_true hb | have db:=decide_eq_false hb)
  (try have e0:(!decide (a0 < 0))=true:=by rw [da];rfl)
  (try have e1:(!decide (a1 < 0))=true:=by rw [db];rfl)
  (try have e2:(!decide (a0 < 0) == decide (a1 < 0))=false:=by rw [da,db];rfl)
  clear ha hb;(first | have d1:=decide_eq_true (show 0 < x by omega) | have d1:=decide_eq_false (show ¬ 0 < x by omega))
  (try (first | have d2:=decide_eq_true (show 9223372036854775808 < y by omega) | have d2:=decide_eq_false (show ¬ 9223372036854775808 < y by omega)))
  (try (first | have d3:=decide_eq_true (show 9223372036854775807 < y by omega) | have d3:=decide_eq_false (show ¬ 9223372036854775807 < y by omega)))
  clear b1;(try clear b2)
 all_goals
  go_enter Tryz.func119,Tryz.ntmps119
  go_wp2_with fail
  refine (num_size.calls a0 _ _ H0.out).mono ?_;rintro e w1 ⟨rfl,hd1⟩;obtain ⟨⟨n1,rfl⟩⟩:=hd1;go_wp2_with fail
  refine (num_size.calls a1 _ _ H1.out).mono ?_;rintro e w2 ⟨rfl,hd2⟩;obtain ⟨⟨n2,rfl⟩⟩:=hd2;go_wp2_with fail
  refine (bits_Mul64.calls _ _ _ _ _ H2.out).mono ?_;rintro e w3 ⟨rfl,hd3⟩;obtain ⟨⟨n3,rfl⟩⟩:=hd3;go_wp2_with fail
  all_goals (try (exfalso;(simp at *) <;> omega))
  go_ret2
  refine ⟨?_,⟨⟨_,rfl⟩⟩⟩;first | rfl | exact ret_tup HW.out
end Go.Proofs.YtkbgkekegjfkfaaGreatDoor.A
namespace Go.Proofs.YtkbgkekegjfkfaaGreatDoor.WW
open Go.RowKit
namespace Kd
section
variable {α:Type} {d:Kd α} {e base g n cap:Nat} {ok okp:Nat→Prop} {W:World} {xs:List α}
theorem R_seg (h:d.R e W base ok (.slice (some ⟨g,0,none⟩) n cap) xs) (i:Int) (h0:0≤i) (h1:i < n) {c seg:List Value} {j:Nat} (hcl:c.length=d.sz) (hcc:∀ j u,c[j]?=some u→W.cell? ⟨g,i.toNat * d.sz+j,none⟩=some u)
    (hj:j+seg.length≤d.sz) {x':α} (hM:d.M W base okp x' (c.take j++seg++c.drop (j+seg.length))) (hokp:∀ k,okp k→ok k∧k≠g) :
    d.R e (W.setCells g (i.toNat * d.sz+j) seg) base ok (.slice (some ⟨g,0,none⟩) n cap) (xs.set i.toNat x')∧W.grownBy (W.setCells g (i.toNat * d.sz+j) seg) (some g):=by
  obtain ⟨hn,hnc,_⟩:=R_reads' h;obtain ⟨hok,inner,ho,hr⟩:=h;have hil:i.toNat < xs.length:=by omega
  have hseg:i.toNat * d.sz+d.sz≤inner.length:=by rw [hr.1,← Nat.succ_mul];exact Nat.mul_le_mul_right _ hil
  have hin:inner.length=n * d.sz:=by rw [hr.1,hn]
  obtain ⟨ho1,ho2⟩:=ho;rcases ho2 with ⟨hv,_⟩ | ⟨g',cap',cur,hv,hb,hh,hnc',hcm,hcs,ht⟩
  · cases hv
  injection hv with ha _ hc
  injection ha with ha
  injection ha with hg
  subst hg;subst hc
  have hfit:i.toNat * d.sz+j+seg.length≤cur.size:=by
    have:n * d.sz≤cap * d.sz:=Nat.mul_le_mul_right _ hnc;omega
  obtain ⟨cur',h3,h4,h5⟩:=setCells_row seg (i.toNat * d.sz+j) W cur hh hfit;obtain ⟨s1,s2,s3,s4⟩:=setCells_same g seg (i.toNat * d.sz+j) W;have hfar:∀ k,k≠g→(W.setCells g (i.toNat * d.sz+j) seg).heap[k]?=W.heap[k]?:=fun k hk=>setCells_far seg _ k hk
  have hcin:∀ q,q < d.sz→c[q]?=inner[i.toNat * d.sz+q]?:=by
    intro q hq;have hq':q < c.length:=by omega
    have h6:=hcc q _ (List.getElem?_eq_getElem hq');rw [cell_of_row W g _ cur e (0,0) hh] at h6;rw [List.getElem?_eq_getElem hq',← h6,← ht,List.getElem?_take,if_pos (by rw [← hn];omega),Array.getElem?_toList]
  refine ⟨⟨hok,inner.take (i.toNat * d.sz+j)++seg++inner.drop (i.toNat * d.sz+j+seg.length),⟨?_,.inr ⟨g,cap,cur',by rw [List.length_set,hn],hb,h3,by rw [List.length_set,← hn];exact hnc,hcm,by rw [h4,hcs],?_⟩⟩,?_⟩,
    ⟨s1,s2,s3,by rw [s4];exact Nat.le_refl _,fun k _ hk=>hfar k (fun he=>hk (by rw [he]))⟩⟩
  · rw [List.length_set]
    simp only [List.length_append,List.length_take,List.length_drop]
    rw [hr.1] at hseg ⊢;omega
  · rw [List.length_set,← hn]
    apply List.ext_getElem?;intro q;rw [List.getElem?_take,h5];rw [seg_get cur.toList seg (i.toNat * d.sz+j) (by rw [Array.length_toList];omega) q,seg_get inner seg (i.toNat * d.sz+j) (by omega) q]
    have hcur:∀ q,q < n * d.sz→cur.toList[q]?=inner[q]?:=by
      intro q hq;rw [← ht,List.getElem?_take,if_pos (by rw [← hn];exact hq)]
    by_cases hq:q < n * d.sz
    · rw [if_pos hq,hcur q hq]
    · rw [if_neg hq,if_neg (by omega),if_neg (by omega),List.getElem?_eq_none (by omega)]
  · refine ⟨?_,fun m p hm=>?_⟩
    · rw [List.length_set]
      simp only [List.length_append,List.length_take,List.length_drop]
      rw [hr.1] at hseg ⊢;omega
    · have hml:m < xs.length:=by
        have:=(List.getElem?_eq_some_iff.1 hm).1;rwa [List.length_set] at this
      have hmfit:m * d.sz+d.sz≤inner.length:=by rw [hr.1,← Nat.succ_mul];exact Nat.mul_le_mul_right _ hml
      have hgo:some g=(Value.slice (some ⟨g,0,none⟩) n cap).ownBlock:=by simp [Value.ownBlock]
      by_cases hmi:m=i.toNat
      · subst hmi
        rw [List.getElem?_set_self (by omega)] at hm;injection hm with hm
        subst hm
        have hcells:((inner.take (i.toNat * d.sz+j)++seg++inner.drop (i.toNat * d.sz+j+seg.length)).drop (i.toNat * d.sz)).take d.sz=c.take j++seg++c.drop (j+seg.length):=by
          apply List.ext_getElem?;intro q;rw [List.getElem?_take,List.getElem?_drop,seg_get inner seg _ (by omega),seg_get c seg j (by omega) q];by_cases hq:q < d.sz
          · rw [if_pos hq,hcin q hq]
            by_cases hq1:q < j
            · rw [if_pos (by omega),if_pos hq1]
            · rw [if_neg (by omega),if_neg hq1]
              by_cases hq2:q < j+seg.length
              · rw [if_pos (by omega),if_pos hq2]
                congr 1
                omega
              · rw [if_neg (by omega),if_neg hq2]
          · rw [if_neg hq,if_neg (by omega),if_neg (by omega),List.getElem?_eq_none (by omega)]
        rw [hcells];refine d.M_mono (fun k hk=>?_) (d.M_move (w1:=W.setCells g (i.toNat * d.sz+j) seg) (fun k hk=>hfar k (hokp k hk).2) hM);exact ⟨(hokp k hk).1,fun he=>(hokp k hk).2 (by rw [← hgo] at he;injection he)⟩
      · rw [List.getElem?_set_ne (by omega)] at hm
        have hold:=hr.2 m p hm
        have hcells:((inner.take (i.toNat * d.sz+j)++seg++inner.drop (i.toNat * d.sz+j+seg.length)).drop (m * d.sz)).take d.sz=(inner.drop (m * d.sz)).take d.sz:=by
          apply List.ext_getElem?;intro q;rw [List.getElem?_take,List.getElem?_take,List.getElem?_drop,List.getElem?_drop,seg_get inner seg _ (by omega)];by_cases hq:q < d.sz
          · rw [if_pos hq,if_pos hq]
            rcases Nat.lt_or_gt_of_ne hmi with hlt | hgt
            · have:m * d.sz+d.sz≤i.toNat * d.sz:=by rw [← Nat.succ_mul];exact Nat.mul_le_mul_right _ hlt
              rw [if_pos (by omega)]
            · have:i.toNat * d.sz+d.sz≤m * d.sz:=by rw [← Nat.succ_mul];exact Nat.mul_le_mul_right _ hgt
              rw [if_neg (by omega),if_neg (by omega)]
          · rw [if_neg hq,if_neg hq]
        rw [hcells];refine d.M_move (fun k hk=>hfar k (fun he=>hk.2 (by rw [he];exact hgo))) hold
end
end Kd
end Go.Proofs.YtkbgkekegjfkfaaGreatDoor.WW
