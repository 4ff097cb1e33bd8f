-- By pack.py, a program of this session's.
import Derived.Test.YtkbgkekegjfkfaaGreatDoorZ18
import Derived.Test.YtkbgkekegjfkfaaGreatDoorZ19
import Derived.Test.YtkbgkekegjfkfaaGreatDoorZ20
import Derived.Test.YtkbgkekegjfkfaaGreatDoorZ22
import Derived.Test.YtkbgkekegjfkfaaGreatDoorZ23
set_option linter.unusedVariables false
set_option linter.unusedSimpArgs false
namespace Go.Proofs.YtkbgkekegjfkfaaGreatDoor
namespace A
open Go.RowKit B WW WL WM
attribute [local go_sem] max2_int min2_int max_two min_two max_three min_three max_four min_four
set_option maxHeartbeats 8000000
set_option maxRecDepth 100000
theorem rules_Check.calls (k:Nat) (a0_0:ByteArray) (A0_1:Option Addr) (c0_1:Nat) (l0_1:List (S48)) (a0_2 a0_3:ByteArray) (A0_4:Option Addr) (c0_4:Nat) (l0_4:List (S50)) (r:Int) (w:World) (hr0_1:Kd.C k48 w A0_1 l0_1.length l0_1) (hc0_1:l0_1.length≤c0_1) (hr0_4:Kd.C k50 w A0_4 l0_4.length l0_4) (hc0_4:l0_4.length≤c0_4) (h:rules_Check.f k a0_0 l0_1 a0_2 a0_3 l0_4=some r) :
  Calls Tryz.prog 9 #[.agg #[.string a0_0,.slice A0_1 l0_1.length c0_1,.string a0_2,.string a0_3,.slice A0_4 l0_4.length c0_4]] w fun e w'=>e=.returned (.int .i64 r)∧Below w.heap.size w w':=by
 have hu25:=Tryz.underlying25;have hu48:=Tryz.underlying48;have HR0_1:=sd hr0_1;have HC0_1:=sd hc0_1;clear hr0_1 hc0_1;have HR0_4:=sd hr0_4;have HC0_4:=sd hc0_4;clear hr0_4 hc0_4;have HB:=sd (Below.refl w.heap.size w);have H:=h;clear h;unfold rules_Check.f at H;have HC2:=sd H;clear H;go_enter Tryz.func9,Tryz.ntmps9
 go_upto_region 1 with (first|((with_reducible refine gate_dst (N:=1) rfl ?_);refine bxA 1 #[.string a0_0,.slice A0_1 l0_1.length c0_1,.string a0_2,.string a0_3,.slice A0_4 l0_4.length c0_4] 25 ?_;intro gb117 hg w3 hbox hb;have BK117:=sd (hbox);have GW117:=gem hg HB;have GE117:=GW117;replace HB:=hbm HB hb;clear hb hbox hg))
 (try simp only [Act.put,List.setIfInBounds_toArray,List.set_cons_zero,List.set_cons_succ])
 go_cut [6] (fun v6 wc=>∃ (kq:Nat) (x6_1:Bool),v6=.bool x6_1∧Aside0 (rules_Check.j0 kq x6_1 a0_0 l0_1 a0_2 a0_3 l0_4=some r)∧Aside0 (kq≤k)∧Aside0 (wc.heap[gb117]?=some (.cells #[.string a0_0,(.slice A0_1 l0_1.length c0_1),.string a0_2,.string a0_3,(.slice A0_4 l0_4.length c0_4)] 25 (0,0)))∧Aside0 (Below w.heap.size w wc))
 case first =>
  have H:=HC2.out;clear HC2;replace H:=bdI H;obtain ⟨t118,A4,H⟩:=H;(try dsimp only at H)
  by_cases c5:t118=true
  ·subst c5;rw [if_pos rfl] at H;replace H:=bdI H;obtain ⟨t119,A6,H⟩:=H;(try dsimp only at H)
   by_cases c7:t119=true
   ·subst c7;rw [if_pos rfl] at H;replace H:=ifI H;rcases H with ⟨c8,H⟩|⟨c8,H⟩
    ·obtain ⟨c8b0,c8b1⟩:=eqI c8;clear c8;(first|rw [c8b0]|(simp only [i64_w,i32_w];rw [c8b0])|skip)
     have H':=sd H;clear H;obtain ⟨_,_,_,_,_,_,_,_,_,_⟩:=bk5 BK117;go_wp2_with (first|((with_reducible refine gate_callee (f:=21) rfl ?_);refine gL 9 Tryz.func21 #[.string a0_0] ?_;(with_reducible refine (words_Code.calls a0_0 true _ A4.out).mono ?_);rintro e w' ⟨rfl,⟨nd,rfl⟩⟩;refine ⟨_,rfl,?_⟩)|(go_at_call 21;(with_reducible refine (words_Code.calls a0_2 true _ A6.out).mono ?_);rintro e w' ⟨rfl,⟨nd,rfl⟩⟩))
     go_meet
     case rel=>exact ⟨_,(false),zq7,H',⟨by first|omega|exact Nat.le_refl _⟩,⟨zq120⟩,⟨zq121⟩⟩
    obtain ⟨c8b0,c8b1⟩:=neI c8;(first|rw [c8b0]|(simp only [i64_w,i32_w];rw [c8b0])|skip)
    replace H:=bdI H;obtain ⟨t120,A10,H⟩:=H;(try dsimp only at H)
    have H':=sd H;clear H;obtain ⟨_,_,_,_,_,_,_,_,_,_⟩:=bk5 BK117;go_wp2_with (first|((with_reducible refine gate_callee (f:=21) rfl ?_);refine gL 9 Tryz.func21 #[.string a0_0] ?_;(with_reducible refine (words_Code.calls a0_0 true _ A4.out).mono ?_);rintro e w' ⟨rfl,⟨nd,rfl⟩⟩;refine ⟨_,rfl,?_⟩)|(go_at_call 21;(with_reducible refine (words_Code.calls a0_2 true _ A6.out).mono ?_);rintro e w' ⟨rfl,⟨nd,rfl⟩⟩)|(go_at_call 21;(with_reducible refine (words_Code.calls a0_3 t120 _ A10.out).mono ?_);rintro e w' ⟨rfl,⟨nd,rfl⟩⟩))
    go_meet
    case rel=>exact ⟨_,(!t120),zq7,H',⟨by first|omega|exact Nat.le_refl _⟩,⟨zq120⟩,⟨zq121⟩⟩
   replace c7:=Bool.eq_false_iff.mpr c7;subst c7;rw [if_neg Bool.false_ne_true] at H;have H':=sd H;clear H;obtain ⟨_,_,_,_,_,_,_,_,_,_⟩:=bk5 BK117;go_wp2_with (first|((with_reducible refine gate_callee (f:=21) rfl ?_);refine gL 9 Tryz.func21 #[.string a0_0] ?_;(with_reducible refine (words_Code.calls a0_0 true _ A4.out).mono ?_);rintro e w' ⟨rfl,⟨nd,rfl⟩⟩;refine ⟨_,rfl,?_⟩)|(go_at_call 21;(with_reducible refine (words_Code.calls a0_2 false _ A6.out).mono ?_);rintro e w' ⟨rfl,⟨nd,rfl⟩⟩))
   go_meet
   case rel=>exact ⟨_,(true),zq7,H',⟨by first|omega|exact Nat.le_refl _⟩,⟨zq120⟩,⟨zq121⟩⟩
  replace c5:=Bool.eq_false_iff.mpr c5;subst c5;rw [if_neg Bool.false_ne_true] at H;have H':=sd H;clear H;obtain ⟨_,_,_,_,_,_,_,_,_,_⟩:=bk5 BK117;go_wp2_with (first|((with_reducible refine gate_callee (f:=21) rfl ?_);refine gL 9 Tryz.func21 #[.string a0_0] ?_;(with_reducible refine (words_Code.calls a0_0 false _ A4.out).mono ?_);rintro e w' ⟨rfl,⟨nd,rfl⟩⟩;refine ⟨_,rfl,?_⟩))
  go_meet
  case rel=>exact ⟨_,(true),zq7,H',⟨by first|omega|exact Nat.le_refl _⟩,⟨zq120⟩,⟨zq121⟩⟩
 case rest =>
  clear HC2;try clear c2
  obtain ⟨kq,x6_1,rfl,HA,HJ1,BK117,HB⟩:=hcut
  cases kq with
 |zero=>exact absurd HA.out (by simp [rules_Check.j0])
 |succ kj1 =>
   have H:=HA.out;clear HA;simp only [rules_Check.j0] at H
   by_cases c14:x6_1=true
   ·subst c14;rw [if_pos rfl] at H;obtain rfl:=Option.some.inj H;go_wp2
    go_ret
    exact ⟨zq4,zq121⟩
   replace c14:=Bool.eq_false_iff.mpr c14;subst c14;rw [if_neg Bool.false_ne_true] at H;replace H:=bdI H;obtain ⟨t121,A15,H⟩:=H;(try dsimp only at H)
   by_cases c16:t121=true
   ·subst c16;rw [if_pos rfl] at H;replace H:=ifI H;rcases H with ⟨c17,H⟩|⟨c17,H⟩
    ·obtain ⟨c17b0,c17b1⟩:=eqI c17;clear c17;obtain rfl:=Option.some.inj H;obtain ⟨_,_,_,_,_,_,_,_,_,_⟩:=bk5 BK117;go_wp2_with (first|((with_reducible refine gate_callee (f:=22) rfl ?_);refine gL 31 Tryz.func22 #[.slice A0_4 l0_4.length c0_4] ?_;(with_reducible refine (dims_Right.calls kj1 _ _ l0_4 true _ ?side1 ?side2 A15.out).mono ?_);(case side1=>exact zq40);(case side2=>exact HC0_4.out);rintro e w19 ⟨rfl,hb⟩;refine ⟨_,rfl,?_⟩;replace BK117:=bkm BK117 hb;replace HB:=hbm HB hb;clear hb;obtain ⟨_,_,_,_,_,_,_,_,_,_⟩:=bk5 BK117))
     go_ret
     exact ⟨zq4,zq121⟩
    obtain ⟨c17b0,c17b1⟩:=neI c17;have c17b2:¬ (l0_1=[]):=fun h_=>c17 (by rw [h_];rfl)
    replace H:=ifI H;rcases H with ⟨c21,H⟩|⟨c21,H⟩
    ·have c21b0:decide (8 < (l0_1.length:Int))=true:=decide_eq_true c21;have c21b1:decide (8 < l0_1.length)=true:=decide_eq_true (by omega);clear c21;obtain rfl:=Option.some.inj H;obtain ⟨_,_,_,_,_,_,_,_,_,_⟩:=bk5 BK117;go_wp2_with (first|((with_reducible refine gate_callee (f:=22) rfl ?_);refine gL 31 Tryz.func22 #[.slice A0_4 l0_4.length c0_4] ?_;(with_reducible refine (dims_Right.calls kj1 _ _ l0_4 true _ ?side1 ?side2 A15.out).mono ?_);(case side1=>exact zq40);(case side2=>exact HC0_4.out);rintro e w23 ⟨rfl,hb⟩;refine ⟨_,rfl,?_⟩;replace BK117:=bkm BK117 hb;replace HB:=hbm HB hb;clear hb;obtain ⟨_,_,_,_,_,_,_,_,_,_⟩:=bk5 BK117))
     go_ret
     exact ⟨zq4,zq121⟩
    have c21b0:decide (8 < (l0_1.length:Int))=false:=decide_eq_false c21;have c21b1:decide (8 < l0_1.length)=false:=decide_eq_false (by omega);clear c21;have H':=sd H;clear H;obtain ⟨_,_,_,_,_,_,_,_,_,_⟩:=bk5 BK117;go_wp2_with (first|((with_reducible refine gate_callee (f:=22) rfl ?_);refine gL 31 Tryz.func22 #[.slice A0_4 l0_4.length c0_4] ?_;(with_reducible refine (dims_Right.calls kj1 _ _ l0_4 true _ ?side1 ?side2 A15.out).mono ?_);(case side1=>exact zq40);(case side2=>exact HC0_4.out);rintro e w26 ⟨rfl,hb⟩;refine ⟨_,rfl,?_⟩;replace BK117:=bkm BK117 hb;replace HB:=hbm HB hb;clear hb;obtain ⟨_,_,_,_,_,_,_,_,_,_⟩:=bk5 BK117))
    go_loopg [46] kj1 (fun kq v46 w'=>∃ (x46_2:Int),v46=.int .i64 x46_2∧Aside0 (rules_Check.l0 kq l0_1 (l0_1.length:Int) x46_2=some r)∧Aside0 (kq≤kj1)∧Aside0 (w'.heap[gb117]?=some (.cells #[.string a0_0,(.slice A0_1 l0_1.length c0_1),.string a0_2,.string a0_3,(.slice A0_4 l0_4.length c0_4)] 25 (0,0)))∧Aside0 (Below w.heap.size w w'))
    case atStart=>exact ⟨(0),zq7,H',⟨Nat.le_refl _⟩,⟨zq120⟩,⟨zq121⟩⟩
    case round =>
     clear H';try clear c1
     obtain ⟨x46_2,rfl,HA,HK2,BK117,HB⟩:=hrel
     cases gk with
    |zero=>exact absurd HA.out (by simp [rules_Check.l0])
    |succ k2 =>
      have H:=HA.out;clear HA;simp only [rules_Check.l0] at H
      replace H:=ifI H;rcases H with ⟨c28,H⟩|⟨c28,H⟩
      ·have c28b0:decide (x46_2 < (l0_1.length:Int))=true:=decide_eq_true c28;clear c28;replace H:=ifI H;rcases H with ⟨c29,H⟩|⟨c29,H⟩
       ·have c29b0:decide (0≤x46_2)=true:=decide_eq_true c29;clear c29;replace H:=ifI H;rcases H with ⟨c30,H⟩|⟨c30,H⟩
        ·have c30b0:decide (x46_2 < (l0_1.length:Int))=true:=decide_eq_true c30;clear c30;replace H:=bdI H;obtain ⟨t124,A31,H⟩:=H;(try dsimp only at H)
         replace H:=ifI H;rcases H with ⟨c32,H⟩|⟨c32,H⟩
         ·obtain ⟨c32b0,c32b1⟩:=eqI c32;clear c32;have H':=sd H;clear H;have p122:0≤(x46_2:Int):=od;have q122:x46_2 < (l0_1.length:Int):=od;obtain ⟨ad122,e122,hx122_0,hx122_1,hx122_2,hx122_3⟩:=at_T48 HR0_1.out x46_2 p122 q122
          cases e122
          replace hx122_0:=(HB.out.cell (World.block_lt_of_cell? w _ hx122_0)).trans hx122_0;replace hx122_1:=(HB.out.cell (World.block_lt_of_cell? w _ hx122_1)).trans hx122_1;replace hx122_2:=(HB.out.cell (World.block_lt_of_cell? w _ hx122_2)).trans hx122_2;replace hx122_3:=(HB.out.cell (World.block_lt_of_cell? w _ hx122_3)).trans hx122_3;replace p122:=eq_true p122;replace q122:=eq_true q122;go_wp2_with (first|((with_reducible refine gate_dst (N:=4) rfl ?_);refine bxA 4 #[.int .i64 0,.int .i64 0,.string (⟨#[]⟩:ByteArray),.int .i64 0] 48 ?_;intro gb123 hg w33 hbox hb;have BK123:=sd (hbox);have GW123:=gem hg HB;have GE123:=GW123;have NB117_123:=nlm hg BK117;have NB123_117:=ngm hg BK117;replace BK117:=bkm BK117 hb;replace HB:=hbm HB hb;clear hb hbox hg;have hnb34:=NB123_117.out;have hnc34:=NB117_123.out;obtain ⟨_,_,_,_,_,_,_,_⟩:=bk4 BK123)|((with_reducible refine gate_callee (f:=23) rfl ?_);refine gL 51 Tryz.func23 #[.agg #[.int .i64 ((rd_T48 l0_1 x46_2).f0),.int .i64 ((rd_T48 l0_1 x46_2).f1),.string ((rd_T48 l0_1 x46_2).f2),.int .i64 ((rd_T48 l0_1 x46_2).f3)]] ?_;(with_reducible refine (rules_cond.calls k2 ((rd_T48 l0_1 x46_2).f0) ((rd_T48 l0_1 x46_2).f1) ((rd_T48 l0_1 x46_2).f2) ((rd_T48 l0_1 x46_2).f3) t124 _ A31.out).mono ?_);rintro e w36 ⟨rfl,hb⟩;refine ⟨_,rfl,?_⟩;replace BK117:=sd (blk_below (g:=gb117) (o:=.cells #[.string a0_0,.slice (some ad122) l0_1.length c0_1,.string a0_2,.string a0_3,.slice A0_4 l0_4.length c0_4] 25 (0,0)) (by (with_reducible repeat (first|refine blk_drewN ?_ _|refine blk_drew ?_|refine blk_alloc ?_ _));refine blk_far ?_ NB117_123.out _;(with_reducible repeat (first|refine blk_drewN ?_ _|refine blk_drew ?_|refine blk_alloc ?_ _));refine blk_far ?_ NB117_123.out _;(with_reducible repeat (first|refine blk_drewN ?_ _|refine blk_drew ?_|refine blk_alloc ?_ _));refine blk_far ?_ NB117_123.out _;(with_reducible repeat (first|refine blk_drewN ?_ _|refine blk_drew ?_|refine blk_alloc ?_ _));refine blk_far ?_ NB117_123.out _;(with_reducible repeat (first|refine blk_drewN ?_ _|refine blk_drew ?_|refine blk_alloc ?_ _));exact BK117.out) hb);replace BK123:=sd (blk_below (g:=gb123) (o:=.cells #[.int .i64 ((rd_T48 l0_1 x46_2).f0),.int .i64 ((rd_T48 l0_1 x46_2).f1),.string ((rd_T48 l0_1 x46_2).f2),.int .i64 ((rd_T48 l0_1 x46_2).f3)] 48 (0,0)) (by (with_reducible repeat (first|refine blk_drewN ?_ _|refine blk_drew ?_|refine blk_alloc ?_ _));refine blk_put (cs:=#[.int .i64 ((rd_T48 l0_1 x46_2).f0),.int .i64 ((rd_T48 l0_1 x46_2).f1),.string ((rd_T48 l0_1 x46_2).f2),.int .i64 0]) ?_ 3 _ rfl;(with_reducible repeat (first|refine blk_drewN ?_ _|refine blk_drew ?_|refine blk_alloc ?_ _));refine blk_put (cs:=#[.int .i64 ((rd_T48 l0_1 x46_2).f0),.int .i64 ((rd_T48 l0_1 x46_2).f1),.string (⟨#[]⟩:ByteArray),.int .i64 0]) ?_ 2 _ rfl;(with_reducible repeat (first|refine blk_drewN ?_ _|refine blk_drew ?_|refine blk_alloc ?_ _));refine blk_put (cs:=#[.int .i64 ((rd_T48 l0_1 x46_2).f0),.int .i64 0,.string (⟨#[]⟩:ByteArray),.int .i64 0]) ?_ 1 _ rfl;(with_reducible repeat (first|refine blk_drewN ?_ _|refine blk_drew ?_|refine blk_alloc ?_ _));refine blk_put (cs:=#[.int .i64 0,.int .i64 0,.string (⟨#[]⟩:ByteArray),.int .i64 0]) ?_ 0 _ rfl;(with_reducible repeat (first|refine blk_drewN ?_ _|refine blk_drew ?_|refine blk_alloc ?_ _));exact BK123.out) hb);replace HB:=hbm HB hb;clear hb))
          go_roundg k2
          case measure=>have:=HJ1.out;have:=HK2.out;omega
          case rel=>exact ⟨(wrap64 (x46_2+1)),zq7,H',⟨zq23⟩,⟨zq120⟩,⟨by repeat (first|(with_reducible first|exact HB.out|apply below_alloc|apply pw_below_drewN|apply below_drew1|refine below_set ?_ GE117.out|refine below_set ?_ GE123.out)|exact HB.out)⟩⟩
         obtain ⟨c32b0,c32b1⟩:=neI c32;obtain rfl:=Option.some.inj H;have p122:0≤(x46_2:Int):=od;have q122:x46_2 < (l0_1.length:Int):=od;obtain ⟨ad122,e122,hx122_0,hx122_1,hx122_2,hx122_3⟩:=at_T48 HR0_1.out x46_2 p122 q122
         cases e122
         replace hx122_0:=(HB.out.cell (World.block_lt_of_cell? w _ hx122_0)).trans hx122_0;replace hx122_1:=(HB.out.cell (World.block_lt_of_cell? w _ hx122_1)).trans hx122_1;replace hx122_2:=(HB.out.cell (World.block_lt_of_cell? w _ hx122_2)).trans hx122_2;replace hx122_3:=(HB.out.cell (World.block_lt_of_cell? w _ hx122_3)).trans hx122_3;replace p122:=eq_true p122;replace q122:=eq_true q122;go_wp2_with (first|((with_reducible refine gate_dst (N:=4) rfl ?_);refine bxA 4 #[.int .i64 0,.int .i64 0,.string (⟨#[]⟩:ByteArray),.int .i64 0] 48 ?_;intro gb123 hg w37 hbox hb;have BK123:=sd (hbox);have GW123:=gem hg HB;have GE123:=GW123;have NB117_123:=nlm hg BK117;have NB123_117:=ngm hg BK117;replace BK117:=bkm BK117 hb;replace HB:=hbm HB hb;clear hb hbox hg;have hnb38:=NB123_117.out;have hnc38:=NB117_123.out;obtain ⟨_,_,_,_,_,_,_,_⟩:=bk4 BK123)|((with_reducible refine gate_callee (f:=23) rfl ?_);refine gL 51 Tryz.func23 #[.agg #[.int .i64 ((rd_T48 l0_1 x46_2).f0),.int .i64 ((rd_T48 l0_1 x46_2).f1),.string ((rd_T48 l0_1 x46_2).f2),.int .i64 ((rd_T48 l0_1 x46_2).f3)]] ?_;(with_reducible refine (rules_cond.calls k2 ((rd_T48 l0_1 x46_2).f0) ((rd_T48 l0_1 x46_2).f1) ((rd_T48 l0_1 x46_2).f2) ((rd_T48 l0_1 x46_2).f3) t124 _ A31.out).mono ?_);rintro e w40 ⟨rfl,hb⟩;refine ⟨_,rfl,?_⟩;replace BK117:=sd (blk_below (g:=gb117) (o:=.cells #[.string a0_0,.slice (some ad122) l0_1.length c0_1,.string a0_2,.string a0_3,.slice A0_4 l0_4.length c0_4] 25 (0,0)) (by (with_reducible repeat (first|refine blk_drewN ?_ _|refine blk_drew ?_|refine blk_alloc ?_ _));refine blk_far ?_ NB117_123.out _;(with_reducible repeat (first|refine blk_drewN ?_ _|refine blk_drew ?_|refine blk_alloc ?_ _));refine blk_far ?_ NB117_123.out _;(with_reducible repeat (first|refine blk_drewN ?_ _|refine blk_drew ?_|refine blk_alloc ?_ _));refine blk_far ?_ NB117_123.out _;(with_reducible repeat (first|refine blk_drewN ?_ _|refine blk_drew ?_|refine blk_alloc ?_ _));refine blk_far ?_ NB117_123.out _;(with_reducible repeat (first|refine blk_drewN ?_ _|refine blk_drew ?_|refine blk_alloc ?_ _));exact BK117.out) hb);replace BK123:=sd (blk_below (g:=gb123) (o:=.cells #[.int .i64 ((rd_T48 l0_1 x46_2).f0),.int .i64 ((rd_T48 l0_1 x46_2).f1),.string ((rd_T48 l0_1 x46_2).f2),.int .i64 ((rd_T48 l0_1 x46_2).f3)] 48 (0,0)) (by (with_reducible repeat (first|refine blk_drewN ?_ _|refine blk_drew ?_|refine blk_alloc ?_ _));refine blk_put (cs:=#[.int .i64 ((rd_T48 l0_1 x46_2).f0),.int .i64 ((rd_T48 l0_1 x46_2).f1),.string ((rd_T48 l0_1 x46_2).f2),.int .i64 0]) ?_ 3 _ rfl;(with_reducible repeat (first|refine blk_drewN ?_ _|refine blk_drew ?_|refine blk_alloc ?_ _));refine blk_put (cs:=#[.int .i64 ((rd_T48 l0_1 x46_2).f0),.int .i64 ((rd_T48 l0_1 x46_2).f1),.string (⟨#[]⟩:ByteArray),.int .i64 0]) ?_ 2 _ rfl;(with_reducible repeat (first|refine blk_drewN ?_ _|refine blk_drew ?_|refine blk_alloc ?_ _));refine blk_put (cs:=#[.int .i64 ((rd_T48 l0_1 x46_2).f0),.int .i64 0,.string (⟨#[]⟩:ByteArray),.int .i64 0]) ?_ 1 _ rfl;(with_reducible repeat (first|refine blk_drewN ?_ _|refine blk_drew ?_|refine blk_alloc ?_ _));refine blk_put (cs:=#[.int .i64 0,.int .i64 0,.string (⟨#[]⟩:ByteArray),.int .i64 0]) ?_ 0 _ rfl;(with_reducible repeat (first|refine blk_drewN ?_ _|refine blk_drew ?_|refine blk_alloc ?_ _));exact BK123.out) hb);replace HB:=hbm HB hb;clear hb))
         go_ret
         exact ⟨zq4,by repeat (first|(with_reducible first|exact HB.out|apply below_alloc|apply pw_below_drewN|apply below_drew1|refine below_set ?_ GE117.out|refine below_set ?_ GE123.out)|exact HB.out)⟩
        exact absurd H (by simp)
       exact absurd H (by simp)
      have c28b0:decide (x46_2 < (l0_1.length:Int))=false:=decide_eq_false c28;clear c28;obtain rfl:=Option.some.inj H;go_wp2
      go_ret
      exact ⟨zq4,zq121⟩
   replace c16:=Bool.eq_false_iff.mpr c16;subst c16;rw [if_neg Bool.false_ne_true] at H;obtain rfl:=Option.some.inj H;obtain ⟨_,_,_,_,_,_,_,_,_,_⟩:=bk5 BK117;go_wp2_with (first|((with_reducible refine gate_callee (f:=22) rfl ?_);refine gL 31 Tryz.func22 #[.slice A0_4 l0_4.length c0_4] ?_;(with_reducible refine (dims_Right.calls kj1 _ _ l0_4 false _ ?side1 ?side2 A15.out).mono ?_);(case side1=>exact zq40);(case side2=>exact HC0_4.out);rintro e w42 ⟨rfl,hb⟩;refine ⟨_,rfl,?_⟩;replace BK117:=bkm BK117 hb;replace HB:=hbm HB hb;clear hb))
   go_ret
   exact ⟨zq4,zq121⟩
theorem rules_Text.calls (k:Nat) (a0:ByteArray) (A1:Option Addr) (c1:Nat) (l1:List S48) (a2 a3:ByteArray) (A4:Option Addr) (c4:Nat) (l4:List S50) (r1:ByteArray) (r2:Int) (w:World) (hr1:Kd.C k48 w A1 l1.length l1) (hc1:l1.length≤c1) (hr4:Kd.C k50 w A4 l4.length l4) (hc4:l4.length≤c4) (h:rules_Text.f k a0 l1 a2 a3 l4=some (r1,r2)) (hG:Gl w) :
  Calls Tryz.prog 16 #[.agg #[.string a0,.slice A1 l1.length c1,.string a2,.string a3,.slice A4 l4.length c4]] w fun e w'=>e=.returned (.tuple #[.string r1,.int .i64 r2])∧Below w.heap.size w w':=by
 unfold rules_Text.f at h;obtain ⟨ec,hec,h⟩:=Option.bind_eq_some_iff.mp h;have HC:=sd hr1;have HCC:=sd hc1;have HT:=sd hr4;have HTC:=sd hc4;have HG:=sd hG;have NC:=sd (fun W hC hT=>rules_Check.calls k a0 A1 c1 l1 a2 a3 A4 c4 l4 ec W hC hc1 hT hc4 hec);have H:=sd h;clear h hr1 hc1 hr4 hc4 hG hec;generalize hQ:(fun (e:Ending) (w':World)=>e=.returned (.tuple #[.string r1,.int .i64 r2])∧Below w.heap.size w w')=Post;have HQ:=sd hQ;clear hQ;go_enter Tryz.func16,Tryz.ntmps16
 go_upto_region 1 with (fail)
 have hB1:=below_alloc (Below.refl w.heap.size w) (Obj.cells #[Value.string a0,Value.slice A1 l1.length c1,Value.string a2,Value.string a3,Value.slice A4 l4.length c4] 25);have b0:(w.alloc (Obj.cells #[Value.string a0,Value.slice A1 l1.length c1,Value.string a2,Value.string a3,Value.slice A4 l4.length c4] 25)).heap[w.heap.size]?=some (.cells #[Value.string a0,Value.slice A1 l1.length c1,Value.string a2,Value.string a3,Value.slice A4 l4.length c4] 25 (0,0)):=blk_new _ _;generalize w.alloc (Obj.cells #[Value.string a0,Value.slice A1 l1.length c1,Value.string a2,Value.string a3,Value.slice A4 l4.length c4] 25)=w1 at *;obtain ⟨g1,hg1⟩:∃ g,g=w.heap.size:=⟨_,rfl⟩
 rw [← hg1] at b0 ⊢;have B1:=sd b0;have HB:=sd hB1;clear b0 hB1 hg1;obtain ⟨z0,z1,z2,z3,z4,y0,y1,y2,y3,y4⟩:=bk5 B1;go_wp2_with fail
 refine (NC.out _ (Kd.C_below HC.out HB.out) (Kd.C_below HT.out HB.out)).mono ?_;rintro e w2 ⟨rfl,hb⟩;replace B1:=sd (blk_below B1.out hb);replace HB:=sd (HB.out.trans (hb.mono HB.out.size));clear hb NC z0 z1 z2 z3 z4 y0 y1 y2 y3 y4;by_cases e0:ec=0
 case neg =>
  have h:=H.out;rw [if_neg e0] at h;obtain ⟨rfl,rfl⟩:=h;obtain ⟨q1,q2⟩:=neI e0;clear e0 H;go_wp2_with fail
  rw [← HQ.out];exact ⟨rfl,HB.out⟩
 have h:=H.out;rw [if_pos e0] at h;subst e0;split at h
 case isFalse=>cases h
 rename_i hn
 obtain ⟨l,hl,h⟩:=Option.bind_eq_some_iff.mp h;have HLN:=sd hn;have HL:=sd hl;have HJ:=sd h;clear H h hl hn;obtain ⟨z0,z1,z2,z3,z4,y0,y1,y2,y3,y4⟩:=bk5 B1;go_upto_region 5 with (fail)
 have HR:=sd (strs_new [ruleB,a0] (Nat.le_of_ble_eq_true rfl) w2 w.heap.size HB.out.size);have hb3:=below_alloc (Below.refl w2.heap.size w2) (Obj.cells #[Value.string ⟨#[114,117,108,101]⟩,Value.string a0] 9);replace B1:=sd (blk_below B1.out hb3);replace HB:=sd (HB.out.trans (hb3.mono HB.out.size));clear hb3 z0 z1 z2 z3 z4 y0 y1 y2 y3 y4;change Aside0 (Kd.R Kd.string 9 (w2.alloc (Obj.cells #[Value.string ⟨#[114,117,108,101]⟩,Value.string a0] 9)) w.heap.size (fun _=>True) (.slice (some ⟨w2.heap.size,0,none⟩) 2 2) [ruleB,a0]) at HR
 obtain ⟨gl,hgl⟩:∃ g,g=w2.heap.size:=⟨_,rfl⟩
 rw [← hgl] at HR ⊢;generalize w2.alloc (Obj.cells #[Value.string ⟨#[114,117,108,101]⟩,Value.string a0] 9)=w3 at *;clear hgl;obtain ⟨z0,z1,z2,z3,z4,y0,y1,y2,y3,y4⟩:=bk5 B1;go_wp2_with fail
 clear z0 z1 z2 z3 z4 y0 y1 y2 y3 y4;go_loopw [5,6,22] (fun l_ k_ n_ wr=>∃ (i:Nat) (l':List ByteArray) (A:Option Addr) (cap:Nat) (link:ByteArray),i≤l1.length∧n_=.int .i64 (i:Int)∧l_=.slice A l'.length cap∧k_=.string link∧Aside0 (l'.length=2+4 * i)∧Aside0 (txC k (l1.drop i) l' link=some l)∧Aside0 (Kd.R Kd.string 9 wr w.heap.size (fun _=>True) (.slice A l'.length cap) l')∧Aside0 (wr.heap[g1]?=some (.cells #[Value.string a0,Value.slice A1 l1.length c1,Value.string a2,Value.string a3,Value.slice A4 l4.length c4] 25 (0,0)))∧Aside0 (Below w.heap.size w wr)) (fun _ _ n_ _=>(l1.length - (RowKit.intOf n_).toNat))
 case atStart=>exact ⟨0,[ruleB,a0],_,_,_,Nat.zero_le _,rfl,rfl,rfl,⟨rfl⟩,HL,HR,B1,HB⟩
 case round =>
  clear HL HR B1 HB;obtain ⟨i,l',A,cap,link,hi,rfl,rfl,rfl,HLL,HL,HR,B1,HB⟩:=hrel;rename World=>wr
  by_cases hlt:i < l1.length
  case neg =>
   obtain rfl:i=l1.length:=by omega
   have hlt':¬ (l1.length:Int) < (l1.length:Int):=by omega
   have hh:=HL.out;rw [List.drop_length,txC] at hh;obtain rfl:=Option.some.inj hh;clear hh HL;obtain ⟨z0,z1,z2,z3,z4,y0,y1,y2,y3,y4⟩:=bk5 B1;go_upto_region 12 with (fail)
   by_cases hp3:a3.toList=[]
   ·rw [if_pos hp3] at HJ;have qe:a3.toList.isEmpty=true:=by rw [hp3];rfl
    go_upto_region 15 with (first|((with_reducible refine gate_builtin (b:=.append) (xs:=#[.tmp 39,.tmp 42]) rfl ?_);refine strs_app (w0:=w) (W:=wr) w.heap.size rfl (.tmp 39) (.tmp 42) 58 rfl Tryz.underlying58 info9 (.slice A l'.length cap) l' [thenB,a2] rfl rfl HR.out (Nat.le_of_ble_eq_true rfl) zq130 HB.out HB.out.size ?_;intro v1 w10 hR hb hg;obtain ⟨l2,hl2⟩:∃ q,q=l'++[thenB,a2]:=⟨_,rfl⟩;have HLL2:=sd (show l2.length=l'.length+2 by rw [hl2,List.length_append];rfl);rw [← hl2] at hR HJ;clear hl2;obtain ⟨A',cap',rfl⟩:=Kd.R_slice hR;replace B1:=sd (blk_grown B1.out hg (Kd.R_ne HR.out B1.out (by decide)));replace HB:=sd hb;replace HR:=sd hR;clear hb hg hR z0 z1 z2 z3 z4 y0 y1 y2 y3 y4;obtain ⟨z0,z1,z2,z3,z4,y0,y1,y2,y3,y4⟩:=bk5 B1))
    have HLB:=sd (show l2.length≤5000000∧0 < l2.length from by have:=HLN.out.1;have:=HLL.out;have:=HLL2.out;omega);go_wp2_with fail
    clear z0 z1 z2 z3 z4 y0 y1 y2 y3 y4 hp3;(try clear qe)
    (try clear qe2)
    go_loopw [5,55] (fun l_ n_ wr=>∃ (i:Nat) (l3:List ByteArray) (A:Option Addr) (cap:Nat),i≤l4.length∧n_=.int .i64 (i:Int)∧l_=.slice A l3.length cap∧Aside0 (l3.length=l2.length+4 * i)∧Aside0 (txJ (txT (l4.drop i) l3)=some (r1,r2))∧Aside0 (Kd.R Kd.string 9 wr w.heap.size (fun _=>True) (.slice A l3.length cap) l3)∧Aside0 (wr.heap[g1]?=some (.cells #[Value.string a0,Value.slice A1 l1.length c1,Value.string a2,Value.string a3,Value.slice A4 l4.length c4] 25 (0,0)))∧Aside0 (Below w.heap.size w wr)) (fun _ n_ _=>(l4.length - (RowKit.intOf n_).toNat))
    case atStart=>exact ⟨0,l2,_,_,Nat.zero_le _,rfl,rfl,⟨rfl⟩,HJ,HR,B1,HB⟩
    case round =>
     clear HJ HR B1 HB HLL HLL2;(try clear HLL3)
     obtain ⟨i,l3,A,cap,hi,rfl,rfl,HL3,HJ,HR,B1,HB⟩:=hrel;rename World=>wr
     by_cases hlt:i < l4.length
     case neg =>
      obtain rfl:i=l4.length:=by omega
      have hlt':¬ (l4.length:Int) < (l4.length:Int):=by omega
      have hj:=HJ.out;rw [List.drop_length,txT] at hj;unfold txJ at hj;split at hj
      case isFalse=>cases hj
      rename_i hb
      have hpos:0 < l3.length:=by have:=HL3.out;have:=HLB.out.2;omega
      obtain ⟨gj,capj,hform,hgj,hgl,_⟩:=Kd.R_form HR.out hpos;obtain ⟨rfl,rfl⟩:A=some ⟨gj,0,none⟩∧cap=capj:=by cases hform;exact ⟨rfl,rfl⟩
      obtain ⟨_,hcap,hC⟩:=Kd.R_reads' HR.out;obtain ⟨sj,hsj⟩:∃ s,s=joinB l3:=⟨_,rfl⟩
      have NJ:=sd (show Calls Tryz.prog 32 #[.slice (some ⟨gj,0,none⟩) l3.length cap,.string ⟨#[32]⟩] wr fun e w'=>e=.returned (.string sj)∧Below wr.heap.size wr w' from hsj ▸ Tryz.strings_Join gj 0 cap l3 ⟨#[32]⟩ wr (strs_cells hC hpos) hgl hb.1 hcap (by have:=hb.2;unfold joinB at this;simpa [ByteArray.size] using this));rw [← hsj] at hj;have HJJ:=sd hj;clear hsj hj hb hform hgj hgl hcap hC hpos HJ;go_wp2_with fail
      refine NJ.out.mono ?_;rintro e w6 ⟨rfl,hb⟩;replace HB:=sd (HB.out.trans (hb.mono HB.out.size));clear NJ hb HR B1;have hj:=HJJ.out;by_cases hz:400 < sj.size
      ·rw [if_pos hz] at hj;obtain ⟨rfl,rfl⟩:=hj;have hz':(400:Int) < (sj.size:Int):=by omega
       clear HJJ hz;go_wp2_with fail
       rw [← HQ.out];exact ⟨by (try rfl),HB.out⟩
      rw [if_neg hz] at hj;have hz':¬ (400:Int) < (sj.size:Int):=by omega
      obtain ⟨rfl,rfl⟩:=hj;clear HJJ hz;go_wp2_with fail
      rw [← HQ.out];exact ⟨by (try rfl),HB.out⟩
     have hlt':(i:Int) < (l4.length:Int):=by omega
     have h0:(0:Int)≤(i:Int):=by omega
     have hw:wrap64 ((i:Int)+1)=((i+1:Nat):Int):=by have:=HLN.out.2;unfold wrap64;omega
     obtain ⟨ad,e,x0,x1⟩:=at_T50 (Kd.C_below HT.out HB.out) (i:Int) (by omega) (by omega)
     cases e
     simp only [Int.toNat_natCast] at x0 x1
     have hd:l4.drop i=rd_T50 l4 (i:Int) :: l4.drop (i+1):=by
      unfold rd_T50;rw [List.drop_eq_getElem_cons hlt,Int.toNat_natCast,List.getD_eq_getElem?_getD,List.getElem?_eq_getElem hlt];rfl
     obtain ⟨x,hx⟩:∃ x,rd_T50 l4 (i:Int)=x:=⟨_,rfl⟩
     rw [hx] at hd x0 x1;have hh:=HJ.out;rw [hd,txT] at hh;have HN:=sd hh;clear hd hx HJ hh;go_upto_region 18 with (fail)
     have hbx:=below_alloc (Below.refl wr.heap.size wr) (Obj.cells #[Value.string x.f0,Value.string x.f1] 50);have bx:(wr.alloc (Obj.cells #[Value.string x.f0,Value.string x.f1] 50)).heap[wr.heap.size]?=some (.cells #[Value.string x.f0,Value.string x.f1] 50 (0,0)):=blk_new _ _;replace B1:=sd (blk_below B1.out hbx);replace HR:=sd (Kd.R_below HR.out hbx);replace HB:=sd (HB.out.trans (hbx.mono HB.out.size));clear x0 x1 hbx;generalize wr.alloc (Obj.cells #[Value.string x.f0,Value.string x.f1] 50)=w4 at *;obtain ⟨gx,hgx⟩:∃ g,g=wr.heap.size:=⟨_,rfl⟩
     rw [← hgx] at bx ⊢;have BX:=sd bx;clear bx hgx;obtain ⟨k0,k1,_⟩:=bk2 BX;go_wp2_with (first|((with_reducible refine gate_builtin (b:=.append) (xs:=#[.tmp 59,.tmp 64]) rfl ?_);refine strs_app (w0:=w) (W:=w4) w.heap.size rfl (.tmp 59) (.tmp 64) 58 rfl Tryz.underlying58 info9 (.slice A l3.length cap) l3 [⟨#[116,97,103]⟩,x.f0,⟨#[61]⟩,x.f1] rfl rfl HR.out (Nat.le_of_ble_eq_true rfl) (by have:=HLN.out.2;have:=HLB.out;have:=HL3.out;omega) HB.out HB.out.size ?_;intro v1 w10 hR hb hg;obtain ⟨l5,hl2⟩:∃ q,q=l3++[⟨#[116,97,103]⟩,x.f0,⟨#[61]⟩,x.f1]:=⟨_,rfl⟩;have HL5:=sd (show l5.length=l2.length+4 * (i+1) by rw [hl2,List.length_append,HL3.out];show l2.length+4 * i+4=_;omega);rw [← hl2] at hR HN;clear hl2;obtain ⟨A',cap',rfl⟩:=Kd.R_slice hR;replace B1:=sd (blk_grown B1.out hg (Kd.R_ne HR.out B1.out (by decide)));replace HB:=sd hb;replace HR:=sd hR;clear hb hg hR))
     go_roundw
     case rel=>exact ⟨i+1,l5,_,_,by omega,(by rw [hw]),rfl,HL5,HN,HR,B1,HB⟩
     case measure =>
      refine Nat.sub_lt_sub_left hlt ?_;rw [hw];exact Nat.lt_succ_self i
   rw [if_neg hp3] at HJ;have qe:a3.toList.isEmpty=false:=by cases hl:a3.toList with|nil=>exact absurd hl hp3|cons _ _=>rfl
   have qe2:(!a3.toList.isEmpty)=true:=by rw [qe];rfl
   go_upto_region 15 with (first|((with_reducible refine gate_builtin (b:=.append) (xs:=#[.tmp 39,.tmp 42]) rfl ?_);refine strs_app (w0:=w) (W:=wr) w.heap.size rfl (.tmp 39) (.tmp 42) 58 rfl Tryz.underlying58 info9 (.slice A l'.length cap) l' [thenB,a2] rfl rfl HR.out (Nat.le_of_ble_eq_true rfl) zq130 HB.out HB.out.size ?_;intro v1 w10 hR hb hg;obtain ⟨l2,hl2⟩:∃ q,q=l'++[thenB,a2]:=⟨_,rfl⟩;have HLL2:=sd (show l2.length=l'.length+2 by rw [hl2,List.length_append];rfl);rw [← hl2] at hR HJ;clear hl2;obtain ⟨A',cap',rfl⟩:=Kd.R_slice hR;replace B1:=sd (blk_grown B1.out hg (Kd.R_ne HR.out B1.out (by decide)));replace HB:=sd hb;replace HR:=sd hR;clear hb hg hR z0 z1 z2 z3 z4 y0 y1 y2 y3 y4;obtain ⟨z0,z1,z2,z3,z4,y0,y1,y2,y3,y4⟩:=bk5 B1)|((with_reducible refine gate_builtin (b:=.append) (xs:=#[.tmp 47,.tmp 50]) rfl ?_);refine strs_app (w0:=w) (W:=w10) w.heap.size rfl (.tmp 47) (.tmp 50) 58 rfl Tryz.underlying58 info9 (.slice A' l2.length cap') l2 [partyB,a3] rfl rfl HR.out (Nat.le_of_ble_eq_true rfl) (by have:=HLN.out.1;have:=HLL.out;have:=HLL2.out;omega) HB.out HB.out.size ?_;intro v1 w10 hR hb hg;obtain ⟨l2,hl2⟩:∃ q,q=l2++[partyB,a3]:=⟨_,rfl⟩;have HLL3:=sd (show l2.length=l'.length+4 by rw [hl2,List.length_append,HLL2.out];rfl);rw [← hl2] at hR HJ;clear hl2;obtain ⟨A',cap',rfl⟩:=Kd.R_slice hR;replace B1:=sd (blk_grown B1.out hg (Kd.R_ne HR.out B1.out (by decide)));replace HB:=sd hb;replace HR:=sd hR;clear hb hg hR z0 z1 z2 z3 z4 y0 y1 y2 y3 y4;obtain ⟨z0,z1,z2,z3,z4,y0,y1,y2,y3,y4⟩:=bk5 B1))
   have HLB:=sd (show l2.length≤5000000∧0 < l2.length from by have:=HLN.out.1;have:=HLL.out;have:=HLL3.out;omega);go_wp2_with fail
   clear z0 z1 z2 z3 z4 y0 y1 y2 y3 y4 hp3;(try clear qe)
   (try clear qe2)
   go_loopw [5,55] (fun l_ n_ wr=>∃ (i:Nat) (l3:List ByteArray) (A:Option Addr) (cap:Nat),i≤l4.length∧n_=.int .i64 (i:Int)∧l_=.slice A l3.length cap∧Aside0 (l3.length=l2.length+4 * i)∧Aside0 (txJ (txT (l4.drop i) l3)=some (r1,r2))∧Aside0 (Kd.R Kd.string 9 wr w.heap.size (fun _=>True) (.slice A l3.length cap) l3)∧Aside0 (wr.heap[g1]?=some (.cells #[Value.string a0,Value.slice A1 l1.length c1,Value.string a2,Value.string a3,Value.slice A4 l4.length c4] 25 (0,0)))∧Aside0 (Below w.heap.size w wr)) (fun _ n_ _=>(l4.length - (RowKit.intOf n_).toNat))
   case atStart=>exact ⟨0,l2,_,_,Nat.zero_le _,rfl,rfl,⟨rfl⟩,HJ,HR,B1,HB⟩
   case round =>
    clear HJ HR B1 HB HLL HLL2;(try clear HLL3)
    obtain ⟨i,l3,A,cap,hi,rfl,rfl,HL3,HJ,HR,B1,HB⟩:=hrel;rename World=>wr
    by_cases hlt:i < l4.length
    case neg =>
     obtain rfl:i=l4.length:=by omega
     have hlt':¬ (l4.length:Int) < (l4.length:Int):=by omega
     have hj:=HJ.out;rw [List.drop_length,txT] at hj;unfold txJ at hj;split at hj
     case isFalse=>cases hj
     rename_i hb
     have hpos:0 < l3.length:=by have:=HL3.out;have:=HLB.out.2;omega
     obtain ⟨gj,capj,hform,hgj,hgl,_⟩:=Kd.R_form HR.out hpos;obtain ⟨rfl,rfl⟩:A=some ⟨gj,0,none⟩∧cap=capj:=by cases hform;exact ⟨rfl,rfl⟩
     obtain ⟨_,hcap,hC⟩:=Kd.R_reads' HR.out;obtain ⟨sj,hsj⟩:∃ s,s=joinB l3:=⟨_,rfl⟩
     have NJ:=sd (show Calls Tryz.prog 32 #[.slice (some ⟨gj,0,none⟩) l3.length cap,.string ⟨#[32]⟩] wr fun e w'=>e=.returned (.string sj)∧Below wr.heap.size wr w' from hsj ▸ Tryz.strings_Join gj 0 cap l3 ⟨#[32]⟩ wr (strs_cells hC hpos) hgl hb.1 hcap (by have:=hb.2;unfold joinB at this;simpa [ByteArray.size] using this));rw [← hsj] at hj;have HJJ:=sd hj;clear hsj hj hb hform hgj hgl hcap hC hpos HJ;go_wp2_with fail
     refine NJ.out.mono ?_;rintro e w6 ⟨rfl,hb⟩;replace HB:=sd (HB.out.trans (hb.mono HB.out.size));clear NJ hb HR B1;have hj:=HJJ.out;by_cases hz:400 < sj.size
     ·rw [if_pos hz] at hj;obtain ⟨rfl,rfl⟩:=hj;have hz':(400:Int) < (sj.size:Int):=by omega
      clear HJJ hz;go_wp2_with fail
      rw [← HQ.out];exact ⟨by (try rfl),HB.out⟩
     rw [if_neg hz] at hj;have hz':¬ (400:Int) < (sj.size:Int):=by omega
     obtain ⟨rfl,rfl⟩:=hj;clear HJJ hz;go_wp2_with fail
     rw [← HQ.out];exact ⟨by (try rfl),HB.out⟩
    have hlt':(i:Int) < (l4.length:Int):=by omega
    have h0:(0:Int)≤(i:Int):=by omega
    have hw:wrap64 ((i:Int)+1)=((i+1:Nat):Int):=by have:=HLN.out.2;unfold wrap64;omega
    obtain ⟨ad,e,x0,x1⟩:=at_T50 (Kd.C_below HT.out HB.out) (i:Int) (by omega) (by omega)
    cases e
    simp only [Int.toNat_natCast] at x0 x1
    have hd:l4.drop i=rd_T50 l4 (i:Int) :: l4.drop (i+1):=by
     unfold rd_T50;rw [List.drop_eq_getElem_cons hlt,Int.toNat_natCast,List.getD_eq_getElem?_getD,List.getElem?_eq_getElem hlt];rfl
    obtain ⟨x,hx⟩:∃ x,rd_T50 l4 (i:Int)=x:=⟨_,rfl⟩
    rw [hx] at hd x0 x1;have hh:=HJ.out;rw [hd,txT] at hh;have HN:=sd hh;clear hd hx HJ hh;go_upto_region 18 with (fail)
    have hbx:=below_alloc (Below.refl wr.heap.size wr) (Obj.cells #[Value.string x.f0,Value.string x.f1] 50);have bx:(wr.alloc (Obj.cells #[Value.string x.f0,Value.string x.f1] 50)).heap[wr.heap.size]?=some (.cells #[Value.string x.f0,Value.string x.f1] 50 (0,0)):=blk_new _ _;replace B1:=sd (blk_below B1.out hbx);replace HR:=sd (Kd.R_below HR.out hbx);replace HB:=sd (HB.out.trans (hbx.mono HB.out.size));clear x0 x1 hbx;generalize wr.alloc (Obj.cells #[Value.string x.f0,Value.string x.f1] 50)=w4 at *;obtain ⟨gx,hgx⟩:∃ g,g=wr.heap.size:=⟨_,rfl⟩
    rw [← hgx] at bx ⊢;have BX:=sd bx;clear bx hgx;obtain ⟨k0,k1,_⟩:=bk2 BX;go_wp2_with (first|((with_reducible refine gate_builtin (b:=.append) (xs:=#[.tmp 59,.tmp 64]) rfl ?_);refine strs_app (w0:=w) (W:=w4) w.heap.size rfl (.tmp 59) (.tmp 64) 58 rfl Tryz.underlying58 info9 (.slice A l3.length cap) l3 [⟨#[116,97,103]⟩,x.f0,⟨#[61]⟩,x.f1] rfl rfl HR.out (Nat.le_of_ble_eq_true rfl) (by have:=HLN.out.2;have:=HLB.out;have:=HL3.out;omega) HB.out HB.out.size ?_;intro v1 w10 hR hb hg;obtain ⟨l5,hl2⟩:∃ q,q=l3++[⟨#[116,97,103]⟩,x.f0,⟨#[61]⟩,x.f1]:=⟨_,rfl⟩;have HL5:=sd (show l5.length=l2.length+4 * (i+1) by rw [hl2,List.length_append,HL3.out];show l2.length+4 * i+4=_;omega);rw [← hl2] at hR HN;clear hl2;obtain ⟨A',cap',rfl⟩:=Kd.R_slice hR;replace B1:=sd (blk_grown B1.out hg (Kd.R_ne HR.out B1.out (by decide)));replace HB:=sd hb;replace HR:=sd hR;clear hb hg hR))
    go_roundw
    case rel=>exact ⟨i+1,l5,_,_,by omega,(by rw [hw]),rfl,HL5,HN,HR,B1,HB⟩
    case measure =>
     refine Nat.sub_lt_sub_left hlt ?_;rw [hw];exact Nat.lt_succ_self i
  have hlt':(i:Int) < (l1.length:Int):=by omega
  have h0:(0:Int)≤(i:Int):=by omega
  have hw:wrap64 ((i:Int)+1)=((i+1:Nat):Int):=by have:=HLN.out.1;unfold wrap64;omega
  obtain ⟨ad,e,x0,x1,x2,x3⟩:=at_T48 (Kd.C_below HC.out HB.out) (i:Int) (by omega) (by omega)
  cases e
  simp only [Int.toNat_natCast] at x0 x1 x2 x3
  have hd:l1.drop i=rd_T48 l1 (i:Int) :: l1.drop (i+1):=by
   unfold rd_T48;rw [List.drop_eq_getElem_cons hlt,Int.toNat_natCast,List.getD_eq_getElem?_getD,List.getElem?_eq_getElem hlt];rfl
  obtain ⟨x,hx⟩:∃ x,rd_T48 l1 (i:Int)=x:=⟨_,rfl⟩
  rw [hx] at hd x0 x1 x2 x3;have hh:=HL.out;rw [hd,txC] at hh;obtain ⟨na,hna,hh⟩:=Option.bind_eq_some_iff.mp hh;obtain ⟨nb,hnb,hh⟩:=Option.bind_eq_some_iff.mp hh;obtain ⟨no,hno,hh⟩:=Option.bind_eq_some_iff.mp hh;have NA:=sd (fun W hG=>nmd_calls fieldL fieldB fieldB_L (by decide) fieldB_a _ _ hna W hG);have NB:=sd (fun W hG=>nmd_calls opL opB opB_L (by decide) opB_a _ _ hnb W hG);have NO:=sd (fun W hG=>rules_operand.calls k x.f0 x.f1 x.f2 x.f3 no W hno hG);have HN:=sd hh;clear hd hx HL hh hna hnb hno;obtain ⟨z0,z1,z2,z3,z4,y0,y1,y2,y3,y4⟩:=bk5 B1;go_upto_region 9 with (fail)
  have hbx:=below_alloc (Below.refl wr.heap.size wr) (Obj.cells #[Value.int IntKind.i64 x.f0,Value.int IntKind.i64 x.f1,Value.string x.f2,Value.int IntKind.i64 x.f3] 48);have bx:(wr.alloc (Obj.cells #[Value.int IntKind.i64 x.f0,Value.int IntKind.i64 x.f1,Value.string x.f2,Value.int IntKind.i64 x.f3] 48)).heap[wr.heap.size]?=some (.cells #[Value.int IntKind.i64 x.f0,Value.int IntKind.i64 x.f1,Value.string x.f2,Value.int IntKind.i64 x.f3] 48 (0,0)):=blk_new _ _;replace B1:=sd (blk_below B1.out hbx);replace HR:=sd (Kd.R_below HR.out hbx);replace HB:=sd (HB.out.trans (hbx.mono HB.out.size));clear x0 x1 x2 x3 hbx z0 z1 z2 z3 z4 y0 y1 y2 y3 y4;generalize wr.alloc (Obj.cells #[Value.int IntKind.i64 x.f0,Value.int IntKind.i64 x.f1,Value.string x.f2,Value.int IntKind.i64 x.f3] 48)=w4 at *;obtain ⟨gx,hgx⟩:∃ g,g=wr.heap.size:=⟨_,rfl⟩
  rw [← hgx] at bx ⊢;have BX:=sd bx;clear bx hgx;replace B1:=sd (blk_below B1.out (below_drew1 (Below.refl _ _)));replace BX:=sd (blk_below BX.out (below_drew1 (Below.refl _ _)));replace HR:=sd (Kd.R_below HR.out (below_drew1 (Below.refl _ _)));replace HB:=sd (below_drew1 HB.out);obtain ⟨k0,k1,k2,k3,_⟩:=bk4 BX;refine start_ (n:=13) (S:=fun w'=>w'.cell? ⟨gx,0,none⟩=some (.int .i64 x.f0)∧w'.cell? ⟨gx,1,none⟩=some (.int .i64 x.f1)∧w'.cell? ⟨gx,2,none⟩=some (.string x.f2)∧w'.cell? ⟨gx,3,none⟩=some (.int .i64 x.f3)) (ds:=[11]) #[false,false,false,false,false,false,false,false,false,false,false,false,false] (by kernel_rfl) rfl rfl ⟨k0,k1,k2,k3⟩ (fun hHeld=>?_);clear k0 k1 k2 k3;generalize w4.drew=w5 at hHeld B1 BX HR HB ⊢;refine pB 0 26 ?_;refine pB 1 27 ?_;refine pB 2 28 ?_;refine tB 3 29 hHeld ?_;refine pB 5 31 ?_;refine tB 6 32 hHeld ?_;refine tB 8 34 hHeld ?_;refine one_ (i:=4) (N:=some 30) #[true,true,true,true,true,true,true,false,true,false,false,false,false] rfl rfl (by kernel_rfl) (by decide) (fun K hK=>?_);refine goes_ Tryz.func30 (by kernel_rfl) rfl #[.string fieldB,.int .i64 x.f0] (by rfl) rfl rfl zq30 ?_;refine (NA.out _ (gl_below HG.out HB.out)).mono ?_;rintro e w6 ⟨rfl,hb⟩;refine ⟨_,rfl,?_⟩;replace B1:=sd (blk_below B1.out hb);replace BX:=sd (blk_below BX.out hb);replace HR:=sd (Kd.R_below HR.out hb);replace HB:=sd (HB.out.trans (hb.mono HB.out.size));clear hb hHeld;obtain ⟨k0,k1,k2,k3,_⟩:=bk4 BX;refine hK.out _ _ ⟨k0,k1,k2,k3⟩ (fun hHeld=>?_);clear hK K k0 k1 k2 k3;refine nA 30 ?_;refine one_ (i:=7) (N:=some 33) #[true,true,true,true,true,true,true,true,true,false,false,false,false] rfl rfl (by kernel_rfl) (by decide) (fun K hK=>?_);refine goes_ Tryz.func30 (by kernel_rfl) rfl #[.string opB,.int .i64 x.f1] (by rfl) rfl rfl zq30 ?_;refine (NB.out _ (gl_below HG.out HB.out)).mono ?_;rintro e w7 ⟨rfl,hb⟩;refine ⟨_,rfl,?_⟩;replace B1:=sd (blk_below B1.out hb);replace BX:=sd (blk_below BX.out hb);replace HR:=sd (Kd.R_below HR.out hb);replace HB:=sd (HB.out.trans (hb.mono HB.out.size));clear hb hHeld;obtain ⟨k0,k1,k2,k3,_⟩:=bk4 BX;refine hK.out _ _ ⟨k0,k1,k2,k3⟩ (fun hHeld=>?_);clear hK K k0 k1 k2 k3;refine nA 33 ?_;refine one_ (i:=9) (N:=some 35) #[true,true,true,true,true,true,true,true,true,true,false,false,false] rfl rfl (by kernel_rfl) (by decide) (fun K hK=>?_);refine goes_ Tryz.func31 (by kernel_rfl) rfl #[.agg #[Value.int IntKind.i64 x.f0,Value.int IntKind.i64 x.f1,Value.string x.f2,Value.int IntKind.i64 x.f3]] (by rfl) rfl rfl zq30 ?_;refine (NO.out _ (gl_below HG.out HB.out)).mono ?_;rintro e w8 ⟨rfl,hb⟩;refine ⟨_,rfl,?_⟩;replace B1:=sd (blk_below B1.out hb);replace BX:=sd (blk_below BX.out hb);replace HR:=sd (Kd.R_below HR.out hb);replace HB:=sd (HB.out.trans (hb.mono HB.out.size));clear hb hHeld;obtain ⟨k0,k1,k2,k3,_⟩:=bk4 BX;refine hK.out _ _ ⟨k0,k1,k2,k3⟩ (fun hHeld=>?_);clear hK K k0 k1 k2 k3;refine nA 35 ?_;refine one_ (i:=10) (N:=some 36) #[true,true,true,true,true,true,true,true,true,true,true,false,false] rfl rfl (by kernel_rfl) (by decide) (fun K hK=>?_);refine value_ (v:=.slice (some ⟨w8.heap.size,0,none⟩) 4 4) (w1:=w8.alloc (.cells #[.string link,.string na,.string nb,.string no] 9)) (by rfl) rfl (by go_simp) ?_;have hb9:=below_alloc (Below.refl w8.heap.size w8) (.cells #[.string link,.string na,.string nb,.string no] 9);refine hK.out _ _ ⟨pw_cell_below hb9 hHeld.1,pw_cell_below hb9 hHeld.2.1,pw_cell_below hb9 hHeld.2.2.1,pw_cell_below hb9 hHeld.2.2.2⟩ (fun hHeld=>?_);clear hK K hb9 hHeld;refine nA 36 ?_;refine last_ (i:=11) (N:=some 37) #[true,true,true,true,true,true,true,true,true,true,true,true,false] rfl rfl (by kernel_rfl) (by decide) (fun K hK=>?_);refine strs_step (w0:=w) (W:=w8) w.heap.size (by rfl) (.tmp 26) (.tmp 36) 58 rfl Tryz.underlying58 info9 (.slice A l'.length cap) l' [link,na,nb,no] rfl rfl HR.out (Nat.le_of_ble_eq_true rfl) zq130 HB.out HB.out.size ?_;intro v1 w10 hR hb hg;obtain ⟨l2,hl2⟩:∃ l2,l2=l'++[link,na,nb,no]:=⟨_,rfl⟩
  have HLL2:=sd (show l2.length=2+4 * (i+1) by rw [hl2,List.length_append,HLL.out];show 2+4 * i+4=_;omega);rw [← hl2] at hR HN;obtain ⟨A',cap',rfl⟩:=Kd.R_slice hR;replace B1:=sd (blk_grown B1.out hg (Kd.R_ne HR.out B1.out (by decide)));replace HB:=sd hb;replace HR:=sd hR;clear hb hg hR BX hl2;refine hK.out _ _ ?_;clear hK K;refine nA 37 ?_;refine pB 12 5 ?_;refine done_ (by kernel_rfl) ?_;go_wp2_with fail
  go_roundw
  case rel=>exact ⟨i+1,l2,_,_,_,by omega,(by rw [hw]),rfl,rfl,HLL2,HN,HR,B1,HB⟩
  case measure =>
   refine Nat.sub_lt_sub_left hlt ?_;rw [hw];exact Nat.lt_succ_self i
end A

end Go.Proofs.YtkbgkekegjfkfaaGreatDoor