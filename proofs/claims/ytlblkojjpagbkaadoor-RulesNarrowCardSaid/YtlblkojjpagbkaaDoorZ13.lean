-- By pack.py, a program of this session's.
import Derived.Test.YtlblkojjpagbkaaDoorZ9
import Derived.Test.YtlblkojjpagbkaaDoorZ10
import Derived.Test.YtlblkojjpagbkaaDoorZ11
set_option linter.unusedVariables false
set_option linter.unusedSimpArgs false
namespace Go.Proofs.YtlblkojjpagbkaaDoor
namespace A
open Go.RowKit B WW WL WM
attribute [local go_sem] max2_int min2_int max_two min_two max_three min_three max_four min_four
set_option maxHeartbeats 8000000
set_option maxRecDepth 100000
theorem rules_Check.calls (k:Nat) (a0_0:ByteArray) (A0_1:Option Addr) (c0_1:Nat) (l0_1:List (S27)) (a0_2 a0_3:ByteArray) (A0_4:Option Addr) (c0_4:Nat) (l0_4:List (S35)) (r:Int) (w:World) (hr0_1:Kd.C k27 w A0_1 l0_1.length l0_1) (hc0_1:l0_1.length≤c0_1) (hr0_4:Kd.C k35 w A0_4 l0_4.length l0_4) (hc0_4:l0_4.length≤c0_4) (h:rules_Check.f k a0_0 l0_1 a0_2 a0_3 l0_4=some r) :
  Calls Tryd.prog 7 #[.agg #[.string a0_0,.slice A0_1 l0_1.length c0_1,.string a0_2,.string a0_3,.slice A0_4 l0_4.length c0_4]] w fun e w'=>e=.returned (.int .i64 r)∧Below w.heap.size w w':=by
 have hu25:=Tryd.underlying25;have hu27:=Tryd.underlying27;have HR0_1:=sd hr0_1;have HC0_1:=sd hc0_1;clear hr0_1 hc0_1;have HR0_4:=sd hr0_4;have HC0_4:=sd hc0_4;clear hr0_4 hc0_4;have HB:=sd (Below.refl w.heap.size w);have H:=h;clear h;unfold rules_Check.f at H;have HC2:=sd H;clear H;go_enter Tryd.func7,Tryd.ntmps7
 go_upto_region 1 with (first|((with_reducible refine gate_dst (N:=1) rfl ?_);refine bxA 1 #[.string a0_0,.slice A0_1 l0_1.length c0_1,.string a0_2,.string a0_3,.slice A0_4 l0_4.length c0_4] 25 ?_;intro gb117 hg w3 hbox hb;have BK117:=sd (hbox);have GW117:=gem hg HB;have GE117:=GW117;replace HB:=hbm HB hb;clear hb hbox hg))
 (try simp only [Act.put,List.setIfInBounds_toArray,List.set_cons_zero,List.set_cons_succ])
 go_cut [6] (fun v6 wc=>∃ (kq:Nat) (x6_1:Bool),v6=.bool x6_1∧Aside0 (rules_Check.j0 kq x6_1 a0_0 l0_1 a0_2 a0_3 l0_4=some r)∧Aside0 (kq≤k)∧Aside0 (wc.heap[gb117]?=some (.cells #[.string a0_0,(.slice A0_1 l0_1.length c0_1),.string a0_2,.string a0_3,(.slice A0_4 l0_4.length c0_4)] 25 (0,0)))∧Aside0 (Below w.heap.size w wc))
 case first =>
  have H:=HC2.out;clear HC2;replace H:=bdI H;obtain ⟨t118,A4,H⟩:=H;(try dsimp only at H)
  by_cases c5:t118=true
  ·subst c5;rw [if_pos rfl] at H;replace H:=bdI H;obtain ⟨t119,A6,H⟩:=H;(try dsimp only at H)
   by_cases c7:t119=true
   ·subst c7;rw [if_pos rfl] at H;replace H:=ifI H;rcases H with ⟨c8,H⟩|⟨c8,H⟩
    ·obtain ⟨c8b0,c8b1⟩:=eqI c8;clear c8;(first|rw [c8b0]|(simp only [i64_w,i32_w];rw [c8b0])|skip)
     have H':=sd H;clear H;obtain ⟨_,_,_,_,_,_,_,_,_,_⟩:=bk5 BK117;go_wp2_with (first|((with_reducible refine gate_callee (f:=14) rfl ?_);refine gL 9 Tryd.func14 #[.string a0_0] ?_;(with_reducible refine (words_Code.calls a0_0 true _ A4.out).mono ?_);rintro e w' ⟨rfl,⟨nd,rfl⟩⟩;refine ⟨_,rfl,?_⟩)|(go_at_call 14;(with_reducible refine (words_Code.calls a0_2 true _ A6.out).mono ?_);rintro e w' ⟨rfl,⟨nd,rfl⟩⟩))
     go_meet
     case rel=>exact ⟨_,(false),zq7,H',⟨by first|omega|exact Nat.le_refl _⟩,⟨zq69⟩,⟨zq70⟩⟩
    obtain ⟨c8b0,c8b1⟩:=neI c8;(first|rw [c8b0]|(simp only [i64_w,i32_w];rw [c8b0])|skip)
    replace H:=bdI H;obtain ⟨t120,A10,H⟩:=H;(try dsimp only at H)
    have H':=sd H;clear H;obtain ⟨_,_,_,_,_,_,_,_,_,_⟩:=bk5 BK117;go_wp2_with (first|((with_reducible refine gate_callee (f:=14) rfl ?_);refine gL 9 Tryd.func14 #[.string a0_0] ?_;(with_reducible refine (words_Code.calls a0_0 true _ A4.out).mono ?_);rintro e w' ⟨rfl,⟨nd,rfl⟩⟩;refine ⟨_,rfl,?_⟩)|(go_at_call 14;(with_reducible refine (words_Code.calls a0_2 true _ A6.out).mono ?_);rintro e w' ⟨rfl,⟨nd,rfl⟩⟩)|(go_at_call 14;(with_reducible refine (words_Code.calls a0_3 t120 _ A10.out).mono ?_);rintro e w' ⟨rfl,⟨nd,rfl⟩⟩))
    go_meet
    case rel=>exact ⟨_,(!t120),zq7,H',⟨by first|omega|exact Nat.le_refl _⟩,⟨zq69⟩,⟨zq70⟩⟩
   replace c7:=Bool.eq_false_iff.mpr c7;subst c7;rw [if_neg Bool.false_ne_true] at H;have H':=sd H;clear H;obtain ⟨_,_,_,_,_,_,_,_,_,_⟩:=bk5 BK117;go_wp2_with (first|((with_reducible refine gate_callee (f:=14) rfl ?_);refine gL 9 Tryd.func14 #[.string a0_0] ?_;(with_reducible refine (words_Code.calls a0_0 true _ A4.out).mono ?_);rintro e w' ⟨rfl,⟨nd,rfl⟩⟩;refine ⟨_,rfl,?_⟩)|(go_at_call 14;(with_reducible refine (words_Code.calls a0_2 false _ A6.out).mono ?_);rintro e w' ⟨rfl,⟨nd,rfl⟩⟩))
   go_meet
   case rel=>exact ⟨_,(true),zq7,H',⟨by first|omega|exact Nat.le_refl _⟩,⟨zq69⟩,⟨zq70⟩⟩
  replace c5:=Bool.eq_false_iff.mpr c5;subst c5;rw [if_neg Bool.false_ne_true] at H;have H':=sd H;clear H;obtain ⟨_,_,_,_,_,_,_,_,_,_⟩:=bk5 BK117;go_wp2_with (first|((with_reducible refine gate_callee (f:=14) rfl ?_);refine gL 9 Tryd.func14 #[.string a0_0] ?_;(with_reducible refine (words_Code.calls a0_0 false _ A4.out).mono ?_);rintro e w' ⟨rfl,⟨nd,rfl⟩⟩;refine ⟨_,rfl,?_⟩))
  go_meet
  case rel=>exact ⟨_,(true),zq7,H',⟨by first|omega|exact Nat.le_refl _⟩,⟨zq69⟩,⟨zq70⟩⟩
 case rest =>
  clear HC2;try clear c1
  obtain ⟨kq,x6_1,rfl,HA,HJ1,BK117,HB⟩:=hcut
  cases kq with
 |zero=>exact absurd HA.out (by simp [rules_Check.j0])
 |succ kj1 =>
   have H:=HA.out;clear HA;simp only [rules_Check.j0] at H
   by_cases c14:x6_1=true
   ·subst c14;rw [if_pos rfl] at H;obtain rfl:=Option.some.inj H;go_wp2
    go_ret
    exact ⟨zq4,zq70⟩
   replace c14:=Bool.eq_false_iff.mpr c14;subst c14;rw [if_neg Bool.false_ne_true] at H;replace H:=bdI H;obtain ⟨t121,A15,H⟩:=H;(try dsimp only at H)
   by_cases c16:t121=true
   ·subst c16;rw [if_pos rfl] at H;replace H:=ifI H;rcases H with ⟨c17,H⟩|⟨c17,H⟩
    ·obtain ⟨c17b0,c17b1⟩:=eqI c17;clear c17;obtain rfl:=Option.some.inj H;obtain ⟨_,_,_,_,_,_,_,_,_,_⟩:=bk5 BK117;go_wp2_with (first|((with_reducible refine gate_callee (f:=15) rfl ?_);refine gL 31 Tryd.func15 #[.slice A0_4 l0_4.length c0_4] ?_;(with_reducible refine (dims_Right.calls kj1 _ _ l0_4 true _ ?side1 ?side2 A15.out).mono ?_);(case side1=>exact zq29);(case side2=>exact HC0_4.out);rintro e w19 ⟨rfl,hb⟩;refine ⟨_,rfl,?_⟩;replace BK117:=bkm BK117 hb;replace HB:=hbm HB hb;clear hb;obtain ⟨_,_,_,_,_,_,_,_,_,_⟩:=bk5 BK117))
     go_ret
     exact ⟨zq4,zq70⟩
    obtain ⟨c17b0,c17b1⟩:=neI c17;have c17b2:¬ (l0_1=[]):=fun h_=>c17 (by rw [h_];rfl)
    replace H:=ifI H;rcases H with ⟨c21,H⟩|⟨c21,H⟩
    ·have c21b0:decide (8 < (l0_1.length:Int))=true:=decide_eq_true c21;have c21b1:decide (8 < l0_1.length)=true:=decide_eq_true (by omega);clear c21;obtain rfl:=Option.some.inj H;obtain ⟨_,_,_,_,_,_,_,_,_,_⟩:=bk5 BK117;go_wp2_with (first|((with_reducible refine gate_callee (f:=15) rfl ?_);refine gL 31 Tryd.func15 #[.slice A0_4 l0_4.length c0_4] ?_;(with_reducible refine (dims_Right.calls kj1 _ _ l0_4 true _ ?side1 ?side2 A15.out).mono ?_);(case side1=>exact zq29);(case side2=>exact HC0_4.out);rintro e w23 ⟨rfl,hb⟩;refine ⟨_,rfl,?_⟩;replace BK117:=bkm BK117 hb;replace HB:=hbm HB hb;clear hb;obtain ⟨_,_,_,_,_,_,_,_,_,_⟩:=bk5 BK117))
     go_ret
     exact ⟨zq4,zq70⟩
    have c21b0:decide (8 < (l0_1.length:Int))=false:=decide_eq_false c21;have c21b1:decide (8 < l0_1.length)=false:=decide_eq_false (by omega);clear c21;have H':=sd H;clear H;obtain ⟨_,_,_,_,_,_,_,_,_,_⟩:=bk5 BK117;go_wp2_with (first|((with_reducible refine gate_callee (f:=15) rfl ?_);refine gL 31 Tryd.func15 #[.slice A0_4 l0_4.length c0_4] ?_;(with_reducible refine (dims_Right.calls kj1 _ _ l0_4 true _ ?side1 ?side2 A15.out).mono ?_);(case side1=>exact zq29);(case side2=>exact HC0_4.out);rintro e w26 ⟨rfl,hb⟩;refine ⟨_,rfl,?_⟩;replace BK117:=bkm BK117 hb;replace HB:=hbm HB hb;clear hb;obtain ⟨_,_,_,_,_,_,_,_,_,_⟩:=bk5 BK117))
    go_loopg [46] kj1 (fun kq v46 w'=>∃ (x46_2:Int),v46=.int .i64 x46_2∧Aside0 (rules_Check.l0 kq l0_1 (l0_1.length:Int) x46_2=some r)∧Aside0 (kq≤kj1)∧Aside0 (w'.heap[gb117]?=some (.cells #[.string a0_0,(.slice A0_1 l0_1.length c0_1),.string a0_2,.string a0_3,(.slice A0_4 l0_4.length c0_4)] 25 (0,0)))∧Aside0 (Below w.heap.size w w'))
    case atStart=>exact ⟨(0),zq7,H',⟨Nat.le_refl _⟩,⟨zq69⟩,⟨zq70⟩⟩
    case round =>
     clear H';try clear c1
     obtain ⟨x46_2,rfl,HA,HK2,BK117,HB⟩:=hrel
     cases gk with
    |zero=>exact absurd HA.out (by simp [rules_Check.l0])
    |succ k2 =>
      have H:=HA.out;clear HA;simp only [rules_Check.l0] at H
      replace H:=ifI H;rcases H with ⟨c28,H⟩|⟨c28,H⟩
      ·have c28b0:decide (x46_2 < (l0_1.length:Int))=true:=decide_eq_true c28;clear c28;replace H:=ifI H;rcases H with ⟨c29,H⟩|⟨c29,H⟩
       ·have c29b0:decide (0≤x46_2)=true:=decide_eq_true c29;clear c29;replace H:=ifI H;rcases H with ⟨c30,H⟩|⟨c30,H⟩
        ·have c30b0:decide (x46_2 < (l0_1.length:Int))=true:=decide_eq_true c30;clear c30;replace H:=bdI H;obtain ⟨t124,A31,H⟩:=H;(try dsimp only at H)
         replace H:=ifI H;rcases H with ⟨c32,H⟩|⟨c32,H⟩
         ·obtain ⟨c32b0,c32b1⟩:=eqI c32;clear c32;have H':=sd H;clear H;have p122:0≤(x46_2:Int):=od;have q122:x46_2 < (l0_1.length:Int):=od;obtain ⟨ad122,e122,hx122_0,hx122_1,hx122_2,hx122_3⟩:=at_T27 HR0_1.out x46_2 p122 q122
          cases e122
          replace hx122_0:=(HB.out.cell (World.block_lt_of_cell? w _ hx122_0)).trans hx122_0;replace hx122_1:=(HB.out.cell (World.block_lt_of_cell? w _ hx122_1)).trans hx122_1;replace hx122_2:=(HB.out.cell (World.block_lt_of_cell? w _ hx122_2)).trans hx122_2;replace hx122_3:=(HB.out.cell (World.block_lt_of_cell? w _ hx122_3)).trans hx122_3;replace p122:=eq_true p122;replace q122:=eq_true q122;go_wp2_with (first|((with_reducible refine gate_dst (N:=4) rfl ?_);refine bxA 4 #[.int .i64 0,.int .i64 0,.string (⟨#[]⟩:ByteArray),.int .i64 0] 27 ?_;intro gb123 hg w33 hbox hb;have BK123:=sd (hbox);have GW123:=gem hg HB;have GE123:=GW123;have NB117_123:=nlm hg BK117;have NB123_117:=ngm hg BK117;replace BK117:=bkm BK117 hb;replace HB:=hbm HB hb;clear hb hbox hg;have hnb34:=NB123_117.out;have hnc34:=NB117_123.out;obtain ⟨_,_,_,_,_,_,_,_⟩:=bk4 BK123)|((with_reducible refine gate_callee (f:=16) rfl ?_);refine gL 51 Tryd.func16 #[.agg #[.int .i64 ((rd_T27 l0_1 x46_2).f0),.int .i64 ((rd_T27 l0_1 x46_2).f1),.string ((rd_T27 l0_1 x46_2).f2),.int .i64 ((rd_T27 l0_1 x46_2).f3)]] ?_;(with_reducible refine (rules_cond.calls k2 ((rd_T27 l0_1 x46_2).f0) ((rd_T27 l0_1 x46_2).f1) ((rd_T27 l0_1 x46_2).f2) ((rd_T27 l0_1 x46_2).f3) t124 _ A31.out).mono ?_);rintro e w36 ⟨rfl,hb⟩;refine ⟨_,rfl,?_⟩;replace BK117:=sd (blk_below (g:=gb117) (o:=.cells #[.string a0_0,.slice (some ad122) l0_1.length c0_1,.string a0_2,.string a0_3,.slice A0_4 l0_4.length c0_4] 25 (0,0)) (by (with_reducible repeat (first|refine blk_drewN ?_ _|refine blk_drew ?_|refine blk_alloc ?_ _));refine blk_far ?_ NB117_123.out _;(with_reducible repeat (first|refine blk_drewN ?_ _|refine blk_drew ?_|refine blk_alloc ?_ _));refine blk_far ?_ NB117_123.out _;(with_reducible repeat (first|refine blk_drewN ?_ _|refine blk_drew ?_|refine blk_alloc ?_ _));refine blk_far ?_ NB117_123.out _;(with_reducible repeat (first|refine blk_drewN ?_ _|refine blk_drew ?_|refine blk_alloc ?_ _));refine blk_far ?_ NB117_123.out _;(with_reducible repeat (first|refine blk_drewN ?_ _|refine blk_drew ?_|refine blk_alloc ?_ _));exact BK117.out) hb);replace BK123:=sd (blk_below (g:=gb123) (o:=.cells #[.int .i64 ((rd_T27 l0_1 x46_2).f0),.int .i64 ((rd_T27 l0_1 x46_2).f1),.string ((rd_T27 l0_1 x46_2).f2),.int .i64 ((rd_T27 l0_1 x46_2).f3)] 27 (0,0)) (by (with_reducible repeat (first|refine blk_drewN ?_ _|refine blk_drew ?_|refine blk_alloc ?_ _));refine blk_put (cs:=#[.int .i64 ((rd_T27 l0_1 x46_2).f0),.int .i64 ((rd_T27 l0_1 x46_2).f1),.string ((rd_T27 l0_1 x46_2).f2),.int .i64 0]) ?_ 3 _ rfl;(with_reducible repeat (first|refine blk_drewN ?_ _|refine blk_drew ?_|refine blk_alloc ?_ _));refine blk_put (cs:=#[.int .i64 ((rd_T27 l0_1 x46_2).f0),.int .i64 ((rd_T27 l0_1 x46_2).f1),.string (⟨#[]⟩:ByteArray),.int .i64 0]) ?_ 2 _ rfl;(with_reducible repeat (first|refine blk_drewN ?_ _|refine blk_drew ?_|refine blk_alloc ?_ _));refine blk_put (cs:=#[.int .i64 ((rd_T27 l0_1 x46_2).f0),.int .i64 0,.string (⟨#[]⟩:ByteArray),.int .i64 0]) ?_ 1 _ rfl;(with_reducible repeat (first|refine blk_drewN ?_ _|refine blk_drew ?_|refine blk_alloc ?_ _));refine blk_put (cs:=#[.int .i64 0,.int .i64 0,.string (⟨#[]⟩:ByteArray),.int .i64 0]) ?_ 0 _ rfl;(with_reducible repeat (first|refine blk_drewN ?_ _|refine blk_drew ?_|refine blk_alloc ?_ _));exact BK123.out) hb);replace HB:=hbm HB hb;clear hb))
          go_roundg k2
          case measure=>have:=HJ1.out;have:=HK2.out;omega
          case rel=>exact ⟨(wrap64 (x46_2+1)),zq7,H',⟨zq21⟩,⟨zq69⟩,⟨by repeat (first|(with_reducible first|exact HB.out|apply below_alloc|apply pw_below_drewN|apply below_drew1|refine below_set ?_ GE117.out|refine below_set ?_ GE123.out)|exact HB.out)⟩⟩
         obtain ⟨c32b0,c32b1⟩:=neI c32;obtain rfl:=Option.some.inj H;have p122:0≤(x46_2:Int):=od;have q122:x46_2 < (l0_1.length:Int):=od;obtain ⟨ad122,e122,hx122_0,hx122_1,hx122_2,hx122_3⟩:=at_T27 HR0_1.out x46_2 p122 q122
         cases e122
         replace hx122_0:=(HB.out.cell (World.block_lt_of_cell? w _ hx122_0)).trans hx122_0;replace hx122_1:=(HB.out.cell (World.block_lt_of_cell? w _ hx122_1)).trans hx122_1;replace hx122_2:=(HB.out.cell (World.block_lt_of_cell? w _ hx122_2)).trans hx122_2;replace hx122_3:=(HB.out.cell (World.block_lt_of_cell? w _ hx122_3)).trans hx122_3;replace p122:=eq_true p122;replace q122:=eq_true q122;go_wp2_with (first|((with_reducible refine gate_dst (N:=4) rfl ?_);refine bxA 4 #[.int .i64 0,.int .i64 0,.string (⟨#[]⟩:ByteArray),.int .i64 0] 27 ?_;intro gb123 hg w37 hbox hb;have BK123:=sd (hbox);have GW123:=gem hg HB;have GE123:=GW123;have NB117_123:=nlm hg BK117;have NB123_117:=ngm hg BK117;replace BK117:=bkm BK117 hb;replace HB:=hbm HB hb;clear hb hbox hg;have hnb38:=NB123_117.out;have hnc38:=NB117_123.out;obtain ⟨_,_,_,_,_,_,_,_⟩:=bk4 BK123)|((with_reducible refine gate_callee (f:=16) rfl ?_);refine gL 51 Tryd.func16 #[.agg #[.int .i64 ((rd_T27 l0_1 x46_2).f0),.int .i64 ((rd_T27 l0_1 x46_2).f1),.string ((rd_T27 l0_1 x46_2).f2),.int .i64 ((rd_T27 l0_1 x46_2).f3)]] ?_;(with_reducible refine (rules_cond.calls k2 ((rd_T27 l0_1 x46_2).f0) ((rd_T27 l0_1 x46_2).f1) ((rd_T27 l0_1 x46_2).f2) ((rd_T27 l0_1 x46_2).f3) t124 _ A31.out).mono ?_);rintro e w40 ⟨rfl,hb⟩;refine ⟨_,rfl,?_⟩;replace BK117:=sd (blk_below (g:=gb117) (o:=.cells #[.string a0_0,.slice (some ad122) l0_1.length c0_1,.string a0_2,.string a0_3,.slice A0_4 l0_4.length c0_4] 25 (0,0)) (by (with_reducible repeat (first|refine blk_drewN ?_ _|refine blk_drew ?_|refine blk_alloc ?_ _));refine blk_far ?_ NB117_123.out _;(with_reducible repeat (first|refine blk_drewN ?_ _|refine blk_drew ?_|refine blk_alloc ?_ _));refine blk_far ?_ NB117_123.out _;(with_reducible repeat (first|refine blk_drewN ?_ _|refine blk_drew ?_|refine blk_alloc ?_ _));refine blk_far ?_ NB117_123.out _;(with_reducible repeat (first|refine blk_drewN ?_ _|refine blk_drew ?_|refine blk_alloc ?_ _));refine blk_far ?_ NB117_123.out _;(with_reducible repeat (first|refine blk_drewN ?_ _|refine blk_drew ?_|refine blk_alloc ?_ _));exact BK117.out) hb);replace BK123:=sd (blk_below (g:=gb123) (o:=.cells #[.int .i64 ((rd_T27 l0_1 x46_2).f0),.int .i64 ((rd_T27 l0_1 x46_2).f1),.string ((rd_T27 l0_1 x46_2).f2),.int .i64 ((rd_T27 l0_1 x46_2).f3)] 27 (0,0)) (by (with_reducible repeat (first|refine blk_drewN ?_ _|refine blk_drew ?_|refine blk_alloc ?_ _));refine blk_put (cs:=#[.int .i64 ((rd_T27 l0_1 x46_2).f0),.int .i64 ((rd_T27 l0_1 x46_2).f1),.string ((rd_T27 l0_1 x46_2).f2),.int .i64 0]) ?_ 3 _ rfl;(with_reducible repeat (first|refine blk_drewN ?_ _|refine blk_drew ?_|refine blk_alloc ?_ _));refine blk_put (cs:=#[.int .i64 ((rd_T27 l0_1 x46_2).f0),.int .i64 ((rd_T27 l0_1 x46_2).f1),.string (⟨#[]⟩:ByteArray),.int .i64 0]) ?_ 2 _ rfl;(with_reducible repeat (first|refine blk_drewN ?_ _|refine blk_drew ?_|refine blk_alloc ?_ _));refine blk_put (cs:=#[.int .i64 ((rd_T27 l0_1 x46_2).f0),.int .i64 0,.string (⟨#[]⟩:ByteArray),.int .i64 0]) ?_ 1 _ rfl;(with_reducible repeat (first|refine blk_drewN ?_ _|refine blk_drew ?_|refine blk_alloc ?_ _));refine blk_put (cs:=#[.int .i64 0,.int .i64 0,.string (⟨#[]⟩:ByteArray),.int .i64 0]) ?_ 0 _ rfl;(with_reducible repeat (first|refine blk_drewN ?_ _|refine blk_drew ?_|refine blk_alloc ?_ _));exact BK123.out) hb);replace HB:=hbm HB hb;clear hb))
         go_ret
         exact ⟨zq4,by repeat (first|(with_reducible first|exact HB.out|apply below_alloc|apply pw_below_drewN|apply below_drew1|refine below_set ?_ GE117.out|refine below_set ?_ GE123.out)|exact HB.out)⟩
        exact absurd H (by simp)
       exact absurd H (by simp)
      have c28b0:decide (x46_2 < (l0_1.length:Int))=false:=decide_eq_false c28;clear c28;obtain rfl:=Option.some.inj H;go_wp2
      go_ret
      exact ⟨zq4,zq70⟩
   replace c16:=Bool.eq_false_iff.mpr c16;subst c16;rw [if_neg Bool.false_ne_true] at H;obtain rfl:=Option.some.inj H;obtain ⟨_,_,_,_,_,_,_,_,_,_⟩:=bk5 BK117;go_wp2_with (first|((with_reducible refine gate_callee (f:=15) rfl ?_);refine gL 31 Tryd.func15 #[.slice A0_4 l0_4.length c0_4] ?_;(with_reducible refine (dims_Right.calls kj1 _ _ l0_4 false _ ?side1 ?side2 A15.out).mono ?_);(case side1=>exact zq29);(case side2=>exact HC0_4.out);rintro e w42 ⟨rfl,hb⟩;refine ⟨_,rfl,?_⟩;replace BK117:=bkm BK117 hb;replace HB:=hbm HB hb;clear hb))
   go_ret
   exact ⟨zq4,zq70⟩
theorem days_Text.calls (k:Nat) (a0:Int) (r1:ByteArray) (r2:Int) (w:World) (h:days_Text.f k a0=some (r1,r2)) (hG:Gl w) :
  Calls Tryd.prog 46 #[.int .i64 a0] w fun e w'=>e=.returned (.tuple #[.string r1,.int .i64 r2])∧Below w.heap.size w w':=by
 have HG:=sd hG;clear hG;have hu105:=Tryd.underlying105;have HB:=sd (Below.refl w.heap.size w);have H:=h;clear h;unfold days_Text.f at H;replace H:=bdI H;obtain ⟨⟨t136,t137,t138,t139⟩,A2,H⟩:=H;(try dsimp only at H)
 replace H:=ifI H;rcases H with ⟨c3,H⟩|⟨c3,H⟩
 ·obtain ⟨c3b0,c3b1⟩:=eqI c3;clear c3;replace H:=bdI H;obtain ⟨t141,A4,H⟩:=H;(try dsimp only at H)
  replace H:=ifI H;rcases H with ⟨c5,H⟩|⟨c5,H⟩
  ·have c5b0:=eq_true c5;have c5b1:decide (t141.size+1≤9223372036854775807)=true:=decide_eq_true c5;try have c5b2:(9223372036854775807 < t141.size+1)=False:=eq_false (Nat.not_lt.2 c5)
   replace H:=bdI H;obtain ⟨t142,A6,H⟩:=H;(try dsimp only at H)
   replace H:=ifI H;rcases H with ⟨c7,H⟩|⟨c7,H⟩
   ·have c7b0:=eq_true c7;have c7b1:decide ((t141++(⟨#[45]⟩:ByteArray)).size+t142.size≤9223372036854775807)=true:=decide_eq_true c7;try have c7b2:(9223372036854775807 < (t141++(⟨#[45]⟩:ByteArray)).size+t142.size)=False:=eq_false (Nat.not_lt.2 c7)
    try have c7y:(9223372036854775807 < t141.size+1+t142.size)=False:=by have h_:=c7b2;simp only [ByteArray.size_append] at h_;exact h_
    replace H:=ifI H;rcases H with ⟨c8,H⟩|⟨c8,H⟩
    ·have c8b0:=eq_true c8;have c8b1:decide (((t141++(⟨#[45]⟩:ByteArray))++t142).size+1≤9223372036854775807)=true:=decide_eq_true c8;try have c8b2:(9223372036854775807 < ((t141++(⟨#[45]⟩:ByteArray))++t142).size+1)=False:=eq_false (Nat.not_lt.2 c8)
     try have c8y:(9223372036854775807 < t141.size+1+t142.size+1)=False:=by have h_:=c8b2;simp only [ByteArray.size_append] at h_;exact h_
     replace H:=bdI H;obtain ⟨t143,A9,H⟩:=H;(try dsimp only at H)
     replace H:=ifI H;rcases H with ⟨c10,H⟩|⟨c10,H⟩
     ·have c10b0:=eq_true c10;have c10b1:decide ((((t141++(⟨#[45]⟩:ByteArray))++t142)++(⟨#[45]⟩:ByteArray)).size+t143.size≤9223372036854775807)=true:=decide_eq_true c10;try have c10b2:(9223372036854775807 < (((t141++(⟨#[45]⟩:ByteArray))++t142)++(⟨#[45]⟩:ByteArray)).size+t143.size)=False:=eq_false (Nat.not_lt.2 c10)
      try have c10y:(9223372036854775807 < t141.size+1+t142.size+1+t143.size)=False:=by have h_:=c10b2;simp only [ByteArray.size_append] at h_;exact h_
      simp only [Option.some.injEq,Prod.mk.injEq] at H
      obtain ⟨rfl,rfl⟩:=H;go_enter Tryd.func46,Tryd.ntmps46
      try go_wp2_with (first|((with_reducible refine gate_callee (f:=60) rfl ?_);refine gL 7 Tryd.func60 #[.int .i64 a0] ?_;(with_reducible refine (days_Date.calls k a0 t136 t137 t138 t139 _ A2.out (gl_below HG.out zq20)).mono ?_);rintro e w11 ⟨rfl,hb⟩;refine ⟨_,rfl,?_⟩;replace HB:=hbm HB hb;clear hb)|((with_reducible refine gate_dst (N:=4) rfl ?_);refine bxA 4 #[.int .i64 0,.int .i64 0,.int .i64 0] 105 ?_;intro gb140 hg w12 hbox hb;have BK140:=sd (hbox);have GW140:=gem hg HB;have GE140:=GW140;replace HB:=hbm HB hb;clear hb hbox hg;obtain ⟨_,_,_,_,_,_⟩:=bk3 BK140))
      have n0_:Aside0 ((((w12.setCell ⟨gb140,0,none⟩ (.int .i64 t136)).setCell ⟨gb140,1,none⟩ (.int .i64 t137)).setCell ⟨gb140,2,none⟩ (.int .i64 t138)).heap[gb140]?=some (.cells #[.int .i64 t136,.int .i64 t137,.int .i64 t138] 105 (0,0))):=⟨by (with_reducible repeat (first|refine blk_drewN ?_ _|refine blk_drew ?_|refine blk_alloc ?_ _));refine blk_put (cs:=#[.int .i64 t136,.int .i64 t137,.int .i64 0]) ?_ 2 _ rfl;(with_reducible repeat (first|refine blk_drewN ?_ _|refine blk_drew ?_|refine blk_alloc ?_ _));refine blk_put (cs:=#[.int .i64 t136,.int .i64 0,.int .i64 0]) ?_ 1 _ rfl;(with_reducible repeat (first|refine blk_drewN ?_ _|refine blk_drew ?_|refine blk_alloc ?_ _));refine blk_put (cs:=#[.int .i64 0,.int .i64 0,.int .i64 0]) ?_ 0 _ rfl;(with_reducible repeat (first|refine blk_drewN ?_ _|refine blk_drew ?_|refine blk_alloc ?_ _));exact BK140.out⟩
      have n1_:Aside0 (Below w.heap.size w (((w12.setCell ⟨gb140,0,none⟩ (.int .i64 t136)).setCell ⟨gb140,1,none⟩ (.int .i64 t137)).setCell ⟨gb140,2,none⟩ (.int .i64 t138))):=⟨zq76⟩
      (try clear BK140)
      (try clear HB)
      generalize (((w12.setCell ⟨gb140,0,none⟩ (.int .i64 t136)).setCell ⟨gb140,1,none⟩ (.int .i64 t137)).setCell ⟨gb140,2,none⟩ (.int .i64 t138))=w14 at n0_ n1_ ⊢;have BK140:=n0_;have HB:=n1_;clear n0_ n1_;replace BK140:=sd (blk_drew BK140.out);replace HB:=sd (below_drew1 HB.out);refine start_ (n:=15) (S:=fun w'=>w'.cell? ⟨gb140,0,none⟩=some (.int .i64 t136)∧w'.cell? ⟨gb140,1,none⟩=some (.int .i64 t137)∧w'.cell? ⟨gb140,2,none⟩=some (.int .i64 t138)) (ds:=[]) #[false,false,false,false,false,false,false,false,false,false,false,false,false,false,false] (by kernel_rfl) rfl rfl ⟨(blk_cell BK140.out 0).trans rfl,(blk_cell BK140.out 1).trans rfl,(blk_cell BK140.out 2).trans rfl⟩ (fun hHeld=>?_);refine with_tabW days_Text.tab4 days_Text.bits4 (fun HT_ HW_=>?_);generalize w14.drew=w15 at BK140 HB hHeld ⊢;refine pA 0 13 HT_.out ?_;refine pA 4 17 HT_.out ?_;refine pA 9 22 HT_.out ?_;refine tA 1 14 HT_.out HW_.out hHeld ?_;refine tA 5 18 HT_.out HW_.out hHeld ?_;refine tA 10 23 HT_.out HW_.out hHeld ?_;refine one_ (i:=2) (N:=some 15) #[true,true,true,false,true,true,false,false,false,true,true,false,false,false,false] rfl rfl (one_of HT_.out (by kernel_rfl)) (by decide) (fun K hK=>?_);refine goes_ Tryd.func45 (by kernel_rfl) rfl #[.int .i64 t136] (by rfl) rfl rfl zq66 ?_;with_reducible refine (num_Text.calls t136 t141 _ A4.out).mono ?_
      rintro e w16 ⟨rfl,hb⟩;refine ⟨_,rfl,?_⟩;replace BK140:=bkm BK140 hb;replace HB:=hbm HB hb;clear hb;refine hK.out _ _ ⟨(blk_cell BK140.out 0).trans rfl,(blk_cell BK140.out 1).trans rfl,(blk_cell BK140.out 2).trans rfl⟩ (fun hHeld=>?_);clear hK K;refine nA 15 ?_;refine pA 3 16 HT_.out ?_;refine one_ (i:=6) (N:=some 19) #[true,true,true,true,true,true,true,false,false,true,true,false,false,false,false] rfl rfl (one_of HT_.out (by kernel_rfl)) (by decide) (fun K hK=>?_);refine goes_ Tryd.func61 (by kernel_rfl) rfl #[.int .i64 t137] (by rfl) rfl rfl zq66 ?_;with_reducible refine (days_padded.calls t137 t142 _ A6.out).mono ?_
      rintro e w17 ⟨rfl,hb⟩;refine ⟨_,rfl,?_⟩;replace BK140:=bkm BK140 hb;replace HB:=hbm HB hb;clear hb;refine hK.out _ _ ⟨(blk_cell BK140.out 0).trans rfl,(blk_cell BK140.out 1).trans rfl,(blk_cell BK140.out 2).trans rfl⟩ (fun hHeld=>?_);clear hK K;refine nA 19 ?_;refine pA 7 20 HT_.out ?_;refine pA 8 21 HT_.out ?_;refine one_ (i:=11) (N:=some 24) #[true,true,true,true,true,true,true,true,true,true,true,true,false,false,false] rfl rfl (one_of HT_.out (by kernel_rfl)) (by decide) (fun K hK=>?_);refine goes_ Tryd.func61 (by kernel_rfl) rfl #[.int .i64 t138] (by rfl) rfl rfl zq66 ?_;with_reducible refine (days_padded.calls t138 t143 _ A9.out).mono ?_
      rintro e w18 ⟨rfl,hb⟩;refine ⟨_,rfl,?_⟩;replace BK140:=bkm BK140 hb;replace HB:=hbm HB hb;clear hb;refine hK.out _ _ ⟨(blk_cell BK140.out 0).trans rfl,(blk_cell BK140.out 1).trans rfl,(blk_cell BK140.out 2).trans rfl⟩ (fun hHeld=>?_);clear hK K;refine nA 24 ?_;refine pA 12 25 HT_.out ?_;refine pA 13 2 HT_.out ?_;refine pA 14 3 HT_.out ?_;refine done_ (done_of HT_.out (by kernel_rfl)) ?_;try go_wp2
      go_ret2
      exact ⟨zq4,zq76⟩
     exact absurd H (by simp)
    exact absurd H (by simp)
   exact absurd H (by simp)
  exact absurd H (by simp)
 obtain ⟨c3b0,c3b1⟩:=neI c3;simp only [Option.some.injEq,Prod.mk.injEq] at H
 obtain ⟨rfl,rfl⟩:=H;go_enter Tryd.func46,Tryd.ntmps46
 go_wp2_with (first|((with_reducible refine gate_callee (f:=60) rfl ?_);refine gL 7 Tryd.func60 #[.int .i64 a0] ?_;(with_reducible refine (days_Date.calls k a0 t136 t137 t138 t139 _ A2.out (gl_below HG.out zq20)).mono ?_);rintro e w19 ⟨rfl,hb⟩;refine ⟨_,rfl,?_⟩;replace HB:=hbm HB hb;clear hb)|((with_reducible refine gate_dst (N:=4) rfl ?_);refine bxA 4 #[.int .i64 0,.int .i64 0,.int .i64 0] 105 ?_;intro gb140 hg w20 hbox hb;have BK140:=sd (hbox);have GW140:=gem hg HB;have GE140:=GW140;replace HB:=hbm HB hb;clear hb hbox hg;obtain ⟨_,_,_,_,_,_⟩:=bk3 BK140))
 go_ret2
 exact ⟨zq4,zq76⟩
theorem words_Quote.calls (k:Nat) (a0 r1:ByteArray) (r2:Int) (w:World) (h:words_Quote.f k a0=some (r1,r2)) :
  Calls Tryd.prog 47 #[.string a0] w fun e w'=>e=.returned (.tuple #[.string r1,.int .i64 r2])∧Below w.heap.size w w':=by
 have HB:=sd (Below.refl w.heap.size w);have H:=h;clear h;unfold words_Quote.f at H;replace H:=bdI H;obtain ⟨t144,A2,H⟩:=H;(try dsimp only at H)
 by_cases c3:t144=true
 ·subst c3;rw [if_pos rfl] at H;obtain ⟨y145,hy145⟩:∃ y_:List Int,y_=(([34]:List Int)):=⟨_,rfl⟩
  replace H:(words_Quote.l0 k a0 y145 (a0.size:Int) 0)=some (r1,r2):=by first|(rw [hy145];with_reducible exact H)|(have H2_:=(Option.bind_some _ _).symm.trans H;rw [hy145];with_reducible exact H2_)|(have H2_:=(Option.bind_some _ _).symm.trans H;with_reducible exact H2_)|with_reducible exact H|(rw [hy145];exact H)|exact H
  have Ny145:=sd hy145;clear hy145;have H':=sd H;clear H;go_enter Tryd.func47,Tryd.ntmps47
  go_wp2_with (first|((with_reducible refine gate_callee (f:=41) rfl ?_);refine gL 7 Tryd.func41 #[.string a0] ?_;(with_reducible refine (words_Plain.calls a0 true _ A2.out).mono ?_);rintro e w' ⟨rfl,⟨nd,rfl⟩⟩;refine ⟨_,rfl,?_⟩)|((with_reducible refine gate_dst (N:=9) rfl ?_);refine Kd.R_lit (Kd.int .u8) _ 5 ?hg (N:=9) ?hd (xs:=([34]:List Int)) (inner:=[.int .u8 34]) (ok:=fun _=>True) (okp:=fun _=>True) ?hr ?hp (fun _ hk=>hk) trivial (Below.refl _ _) (Nat.le_refl _) (by simp) ?_;(case hd=>rfl);(case hg=>rfl);(case hr=>first|(go_simp;done)|(go_simp;rfl));(case hp=>exact (Reps.one (show Kd.M (Kd.int .u8) _ _ _ 34 [.int .u8 34] from rfl) (Reps.none _ _)));intro v146 w4 ho5 hb hg_ hnew_;clear hg_ hnew_;(first|rw [← Ny145.out] at ho5|(simp only [Int.reduceToNat] at ho5;rw [← Ny145.out] at ho5));have HO147:=sd (Kd.R_lower ho5 (below_size zq6));replace HB:=hbm HB hb;clear hb ho5))
  go_loopg [4,12] k (fun kq v4 v12 w'=>∃ (x4_1:List Int) (x12_1:Int),v12=.int .i64 x12_1∧Aside0 (words_Quote.l0 kq a0 x4_1 (a0.size:Int) x12_1=some (r1,r2))∧Aside0 (kq≤k)∧Aside0 (Kd.R (Kd.int .u8) 5 w' w.heap.size (fun _=>True) v4 x4_1)∧Aside0 (Below w.heap.size w w'))
  case atStart=>exact ⟨(y145),(0),zq7,H',⟨Nat.le_refl _⟩,⟨by (with_reducible repeat (first|apply Kd.R_alloc|apply Kd.R_drewN|apply Kd.R_drew));exact HO147.out⟩,⟨zq6⟩⟩
  case round =>
   clear H';try clear p2
   obtain ⟨x4_1,x12_1,rfl,HA,HK1,HO_4,HB⟩:=hrel
   cases gk with
  |zero=>exact absurd HA.out (by simp [words_Quote.l0])
  |succ k1 =>
    have H:=HA.out;clear HA;simp only [words_Quote.l0] at H
    replace H:=ifI H;rcases H with ⟨c6,H⟩|⟨c6,H⟩
    ·have c6b0:decide (x12_1 < (a0.size:Int))=true:=decide_eq_true c6;clear c6;replace H:=ifI H;rcases H with ⟨c7,H⟩|⟨c7,H⟩
     ·have c7b0:decide (0≤x12_1)=true:=decide_eq_true c7;clear c7;replace H:=ifI H;rcases H with ⟨c8,H⟩|⟨c8,H⟩
      ·have c8b0:decide (x12_1 < (a0.size:Int))=true:=decide_eq_true c8;clear c8;replace H:=ifI H;rcases H with ⟨c10,H⟩|⟨c10,H⟩
       ·obtain ⟨c10b0,c10b1⟩:=eqI c10;clear c10;replace H:=ifI H;rcases H with ⟨c11,H⟩|⟨c11,H⟩
        ·have LMc11:=sd c11;clear c11;obtain ⟨y148,hy148⟩:∃ y_:List Int,y_=(x4_1++[92]):=⟨_,rfl⟩
         replace H:(if y148.length < 140737488355328 then (words_Quote.l0 k1 a0 (y148++[bt a0 x12_1]) (a0.size:Int) (wrap64 (x12_1+1))) else (none))=some (r1,r2):=by first|(rw [hy148];with_reducible exact H)|(have H2_:=(Option.bind_some _ _).symm.trans H;rw [hy148];with_reducible exact H2_)|(have H2_:=(Option.bind_some _ _).symm.trans H;with_reducible exact H2_)|with_reducible exact H|(rw [hy148];exact H)|exact H
         have Ny148:=sd hy148;clear hy148;replace H:=ifI H;rcases H with ⟨c13,H⟩|⟨c13,H⟩
         ·have LMc13:=sd c13;clear c13;obtain ⟨y151,hy151⟩:∃ y_:List Int,y_=(y148++[bt a0 x12_1]):=⟨_,rfl⟩
          replace H:(words_Quote.l0 k1 a0 y151 (a0.size:Int) (wrap64 (x12_1+1)))=some (r1,r2):=by first|(rw [hy151];with_reducible exact H)|(have H2_:=(Option.bind_some _ _).symm.trans H;rw [hy151];with_reducible exact H2_)|(have H2_:=(Option.bind_some _ _).symm.trans H;with_reducible exact H2_)|with_reducible exact H|(rw [hy151];exact H)|exact H
          have Ny151:=sd hy151;clear hy151;have H':=sd H;clear H;have p9:0≤(x12_1:Int):=od;have q9:x12_1 < (a0.size:Int):=od;have hx9:=bt_at a0 x12_1;replace p9:=eq_true p9;replace q9:=eq_true q9;go_wp2_with (first|((with_reducible refine gate_builtin (b:=.append) (xs:=#[.tmp 25,.tmp 26]) rfl ?_);at_builtin;refine Kd.R_append (Kd.int .u8) (w0:=w) w.heap.size rfl (.tmp 25) (.tmp 26) 81 5 (.int .u8 0) 1 rfl Tryd.underlying81 info5 rfl (by decide) (by omega) u4 x4_1 92 [.int .u8 92] (fun _=>True) (fun _=>False) rfl rfl ?aP (fun _ hk=>hk.elim) ?aF ?aO ?aB ?aS ?aL ?_;(case aP=>exact rfl);(case aB=>exact zq6);(case aF=>exact (fun _ _=>trivial));(case aO=>exact zq77);(case aS=>exact (below_size zq6));(case aL=>have:=LMc11.out;omega);intro v149 w14 ho hb hg hat;rw [← Ny148.out] at ho;have HO150:=sd (ho);replace HB:=sd (hb);clear HO_4;clear ho hb hg hat;have p12:0≤(x12_1:Int):=od;have q12:x12_1 < (a0.size:Int):=od;have hx12:=bt_at a0 x12_1;replace p12:=eq_true p12;replace q12:=eq_true q12)|((with_reducible refine gate_builtin (b:=.append) (xs:=#[.tmp 28,.tmp 32]) rfl ?_);at_builtin;refine Kd.R_append (Kd.int .u8) (w0:=w) w.heap.size rfl (.tmp 28) (.tmp 32) 81 5 (.int .u8 0) 1 rfl Tryd.underlying81 info5 rfl (by decide) (by omega) v149 y148 (bt a0 x12_1) [.int .u8 (bt a0 x12_1)] (fun _=>True) (fun _=>False) rfl rfl ?aP (fun _ hk=>hk.elim) ?aF ?aO ?aB ?aS ?aL ?_;(case aP=>exact rfl);(case aB=>exact zq6);(case aF=>exact (fun _ _=>trivial));(case aO=>exact (by (with_reducible repeat (first|apply Kd.R_alloc|apply Kd.R_drewN|apply Kd.R_drew));exact HO150.out));(case aS=>exact (below_size zq6));(case aL=>have:=LMc13.out;omega);intro v152 w15 ho hb hg hat;rw [← Ny151.out] at ho;have HO153:=sd (ho);replace HB:=sd (hb);clear HO150;clear ho hb hg hat))
          go_roundg k1
          case measure=>have:=HK1.out;omega
          case rel=>exact ⟨(y151),(wrap64 (x12_1+1)),zq7,H',⟨by have:=HK1.out;omega⟩,⟨by (with_reducible repeat (first|apply Kd.R_alloc|apply Kd.R_drewN|apply Kd.R_drew));exact HO153.out⟩,⟨zq6⟩⟩
         exact absurd H (by simp)
        exact absurd H (by simp)
       obtain ⟨c10b0,c10b1⟩:=neI c10;replace H:=ifI H;rcases H with ⟨c17,H⟩|⟨c17,H⟩
       ·obtain ⟨c17b0,c17b1⟩:=eqI c17;clear c17;replace H:=ifI H;rcases H with ⟨c18,H⟩|⟨c18,H⟩
        ·have LMc18:=sd c18;clear c18;obtain ⟨y154,hy154⟩:∃ y_:List Int,y_=(x4_1++[92]):=⟨_,rfl⟩
         replace H:(if y154.length < 140737488355328 then (words_Quote.l0 k1 a0 (y154++[bt a0 x12_1]) (a0.size:Int) (wrap64 (x12_1+1))) else (none))=some (r1,r2):=by first|(rw [hy154];with_reducible exact H)|(have H2_:=(Option.bind_some _ _).symm.trans H;rw [hy154];with_reducible exact H2_)|(have H2_:=(Option.bind_some _ _).symm.trans H;with_reducible exact H2_)|with_reducible exact H|(rw [hy154];exact H)|exact H
         have Ny154:=sd hy154;clear hy154;replace H:=ifI H;rcases H with ⟨c20,H⟩|⟨c20,H⟩
         ·have LMc20:=sd c20;clear c20;obtain ⟨y157,hy157⟩:∃ y_:List Int,y_=(y154++[bt a0 x12_1]):=⟨_,rfl⟩
          replace H:(words_Quote.l0 k1 a0 y157 (a0.size:Int) (wrap64 (x12_1+1)))=some (r1,r2):=by first|(rw [hy157];with_reducible exact H)|(have H2_:=(Option.bind_some _ _).symm.trans H;rw [hy157];with_reducible exact H2_)|(have H2_:=(Option.bind_some _ _).symm.trans H;with_reducible exact H2_)|with_reducible exact H|(rw [hy157];exact H)|exact H
          have Ny157:=sd hy157;clear hy157;have H':=sd H;clear H;have p9:0≤(x12_1:Int):=od;have q9:x12_1 < (a0.size:Int):=od;have hx9:=bt_at a0 x12_1;replace p9:=eq_true p9;replace q9:=eq_true q9;have p16:0≤(x12_1:Int):=od;have q16:x12_1 < (a0.size:Int):=od;have hx16:=bt_at a0 x12_1;replace p16:=eq_true p16;replace q16:=eq_true q16;go_wp2_with (first|((with_reducible refine gate_builtin (b:=.append) (xs:=#[.tmp 25,.tmp 26]) rfl ?_);at_builtin;refine Kd.R_append (Kd.int .u8) (w0:=w) w.heap.size rfl (.tmp 25) (.tmp 26) 81 5 (.int .u8 0) 1 rfl Tryd.underlying81 info5 rfl (by decide) (by omega) u4 x4_1 92 [.int .u8 92] (fun _=>True) (fun _=>False) rfl rfl ?aP (fun _ hk=>hk.elim) ?aF ?aO ?aB ?aS ?aL ?_;(case aP=>exact rfl);(case aB=>exact zq6);(case aF=>exact (fun _ _=>trivial));(case aO=>exact zq77);(case aS=>exact (below_size zq6));(case aL=>have:=LMc18.out;omega);intro v155 w21 ho hb hg hat;rw [← Ny154.out] at ho;have HO156:=sd (ho);replace HB:=sd (hb);clear HO_4;clear ho hb hg hat;have p19:0≤(x12_1:Int):=od;have q19:x12_1 < (a0.size:Int):=od;have hx19:=bt_at a0 x12_1;replace p19:=eq_true p19;replace q19:=eq_true q19)|((with_reducible refine gate_builtin (b:=.append) (xs:=#[.tmp 28,.tmp 32]) rfl ?_);at_builtin;refine Kd.R_append (Kd.int .u8) (w0:=w) w.heap.size rfl (.tmp 28) (.tmp 32) 81 5 (.int .u8 0) 1 rfl Tryd.underlying81 info5 rfl (by decide) (by omega) v155 y154 (bt a0 x12_1) [.int .u8 (bt a0 x12_1)] (fun _=>True) (fun _=>False) rfl rfl ?aP (fun _ hk=>hk.elim) ?aF ?aO ?aB ?aS ?aL ?_;(case aP=>exact rfl);(case aB=>exact zq6);(case aF=>exact (fun _ _=>trivial));(case aO=>exact (by (with_reducible repeat (first|apply Kd.R_alloc|apply Kd.R_drewN|apply Kd.R_drew));exact HO156.out));(case aS=>exact (below_size zq6));(case aL=>have:=LMc20.out;omega);intro v158 w22 ho hb hg hat;rw [← Ny157.out] at ho;have HO159:=sd (ho);replace HB:=sd (hb);clear HO156;clear ho hb hg hat))
          go_roundg k1
          case measure=>have:=HK1.out;omega
          case rel=>exact ⟨(y157),(wrap64 (x12_1+1)),zq7,H',⟨by have:=HK1.out;omega⟩,⟨by (with_reducible repeat (first|apply Kd.R_alloc|apply Kd.R_drewN|apply Kd.R_drew));exact HO159.out⟩,⟨zq6⟩⟩
         exact absurd H (by simp)
        exact absurd H (by simp)
       obtain ⟨c17b0,c17b1⟩:=neI c17;replace H:=ifI H;rcases H with ⟨c24,H⟩|⟨c24,H⟩
       ·have LMc24:=sd c24;clear c24;obtain ⟨y160,hy160⟩:∃ y_:List Int,y_=(x4_1++[bt a0 x12_1]):=⟨_,rfl⟩
        replace H:(words_Quote.l0 k1 a0 y160 (a0.size:Int) (wrap64 (x12_1+1)))=some (r1,r2):=by first|(rw [hy160];with_reducible exact H)|(have H2_:=(Option.bind_some _ _).symm.trans H;rw [hy160];with_reducible exact H2_)|(have H2_:=(Option.bind_some _ _).symm.trans H;with_reducible exact H2_)|with_reducible exact H|(rw [hy160];exact H)|exact H
        have Ny160:=sd hy160;clear hy160;have H':=sd H;clear H;have p9:0≤(x12_1:Int):=od;have q9:x12_1 < (a0.size:Int):=od;have hx9:=bt_at a0 x12_1;replace p9:=eq_true p9;replace q9:=eq_true q9;have p16:0≤(x12_1:Int):=od;have q16:x12_1 < (a0.size:Int):=od;have hx16:=bt_at a0 x12_1;replace p16:=eq_true p16;replace q16:=eq_true q16;have p23:0≤(x12_1:Int):=od;have q23:x12_1 < (a0.size:Int):=od;have hx23:=bt_at a0 x12_1;replace p23:=eq_true p23;replace q23:=eq_true q23;go_wp2_with (first|((with_reducible refine gate_builtin (b:=.append) (xs:=#[.tmp 28,.tmp 32]) rfl ?_);at_builtin;refine Kd.R_append (Kd.int .u8) (w0:=w) w.heap.size rfl (.tmp 28) (.tmp 32) 81 5 (.int .u8 0) 1 rfl Tryd.underlying81 info5 rfl (by decide) (by omega) u4 x4_1 (bt a0 x12_1) [.int .u8 (bt a0 x12_1)] (fun _=>True) (fun _=>False) rfl rfl ?aP (fun _ hk=>hk.elim) ?aF ?aO ?aB ?aS ?aL ?_;(case aP=>exact rfl);(case aB=>exact zq6);(case aF=>exact (fun _ _=>trivial));(case aO=>exact zq77);(case aS=>exact (below_size zq6));(case aL=>have:=LMc24.out;omega);intro v161 w25 ho hb hg hat;rw [← Ny160.out] at ho;have HO162:=sd (ho);replace HB:=sd (hb);clear HO_4;clear ho hb hg hat))
        go_roundg k1
        case measure=>have:=HK1.out;omega
        case rel=>exact ⟨(y160),(wrap64 (x12_1+1)),zq7,H',⟨by have:=HK1.out;omega⟩,⟨by (with_reducible repeat (first|apply Kd.R_alloc|apply Kd.R_drewN|apply Kd.R_drew));exact HO162.out⟩,⟨zq6⟩⟩
       exact absurd H (by simp)
      exact absurd H (by simp)
     exact absurd H (by simp)
    have c6b0:decide (x12_1 < (a0.size:Int))=false:=decide_eq_false c6;clear c6;replace H:=ifI H;rcases H with ⟨c26,H⟩|⟨c26,H⟩
    ·have LMc26:=sd c26;clear c26;obtain ⟨y163,hy163⟩:∃ y_:List Int,y_=(x4_1++[34]):=⟨_,rfl⟩
     replace H:(some (strOfNums y163,0))=some (r1,r2):=by first|(rw [hy163];with_reducible exact H)|(have H2_:=(Option.bind_some _ _).symm.trans H;rw [hy163];with_reducible exact H2_)|(have H2_:=(Option.bind_some _ _).symm.trans H;with_reducible exact H2_)|with_reducible exact H|(rw [hy163];exact H)|exact H
     have Ny163:=sd hy163;clear hy163;simp only [Option.some.injEq,Prod.mk.injEq] at H
     obtain ⟨rfl,rfl⟩:=H;go_wp2_with (first|((with_reducible refine gate_builtin (b:=.append) (xs:=#[.tmp 35,.tmp 36]) rfl ?_);at_builtin;refine Kd.R_append (Kd.int .u8) (w0:=w) w.heap.size rfl (.tmp 35) (.tmp 36) 81 5 (.int .u8 0) 1 rfl Tryd.underlying81 info5 rfl (by decide) (by omega) u4 x4_1 34 [.int .u8 34] (fun _=>True) (fun _=>False) rfl rfl ?aP (fun _ hk=>hk.elim) ?aF ?aO ?aB ?aS ?aL ?_;(case aP=>exact rfl);(case aB=>exact zq6);(case aF=>exact (fun _ _=>trivial));(case aO=>exact zq77);(case aS=>exact (below_size zq6));(case aL=>have:=LMc26.out;omega);intro v164 w27 ho hb hg hat;rw [← Ny163.out] at ho;have HO165:=sd (ho);replace HB:=sd (hb);clear HO_4;clear ho hb hg hat;have hcv28:=own_string (P:=Tryd.prog) Tryd.underlying81 Tryd.underlying5 Tryd.underlying9 (Kd.own_of_R HO165.out)))
     go_ret2
     exact ⟨zq4,zq6⟩
    exact absurd H (by simp)
 replace c3:=Bool.eq_false_iff.mpr c3;subst c3;rw [if_neg Bool.false_ne_true] at H;simp only [Option.some.injEq,Prod.mk.injEq] at H
 obtain ⟨rfl,rfl⟩:=H;go_enter Tryd.func47,Tryd.ntmps47
 go_wp2_with (first|((with_reducible refine gate_callee (f:=41) rfl ?_);refine gL 7 Tryd.func41 #[.string a0] ?_;(with_reducible refine (words_Plain.calls a0 false _ A2.out).mono ?_);rintro e w' ⟨rfl,⟨nd,rfl⟩⟩;refine ⟨_,rfl,?_⟩))
 go_ret2
 exact ⟨zq4,zq6⟩
end A

end Go.Proofs.YtlblkojjpagbkaaDoor