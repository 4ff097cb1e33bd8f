-- By pack.py, a program of this session's.
import Derived.Test.YtmlcdpfcafmmcaaDoorX37
import Derived.Test.YtmlcdpfcafmmcaaDoorX38
import Derived.Test.YtmlcdpfcafmmcaaDoorX39
import Derived.Test.YtmlcdpfcafmmcaaDoorX40
set_option linter.unusedVariables false
set_option linter.unusedSimpArgs false
namespace Go.Proofs.YtmlcdpfcafmmcaaDoor.A
open Go.RowKit B WW WL WM
attribute [local go_sem] max2_int min2_int max_two min_two max_three min_three max_four min_four
set_option maxHeartbeats 8000000
set_option maxRecDepth 100000
def rf06_word.j0:Nat→ByteArray→Int→Int→Bool→Int→ByteArray→Int→Option (Int×ByteArray×Int×Int×Int×Int)
 | 0,_,_,_,_,_,_,_=>none
 | k+1,x0,x1,x15,x54,x374000,x374001,x374002=>if x54=true then ((rf06_number.f k x0 x1).bind fun t378=>(if (wrap64 (t378 - x1)) > 60 then (some (0,(⟨#[]⟩:ByteArray),0,0,x1,9)) else (if 0≤x1 then (if x1≤t378 then (if t378≤(x0.size:Int) then (some (2,x0.extract (x1:Int).toNat (t378:Int).toNat,x374002,t378,0,0)) else (none)) else (none)) else (none)))) else ((rf06_sign.f k x0 x1).bind fun t379=>(if t379=0 then (some (0,(⟨#[]⟩:ByteArray),0,0,x1,5)) else (if (wrap64 ((wrap64 (x1+t379)) - x1)) > x15 then (some (0,(⟨#[]⟩:ByteArray),0,0,x1,9)) else (if 0≤x1 then (if x1≤(wrap64 (x1+t379)) then (if (wrap64 (x1+t379))≤(x0.size:Int) then (some (4,x0.extract (x1:Int).toNat ((wrap64 (x1+t379)):Int).toNat,x374002,wrap64 (x1+t379),0,0)) else (none)) else (none)) else (none)))))
def rf06_word.f (k:Nat) (a0:ByteArray) (a1:Int):Option (Int×ByteArray×Int×Int×Int×Int):=if 0≤a1 then (if a1 < (a0.size:Int) then (if (bt a0 a1)=34 then ((rf06_text.f k a0 a1).bind fun bt369=>(some (3,bt369.1,a1,bt369.2.1,bt369.2.2.1,bt369.2.2.2))) else ((rf06_letter.f (bt a0 a1)).bind fun t374=>(if t374=true then ((rf06_name.f k a0 a1).bind fun t375=>(if (wrap64 (t375 - a1)) > 12 then (some (0,(⟨#[]⟩:ByteArray),0,0,a1,9)) else (if a1≤t375 then (if t375≤(a0.size:Int) then (some (1,a0.extract (a1:Int).toNat (t375:Int).toNat,a1,t375,0,0)) else (none)) else (none)))) else ((rf06_digit.f (bt a0 a1)).bind fun t376=>(if t376=true then (rf06_word.j0 k a0 a1 12 true 1 (⟨#[]⟩:ByteArray) a1) else (if (bt a0 a1)=45 then ((rf06_follows.f a0 (wrap64 (a1+1))).bind fun t377=>(rf06_word.j0 k a0 a1 12 t377 1 (⟨#[]⟩:ByteArray) a1)) else (rf06_word.j0 k a0 a1 12 false 1 (⟨#[]⟩:ByteArray) a1))))))) else (none)) else (none)
theorem rf06_word.calls (k:Nat) (a0:ByteArray) (a1 r1:Int) (r2:ByteArray) (r3 r4 r5 r6:Int) (w:World) (h:rf06_word.f k a0 a1=some (r1,r2,r3,r4,r5,r6)) :
  Calls Tryd.prog 71 #[.string a0,.int .i64 a1] w fun e w'=>e=.returned (.tuple #[.agg #[.int .i64 r1,.string r2,.int .i64 r3],.int .i64 r4,.int .i64 r5,.int .i64 r6])∧Below w.heap.size w w':=by
 have hu93:=Tryd.underlying93;have HB:=sd (Below.refl w.heap.size w);have H:=h;clear h;unfold rf06_word.f at H;replace H:=ifI H;rcases H with ⟨c3,H⟩ | ⟨c3,H⟩
 ·have c3b0:decide (0≤a1)=true:=decide_eq_true c3;clear c3;replace H:=ifI H;rcases H with ⟨c4,H⟩ | ⟨c4,H⟩
  ·have c4b0:decide (a1 < (a0.size:Int))=true:=decide_eq_true c4;clear c4;replace H:=ifI H;rcases H with ⟨c6,H⟩ | ⟨c6,H⟩
   ·obtain ⟨c6b0,c6b1⟩:=eqI c6;clear c6;replace H:=bdI H;obtain ⟨⟨t369,t370,t371,t372⟩,A7,H⟩:=H;(try dsimp only at H)
    simp only [Option.some.injEq,Prod.mk.injEq] at H
    obtain ⟨rfl,rfl,rfl,rfl,rfl,rfl⟩:=H;go_enter Tryd.func71,Tryd.ntmps71
    go_wp2_with (first | ((with_reducible refine gate_dst (N:=4) rfl ?_);refine bxA 4 #[.int .i64 0,.string (⟨#[]⟩:ByteArray),.int .i64 0] 93 ?_;intro gb368 hg w8 hbox hb;have BK368:=sd (hbox);have GW368:=gem hg HB;have GE368:=GW368;replace HB:=hbm HB hb;clear hb hbox hg;have p5:0≤(a1:Int):=od;have q5:a1 < (a0.size:Int):=od;have hx5:=bt_at a0 a1;replace p5:=eq_true p5;replace q5:=eq_true q5) | ((with_reducible refine gate_callee (f:=91) rfl ?_);refine gL 25 Tryd.func91 #[.string a0,.int .i64 a1] ?_;(with_reducible refine (rf06_text.calls k a0 a1 t369 t370 t371 t372 _ A7.out).mono ?_);rintro e w9 ⟨rfl,hb⟩;refine ⟨_,rfl,?_⟩;replace BK368:=bkm BK368 hb;replace HB:=hbm HB hb;clear hb;obtain ⟨_,_,_,_,_,_⟩:=bk3 BK368))
    refine bodyPost_ret (results_list (rs:=[.cell 4 93,.tmp 5,.tmp 6,.tmp 7]) rfl (by simp) (.cell gb368 93 #[.int .i64 3,.string t369,.int .i64 a1] (0,0) _ rfl (by (with_reducible repeat (first | refine blk_drewN ?_ _ | refine blk_drew ?_ | refine blk_alloc ?_ _));refine blk_put (cs:=#[.int .i64 3,.string t369,.int .i64 0]) ?_ 2 _ rfl;(with_reducible repeat (first | refine blk_drewN ?_ _ | refine blk_drew ?_ | refine blk_alloc ?_ _));refine blk_put (cs:=#[.int .i64 3,.string (⟨#[]⟩:ByteArray),.int .i64 0]) ?_ 1 _ rfl;(with_reducible repeat (first | refine blk_drewN ?_ _ | refine blk_drew ?_ | refine blk_alloc ?_ _));refine blk_put (cs:=#[.int .i64 0,.string (⟨#[]⟩:ByteArray),.int .i64 0]) ?_ 0 _ rfl;(with_reducible repeat (first | refine blk_drewN ?_ _ | refine blk_drew ?_ | refine blk_alloc ?_ _));exact BK368.out) Tryd.underlying93 rfl (by kernel_rfl) (.tmp (.tmp (.tmp .nil))))) rfl ?_;exact ⟨zq10,by repeat (first | (with_reducible first | exact HB.out | apply below_alloc | apply pw_below_drewN | apply below_drew1 | refine below_set ?_ GE368.out) | exact HB.out)⟩
   obtain ⟨c6b0,c6b1⟩:=neI c6;replace H:=bdI H;obtain ⟨t374,A11,H⟩:=H;(try dsimp only at H)
   by_cases c12:t374=true
   ·subst c12;rw [if_pos rfl] at H;replace H:=bdI H;obtain ⟨t375,A13,H⟩:=H;(try dsimp only at H)
    replace H:=ifI H;rcases H with ⟨c14,H⟩ | ⟨c14,H⟩
    ·have c14b0:decide (12 < (wrap64 (t375 - a1)))=true:=decide_eq_true c14;clear c14;simp only [Option.some.injEq,Prod.mk.injEq] at H
     obtain ⟨rfl,rfl,rfl,rfl,rfl,rfl⟩:=H;go_enter Tryd.func71,Tryd.ntmps71
     go_wp2_with (first | ((with_reducible refine gate_dst (N:=4) rfl ?_);refine bxA 4 #[.int .i64 0,.string (⟨#[]⟩:ByteArray),.int .i64 0] 93 ?_;intro gb368 hg w15 hbox hb;have BK368:=sd (hbox);have GW368:=gem hg HB;have GE368:=GW368;replace HB:=hbm HB hb;clear hb hbox hg;have p5:0≤(a1:Int):=od;have q5:a1 < (a0.size:Int):=od;have hx5:=bt_at a0 a1;replace p5:=eq_true p5;replace q5:=eq_true q5) | ((with_reducible refine gate_dst (N:=13) rfl ?_);refine bxA 13 #[.int .i64 0,.string (⟨#[]⟩:ByteArray),.int .i64 0] 93 ?_;intro gb373 hg w16 hbox hb;have BK373:=sd (hbox);have GW373:=gem hg HB;have GE373:=GW373;have NB368_373:=nlm hg BK368;have NB373_368:=ngm hg BK368;replace BK368:=bkm BK368 hb;replace HB:=hbm HB hb;clear hb hbox hg;have hnb17:=NB373_368.out;have hnc17:=NB368_373.out;obtain ⟨_,_,_,_,_,_⟩:=bk3 BK373) | ((with_reducible refine gate_callee (f:=56) rfl ?_);refine gL 39 Tryd.func56 #[.int .u8 (bt a0 a1)] ?_;(with_reducible refine (rf06_letter.calls (bt a0 a1) true _ A11.out).mono ?_);rintro e w' ⟨rfl,⟨nd,rfl⟩⟩;refine ⟨_,rfl,?_⟩) | ((with_reducible refine gate_callee (f:=92) rfl ?_);refine gL 42 Tryd.func92 #[.string a0,.int .i64 a1] ?_;(with_reducible refine (rf06_name.calls k a0 a1 t375 _ A13.out).mono ?_);rintro e w' ⟨rfl,⟨nd,rfl⟩⟩;refine ⟨_,rfl,?_⟩;have hdA0:∀ n,((((w16.setCell ⟨gb373,0,none⟩ (.int .i64 1)).setCell ⟨gb373,1,none⟩ (.string ⟨#[]⟩)).setCell ⟨gb373,2,none⟩ (.int .i64 a1)).drewN n).cell? ⟨gb373,0,none⟩=some (.int .i64 1):=(fun n=>has_drewN (has_other (by simp) (has_other (by simp) (has_same ⟨_,by assumption⟩))));have hdA1:∀ n,((((w16.setCell ⟨gb373,0,none⟩ (.int .i64 1)).setCell ⟨gb373,1,none⟩ (.string ⟨#[]⟩)).setCell ⟨gb373,2,none⟩ (.int .i64 a1)).drewN n).cell? ⟨gb373,1,none⟩=some (.string ⟨#[]⟩):=(fun n=>has_drewN (has_other (by simp) (has_same (any_set _ ⟨_,by assumption⟩))));have hdA2:∀ n,((((w16.setCell ⟨gb373,0,none⟩ (.int .i64 1)).setCell ⟨gb373,1,none⟩ (.string ⟨#[]⟩)).setCell ⟨gb373,2,none⟩ (.int .i64 a1)).drewN n).cell? ⟨gb373,2,none⟩=some (.int .i64 a1):=(fun n=>has_drewN (has_same (any_set _ (any_set _ ⟨_,by assumption⟩))));obtain ⟨_,_,_,_,_,_⟩:=bk3 BK368))
     refine bodyPost_ret (results_list (rs:=[.cell 4 93,.tmp 5,.tmp 6,.tmp 7]) rfl (by simp) (.cell gb368 93 #[.int .i64 0,.string (⟨#[]⟩:ByteArray),.int .i64 0] (0,0) _ rfl (by (with_reducible repeat (first | refine blk_drewN ?_ _ | refine blk_drew ?_ | refine blk_alloc ?_ _));refine blk_put (cs:=#[.int .i64 0,.string (⟨#[]⟩:ByteArray),.int .i64 0]) ?_ 2 _ rfl;(with_reducible repeat (first | refine blk_drewN ?_ _ | refine blk_drew ?_ | refine blk_alloc ?_ _));refine blk_put (cs:=#[.int .i64 0,.string (⟨#[]⟩:ByteArray),.int .i64 0]) ?_ 1 _ rfl;(with_reducible repeat (first | refine blk_drewN ?_ _ | refine blk_drew ?_ | refine blk_alloc ?_ _));refine blk_put (cs:=#[.int .i64 0,.string (⟨#[]⟩:ByteArray),.int .i64 0]) ?_ 0 _ rfl;(with_reducible repeat (first | refine blk_drewN ?_ _ | refine blk_drew ?_ | refine blk_alloc ?_ _));refine blk_far ?_ NB368_373.out _;(with_reducible repeat (first | refine blk_drewN ?_ _ | refine blk_drew ?_ | refine blk_alloc ?_ _));refine blk_far ?_ NB368_373.out _;(with_reducible repeat (first | refine blk_drewN ?_ _ | refine blk_drew ?_ | refine blk_alloc ?_ _));refine blk_far ?_ NB368_373.out _;(with_reducible repeat (first | refine blk_drewN ?_ _ | refine blk_drew ?_ | refine blk_alloc ?_ _));exact BK368.out) Tryd.underlying93 rfl (by kernel_rfl) (.tmp (.tmp (.tmp .nil))))) rfl ?_;exact ⟨zq10,zq46⟩
    have c14b0:decide (12 < (wrap64 (t375 - a1)))=false:=decide_eq_false c14;clear c14;have c20b0:=eq_true (od:0≤a1);replace H:=ifI H;rcases H with ⟨c21,H⟩ | ⟨c21,H⟩
    ·have c21b0:=eq_true c21;have c21b1:decide (a1≤t375)=true:=decide_eq_true c21;clear c21;replace H:=ifI H;rcases H with ⟨c22,H⟩ | ⟨c22,H⟩
     ·have c22b0:=eq_true c22;have c22b1:decide (t375≤(a0.size:Int))=true:=decide_eq_true c22;clear c22;simp only [Option.some.injEq,Prod.mk.injEq] at H
      obtain ⟨rfl,rfl,rfl,rfl,rfl,rfl⟩:=H;go_enter Tryd.func71,Tryd.ntmps71
      go_wp2_with (first | ((with_reducible refine gate_dst (N:=4) rfl ?_);refine bxA 4 #[.int .i64 0,.string (⟨#[]⟩:ByteArray),.int .i64 0] 93 ?_;intro gb368 hg w23 hbox hb;have BK368:=sd (hbox);have GW368:=gem hg HB;have GE368:=GW368;replace HB:=hbm HB hb;clear hb hbox hg;have p5:0≤(a1:Int):=od;have q5:a1 < (a0.size:Int):=od;have hx5:=bt_at a0 a1;replace p5:=eq_true p5;replace q5:=eq_true q5) | ((with_reducible refine gate_dst (N:=13) rfl ?_);refine bxA 13 #[.int .i64 0,.string (⟨#[]⟩:ByteArray),.int .i64 0] 93 ?_;intro gb373 hg w24 hbox hb;have BK373:=sd (hbox);have GW373:=gem hg HB;have GE373:=GW373;have NB368_373:=nlm hg BK368;have NB373_368:=ngm hg BK368;replace BK368:=bkm BK368 hb;replace HB:=hbm HB hb;clear hb hbox hg;have hnb25:=NB373_368.out;have hnc25:=NB368_373.out;obtain ⟨_,_,_,_,_,_⟩:=bk3 BK373) | ((with_reducible refine gate_callee (f:=56) rfl ?_);refine gL 39 Tryd.func56 #[.int .u8 (bt a0 a1)] ?_;(with_reducible refine (rf06_letter.calls (bt a0 a1) true _ A11.out).mono ?_);rintro e w' ⟨rfl,⟨nd,rfl⟩⟩;refine ⟨_,rfl,?_⟩) | ((with_reducible refine gate_callee (f:=92) rfl ?_);refine gL 42 Tryd.func92 #[.string a0,.int .i64 a1] ?_;(with_reducible refine (rf06_name.calls k a0 a1 t375 _ A13.out).mono ?_);rintro e w' ⟨rfl,⟨nd,rfl⟩⟩;refine ⟨_,rfl,?_⟩;have hdA0:∀ n,((((w24.setCell ⟨gb373,0,none⟩ (.int .i64 1)).setCell ⟨gb373,1,none⟩ (.string ⟨#[]⟩)).setCell ⟨gb373,2,none⟩ (.int .i64 a1)).drewN n).cell? ⟨gb373,0,none⟩=some (.int .i64 1):=(fun n=>has_drewN (has_other (by simp) (has_other (by simp) (has_same ⟨_,by assumption⟩))));have hdA1:∀ n,((((w24.setCell ⟨gb373,0,none⟩ (.int .i64 1)).setCell ⟨gb373,1,none⟩ (.string ⟨#[]⟩)).setCell ⟨gb373,2,none⟩ (.int .i64 a1)).drewN n).cell? ⟨gb373,1,none⟩=some (.string ⟨#[]⟩):=(fun n=>has_drewN (has_other (by simp) (has_same (any_set _ ⟨_,by assumption⟩))));have hdA2:∀ n,((((w24.setCell ⟨gb373,0,none⟩ (.int .i64 1)).setCell ⟨gb373,1,none⟩ (.string ⟨#[]⟩)).setCell ⟨gb373,2,none⟩ (.int .i64 a1)).drewN n).cell? ⟨gb373,2,none⟩=some (.int .i64 a1):=(fun n=>has_drewN (has_same (any_set _ (any_set _ ⟨_,by assumption⟩))));obtain ⟨_,_,_,_,_,_⟩:=bk3 BK368))
      refine bodyPost_ret (results_list (rs:=[.cell 4 93,.tmp 5,.tmp 6,.tmp 7]) rfl (by simp) (.cell gb368 93 #[.int .i64 1,.string (a0.extract (a1:Int).toNat (t375:Int).toNat),.int .i64 a1] (0,0) _ rfl (by (with_reducible repeat (first | refine blk_drewN ?_ _ | refine blk_drew ?_ | refine blk_alloc ?_ _));refine blk_put (cs:=#[.int .i64 1,.string (a0.extract (a1:Int).toNat (t375:Int).toNat),.int .i64 0]) ?_ 2 _ rfl;(with_reducible repeat (first | refine blk_drewN ?_ _ | refine blk_drew ?_ | refine blk_alloc ?_ _));refine blk_put (cs:=#[.int .i64 1,.string (⟨#[]⟩:ByteArray),.int .i64 0]) ?_ 1 _ rfl;(with_reducible repeat (first | refine blk_drewN ?_ _ | refine blk_drew ?_ | refine blk_alloc ?_ _));refine blk_put (cs:=#[.int .i64 0,.string (⟨#[]⟩:ByteArray),.int .i64 0]) ?_ 0 _ rfl;(with_reducible repeat (first | refine blk_drewN ?_ _ | refine blk_drew ?_ | refine blk_alloc ?_ _));refine blk_far ?_ NB368_373.out _;(with_reducible repeat (first | refine blk_drewN ?_ _ | refine blk_drew ?_ | refine blk_alloc ?_ _));refine blk_far ?_ NB368_373.out _;(with_reducible repeat (first | refine blk_drewN ?_ _ | refine blk_drew ?_ | refine blk_alloc ?_ _));refine blk_far ?_ NB368_373.out _;(with_reducible repeat (first | refine blk_drewN ?_ _ | refine blk_drew ?_ | refine blk_alloc ?_ _));refine blk_far ?_ NB368_373.out _;(with_reducible repeat (first | refine blk_drewN ?_ _ | refine blk_drew ?_ | refine blk_alloc ?_ _));exact BK368.out) Tryd.underlying93 rfl (by kernel_rfl) (.tmp (.tmp (.tmp .nil))))) rfl ?_;exact ⟨zq10,zq46⟩
     exact absurd H (by simp)
    exact absurd H (by simp)
   replace c12:=Bool.eq_false_iff.mpr c12;subst c12;rw [if_neg Bool.false_ne_true] at H;have HC28:=sd H;clear H;go_enter Tryd.func71,Tryd.ntmps71
   go_upto_region 9 with (first | ((with_reducible refine gate_dst (N:=4) rfl ?_);refine bxA 4 #[.int .i64 0,.string (⟨#[]⟩:ByteArray),.int .i64 0] 93 ?_;intro gb368 hg w29 hbox hb;have BK368:=sd (hbox);have GW368:=gem hg HB;have GE368:=GW368;replace HB:=hbm HB hb;clear hb hbox hg;have p5:0≤(a1:Int):=od;have q5:a1 < (a0.size:Int):=od;have hx5:=bt_at a0 a1;replace p5:=eq_true p5;replace q5:=eq_true q5) | ((with_reducible refine gate_dst (N:=13) rfl ?_);refine bxA 13 #[.int .i64 0,.string (⟨#[]⟩:ByteArray),.int .i64 0] 93 ?_;intro gb373 hg w30 hbox hb;have BK373:=sd (hbox);have GW373:=gem hg HB;have GE373:=GW373;have NB368_373:=nlm hg BK368;have NB373_368:=ngm hg BK368;replace BK368:=bkm BK368 hb;replace HB:=hbm HB hb;clear hb hbox hg;have hnb31:=NB373_368.out;have hnc31:=NB368_373.out;obtain ⟨_,_,_,_,_,_⟩:=bk3 BK373) | ((with_reducible refine gate_callee (f:=56) rfl ?_);refine gL 39 Tryd.func56 #[.int .u8 (bt a0 a1)] ?_;(with_reducible refine (rf06_letter.calls (bt a0 a1) false _ A11.out).mono ?_);rintro e w' ⟨rfl,⟨nd,rfl⟩⟩;refine ⟨_,rfl,?_⟩))
   (try simp only [Act.put,List.setIfInBounds_toArray,List.set_cons_zero,List.set_cons_succ])
   go_cut [54] (fun v54 wc=>∃ (kq:Nat) (x54_27:Bool),v54=.bool x54_27∧Aside0 (rf06_word.j0 kq a0 a1 12 x54_27 1 (⟨#[]⟩:ByteArray) a1=some (r1,r2,r3,r4,r5,r6))∧Aside0 (kq≤k)∧Aside0 (wc.heap[gb368]?=some (.cells #[.int .i64 0,.string (⟨#[]⟩:ByteArray),.int .i64 0] 93 (0,0)))∧Aside0 (wc.heap[gb373]?=some (.cells #[.int .i64 1,.string (⟨#[]⟩:ByteArray),.int .i64 a1] 93 (0,0)))∧Aside0 (Below w.heap.size w wc))
   case first =>
    have H:=HC28.out;clear HC28;replace H:=bdI H;obtain ⟨t376,A33,H⟩:=H;(try dsimp only at H)
    by_cases c34:t376=true
    ·subst c34;rw [if_pos rfl] at H;have H':=sd H;clear H;go_wp2_with (first | ((with_reducible refine gate_callee (f:=57) rfl ?_);refine gL 44 Tryd.func57 #[.int .u8 (bt a0 a1)] ?_;(with_reducible refine (rf06_digit.calls (bt a0 a1) true _ A33.out).mono ?_);rintro e w' ⟨rfl,⟨nd,rfl⟩⟩;refine ⟨_,rfl,?_⟩))
     go_meet
     case rel=>exact ⟨_,(true),zq1,H',⟨by first | omega | exact Nat.le_refl _⟩,⟨zq47⟩,⟨zq48⟩,⟨zq46⟩⟩
    replace c34:=Bool.eq_false_iff.mpr c34;subst c34;rw [if_neg Bool.false_ne_true] at H;replace H:=ifI H;rcases H with ⟨c35,H⟩ | ⟨c35,H⟩
    ·obtain ⟨c35b0,c35b1⟩:=eqI c35;clear c35;(first | rw [c35b0] | (simp only [i64_w,i32_w];rw [c35b0]) | skip)
     replace H:=bdI H;obtain ⟨t377,A36,H⟩:=H;(try dsimp only at H)
     have H':=sd H;clear H;go_wp2_with (first | ((with_reducible refine gate_callee (f:=57) rfl ?_);refine gL 44 Tryd.func57 #[.int .u8 (bt a0 a1)] ?_;(with_reducible refine (rf06_digit.calls (bt a0 a1) false _ A33.out).mono ?_);rintro e w' ⟨rfl,⟨nd,rfl⟩⟩;refine ⟨_,rfl,?_⟩) | (go_at_call 93;(with_reducible refine (rf06_follows.calls a0 (wrap64 (a1+1)) t377 _ A36.out).mono ?_);rintro e w' ⟨rfl,⟨nd,rfl⟩⟩))
     go_meet
     case rel=>exact ⟨_,(t377),zq1,H',⟨by first | omega | exact Nat.le_refl _⟩,⟨zq47⟩,⟨zq48⟩,⟨zq46⟩⟩
    obtain ⟨c35b0,c35b1⟩:=neI c35;(first | rw [c35b0] | (simp only [i64_w,i32_w];rw [c35b0]) | skip)
    have H':=sd H;clear H;go_wp2_with (first | ((with_reducible refine gate_callee (f:=57) rfl ?_);refine gL 44 Tryd.func57 #[.int .u8 (bt a0 a1)] ?_;(with_reducible refine (rf06_digit.calls (bt a0 a1) false _ A33.out).mono ?_);rintro e w' ⟨rfl,⟨nd,rfl⟩⟩;refine ⟨_,rfl,?_⟩))
    go_meet
    case rel=>exact ⟨_,(false),zq1,H',⟨by first | omega | exact Nat.le_refl _⟩,⟨zq47⟩,⟨zq48⟩,⟨zq46⟩⟩
   case rest =>
    clear HC28;try clear c1
    try clear c2
    try clear p2
    try clear c3
    try clear c3b0
    try clear c4
    try clear c4b0
    try clear c5
    try clear p5
    try clear q5
    try clear hx5
    try clear c6
    try clear c6b0
    try clear c6b1
    try clear p6
    try clear c7
    try clear c9
    try clear c12
    try clear c14
    try clear c14b0
    try clear c17
    try clear c20
    try clear c20b0
    try clear c21
    try clear c21b0
    try clear c21b1
    try clear c22
    try clear c22b0
    try clear c22b1
    try clear c25
    try clear c31
    try clear c34
    try clear c35
    try clear c35b0
    try clear c35b1
    try clear hcz10_0
    try clear hcz10_1
    try clear hcz10_2
    try clear hcz18_0
    try clear hcz18_1
    try clear hcz18_2
    try clear hcz19_0
    try clear hcz19_1
    try clear hcz19_2
    try clear hcz26_0
    try clear hcz26_1
    try clear hcz26_2
    try clear hcz27_0
    try clear hcz27_1
    try clear hcz27_2
    try clear hcz32_0
    try clear hcz32_1
    try clear hcz32_2
    try clear hfz10_0
    try clear hfz10_1
    try clear hfz10_2
    try clear hfz18_0
    try clear hfz18_1
    try clear hfz18_2
    try clear hfz19_0
    try clear hfz19_1
    try clear hfz19_2
    try clear hfz26_0
    try clear hfz26_1
    try clear hfz26_2
    try clear hfz27_0
    try clear hfz27_1
    try clear hfz27_2
    try clear hfz32_0
    try clear hfz32_1
    try clear hfz32_2
    try clear p5
    try clear q5
    obtain ⟨kq,x54_27,rfl,HA,HJ27,BK368,BK373,HB⟩:=hcut
    cases kq with
    | zero=>exact absurd HA.out (by simp [rf06_word.j0])
    | succ kj27 =>
     have H:=HA.out;clear HA;simp only [rf06_word.j0] at H
     by_cases c37:x54_27=true
     ·subst c37;rw [if_pos rfl] at H;replace H:=bdI H;obtain ⟨t378,A38,H⟩:=H;(try dsimp only at H)
      replace H:=ifI H;rcases H with ⟨c39,H⟩ | ⟨c39,H⟩
      ·have c39b0:decide (60 < (wrap64 (t378 - a1)))=true:=decide_eq_true c39;clear c39;simp only [Option.some.injEq,Prod.mk.injEq] at H
       obtain ⟨rfl,rfl,rfl,rfl,rfl,rfl⟩:=H;have hnb40:=NB373_368.out;have hnc40:=NB368_373.out;obtain ⟨_,_,_,_,_,_⟩:=bk3 BK373;go_wp2_with (first | ((with_reducible refine gate_callee (f:=94) rfl ?_);refine gL 58 Tryd.func94 #[.string a0,.int .i64 a1] ?_;(with_reducible refine (rf06_number.calls kj27 a0 a1 t378 _ A38.out).mono ?_);rintro e w' ⟨rfl,⟨nd,rfl⟩⟩;refine ⟨_,rfl,?_⟩;obtain ⟨_,_,_,_,_,_⟩:=bk3 BK368))
       refine bodyPost_ret (results_list (rs:=[.cell 4 93,.tmp 5,.tmp 6,.tmp 7]) rfl (by simp) (.cell gb368 93 #[.int .i64 0,.string (⟨#[]⟩:ByteArray),.int .i64 0] (0,0) _ rfl (by (with_reducible repeat (first | refine blk_drewN ?_ _ | refine blk_drew ?_ | refine blk_alloc ?_ _));refine blk_put (cs:=#[.int .i64 0,.string (⟨#[]⟩:ByteArray),.int .i64 0]) ?_ 2 _ rfl;(with_reducible repeat (first | refine blk_drewN ?_ _ | refine blk_drew ?_ | refine blk_alloc ?_ _));refine blk_put (cs:=#[.int .i64 0,.string (⟨#[]⟩:ByteArray),.int .i64 0]) ?_ 1 _ rfl;(with_reducible repeat (first | refine blk_drewN ?_ _ | refine blk_drew ?_ | refine blk_alloc ?_ _));refine blk_put (cs:=#[.int .i64 0,.string (⟨#[]⟩:ByteArray),.int .i64 0]) ?_ 0 _ rfl;(with_reducible repeat (first | refine blk_drewN ?_ _ | refine blk_drew ?_ | refine blk_alloc ?_ _));refine blk_far ?_ NB368_373.out _;(with_reducible repeat (first | refine blk_drewN ?_ _ | refine blk_drew ?_ | refine blk_alloc ?_ _));exact BK368.out) Tryd.underlying93 rfl (by kernel_rfl) (.tmp (.tmp (.tmp .nil))))) rfl ?_;exact ⟨zq10,zq46⟩
      have c39b0:decide (60 < (wrap64 (t378 - a1)))=false:=decide_eq_false c39;clear c39;replace H:=ifI H;rcases H with ⟨c43,H⟩ | ⟨c43,H⟩
      ·have c43b0:=eq_true c43;have c43b1:decide (0≤a1)=true:=decide_eq_true c43;clear c43;replace H:=ifI H;rcases H with ⟨c44,H⟩ | ⟨c44,H⟩
       ·have c44b0:=eq_true c44;have c44b1:decide (a1≤t378)=true:=decide_eq_true c44;clear c44;replace H:=ifI H;rcases H with ⟨c45,H⟩ | ⟨c45,H⟩
        ·have c45b0:=eq_true c45;have c45b1:decide (t378≤(a0.size:Int))=true:=decide_eq_true c45;clear c45;simp only [Option.some.injEq,Prod.mk.injEq] at H
         obtain ⟨rfl,rfl,rfl,rfl,rfl,rfl⟩:=H;have hnb46:=NB373_368.out;have hnc46:=NB368_373.out;obtain ⟨_,_,_,_,_,_⟩:=bk3 BK373;go_wp2_with (first | ((with_reducible refine gate_callee (f:=94) rfl ?_);refine gL 58 Tryd.func94 #[.string a0,.int .i64 a1] ?_;(with_reducible refine (rf06_number.calls kj27 a0 a1 t378 _ A38.out).mono ?_);rintro e w' ⟨rfl,⟨nd,rfl⟩⟩;refine ⟨_,rfl,?_⟩;obtain ⟨_,_,_,_,_,_⟩:=bk3 BK368))
         refine bodyPost_ret (results_list (rs:=[.cell 4 93,.tmp 5,.tmp 6,.tmp 7]) rfl (by simp) (.cell gb368 93 #[.int .i64 2,.string (a0.extract (a1:Int).toNat (t378:Int).toNat),.int .i64 a1] (0,0) _ rfl (by (with_reducible repeat (first | refine blk_drewN ?_ _ | refine blk_drew ?_ | refine blk_alloc ?_ _));refine blk_put (cs:=#[.int .i64 2,.string (a0.extract (a1:Int).toNat (t378:Int).toNat),.int .i64 0]) ?_ 2 _ rfl;(with_reducible repeat (first | refine blk_drewN ?_ _ | refine blk_drew ?_ | refine blk_alloc ?_ _));refine blk_put (cs:=#[.int .i64 2,.string (⟨#[]⟩:ByteArray),.int .i64 0]) ?_ 1 _ rfl;(with_reducible repeat (first | refine blk_drewN ?_ _ | refine blk_drew ?_ | refine blk_alloc ?_ _));refine blk_put (cs:=#[.int .i64 0,.string (⟨#[]⟩:ByteArray),.int .i64 0]) ?_ 0 _ rfl;(with_reducible repeat (first | refine blk_drewN ?_ _ | refine blk_drew ?_ | refine blk_alloc ?_ _));refine blk_far ?_ NB368_373.out _;(with_reducible repeat (first | refine blk_drewN ?_ _ | refine blk_drew ?_ | refine blk_alloc ?_ _));refine blk_far ?_ NB368_373.out _;(with_reducible repeat (first | refine blk_drewN ?_ _ | refine blk_drew ?_ | refine blk_alloc ?_ _));exact BK368.out) Tryd.underlying93 rfl (by kernel_rfl) (.tmp (.tmp (.tmp .nil))))) rfl ?_;exact ⟨zq10,zq46⟩
        exact absurd H (by simp)
       exact absurd H (by simp)
      exact absurd H (by simp)
     replace c37:=Bool.eq_false_iff.mpr c37;subst c37;rw [if_neg Bool.false_ne_true] at H;replace H:=bdI H;obtain ⟨t379,A49,H⟩:=H;(try dsimp only at H)
     replace H:=ifI H;rcases H with ⟨c50,H⟩ | ⟨c50,H⟩
     ·obtain ⟨c50b0,c50b1⟩:=eqI c50;clear c50;simp only [Option.some.injEq,Prod.mk.injEq] at H
      obtain ⟨rfl,rfl,rfl,rfl,rfl,rfl⟩:=H;go_wp2_with (first | ((with_reducible refine gate_callee (f:=95) rfl ?_);refine gL 61 Tryd.func95 #[.string a0,.int .i64 a1] ?_;(with_reducible refine (rf06_sign.calls kj27 a0 a1 t379 _ A49.out).mono ?_);rintro e w51 ⟨rfl,hb⟩;refine ⟨_,rfl,?_⟩;replace BK368:=bkm BK368 hb;replace BK373:=bkm BK373 hb;replace HB:=hbm HB hb;clear hb;have hnb52:=NB368_373.out;have hnc52:=NB373_368.out;obtain ⟨_,_,_,_,_,_⟩:=bk3 BK368))
      refine bodyPost_ret (results_list (rs:=[.cell 4 93,.tmp 5,.tmp 6,.tmp 7]) rfl (by simp) (.cell gb368 93 #[.int .i64 0,.string (⟨#[]⟩:ByteArray),.int .i64 0] (0,0) _ rfl (by (with_reducible repeat (first | refine blk_drewN ?_ _ | refine blk_drew ?_ | refine blk_alloc ?_ _));refine blk_put (cs:=#[.int .i64 0,.string (⟨#[]⟩:ByteArray),.int .i64 0]) ?_ 2 _ rfl;(with_reducible repeat (first | refine blk_drewN ?_ _ | refine blk_drew ?_ | refine blk_alloc ?_ _));refine blk_put (cs:=#[.int .i64 0,.string (⟨#[]⟩:ByteArray),.int .i64 0]) ?_ 1 _ rfl;(with_reducible repeat (first | refine blk_drewN ?_ _ | refine blk_drew ?_ | refine blk_alloc ?_ _));refine blk_put (cs:=#[.int .i64 0,.string (⟨#[]⟩:ByteArray),.int .i64 0]) ?_ 0 _ rfl;(with_reducible repeat (first | refine blk_drewN ?_ _ | refine blk_drew ?_ | refine blk_alloc ?_ _));exact BK368.out) Tryd.underlying93 rfl (by kernel_rfl) (.tmp (.tmp (.tmp .nil))))) rfl ?_;exact ⟨zq10,zq46⟩
     obtain ⟨c50b0,c50b1⟩:=neI c50;replace H:=ifI H;rcases H with ⟨c54,H⟩ | ⟨c54,H⟩
     ·have c54b0:decide (12 < (wrap64 ((wrap64 (a1+t379)) - a1)))=true:=decide_eq_true c54;clear c54;simp only [Option.some.injEq,Prod.mk.injEq] at H
      obtain ⟨rfl,rfl,rfl,rfl,rfl,rfl⟩:=H;go_wp2_with (first | ((with_reducible refine gate_callee (f:=95) rfl ?_);refine gL 61 Tryd.func95 #[.string a0,.int .i64 a1] ?_;(with_reducible refine (rf06_sign.calls kj27 a0 a1 t379 _ A49.out).mono ?_);rintro e w55 ⟨rfl,hb⟩;refine ⟨_,rfl,?_⟩;replace BK368:=bkm BK368 hb;replace BK373:=bkm BK373 hb;replace HB:=hbm HB hb;clear hb;have hnb56:=NB373_368.out;have hnc56:=NB368_373.out;obtain ⟨_,_,_,_,_,_⟩:=bk3 BK373;obtain ⟨_,_,_,_,_,_⟩:=bk3 BK368))
      refine bodyPost_ret (results_list (rs:=[.cell 4 93,.tmp 5,.tmp 6,.tmp 7]) rfl (by simp) (.cell gb368 93 #[.int .i64 0,.string (⟨#[]⟩:ByteArray),.int .i64 0] (0,0) _ rfl (by (with_reducible repeat (first | refine blk_drewN ?_ _ | refine blk_drew ?_ | refine blk_alloc ?_ _));refine blk_put (cs:=#[.int .i64 0,.string (⟨#[]⟩:ByteArray),.int .i64 0]) ?_ 2 _ rfl;(with_reducible repeat (first | refine blk_drewN ?_ _ | refine blk_drew ?_ | refine blk_alloc ?_ _));refine blk_put (cs:=#[.int .i64 0,.string (⟨#[]⟩:ByteArray),.int .i64 0]) ?_ 1 _ rfl;(with_reducible repeat (first | refine blk_drewN ?_ _ | refine blk_drew ?_ | refine blk_alloc ?_ _));refine blk_put (cs:=#[.int .i64 0,.string (⟨#[]⟩:ByteArray),.int .i64 0]) ?_ 0 _ rfl;(with_reducible repeat (first | refine blk_drewN ?_ _ | refine blk_drew ?_ | refine blk_alloc ?_ _));refine blk_far ?_ NB368_373.out _;(with_reducible repeat (first | refine blk_drewN ?_ _ | refine blk_drew ?_ | refine blk_alloc ?_ _));exact BK368.out) Tryd.underlying93 rfl (by kernel_rfl) (.tmp (.tmp (.tmp .nil))))) rfl ?_;exact ⟨zq10,zq46⟩
     have c54b0:decide (12 < (wrap64 ((wrap64 (a1+t379)) - a1)))=false:=decide_eq_false c54;clear c54;replace H:=ifI H;rcases H with ⟨c59,H⟩ | ⟨c59,H⟩
     ·have c59b0:=eq_true c59;have c59b1:decide (0≤a1)=true:=decide_eq_true c59;clear c59;replace H:=ifI H;rcases H with ⟨c60,H⟩ | ⟨c60,H⟩
      ·have c60b0:=eq_true c60;have c60b1:decide (a1≤(wrap64 (a1+t379)))=true:=decide_eq_true c60;replace H:=ifI H;rcases H with ⟨c61,H⟩ | ⟨c61,H⟩
       ·have c61b0:=eq_true c61;have c61b1:decide ((wrap64 (a1+t379))≤(a0.size:Int))=true:=decide_eq_true c61;simp only [Option.some.injEq,Prod.mk.injEq] at H
        obtain ⟨rfl,rfl,rfl,rfl,rfl,rfl⟩:=H;go_wp2_with (first | ((with_reducible refine gate_callee (f:=95) rfl ?_);refine gL 61 Tryd.func95 #[.string a0,.int .i64 a1] ?_;(with_reducible refine (rf06_sign.calls kj27 a0 a1 t379 _ A49.out).mono ?_);rintro e w62 ⟨rfl,hb⟩;refine ⟨_,rfl,?_⟩;replace BK368:=bkm BK368 hb;replace BK373:=bkm BK373 hb;replace HB:=hbm HB hb;clear hb;have hnb63:=NB373_368.out;have hnc63:=NB368_373.out;obtain ⟨_,_,_,_,_,_⟩:=bk3 BK373;obtain ⟨_,_,_,_,_,_⟩:=bk3 BK368))
        refine bodyPost_ret (results_list (rs:=[.cell 4 93,.tmp 5,.tmp 6,.tmp 7]) rfl (by simp) (.cell gb368 93 #[.int .i64 4,.string (a0.extract (a1:Int).toNat ((wrap64 (a1+t379)):Int).toNat),.int .i64 a1] (0,0) _ rfl (by (with_reducible repeat (first | refine blk_drewN ?_ _ | refine blk_drew ?_ | refine blk_alloc ?_ _));refine blk_put (cs:=#[.int .i64 4,.string (a0.extract (a1:Int).toNat ((wrap64 (a1+t379)):Int).toNat),.int .i64 0]) ?_ 2 _ rfl;(with_reducible repeat (first | refine blk_drewN ?_ _ | refine blk_drew ?_ | refine blk_alloc ?_ _));refine blk_put (cs:=#[.int .i64 4,.string (⟨#[]⟩:ByteArray),.int .i64 0]) ?_ 1 _ rfl;(with_reducible repeat (first | refine blk_drewN ?_ _ | refine blk_drew ?_ | refine blk_alloc ?_ _));refine blk_put (cs:=#[.int .i64 0,.string (⟨#[]⟩:ByteArray),.int .i64 0]) ?_ 0 _ rfl;(with_reducible repeat (first | refine blk_drewN ?_ _ | refine blk_drew ?_ | refine blk_alloc ?_ _));refine blk_far ?_ NB368_373.out _;(with_reducible repeat (first | refine blk_drewN ?_ _ | refine blk_drew ?_ | refine blk_alloc ?_ _));refine blk_far ?_ NB368_373.out _;(with_reducible repeat (first | refine blk_drewN ?_ _ | refine blk_drew ?_ | refine blk_alloc ?_ _));exact BK368.out) Tryd.underlying93 rfl (by kernel_rfl) (.tmp (.tmp (.tmp .nil))))) rfl ?_;exact ⟨zq10,zq46⟩
       exact absurd H (by simp)
      exact absurd H (by simp)
     exact absurd H (by simp)
  exact absurd H (by simp)
 exact absurd H (by simp)
def rf04_Parse.j0:Nat→ByteArray→Bool→Option (Int×Int)
 | 0,_,_=>none
 | k+1,x0,x34=>if x34=true then (some (0,5)) else (if 0≤4 then (if 4≤(x0.size:Int) then ((rf04_value.f k (x0.extract 0 4)).bind fun t414=>(if 5≤7 then (if 7≤(x0.size:Int) then ((rf04_value.f k (x0.extract 5 7)).bind fun t415=>(if 8≤(x0.size:Int) then ((rf04_value.f k (x0.extract 8 x0.size)).bind fun t416=>((rf04_Of.f k t414 t415 t416).bind fun bt417=>(some (bt417.1,bt417.2)))) else (none))) else (none)) else (none))) else (none)) else (none))
def rf04_Parse.f (k:Nat) (a0:ByteArray):Option (Int×Int):=if (a0.size:Int)=10 then (if 0≤4 then (if 4≤(a0.size:Int) then ((rf01_Digits.f k (a0.extract 0 4)).bind fun t411=>(if t411=true then (if 4 < (a0.size:Int) then (if (bt a0 4)=45 then (if 5≤7 then (if 7≤(a0.size:Int) then ((rf01_Digits.f k (a0.extract 5 7)).bind fun t412=>(if t412=true then (if 7 < (a0.size:Int) then (if (bt a0 7)=45 then (if 8≤(a0.size:Int) then ((rf01_Digits.f k (a0.extract 8 a0.size)).bind fun t413=>(rf04_Parse.j0 k a0 (!t413))) else (none)) else (rf04_Parse.j0 k a0 true)) else (none)) else (rf04_Parse.j0 k a0 true))) else (none)) else (none)) else (rf04_Parse.j0 k a0 true)) else (none)) else (rf04_Parse.j0 k a0 true))) else (none)) else (none)) else (rf04_Parse.j0 k a0 true)
theorem rf04_Parse.calls (k:Nat) (a0:ByteArray) (r1 r2:Int) (w:World) (h:rf04_Parse.f k a0=some (r1,r2)) :
  Calls Tryd.prog 98 #[.string a0] w fun e w'=>e=.returned (.tuple #[.int .i64 r1,.int .i64 r2])∧Below w.heap.size w w':=by
 have hu81:=Tryd.underlying81;have HB:=sd (Below.refl w.heap.size w);have H:=h;clear h;unfold rf04_Parse.f at H;have HC2:=sd H;clear H;go_enter Tryd.func98,Tryd.ntmps98
 go_upto_region 1 with (fail)
 go_cut [34] (fun v34 wc=>∃ (kq:Nat) (x34_1:Bool),v34=.bool x34_1∧Aside0 (rf04_Parse.j0 kq a0 x34_1=some (r1,r2))∧Aside0 (kq≤k)∧Aside0 (Below w.heap.size w wc))
 case first =>
  have H:=HC2.out;clear HC2;replace H:=ifI H;rcases H with ⟨c3,H⟩ | ⟨c3,H⟩
  ·obtain ⟨c3b0,c3b1⟩:=eqI c3;clear c3;(first | rw [c3b0] | (simp only [i64_w,i32_w];rw [c3b0]) | skip)
   replace H:=ifI H;rcases H with ⟨c4,H⟩ | ⟨c4,H⟩
   ·have c4b0:=eq_true c4;have c4b1:decide (0≤4)=true:=decide_eq_true c4;clear c4;replace H:=ifI H;rcases H with ⟨c5,H⟩ | ⟨c5,H⟩
    ·have c5b0:=eq_true c5;have c5b1:decide (4≤(a0.size:Int))=true:=decide_eq_true c5;clear c5;replace H:=bdI H;obtain ⟨t411,A6,H⟩:=H;(try dsimp only at H)
     by_cases c7:t411=true
     ·subst c7;rw [if_pos rfl] at H;replace H:=ifI H;rcases H with ⟨c8,H⟩ | ⟨c8,H⟩
      ·have c8b0:decide (4 < (a0.size:Int))=true:=decide_eq_true c8;have c8b1:decide (4 < a0.size)=true:=decide_eq_true (by omega);clear c8;replace H:=ifI H;rcases H with ⟨c10,H⟩ | ⟨c10,H⟩
       ·obtain ⟨c10b0,c10b1⟩:=eqI c10;clear c10;replace H:=ifI H;rcases H with ⟨c11,H⟩ | ⟨c11,H⟩
        ·have c11b0:=eq_true c11;have c11b1:decide (5≤7)=true:=decide_eq_true c11;clear c11;replace H:=ifI H;rcases H with ⟨c12,H⟩ | ⟨c12,H⟩
         ·have c12b0:=eq_true c12;have c12b1:decide (7≤(a0.size:Int))=true:=decide_eq_true c12;clear c12;replace H:=bdI H;obtain ⟨t412,A13,H⟩:=H;(try dsimp only at H)
          by_cases c14:t412=true
          ·subst c14;rw [if_pos rfl] at H;replace H:=ifI H;rcases H with ⟨c15,H⟩ | ⟨c15,H⟩
           ·have c15b0:decide (7 < (a0.size:Int))=true:=decide_eq_true c15;have c15b1:decide (7 < a0.size)=true:=decide_eq_true (by omega);clear c15;replace H:=ifI H;rcases H with ⟨c17,H⟩ | ⟨c17,H⟩
            ·obtain ⟨c17b0,c17b1⟩:=eqI c17;clear c17;replace H:=ifI H;rcases H with ⟨c18,H⟩ | ⟨c18,H⟩
             ·have c18b0:=eq_true c18;have c18b1:decide (8≤(a0.size:Int))=true:=decide_eq_true c18;clear c18;replace H:=bdI H;obtain ⟨t413,A19,H⟩:=H;(try dsimp only at H)
              have H':=sd H;clear H;go_wp2_with (first | (go_at_call 97;(with_reducible refine (rf01_Digits.calls k (a0.extract 0 4) true _ A6.out).mono ?_);rintro e w' ⟨rfl,⟨nd,rfl⟩⟩;have p9:0≤(4:Int):=(by omega);have q9:4 < a0.size:=(by have:(4:Int) < (a0.size:Int):=od;omega);have hx9:∀ h:4 < a0.size,((a0[4]'h).toNat:Int)=bt a0 4:=bt_at a0 4;clear p9;have qi9:(4 < (a0.size:Int))=True:=eq_true (od);replace q9:=eq_true q9) | (go_at_call 97;(with_reducible refine (rf01_Digits.calls k (a0.extract 5 7) true _ A13.out).mono ?_);rintro e w' ⟨rfl,⟨nd,rfl⟩⟩;have p16:0≤(7:Int):=(by omega);have q16:7 < a0.size:=(by have:(7:Int) < (a0.size:Int):=od;omega);have hx16:∀ h:7 < a0.size,((a0[7]'h).toNat:Int)=bt a0 7:=bt_at a0 7;clear p16;have qi16:(7 < (a0.size:Int))=True:=eq_true (od);replace q16:=eq_true q16) | (go_at_call 97;(with_reducible refine (rf01_Digits.calls k (a0.extract 8 a0.size) t413 _ A19.out).mono ?_);rintro e w' ⟨rfl,⟨nd,rfl⟩⟩))
              go_meet
              case rel=>exact ⟨_,(!t413),zq1,H',⟨by first | omega | exact Nat.le_refl _⟩,⟨zq7⟩⟩
             exact absurd H (by simp)
            obtain ⟨c17b0,c17b1⟩:=neI c17;have H':=sd H;clear H;go_wp2_with (first | (go_at_call 97;(with_reducible refine (rf01_Digits.calls k (a0.extract 0 4) true _ A6.out).mono ?_);rintro e w' ⟨rfl,⟨nd,rfl⟩⟩;have p9:0≤(4:Int):=(by omega);have q9:4 < a0.size:=(by have:(4:Int) < (a0.size:Int):=od;omega);have hx9:∀ h:4 < a0.size,((a0[4]'h).toNat:Int)=bt a0 4:=bt_at a0 4;clear p9;have qi9:(4 < (a0.size:Int))=True:=eq_true (od);replace q9:=eq_true q9) | (go_at_call 97;(with_reducible refine (rf01_Digits.calls k (a0.extract 5 7) true _ A13.out).mono ?_);rintro e w' ⟨rfl,⟨nd,rfl⟩⟩;have p16:0≤(7:Int):=(by omega);have q16:7 < a0.size:=(by have:(7:Int) < (a0.size:Int):=od;omega);have hx16:∀ h:7 < a0.size,((a0[7]'h).toNat:Int)=bt a0 7:=bt_at a0 7;clear p16;have qi16:(7 < (a0.size:Int))=True:=eq_true (od);replace q16:=eq_true q16))
            go_meet
            case rel=>exact ⟨_,(true),zq1,H',⟨by first | omega | exact Nat.le_refl _⟩,⟨zq7⟩⟩
           exact absurd H (by simp)
          replace c14:=Bool.eq_false_iff.mpr c14;subst c14;rw [if_neg Bool.false_ne_true] at H;have H':=sd H;clear H;go_wp2_with (first | (go_at_call 97;(with_reducible refine (rf01_Digits.calls k (a0.extract 0 4) true _ A6.out).mono ?_);rintro e w' ⟨rfl,⟨nd,rfl⟩⟩;have p9:0≤(4:Int):=(by omega);have q9:4 < a0.size:=(by have:(4:Int) < (a0.size:Int):=od;omega);have hx9:∀ h:4 < a0.size,((a0[4]'h).toNat:Int)=bt a0 4:=bt_at a0 4;clear p9;have qi9:(4 < (a0.size:Int))=True:=eq_true (od);replace q9:=eq_true q9) | (go_at_call 97;(with_reducible refine (rf01_Digits.calls k (a0.extract 5 7) false _ A13.out).mono ?_);rintro e w' ⟨rfl,⟨nd,rfl⟩⟩))
          go_meet
          case rel=>exact ⟨_,(true),zq1,H',⟨by first | omega | exact Nat.le_refl _⟩,⟨zq7⟩⟩
         exact absurd H (by simp)
        exact absurd H (by simp)
       obtain ⟨c10b0,c10b1⟩:=neI c10;have H':=sd H;clear H;go_wp2_with (first | (go_at_call 97;(with_reducible refine (rf01_Digits.calls k (a0.extract 0 4) true _ A6.out).mono ?_);rintro e w' ⟨rfl,⟨nd,rfl⟩⟩;have p9:0≤(4:Int):=(by omega);have q9:4 < a0.size:=(by have:(4:Int) < (a0.size:Int):=od;omega);have hx9:∀ h:4 < a0.size,((a0[4]'h).toNat:Int)=bt a0 4:=bt_at a0 4;clear p9;have qi9:(4 < (a0.size:Int))=True:=eq_true (od);replace q9:=eq_true q9))
       go_meet
       case rel=>exact ⟨_,(true),zq1,H',⟨by first | omega | exact Nat.le_refl _⟩,⟨zq7⟩⟩
      exact absurd H (by simp)
     replace c7:=Bool.eq_false_iff.mpr c7;subst c7;rw [if_neg Bool.false_ne_true] at H;have H':=sd H;clear H;go_wp2_with (first | (go_at_call 97;(with_reducible refine (rf01_Digits.calls k (a0.extract 0 4) false _ A6.out).mono ?_);rintro e w' ⟨rfl,⟨nd,rfl⟩⟩))
     go_meet
     case rel=>exact ⟨_,(true),zq1,H',⟨by first | omega | exact Nat.le_refl _⟩,⟨zq7⟩⟩
    exact absurd H (by simp)
   exact absurd H (by simp)
  obtain ⟨c3b0,c3b1⟩:=neI c3;(first | rw [c3b0] | (simp only [i64_w,i32_w];rw [c3b0]) | skip)
  have H':=sd H;clear H;go_wp2
  go_meet
  case rel=>exact ⟨_,(true),zq1,H',⟨by first | omega | exact Nat.le_refl _⟩,⟨zq7⟩⟩
 case rest =>
  clear HC2;try clear c1
  try clear p1
  try clear q1
  try clear hx1
  try clear qi1
  try clear p2
  try clear c3
  try clear c3b0
  try clear c3b1
  try clear c4
  try clear c4b0
  try clear c4b1
  try clear c5
  try clear c5b0
  try clear c5b1
  try clear c7
  try clear c8
  try clear c8b0
  try clear c8b1
  try clear c9
  try clear p9
  try clear q9
  try clear hx9
  try clear qi9
  try clear c10
  try clear c10b0
  try clear c10b1
  try clear c11
  try clear c11b0
  try clear c11b1
  try clear c12
  try clear c12b0
  try clear c12b1
  try clear c14
  try clear c15
  try clear c15b0
  try clear c15b1
  try clear p16
  try clear q16
  try clear hx16
  try clear qi16
  try clear c17
  try clear c17b0
  try clear c17b1
  try clear c18
  try clear c18b0
  try clear c18b1
  try clear p16
  try clear p9
  try clear q16
  try clear q9
  obtain ⟨kq,x34_1,rfl,HA,HJ1,HB⟩:=hcut
  cases kq with
  | zero=>exact absurd HA.out (by simp [rf04_Parse.j0])
  | succ kj1 =>
   have H:=HA.out;clear HA;simp only [rf04_Parse.j0] at H
   by_cases c20:x34_1=true
   ·subst c20;rw [if_pos rfl] at H;simp only [Option.some.injEq,Prod.mk.injEq] at H
    obtain ⟨rfl,rfl⟩:=H;go_wp2
    go_ret2
    exact ⟨zq10,zq7⟩
   replace c20:=Bool.eq_false_iff.mpr c20;subst c20;rw [if_neg Bool.false_ne_true] at H;replace H:=ifI H;rcases H with ⟨c21,H⟩ | ⟨c21,H⟩
   ·have c21b0:=eq_true c21;have c21b1:decide (0≤4)=true:=decide_eq_true c21;clear c21;replace H:=ifI H;rcases H with ⟨c22,H⟩ | ⟨c22,H⟩
    ·have c22b0:=eq_true c22;have c22b1:decide (4≤(a0.size:Int))=true:=decide_eq_true c22;clear c22;replace H:=bdI H;obtain ⟨t414,A23,H⟩:=H;(try dsimp only at H)
     replace H:=ifI H;rcases H with ⟨c24,H⟩ | ⟨c24,H⟩
     ·have c24b0:=eq_true c24;have c24b1:decide (5≤7)=true:=decide_eq_true c24;clear c24;replace H:=ifI H;rcases H with ⟨c25,H⟩ | ⟨c25,H⟩
      ·have c25b0:=eq_true c25;have c25b1:decide (7≤(a0.size:Int))=true:=decide_eq_true c25;clear c25;replace H:=bdI H;obtain ⟨t415,A26,H⟩:=H;(try dsimp only at H)
       replace H:=ifI H;rcases H with ⟨c27,H⟩ | ⟨c27,H⟩
       ·have c27b0:=eq_true c27;have c27b1:decide (8≤(a0.size:Int))=true:=decide_eq_true c27;clear c27;replace H:=bdI H;obtain ⟨t416,A28,H⟩:=H;(try dsimp only at H)
        replace H:=bdI H;obtain ⟨⟨t417,t418⟩,A29,H⟩:=H;(try dsimp only at H)
        simp only [Option.some.injEq,Prod.mk.injEq] at H
        obtain ⟨rfl,rfl⟩:=H;try go_wp2
        replace HB:=sd (below_drew1 HB.out);refine start_ (n:=15) (S:=fun w'=>True) (ds:=[]) #[false,false,false,false,false,false,false,false,false,false,false,false,false,false,false] (by kernel_rfl) rfl rfl trivial (fun hHeld=>?_);refine with_tabW rf04_Parse.tab3 rf04_Parse.bits3 (fun HT_ HW_=>?_);generalize wc.drew=w30 at HB hHeld ⊢;refine pA 0 35 HT_.out ?_;refine pA 1 36 HT_.out ?_;refine pA 3 38 HT_.out ?_;refine pA 4 39 HT_.out ?_;refine pA 6 41 HT_.out ?_;refine pA 7 42 HT_.out ?_;refine one_ (i:=2) (N:=some 37) #[true,true,true,true,true,false,true,true,false,false,false,false,false,false,false] rfl rfl (one_of HT_.out (by kernel_rfl)) (by decide) (fun K hK=>?_);refine goes_ Tryd.func112 (by kernel_rfl) rfl #[.string (a0.extract 0 4)] (by rfl) rfl rfl zq28 ?_;with_reducible refine (rf04_value.calls kj1 (a0.extract 0 4) t414 _ A23.out).mono ?_
        rintro e w' ⟨rfl,⟨nd,rfl⟩⟩;refine ⟨_,rfl,?_⟩;refine hK.out _ _ trivial (fun hHeld=>?_);clear hK K;refine nA 37 ?_;refine one_ (i:=5) (N:=some 40) #[true,true,true,true,true,true,true,true,false,false,false,false,false,false,false] rfl rfl (one_of HT_.out (by kernel_rfl)) (by decide) (fun K hK=>?_);refine goes_ Tryd.func112 (by kernel_rfl) rfl #[.string (a0.extract 5 7)] (by rfl) rfl rfl zq28 ?_;with_reducible refine (rf04_value.calls kj1 (a0.extract 5 7) t415 _ A26.out).mono ?_
        rintro e w' ⟨rfl,⟨nd,rfl⟩⟩;refine ⟨_,rfl,?_⟩;refine hK.out _ _ trivial (fun hHeld=>?_);clear hK K;refine nA 40 ?_;refine one_ (i:=8) (N:=some 43) #[true,true,true,true,true,true,true,true,true,false,false,false,false,false,false] rfl rfl (one_of HT_.out (by kernel_rfl)) (by decide) (fun K hK=>?_);refine goes_ Tryd.func112 (by kernel_rfl) rfl #[.string (a0.extract 8 a0.size)] (by rfl) rfl rfl zq28 ?_;with_reducible refine (rf04_value.calls kj1 (a0.extract 8 a0.size) t416 _ A28.out).mono ?_
        rintro e w' ⟨rfl,⟨nd,rfl⟩⟩;refine ⟨_,rfl,?_⟩;refine hK.out _ _ trivial (fun hHeld=>?_);clear hK K;refine nA 43 ?_;refine pA 9 44 HT_.out ?_;refine one_ (i:=10) (N:=some 45) #[true,true,true,true,true,true,true,true,true,true,true,false,false,false,false] rfl rfl (one_of HT_.out (by kernel_rfl)) (by decide) (fun K hK=>?_);refine goes_ Tryd.func111 (by kernel_rfl) rfl #[.agg #[.int .i64 t414,.int .i64 t415,.int .i64 t416]] (by rfl) rfl rfl zq28 ?_;with_reducible refine (rf04_Of.calls kj1 t414 t415 t416 t417 t418 _ A29.out).mono ?_
        rintro e w31 ⟨rfl,hb⟩;refine ⟨_,rfl,?_⟩;replace HB:=hbm HB hb;clear hb;refine hK.out _ _ trivial (fun hHeld=>?_);clear hK K;refine nA 45 ?_;refine pA 11 46 HT_.out ?_;refine pA 12 47 HT_.out ?_;refine pA 13 2 HT_.out ?_;refine pA 14 3 HT_.out ?_;refine done_ (done_of HT_.out (by kernel_rfl)) ?_;try go_wp2
        go_ret2
        exact ⟨zq10,zq7⟩
       exact absurd H (by simp)
      exact absurd H (by simp)
     exact absurd H (by simp)
    exact absurd H (by simp)
   exact absurd H (by simp)
def rf47_body.f (k:Nat) (p:PSt) (ws:List S93):Option (PSt×Int) :=
 if 4 < ws.length∧p.ls.length≤1000000 then (rf04_Parse.f k (rd_T93 ws 1).f1).bind fun d=>if d.2=0 then (rf07_Parse.f k (rd_T93 ws 2).f1 p.dg).bind fun a =>
   some ({ p with ls:=p.ls++[⟨d.1,a.1,(rd_T93 ws 3).f1,(rd_T93 ws 4).f1⟩] },a.2) else some (p,d.2) else none
end Go.Proofs.YtmlcdpfcafmmcaaDoor.A
