-- By pack.py, a program of this session's.
import Derived.Test.YtlblkojjpagbkaaDoorZ5
import Derived.Test.YtlblkojjpagbkaaDoorZ6
set_option linter.unusedVariables false
set_option linter.unusedSimpArgs false
namespace Go.Proofs.YtlblkojjpagbkaaDoor
namespace A
open Go.RowKit B WW WL WM
attribute [local go_sem] max2_int min2_int max_two min_two max_three min_three max_four min_four
set_option maxHeartbeats 8000000
set_option maxRecDepth 100000
theorem days_is.calls (a0:Int) (r:Bool) (w:World) (h:days_is.f a0=some r) :
  Calls Tryd.prog 85 #[.int .i64 a0] w fun e w'=>e=.returned (.bool r)∧Drawn0 w w':=by
 have H:=h;clear h;unfold days_is.f at H;replace H:=ifI H;rcases H with ⟨c2,H⟩|⟨c2,H⟩
 ·have c2b0:decide (0≤a0)=true:=decide_eq_true c2;clear c2;obtain rfl:=Option.some.inj H;go_enter Tryd.func85,Tryd.ntmps85
  go_wp2
  go_ret
  exact ⟨zq7,zq15⟩
 have c2b0:decide (0≤a0)=false:=decide_eq_false c2;clear c2;obtain rfl:=Option.some.inj H;go_enter Tryd.func85,Tryd.ntmps85
 go_wp2
 go_ret
 exact ⟨zq7,zq15⟩
theorem days_before.calls (a0 r:Int) (w:World) (h:days_before.f a0=some r) :
  Calls Tryd.prog 86 #[.int .i64 a0] w fun e w'=>e=.returned (.int .i64 r)∧Drawn0 w w':=by
 have H:=h;clear h;unfold days_before.f at H;obtain rfl:=Option.some.inj H;go_enter Tryd.func86,Tryd.ntmps86
 go_wp2
 go_ret
 exact ⟨zq7,zq15⟩
theorem days_Leap.calls (a0:Int) (r:Bool) (w:World) (h:days_Leap.f a0=some r) :
  Calls Tryd.prog 96 #[.int .i64 a0] w fun e w'=>e=.returned (.bool r)∧Drawn0 w w':=by
 have H:=h;clear h;unfold days_Leap.f at H;replace H:=ifI H;rcases H with ⟨c2,H⟩|⟨c2,H⟩
 ·obtain ⟨c2b0,c2b1⟩:=eqI c2;clear c2;replace H:=ifI H;rcases H with ⟨c3,H⟩|⟨c3,H⟩
  ·obtain ⟨c3b0,c3b1⟩:=eqI c3;clear c3;obtain rfl:=Option.some.inj H;go_enter Tryd.func96,Tryd.ntmps96
   go_wp2
   go_ret
   exact ⟨zq7,zq15⟩
  obtain ⟨c3b0,c3b1⟩:=neI c3;obtain rfl:=Option.some.inj H;go_enter Tryd.func96,Tryd.ntmps96
  go_wp2
  go_ret
  exact ⟨zq7,zq15⟩
 obtain ⟨c2b0,c2b1⟩:=neI c2;obtain rfl:=Option.some.inj H;go_enter Tryd.func96,Tryd.ntmps96
 go_wp2
 go_ret
 exact ⟨zq7,zq15⟩
theorem days_Length.calls (a0 a1 r:Int) (w:World) (h:days_Length.f a0 a1=some r) (hG:Gl w) :
  Calls Tryd.prog 87 #[.int .i64 a0,.int .i64 a1] w fun e w'=>e=.returned (.int .i64 r)∧Drawn0 w w':=by
 have HPost:∀ W,Drawn0 w W→(fun (e:Ending) (w':World)=>e=.returned (.int .i64 r)∧Drawn0 w w') (.returned (.int .i64 r)) W:=fun W hW=>⟨rfl,hW⟩
 generalize (fun (e:Ending) (w':World)=>e=.returned (.int .i64 r)∧Drawn0 w w')=Post at HPost ⊢;have HP:=sd HPost;have HG:=sd hG;clear HPost hG;unfold days_Length.f at h;by_cases h1:a1 < 1
 ·rw [if_pos (.inl h1)] at h;obtain rfl:=Option.some.inj h;go_enter Tryd.func87,Tryd.ntmps87
  go_wp2_with fail
  (try go_ret)
  exact HP.out _ (Drawn0.refl _)
 by_cases h2:12 < a1
 ·rw [if_pos (.inr h2)] at h;obtain rfl:=Option.some.inj h;go_enter Tryd.func87,Tryd.ntmps87
  go_wp2_with fail
  (try go_ret)
  exact HP.out _ (Drawn0.refl _)
 rw [if_neg (by omega)] at h;have h1b:decide (a1 < 1)=false:=decide_eq_false h1;have h2b:decide (12 < a1)=false:=decide_eq_false h2;by_cases h3:a1=2
 ·subst h3;rw [if_pos rfl] at h;replace h:=Option.bind_eq_some_iff.mp h;obtain ⟨b,hb,h⟩:=h;have HL:=sd (fun W=>days_Leap.calls a0 b W hb);clear hb h1 h2 h1b h2b
  cases b
  ·rw [if_neg (by decide)] at h;obtain rfl:=Option.some.inj h;have hc:=HG.out.mon 1 (by decide);rw [show monLen 1=28 from rfl] at hc;go_enter Tryd.func87,Tryd.ntmps87
   go_wp2_with (first|(go_at_call 96;(with_reducible refine (HL.out _).mono ?_);rintro e w' ⟨rfl,nd,rfl⟩))
   (try go_ret)
   exact HP.out _ zq15
  ·rw [if_pos rfl] at h;obtain rfl:=Option.some.inj h;go_enter Tryd.func87,Tryd.ntmps87
   go_wp2_with (first|(go_at_call 96;(with_reducible refine (HL.out _).mono ?_);rintro e w' ⟨rfl,nd,rfl⟩))
   (try go_ret)
   exact HP.out _ zq15
 rw [if_neg h3] at h;have h3b:(a1 == 2)=false:=beq_eq_false_iff_ne.mpr h3;obtain ⟨k,rfl⟩:∃ k:Nat,a1=(k:Int)+1:=⟨(a1 - 1).toNat,by omega⟩
 rw [show ((k:Int)+1 - 1).toNat=k by omega] at h;obtain rfl:=Option.some.inj h;have hk:k < 12:=by omega
 have hc:=HG.out.mon k hk;have e1:(k:Int)+1 - 1=(k:Int):=by omega
 have i0:(0:Int)≤(k:Int):=by omega
 have i1:(k:Int) < 12:=by omega
 clear h1 h2 h3 HG;go_enter Tryd.func87,Tryd.ntmps87
 go_wp2_with fail
 (try go_ret)
 exact HP.out _ (Drawn0.refl _)
theorem days_Date.calls (k:Nat) (a0 r1 r2 r3 r4:Int) (w:World) (h:days_Date.f k a0=some (r1,r2,r3,r4)) (hG:Gl w) :
  Calls Tryd.prog 60 #[.int .i64 a0] w fun e w'=>e=.returned (.tuple #[.agg #[.int .i64 r1,.int .i64 r2,.int .i64 r3],.int .i64 r4])∧Below w.heap.size w w':=by
 have HG:=sd hG;clear hG;have hu105:=Tryd.underlying105;have HB:=sd (Below.refl w.heap.size w);have H:=h;clear h;unfold days_Date.f at H;replace H:=bdI H;obtain ⟨t129,A2,H⟩:=H;(try dsimp only at H)
 by_cases c3:t129=true
 ·subst c3;rw [if_pos rfl] at H;have HC4:=sd H;clear H;go_enter Tryd.func60,Tryd.ntmps60
  go_upto_block 0 with (first|((with_reducible refine gate_dst (N:=2) rfl ?_);refine bxA 2 #[.int .i64 0,.int .i64 0,.int .i64 0] 105 ?_;intro gb128 hg w5 hbox hb;have BK128:=sd (hbox);have GW128:=gem hg HB;have GE128:=GW128;replace HB:=hbm HB hb;clear hb hbox hg)|((with_reducible refine gate_callee (f:=85) rfl ?_);refine gL 5 Tryd.func85 #[.int .i64 a0] ?_;(with_reducible refine (days_is.calls a0 true _ A2.out).mono ?_);rintro e w' ⟨rfl,⟨nd,rfl⟩⟩;refine ⟨_,rfl,?_⟩;(try (rw [drewN_self w5];generalize hq_:World.drewN w5 _=w5;have n0_:Aside0 (w5.heap[gb128]?=some (.cells #[.int .i64 0,.int .i64 0,.int .i64 0] 105 (0,0))):=⟨zq72⟩;have n1_:Aside0 (Below w.heap.size w w5):=⟨zq73⟩;clear BK128 HB hq_;have BK128:=n0_;have HB:=n1_;clear n0_ n1_;(try (have hdBK128_0:=(blk_cell BK128.out 0).trans rfl;have heBK128_0:=blk_frozen BK128.out 0;have hdBK128_1:=(blk_cell BK128.out 1).trans rfl;have heBK128_1:=blk_frozen BK128.out 1;have hdBK128_2:=(blk_cell BK128.out 2).trans rfl;have heBK128_2:=blk_frozen BK128.out 2))));obtain ⟨_,_,_,_,_,_⟩:=bk3 BK128))
  (try simp only [Act.put,List.setIfInBounds_toArray,List.set_cons_zero,List.set_cons_succ])
  go_cut [] (fun wc=>∃ (kq:Nat) (x129000_3:Int),Aside0 (days_Date.j1 kq a0 x129000_3 0 0=some (r1,r2,r3,r4))∧Aside0 (kq≤k)∧Aside0 (wc.heap[gb128]?=some (.cells #[.int .i64 x129000_3,.int .i64 0,.int .i64 0] 105 (0,0)))∧Aside0 (Below w.heap.size w wc))
  case first =>
   have H:=HC4.out;clear HC4;have H':=sd H;clear H;go_wp2
   go_loopg [] k (fun kq w'=>∃ (x129000_1:Int),Aside0 (days_Date.l0 kq a0 x129000_1 0 0=some (r1,r2,r3,r4))∧Aside0 (kq≤k)∧Aside0 (w'.heap[gb128]?=some (.cells #[.int .i64 x129000_1,.int .i64 0,.int .i64 0] 105 (0,0)))∧Aside0 (Below w.heap.size w w'))
   case atStart=>exact ⟨(wrap64 (1900+(wrap64 (Int.tdiv a0 366)))),H',⟨Nat.le_refl _⟩,⟨by (with_reducible repeat (first|refine blk_drewN ?_ _|refine blk_drew ?_|refine blk_alloc ?_ _));refine blk_put (cs:=#[.int .i64 0,.int .i64 0,.int .i64 0]) ?_ 0 _ rfl;(with_reducible repeat (first|refine blk_drewN ?_ _|refine blk_drew ?_|refine blk_alloc ?_ _));exact BK128.out⟩,⟨zq74⟩⟩
   case round =>
    clear H';try clear p2
    obtain ⟨x129000_1,HA,HK1,BK128,HB⟩:=hrel
    cases gk with
   |zero=>exact absurd HA.out (by simp [days_Date.l0])
   |succ k1 =>
     have H:=HA.out;clear HA;simp only [days_Date.l0] at H
     replace H:=ifI H;rcases H with ⟨c7,H⟩|⟨c7,H⟩
     ·have c7b0:decide (x129000_1 < 2199)=true:=decide_eq_true c7;clear c7;(first|rw [c7b0]|(simp only [i64_w,i32_w];rw [c7b0])|skip)
      replace H:=bdI H;obtain ⟨t130,A8,H⟩:=H;(try dsimp only at H)
      replace H:=ifI H;rcases H with ⟨c9,H⟩|⟨c9,H⟩
      ·have c9b0:decide (t130≤a0)=true:=decide_eq_true c9;clear c9;have H':=sd H;clear H;obtain ⟨_,_,_,_,_,_⟩:=bk3 BK128;go_wp2_with (first|(go_at_call 86;(with_reducible refine (days_before.calls (wrap64 (x129000_1+1)) t130 _ A8.out).mono ?_);rintro e w' ⟨rfl,⟨nd,rfl⟩⟩;(try (rw [drewN_self wr];generalize hq_:World.drewN wr _=wr;have n0_:Aside0 (wr.heap[gb128]?=some (.cells #[.int .i64 x129000_1,.int .i64 0,.int .i64 0] 105 (0,0))):=⟨zq72⟩;have n1_:Aside0 (Below w.heap.size w wr):=⟨zq73⟩;clear BK128 HB hq_;have BK128:=n0_;have HB:=n1_;clear n0_ n1_;(try (have hdBK128_0:=(blk_cell BK128.out 0).trans rfl;have heBK128_0:=blk_frozen BK128.out 0;have hdBK128_1:=(blk_cell BK128.out 1).trans rfl;have heBK128_1:=blk_frozen BK128.out 1;have hdBK128_2:=(blk_cell BK128.out 2).trans rfl;have heBK128_2:=blk_frozen BK128.out 2))))))
       go_roundg k1
       case measure=>have:=HK1.out;omega
       case rel=>exact ⟨(wrap64 (x129000_1+1)),H',⟨by have:=HK1.out;omega⟩,⟨by (with_reducible repeat (first|refine blk_drewN ?_ _|refine blk_drew ?_|refine blk_alloc ?_ _));refine blk_put (cs:=#[.int .i64 x129000_1,.int .i64 0,.int .i64 0]) ?_ 0 _ rfl;(with_reducible repeat (first|refine blk_drewN ?_ _|refine blk_drew ?_|refine blk_alloc ?_ _));exact BK128.out⟩,⟨zq74⟩⟩
      have c9b0:decide (t130≤a0)=false:=decide_eq_false c9;clear c9;have H':=sd H;clear H;obtain ⟨_,_,_,_,_,_⟩:=bk3 BK128;go_wp2_with (first|(go_at_call 86;(with_reducible refine (days_before.calls (wrap64 (x129000_1+1)) t130 _ A8.out).mono ?_);rintro e w' ⟨rfl,⟨nd,rfl⟩⟩))
      go_meet
      case rel=>exact ⟨_,(x129000_1),H',⟨zq8⟩,⟨zq75⟩,⟨zq74⟩⟩
     have c7b0:decide (x129000_1 < 2199)=false:=decide_eq_false c7;clear c7;(first|rw [c7b0]|(simp only [i64_w,i32_w];rw [c7b0])|skip)
     have H':=sd H;clear H;obtain ⟨_,_,_,_,_,_⟩:=bk3 BK128;go_wp2
     go_meet
     case rel=>exact ⟨_,(x129000_1),H',⟨zq8⟩,⟨zq75⟩,⟨zq74⟩⟩
  case rest =>
   clear HC4;try clear p2
   obtain ⟨kq,x129000_3,HA,HJ3,BK128,HB⟩:=hcut
   cases kq with
  |zero=>exact absurd HA.out (by simp [days_Date.j1])
  |succ kj3 =>
    have H:=HA.out;clear HA;simp only [days_Date.j1] at H
    replace H:=bdI H;obtain ⟨t131,A13,H⟩:=H;(try dsimp only at H)
    have H':=sd H;clear H;obtain ⟨_,_,_,_,_,_⟩:=bk3 BK128;go_wp2_with (first|((with_reducible refine gate_callee (f:=86) rfl ?_);refine gL 30 Tryd.func86 #[.int .i64 x129000_3] ?_;(with_reducible refine (days_before.calls x129000_3 t131 _ A13.out).mono ?_);rintro e w' ⟨rfl,⟨nd,rfl⟩⟩;refine ⟨_,rfl,?_⟩;(try (rw [drewN_self wc];generalize hq_:World.drewN wc _=wc;have n0_:Aside0 (wc.heap[gb128]?=some (.cells #[.int .i64 x129000_3,.int .i64 0,.int .i64 0] 105 (0,0))):=⟨zq72⟩;have n1_:Aside0 (Below w.heap.size w wc):=⟨zq73⟩;clear BK128 HB hq_;have BK128:=n0_;have HB:=n1_;clear n0_ n1_;(try (have hdBK128_0:=(blk_cell BK128.out 0).trans rfl;have heBK128_0:=blk_frozen BK128.out 0;have hdBK128_1:=(blk_cell BK128.out 1).trans rfl;have heBK128_1:=blk_frozen BK128.out 1;have hdBK128_2:=(blk_cell BK128.out 2).trans rfl;have heBK128_2:=blk_frozen BK128.out 2))))))
    go_loopg [0] kj3 (fun kq v0 w'=>∃ (x0_2:Int) (x129001_2:Int),v0=.int .i64 x0_2∧Aside0 (days_Date.l1 kq x0_2 x129000_3 x129001_2 0=some (r1,r2,r3,r4))∧Aside0 (kq≤kj3)∧Aside0 (w'.heap[gb128]?=some (.cells #[.int .i64 x129000_3,.int .i64 x129001_2,.int .i64 0] 105 (0,0)))∧Aside0 (Below w.heap.size w w'))
    case atStart=>exact ⟨(wrap64 (a0 - t131)),(1),zq7,H',⟨Nat.le_refl _⟩,⟨by (with_reducible repeat (first|refine blk_drewN ?_ _|refine blk_drew ?_|refine blk_alloc ?_ _));refine blk_put (cs:=#[.int .i64 x129000_3,.int .i64 0,.int .i64 0]) ?_ 1 _ rfl;(with_reducible repeat (first|refine blk_drewN ?_ _|refine blk_drew ?_|refine blk_alloc ?_ _));exact BK128.out⟩,⟨zq74⟩⟩
    case round =>
     clear H';try clear p2
     obtain ⟨x0_2,x129001_2,rfl,HA,HK2,BK128,HB⟩:=hrel
     cases gk with
    |zero=>exact absurd HA.out (by simp [days_Date.l1])
    |succ k2 =>
      have H:=HA.out;clear HA;simp only [days_Date.l1] at H
      replace H:=bdI H;obtain ⟨t132,A15,H⟩:=H;(try dsimp only at H)
      replace H:=ifI H;rcases H with ⟨c16,H⟩|⟨c16,H⟩
      ·have c16b0:decide (t132≤x0_2)=true:=decide_eq_true c16;clear c16;replace H:=bdI H;obtain ⟨t133,A17,H⟩:=H;(try dsimp only at H)
       have H':=sd H;clear H;obtain ⟨_,_,_,_,_,_⟩:=bk3 BK128;go_wp2_with (first|((with_reducible refine gate_callee (f:=87) rfl ?_);refine gL 38 Tryd.func87 #[.int .i64 x129000_3,.int .i64 x129001_2] ?_;(with_reducible refine (days_Length.calls x129000_3 x129001_2 t132 _ A15.out (gl_below HG.out zq20)).mono ?_);rintro e w' ⟨rfl,⟨nd,rfl⟩⟩;refine ⟨_,rfl,?_⟩;(try (rw [drewN_self wr];generalize hq_:World.drewN wr _=wr;have n0_:Aside0 (wr.heap[gb128]?=some (.cells #[.int .i64 x129000_3,.int .i64 x129001_2,.int .i64 0] 105 (0,0))):=⟨zq72⟩;have n1_:Aside0 (Below w.heap.size w wr):=⟨zq73⟩;clear BK128 HB hq_;have BK128:=n0_;have HB:=n1_;clear n0_ n1_;(try (have hdBK128_0:=(blk_cell BK128.out 0).trans rfl;have heBK128_0:=blk_frozen BK128.out 0;have hdBK128_1:=(blk_cell BK128.out 1).trans rfl;have heBK128_1:=blk_frozen BK128.out 1;have hdBK128_2:=(blk_cell BK128.out 2).trans rfl;have heBK128_2:=blk_frozen BK128.out 2)))))|((with_reducible refine gate_callee (f:=87) rfl ?_);refine gL 45 Tryd.func87 #[.int .i64 x129000_3,.int .i64 x129001_2] ?_;(with_reducible refine (days_Length.calls x129000_3 x129001_2 t133 _ A17.out (gl_below HG.out zq20)).mono ?_);rintro e w' ⟨rfl,⟨nd,rfl⟩⟩;refine ⟨_,rfl,?_⟩;(try (rw [drewN_self wr];generalize hq_:World.drewN wr _=wr;have n0_:Aside0 (wr.heap[gb128]?=some (.cells #[.int .i64 x129000_3,.int .i64 x129001_2,.int .i64 0] 105 (0,0))):=⟨zq72⟩;have n1_:Aside0 (Below w.heap.size w wr):=⟨zq73⟩;clear BK128 HB hq_;have BK128:=n0_;have HB:=n1_;clear n0_ n1_;(try (have hdBK128_0:=(blk_cell BK128.out 0).trans rfl;have heBK128_0:=blk_frozen BK128.out 0;have hdBK128_1:=(blk_cell BK128.out 1).trans rfl;have heBK128_1:=blk_frozen BK128.out 1;have hdBK128_2:=(blk_cell BK128.out 2).trans rfl;have heBK128_2:=blk_frozen BK128.out 2))))))
       go_roundg k2
       case measure=>have:=HJ3.out;have:=HK2.out;omega
       case rel=>exact ⟨(wrap64 (x0_2 - t133)),(wrap64 (x129001_2+1)),zq7,H',⟨by have:=HJ3.out;have:=HK2.out;omega⟩,⟨by (with_reducible repeat (first|refine blk_drewN ?_ _|refine blk_drew ?_|refine blk_alloc ?_ _));refine blk_put (cs:=#[.int .i64 x129000_3,.int .i64 x129001_2,.int .i64 0]) ?_ 1 _ rfl;(with_reducible repeat (first|refine blk_drewN ?_ _|refine blk_drew ?_|refine blk_alloc ?_ _));exact BK128.out⟩,⟨zq74⟩⟩
      have c16b0:decide (t132≤x0_2)=false:=decide_eq_false c16;clear c16;simp only [Option.some.injEq,Prod.mk.injEq] at H
      obtain ⟨rfl,rfl,rfl,rfl⟩:=H;obtain ⟨_,_,_,_,_,_⟩:=bk3 BK128;go_wp2_with (first|((with_reducible refine gate_callee (f:=87) rfl ?_);refine gL 38 Tryd.func87 #[.int .i64 x129000_3,.int .i64 x129001_2] ?_;(with_reducible refine (days_Length.calls x129000_3 x129001_2 t132 _ A15.out (gl_below HG.out zq20)).mono ?_);rintro e w' ⟨rfl,⟨nd,rfl⟩⟩;refine ⟨_,rfl,?_⟩;(try (rw [drewN_self wr];generalize hq_:World.drewN wr _=wr;have n0_:Aside0 (wr.heap[gb128]?=some (.cells #[.int .i64 x129000_3,.int .i64 x129001_2,.int .i64 0] 105 (0,0))):=⟨zq72⟩;have n1_:Aside0 (Below w.heap.size w wr):=⟨zq73⟩;clear BK128 HB hq_;have BK128:=n0_;have HB:=n1_;clear n0_ n1_;(try (have hdBK128_0:=(blk_cell BK128.out 0).trans rfl;have heBK128_0:=blk_frozen BK128.out 0;have hdBK128_1:=(blk_cell BK128.out 1).trans rfl;have heBK128_1:=blk_frozen BK128.out 1;have hdBK128_2:=(blk_cell BK128.out 2).trans rfl;have heBK128_2:=blk_frozen BK128.out 2))))))
      refine bodyPost_ret (results_ct rfl _ _ gb128 105 #[.int .i64 x129000_3,.int .i64 x129001_2,.int .i64 (wrap64 (x0_2+1))] (0,0) _ rfl (by (with_reducible repeat (first|refine blk_drewN ?_ _|refine blk_drew ?_|refine blk_alloc ?_ _));refine blk_put (cs:=#[.int .i64 x129000_3,.int .i64 x129001_2,.int .i64 (wrap64 (x0_2+1))]) ?_ 2 _ rfl;(with_reducible repeat (first|refine blk_drewN ?_ _|refine blk_drew ?_|refine blk_alloc ?_ _));refine blk_put (cs:=#[.int .i64 x129000_3,.int .i64 x129001_2,.int .i64 (wrap64 (x0_2+1))]) ?_ 1 _ rfl;(with_reducible repeat (first|refine blk_drewN ?_ _|refine blk_drew ?_|refine blk_alloc ?_ _));refine blk_put (cs:=#[.int .i64 x129000_3,.int .i64 x129001_2,.int .i64 (wrap64 (x0_2+1))]) ?_ 0 _ rfl;(with_reducible repeat (first|refine blk_drewN ?_ _|refine blk_drew ?_|refine blk_alloc ?_ _));refine blk_put (cs:=#[.int .i64 x129000_3,.int .i64 x129001_2,.int .i64 0]) ?_ 2 _ rfl;(with_reducible repeat (first|refine blk_drewN ?_ _|refine blk_drew ?_|refine blk_alloc ?_ _));exact BK128.out) Tryd.underlying105 rfl (by kernel_rfl)) rfl ?_;exact ⟨zq4,zq74⟩
 replace c3:=Bool.eq_false_iff.mpr c3;subst c3;rw [if_neg Bool.false_ne_true] at H;simp only [Option.some.injEq,Prod.mk.injEq] at H
 obtain ⟨rfl,rfl,rfl,rfl⟩:=H;go_enter Tryd.func60,Tryd.ntmps60
 go_wp2_with (first|((with_reducible refine gate_dst (N:=2) rfl ?_);refine bxA 2 #[.int .i64 0,.int .i64 0,.int .i64 0] 105 ?_;intro gb128 hg w20 hbox hb;have BK128:=sd (hbox);have GW128:=gem hg HB;have GE128:=GW128;replace HB:=hbm HB hb;clear hb hbox hg)|((with_reducible refine gate_callee (f:=85) rfl ?_);refine gL 5 Tryd.func85 #[.int .i64 a0] ?_;(with_reducible refine (days_is.calls a0 false _ A2.out).mono ?_);rintro e w' ⟨rfl,⟨nd,rfl⟩⟩;refine ⟨_,rfl,?_⟩;(try (rw [drewN_self w20];generalize hq_:World.drewN w20 _=w20;have n0_:Aside0 (w20.heap[gb128]?=some (.cells #[.int .i64 0,.int .i64 0,.int .i64 0] 105 (0,0))):=⟨zq72⟩;have n1_:Aside0 (Below w.heap.size w w20):=⟨zq73⟩;clear BK128 HB hq_;have BK128:=n0_;have HB:=n1_;clear n0_ n1_;(try (have hdBK128_0:=(blk_cell BK128.out 0).trans rfl;have heBK128_0:=blk_frozen BK128.out 0;have hdBK128_1:=(blk_cell BK128.out 1).trans rfl;have heBK128_1:=blk_frozen BK128.out 1;have hdBK128_2:=(blk_cell BK128.out 2).trans rfl;have heBK128_2:=blk_frozen BK128.out 2))));obtain ⟨_,_,_,_,_,_⟩:=bk3 BK128))
 refine bodyPost_ret (results_ct rfl _ _ gb128 105 #[.int .i64 0,.int .i64 0,.int .i64 0] (0,0) _ rfl (by (with_reducible repeat (first|refine blk_drewN ?_ _|refine blk_drew ?_|refine blk_alloc ?_ _));refine blk_put (cs:=#[.int .i64 0,.int .i64 0,.int .i64 0]) ?_ 2 _ rfl;(with_reducible repeat (first|refine blk_drewN ?_ _|refine blk_drew ?_|refine blk_alloc ?_ _));refine blk_put (cs:=#[.int .i64 0,.int .i64 0,.int .i64 0]) ?_ 1 _ rfl;(with_reducible repeat (first|refine blk_drewN ?_ _|refine blk_drew ?_|refine blk_alloc ?_ _));refine blk_put (cs:=#[.int .i64 0,.int .i64 0,.int .i64 0]) ?_ 0 _ rfl;(with_reducible repeat (first|refine blk_drewN ?_ _|refine blk_drew ?_|refine blk_alloc ?_ _));exact BK128.out) Tryd.underlying105 rfl (by kernel_rfl)) rfl ?_;exact ⟨zq4,zq74⟩
theorem words_word.calls (k:Nat) (a0:ByteArray) (a1 r1:Int) (r2:ByteArray) (r3 r4 r5 r6:Int) (w:World) (h:words_word.f k a0 a1=some (r1,r2,r3,r4,r5,r6)) :
  Calls Tryd.prog 51 #[.string a0,.int .i64 a1] w fun e w'=>e=.returned (.tuple #[.agg #[.int .i64 r1,.string r2,.int .i64 r3],.int .i64 r4,.agg #[.int .i64 r5,.int .i64 r6]])∧Below w.heap.size w w':=by
 have HPost:∀ W,Below w.heap.size w W→(fun (e:Ending) (w':World)=>e=.returned (.tuple #[.agg #[.int .i64 r1,.string r2,.int .i64 r3],.int .i64 r4,.agg #[.int .i64 r5,.int .i64 r6]])∧Below w.heap.size w w') (.returned (.tuple #[.agg #[.int .i64 r1,.string r2,.int .i64 r3],.int .i64 r4,.agg #[.int .i64 r5,.int .i64 r6]])) W:=fun W hW=>⟨rfl,hW⟩
 generalize (fun (e:Ending) (w':World)=>e=.returned (.tuple #[.agg #[.int .i64 r1,.string r2,.int .i64 r3],.int .i64 r4,.agg #[.int .i64 r5,.int .i64 r6]])∧Below w.heap.size w w')=Post at HPost ⊢;have HP:=sd HPost;clear HPost;unfold words_word.f at h;split at h
 case isFalse=>cases h
 rename_i hb
 obtain ⟨hb0,hb1,hs⟩:=hb;obtain ⟨i,rfl⟩:=Int.eq_ofNat_of_zero_le hb0;have hi:i < a0.size:=by omega
 clear hb0 hb1;rw [show bt a0 (i:Int)=(a0[i].toNat:Int) from (bt_at a0 i hi).symm] at h;obtain ⟨c,hc⟩:∃ c,a0[i]=c:=⟨_,rfl⟩
 rw [hc] at h;replace h:=Option.bind_eq_some_iff.mp h;obtain ⟨l,hl,h⟩:=h;have CL:=sd (fun W=>words_letter.calls (c.toNat:Int) l W hl);clear hl
 cases l
 ·rw [if_neg (by decide)] at h;replace h:=Option.bind_eq_some_iff.mp h;obtain ⟨d,hd,h⟩:=h;have CD:=sd (fun W=>words_digit.calls (c.toNat:Int) d W hd);clear hd
  cases d
  ·rw [if_neg (by decide)] at h;by_cases h45:(c.toNat:Int)=45
   ·rw [if_pos h45] at h;replace h:=Option.bind_eq_some_iff.mp h;obtain ⟨b,hb,h⟩:=h;have CA:=sd (fun W=>words_digitAt.calls a0 ((i:Int)+1) b W hb);have s45:((c.toNat:Int) == 45)=true:=beq_iff_eq.mpr h45;clear hb
    cases b
    ·rw [if_neg (by decide)] at h;unfold words_word.h at h;rw [show bt a0 (i:Int)=(c.toNat:Int) by rw [← hc];exact (bt_at a0 i hi).symm] at h;have h34:¬ (c.toNat:Int)=34:=by omega
     clear h45;rw [if_neg h34] at h;have s34:((c.toNat:Int) == 34)=false:=beq_eq_false_iff_ne.mpr h34;clear h34;replace h:=Option.bind_eq_some_iff.mp h;obtain ⟨e,he,h⟩:=h;have CN:=sd (fun W=>words_signEnd.calls k a0 (i:Int) e W he);clear he;by_cases hei:e=(i:Int)
     ·rw [if_pos hei] at h;subst hei;simp only [Option.some.injEq,Prod.mk.injEq] at h
      obtain ⟨rfl,rfl,rfl,rfl,rfl,rfl⟩:=h;go_enter Tryd.func51,Tryd.ntmps51
      go_wp2_with fail
      refine (CL.out _).mono ?_;rintro e w' ⟨rfl,nd0,rfl⟩;go_wp2_with fail
      refine (CD.out _).mono ?_;rintro e w' ⟨rfl,nd1,rfl⟩;go_wp2_with fail
      refine (CA.out _).mono ?_;rintro e w' ⟨rfl,nd2,rfl⟩;go_wp2_with fail
      refine (CN.out _).mono ?_;rintro e w' ⟨rfl,nd3,rfl⟩;go_wp2_with fail
      exact word_ret _ _ _ w.heap.size 4 ⟨#[]⟩ (i:Int) ((i:Int)) ((i:Int)) (5) rfl rfl rfl zq1 zq1 zq1 zq1 zq1 (HP.out _ zq2)
     rw [if_neg hei] at h;unfold words_word.g at h;split at h
     case isFalse=>cases h
     rename_i hb
     obtain ⟨q0,q1⟩:=hb;obtain ⟨n,rfl⟩:=Int.eq_ofNat_of_zero_le (show 0≤e by omega);simp only [Int.toNat_natCast,Option.some.injEq,Prod.mk.injEq] at h
     obtain ⟨rfl,rfl,rfl,rfl,rfl,rfl⟩:=h;have hne:((n:Int) == (i:Int))=false:=beq_eq_false_iff_ne.mpr hei;clear hei;have hsz:(a0.extract i n).size=n - i:=by rw [ByteArray.size_extract];omega
     by_cases hm:(60:Int) < (n:Int) - (i:Int)
     ·rw [if_pos hm,if_pos hm] at HP;have hm2:60 < n - i:=by omega
      clear hm;go_enter Tryd.func51,Tryd.ntmps51
      go_wp2_with fail
      refine (CL.out _).mono ?_;rintro e w' ⟨rfl,nd0,rfl⟩;go_wp2_with fail
      refine (CD.out _).mono ?_;rintro e w' ⟨rfl,nd1,rfl⟩;go_wp2_with fail
      refine (CA.out _).mono ?_;rintro e w' ⟨rfl,nd2,rfl⟩;go_wp2_with fail
      refine (CN.out _).mono ?_;rintro e w' ⟨rfl,nd3,rfl⟩;go_wp2_with fail
      go_region
      go_wp2_with fail
      exact word_ret _ _ _ w.heap.size 4 (a0.extract i n) (i:Int) ((n:Int)) ((i:Int)) (9) rfl rfl rfl zq1 zq1 zq1 zq1 zq1 (HP.out _ zq2)
     rw [if_neg hm,if_neg hm] at HP;have hm2:¬ 60 < n - i:=by omega
     clear hm;go_enter Tryd.func51,Tryd.ntmps51
     go_wp2_with fail
     refine (CL.out _).mono ?_;rintro e w' ⟨rfl,nd0,rfl⟩;go_wp2_with fail
     refine (CD.out _).mono ?_;rintro e w' ⟨rfl,nd1,rfl⟩;go_wp2_with fail
     refine (CA.out _).mono ?_;rintro e w' ⟨rfl,nd2,rfl⟩;go_wp2_with fail
     refine (CN.out _).mono ?_;rintro e w' ⟨rfl,nd3,rfl⟩;go_wp2_with fail
     go_region
     go_wp2_with fail
     exact word_ret _ _ _ w.heap.size 4 (a0.extract i n) (i:Int) ((n:Int)) (0) (0) rfl rfl rfl zq1 zq1 zq1 zq1 zq1 (HP.out _ zq2)
    ·rw [if_pos rfl] at h;clear h45;replace h:=Option.bind_eq_some_iff.mp h;obtain ⟨e,he,h⟩:=h;have CN:=sd (fun W=>words_numberEnd.calls k a0 (i:Int) e W he);clear he;unfold words_word.g at h;split at h
     case isFalse=>cases h
     rename_i hb
     obtain ⟨q0,q1⟩:=hb;obtain ⟨n,rfl⟩:=Int.eq_ofNat_of_zero_le (show 0≤e by omega);simp only [Int.toNat_natCast,Option.some.injEq,Prod.mk.injEq] at h
     obtain ⟨rfl,rfl,rfl,rfl,rfl,rfl⟩:=h;have hsz:(a0.extract i n).size=n - i:=by rw [ByteArray.size_extract];omega
     by_cases hm:(60:Int) < (n:Int) - (i:Int)
     ·rw [if_pos hm,if_pos hm] at HP;have hm2:60 < n - i:=by omega
      clear hm;go_enter Tryd.func51,Tryd.ntmps51
      go_wp2_with fail
      refine (CL.out _).mono ?_;rintro e w' ⟨rfl,nd0,rfl⟩;go_wp2_with fail
      refine (CD.out _).mono ?_;rintro e w' ⟨rfl,nd1,rfl⟩;go_wp2_with fail
      refine (CA.out _).mono ?_;rintro e w' ⟨rfl,nd2,rfl⟩;go_wp2_with fail
      refine (CN.out _).mono ?_;rintro e w' ⟨rfl,nd3,rfl⟩;go_wp2_with fail
      go_region
      go_wp2_with fail
      exact word_ret _ _ _ w.heap.size 2 (a0.extract i n) (i:Int) ((n:Int)) ((i:Int)) (9) rfl rfl rfl zq1 zq1 zq1 zq1 zq1 (HP.out _ zq2)
     rw [if_neg hm,if_neg hm] at HP;have hm2:¬ 60 < n - i:=by omega
     clear hm;go_enter Tryd.func51,Tryd.ntmps51
     go_wp2_with fail
     refine (CL.out _).mono ?_;rintro e w' ⟨rfl,nd0,rfl⟩;go_wp2_with fail
     refine (CD.out _).mono ?_;rintro e w' ⟨rfl,nd1,rfl⟩;go_wp2_with fail
     refine (CA.out _).mono ?_;rintro e w' ⟨rfl,nd2,rfl⟩;go_wp2_with fail
     refine (CN.out _).mono ?_;rintro e w' ⟨rfl,nd3,rfl⟩;go_wp2_with fail
     go_region
     go_wp2_with fail
     exact word_ret _ _ _ w.heap.size 2 (a0.extract i n) (i:Int) ((n:Int)) (0) (0) rfl rfl rfl zq1 zq1 zq1 zq1 zq1 (HP.out _ zq2)
   rw [if_neg h45] at h;have s45:((c.toNat:Int) == 45)=false:=beq_eq_false_iff_ne.mpr h45;clear h45;unfold words_word.h at h;rw [show bt a0 (i:Int)=(c.toNat:Int) by rw [← hc];exact (bt_at a0 i hi).symm] at h;by_cases h34:(c.toNat:Int)=34
   ·rw [if_pos h34] at h;have s34:((c.toNat:Int) == 34)=true:=beq_iff_eq.mpr h34;clear h34;replace h:=Option.bind_eq_some_iff.mp h;obtain ⟨⟨q,qe,qa,qp⟩,hq,h⟩:=h;have CQ:=sd (fun W=>words_quoted.calls k a0 (i:Int) q qe qa qp W hq);clear hq;dsimp only at h
    by_cases hp:qp=0
    ·subst hp;rw [if_neg (by decide)] at h;simp only [Option.some.injEq,Prod.mk.injEq] at h
     obtain ⟨rfl,rfl,rfl,rfl,rfl,rfl⟩:=h;by_cases hm:(60:Int) < (q.size:Int)
     ·rw [if_pos hm,if_pos hm] at HP;go_enter Tryd.func51,Tryd.ntmps51
      go_wp2_with fail
      refine (CL.out _).mono ?_;rintro e w' ⟨rfl,nd0,rfl⟩;go_wp2_with fail
      refine (CD.out _).mono ?_;rintro e w' ⟨rfl,nd1,rfl⟩;go_wp2_with fail
      refine (CQ.out _).mono ?_;rintro e W1 ⟨rfl,hb⟩;obtain ⟨hc',hf'⟩:=bcell hb;have hz1:w.heap.size+1 < W1.heap.size:=by have:=hb.size;simp at this;omega
      have k0:W1.cell? ⟨w.heap.size,0,none⟩=some (.int .i64 3):=(hc' _ _ (by simp <;> omega)).trans (by simp [go_sem]);have k1:W1.cell? ⟨w.heap.size,1,none⟩=some (.string ⟨#[]⟩):=(hc' _ _ (by simp <;> omega)).trans (by simp [go_sem]);have k2:W1.cell? ⟨w.heap.size,2,none⟩=some (.int .i64 (i:Int)):=(hc' _ _ (by simp <;> omega)).trans (by simp [go_sem]);have k3:W1.cell? ⟨w.heap.size+1,0,none⟩=some (.int .i64 0):=(hc' _ _ (by simp <;> omega)).trans (by simp [go_sem]);have k4:W1.cell? ⟨w.heap.size+1,1,none⟩=some (.int .i64 0):=(hc' _ _ (by simp <;> omega)).trans (by simp [go_sem]);have f0:W1.frozen? ⟨w.heap.size,0,none⟩=false:=(hf' _ _ (by simp <;> omega)).trans (by simp [go_sem]);have f1:W1.frozen? ⟨w.heap.size,1,none⟩=false:=(hf' _ _ (by simp <;> omega)).trans (by simp [go_sem]);have f2:W1.frozen? ⟨w.heap.size,2,none⟩=false:=(hf' _ _ (by simp <;> omega)).trans (by simp [go_sem]);have f3:W1.frozen? ⟨w.heap.size+1,0,none⟩=false:=(hf' _ _ (by simp <;> omega)).trans (by simp [go_sem]);have f4:W1.frozen? ⟨w.heap.size+1,1,none⟩=false:=(hf' _ _ (by simp <;> omega)).trans (by simp [go_sem]);have HB:=sd ((show Below w.heap.size w _ from zq2).trans (hb.mono (by simp <;> omega)));clear hb hc' hf';have HW:=sd (show WordW W1 w.heap.size 3 ⟨#[]⟩ (i:Int) 0 0 from ⟨k0,k1,k2,k3,k4,f0,f1,f2,f3,f4⟩);go_wp2_with fail
      have HW2:=sd (((((HW.out.s q).a qa).e (0)).a (i:Int)).e 9);have HB2:=sd (show Below w.heap.size w (((((W1.setCell ⟨w.heap.size,1,none⟩ (.string q)).setCell ⟨w.heap.size+1,0,none⟩ (.int .i64 qa)).setCell ⟨w.heap.size+1,1,none⟩ (.int .i64 0)).setCell ⟨w.heap.size+1,0,none⟩ (.int .i64 (i:Int))).setCell ⟨w.heap.size+1,1,none⟩ (.int .i64 9)) from below_setN (below_setN (below_setN (below_setN (below_setN (HB.out) (Nat.le_refl _) _) (Nat.le_succ _) _) (Nat.le_succ _) _) (Nat.le_succ _) _) (Nat.le_succ _) _);generalize ((((W1.setCell ⟨w.heap.size,1,none⟩ (.string q)).setCell ⟨w.heap.size+1,0,none⟩ (.int .i64 qa)).setCell ⟨w.heap.size+1,1,none⟩ (.int .i64 0)).setCell ⟨w.heap.size+1,0,none⟩ (.int .i64 (i:Int))).setCell ⟨w.heap.size+1,1,none⟩ (.int .i64 9)=W2 at HW2 HB2 ⊢;clear k0 k1 k2 k3 k4 f0 f1 f2 f3 f4 HB;have HB:=HB2;obtain ⟨k0,k1,k2,k3,k4,f0,f1,f2,f3,f4⟩:=HW2.out;go_region
      go_wp2_with fail
      exact word_ret _ _ _ w.heap.size 3 q (i:Int) qe ((i:Int)) (9) rfl rfl rfl zq1 zq1 zq1 zq1 zq1 (HP.out _ zq3)
     rw [if_neg hm,if_neg hm] at HP;go_enter Tryd.func51,Tryd.ntmps51
     go_wp2_with fail
     refine (CL.out _).mono ?_;rintro e w' ⟨rfl,nd0,rfl⟩;go_wp2_with fail
     refine (CD.out _).mono ?_;rintro e w' ⟨rfl,nd1,rfl⟩;go_wp2_with fail
     refine (CQ.out _).mono ?_;rintro e W1 ⟨rfl,hb⟩;obtain ⟨hc',hf'⟩:=bcell hb;have hz1:w.heap.size+1 < W1.heap.size:=by have:=hb.size;simp at this;omega
     have k0:W1.cell? ⟨w.heap.size,0,none⟩=some (.int .i64 3):=(hc' _ _ (by simp <;> omega)).trans (by simp [go_sem]);have k1:W1.cell? ⟨w.heap.size,1,none⟩=some (.string ⟨#[]⟩):=(hc' _ _ (by simp <;> omega)).trans (by simp [go_sem]);have k2:W1.cell? ⟨w.heap.size,2,none⟩=some (.int .i64 (i:Int)):=(hc' _ _ (by simp <;> omega)).trans (by simp [go_sem]);have k3:W1.cell? ⟨w.heap.size+1,0,none⟩=some (.int .i64 0):=(hc' _ _ (by simp <;> omega)).trans (by simp [go_sem]);have k4:W1.cell? ⟨w.heap.size+1,1,none⟩=some (.int .i64 0):=(hc' _ _ (by simp <;> omega)).trans (by simp [go_sem]);have f0:W1.frozen? ⟨w.heap.size,0,none⟩=false:=(hf' _ _ (by simp <;> omega)).trans (by simp [go_sem]);have f1:W1.frozen? ⟨w.heap.size,1,none⟩=false:=(hf' _ _ (by simp <;> omega)).trans (by simp [go_sem]);have f2:W1.frozen? ⟨w.heap.size,2,none⟩=false:=(hf' _ _ (by simp <;> omega)).trans (by simp [go_sem]);have f3:W1.frozen? ⟨w.heap.size+1,0,none⟩=false:=(hf' _ _ (by simp <;> omega)).trans (by simp [go_sem]);have f4:W1.frozen? ⟨w.heap.size+1,1,none⟩=false:=(hf' _ _ (by simp <;> omega)).trans (by simp [go_sem]);have HB:=sd ((show Below w.heap.size w _ from zq2).trans (hb.mono (by simp <;> omega)));clear hb hc' hf';have HW:=sd (show WordW W1 w.heap.size 3 ⟨#[]⟩ (i:Int) 0 0 from ⟨k0,k1,k2,k3,k4,f0,f1,f2,f3,f4⟩);go_wp2_with fail
     have HW2:=sd (((HW.out.s q).a qa).e (0));have HB2:=sd (show Below w.heap.size w (((W1.setCell ⟨w.heap.size,1,none⟩ (.string q)).setCell ⟨w.heap.size+1,0,none⟩ (.int .i64 qa)).setCell ⟨w.heap.size+1,1,none⟩ (.int .i64 0)) from below_setN (below_setN (below_setN (HB.out) (Nat.le_refl _) _) (Nat.le_succ _) _) (Nat.le_succ _) _);generalize ((W1.setCell ⟨w.heap.size,1,none⟩ (.string q)).setCell ⟨w.heap.size+1,0,none⟩ (.int .i64 qa)).setCell ⟨w.heap.size+1,1,none⟩ (.int .i64 0)=W2 at HW2 HB2 ⊢;clear k0 k1 k2 k3 k4 f0 f1 f2 f3 f4 HB;have HB:=HB2;obtain ⟨k0,k1,k2,k3,k4,f0,f1,f2,f3,f4⟩:=HW2.out;go_region
     go_wp2_with fail
     exact word_ret _ _ _ w.heap.size 3 q (i:Int) qe (qa) (0) rfl rfl rfl zq1 zq1 zq1 zq1 zq1 (HP.out _ zq3)
    rw [if_pos hp] at h;simp only [Option.some.injEq,Prod.mk.injEq] at h
    obtain ⟨rfl,rfl,rfl,rfl,rfl,rfl⟩:=h;have hpb:(qp == 0)=false:=beq_eq_false_iff_ne.mpr hp;clear hp;go_enter Tryd.func51,Tryd.ntmps51
    go_wp2_with fail
    refine (CL.out _).mono ?_;rintro e w' ⟨rfl,nd0,rfl⟩;go_wp2_with fail
    refine (CD.out _).mono ?_;rintro e w' ⟨rfl,nd1,rfl⟩;go_wp2_with fail
    refine (CQ.out _).mono ?_;rintro e W1 ⟨rfl,hb⟩;obtain ⟨hc',hf'⟩:=bcell hb;have hz1:w.heap.size+1 < W1.heap.size:=by have:=hb.size;simp at this;omega
    have k0:W1.cell? ⟨w.heap.size,0,none⟩=some (.int .i64 3):=(hc' _ _ (by simp <;> omega)).trans (by simp [go_sem]);have k1:W1.cell? ⟨w.heap.size,1,none⟩=some (.string ⟨#[]⟩):=(hc' _ _ (by simp <;> omega)).trans (by simp [go_sem]);have k2:W1.cell? ⟨w.heap.size,2,none⟩=some (.int .i64 (i:Int)):=(hc' _ _ (by simp <;> omega)).trans (by simp [go_sem]);have k3:W1.cell? ⟨w.heap.size+1,0,none⟩=some (.int .i64 0):=(hc' _ _ (by simp <;> omega)).trans (by simp [go_sem]);have k4:W1.cell? ⟨w.heap.size+1,1,none⟩=some (.int .i64 0):=(hc' _ _ (by simp <;> omega)).trans (by simp [go_sem]);have f0:W1.frozen? ⟨w.heap.size,0,none⟩=false:=(hf' _ _ (by simp <;> omega)).trans (by simp [go_sem]);have f1:W1.frozen? ⟨w.heap.size,1,none⟩=false:=(hf' _ _ (by simp <;> omega)).trans (by simp [go_sem]);have f2:W1.frozen? ⟨w.heap.size,2,none⟩=false:=(hf' _ _ (by simp <;> omega)).trans (by simp [go_sem]);have f3:W1.frozen? ⟨w.heap.size+1,0,none⟩=false:=(hf' _ _ (by simp <;> omega)).trans (by simp [go_sem]);have f4:W1.frozen? ⟨w.heap.size+1,1,none⟩=false:=(hf' _ _ (by simp <;> omega)).trans (by simp [go_sem]);have HB:=sd ((show Below w.heap.size w _ from zq2).trans (hb.mono (by simp <;> omega)));clear hb hc' hf';have HW:=sd (show WordW W1 w.heap.size 3 ⟨#[]⟩ (i:Int) 0 0 from ⟨k0,k1,k2,k3,k4,f0,f1,f2,f3,f4⟩);go_wp2_with fail
    have HW2:=sd (((HW.out.s q).a qa).e (qp));have HB2:=sd (show Below w.heap.size w (((W1.setCell ⟨w.heap.size,1,none⟩ (.string q)).setCell ⟨w.heap.size+1,0,none⟩ (.int .i64 qa)).setCell ⟨w.heap.size+1,1,none⟩ (.int .i64 qp)) from below_setN (below_setN (below_setN (HB.out) (Nat.le_refl _) _) (Nat.le_succ _) _) (Nat.le_succ _) _);generalize ((W1.setCell ⟨w.heap.size,1,none⟩ (.string q)).setCell ⟨w.heap.size+1,0,none⟩ (.int .i64 qa)).setCell ⟨w.heap.size+1,1,none⟩ (.int .i64 qp)=W2 at HW2 HB2 ⊢;clear k0 k1 k2 k3 k4 f0 f1 f2 f3 f4 HB;have HB:=HB2;obtain ⟨k0,k1,k2,k3,k4,f0,f1,f2,f3,f4⟩:=HW2.out;go_region
    go_wp2_with fail
    exact word_ret _ _ _ w.heap.size 3 q (i:Int) qe (qa) (qp) rfl rfl rfl zq1 zq1 zq1 zq1 zq1 (HP.out _ zq3)
   rw [if_neg h34] at h;have s34:((c.toNat:Int) == 34)=false:=beq_eq_false_iff_ne.mpr h34;clear h34;replace h:=Option.bind_eq_some_iff.mp h;obtain ⟨e,he,h⟩:=h;have CN:=sd (fun W=>words_signEnd.calls k a0 (i:Int) e W he);clear he;by_cases hei:e=(i:Int)
   ·rw [if_pos hei] at h;subst hei;simp only [Option.some.injEq,Prod.mk.injEq] at h
    obtain ⟨rfl,rfl,rfl,rfl,rfl,rfl⟩:=h;go_enter Tryd.func51,Tryd.ntmps51
    go_wp2_with fail
    refine (CL.out _).mono ?_;rintro e w' ⟨rfl,nd0,rfl⟩;go_wp2_with fail
    refine (CD.out _).mono ?_;rintro e w' ⟨rfl,nd1,rfl⟩;go_wp2_with fail
    refine (CN.out _).mono ?_;rintro e w' ⟨rfl,nd2,rfl⟩;go_wp2_with fail
    exact word_ret _ _ _ w.heap.size 4 ⟨#[]⟩ (i:Int) ((i:Int)) ((i:Int)) (5) rfl rfl rfl zq1 zq1 zq1 zq1 zq1 (HP.out _ zq2)
   rw [if_neg hei] at h;unfold words_word.g at h;split at h
   case isFalse=>cases h
   rename_i hb
   obtain ⟨q0,q1⟩:=hb;obtain ⟨n,rfl⟩:=Int.eq_ofNat_of_zero_le (show 0≤e by omega);simp only [Int.toNat_natCast,Option.some.injEq,Prod.mk.injEq] at h
   obtain ⟨rfl,rfl,rfl,rfl,rfl,rfl⟩:=h;have hne:((n:Int) == (i:Int))=false:=beq_eq_false_iff_ne.mpr hei;clear hei;have hsz:(a0.extract i n).size=n - i:=by rw [ByteArray.size_extract];omega
   by_cases hm:(60:Int) < (n:Int) - (i:Int)
   ·rw [if_pos hm,if_pos hm] at HP;have hm2:60 < n - i:=by omega
    clear hm;go_enter Tryd.func51,Tryd.ntmps51
    go_wp2_with fail
    refine (CL.out _).mono ?_;rintro e w' ⟨rfl,nd0,rfl⟩;go_wp2_with fail
    refine (CD.out _).mono ?_;rintro e w' ⟨rfl,nd1,rfl⟩;go_wp2_with fail
    refine (CN.out _).mono ?_;rintro e w' ⟨rfl,nd2,rfl⟩;go_wp2_with fail
    go_region
    go_wp2_with fail
    exact word_ret _ _ _ w.heap.size 4 (a0.extract i n) (i:Int) ((n:Int)) ((i:Int)) (9) rfl rfl rfl zq1 zq1 zq1 zq1 zq1 (HP.out _ zq2)
   rw [if_neg hm,if_neg hm] at HP;have hm2:¬ 60 < n - i:=by omega
   clear hm;go_enter Tryd.func51,Tryd.ntmps51
   go_wp2_with fail
   refine (CL.out _).mono ?_;rintro e w' ⟨rfl,nd0,rfl⟩;go_wp2_with fail
   refine (CD.out _).mono ?_;rintro e w' ⟨rfl,nd1,rfl⟩;go_wp2_with fail
   refine (CN.out _).mono ?_;rintro e w' ⟨rfl,nd2,rfl⟩;go_wp2_with fail
   go_region
   go_wp2_with fail
   exact word_ret _ _ _ w.heap.size 4 (a0.extract i n) (i:Int) ((n:Int)) (0) (0) rfl rfl rfl zq1 zq1 zq1 zq1 zq1 (HP.out _ zq2)
  ·rw [if_pos rfl] at h;replace h:=Option.bind_eq_some_iff.mp h;obtain ⟨e,he,h⟩:=h;have CN:=sd (fun W=>words_numberEnd.calls k a0 (i:Int) e W he);clear he;unfold words_word.g at h;split at h
   case isFalse=>cases h
   rename_i hb
   obtain ⟨q0,q1⟩:=hb;obtain ⟨n,rfl⟩:=Int.eq_ofNat_of_zero_le (show 0≤e by omega);simp only [Int.toNat_natCast,Option.some.injEq,Prod.mk.injEq] at h
   obtain ⟨rfl,rfl,rfl,rfl,rfl,rfl⟩:=h;have hsz:(a0.extract i n).size=n - i:=by rw [ByteArray.size_extract];omega
   by_cases hm:(60:Int) < (n:Int) - (i:Int)
   ·rw [if_pos hm,if_pos hm] at HP;have hm2:60 < n - i:=by omega
    clear hm;go_enter Tryd.func51,Tryd.ntmps51
    go_wp2_with fail
    refine (CL.out _).mono ?_;rintro e w' ⟨rfl,nd0,rfl⟩;go_wp2_with fail
    refine (CD.out _).mono ?_;rintro e w' ⟨rfl,nd1,rfl⟩;go_wp2_with fail
    refine (CN.out _).mono ?_;rintro e w' ⟨rfl,nd2,rfl⟩;go_wp2_with fail
    go_region
    go_wp2_with fail
    exact word_ret _ _ _ w.heap.size 2 (a0.extract i n) (i:Int) ((n:Int)) ((i:Int)) (9) rfl rfl rfl zq1 zq1 zq1 zq1 zq1 (HP.out _ zq2)
   rw [if_neg hm,if_neg hm] at HP;have hm2:¬ 60 < n - i:=by omega
   clear hm;go_enter Tryd.func51,Tryd.ntmps51
   go_wp2_with fail
   refine (CL.out _).mono ?_;rintro e w' ⟨rfl,nd0,rfl⟩;go_wp2_with fail
   refine (CD.out _).mono ?_;rintro e w' ⟨rfl,nd1,rfl⟩;go_wp2_with fail
   refine (CN.out _).mono ?_;rintro e w' ⟨rfl,nd2,rfl⟩;go_wp2_with fail
   go_region
   go_wp2_with fail
   exact word_ret _ _ _ w.heap.size 2 (a0.extract i n) (i:Int) ((n:Int)) (0) (0) rfl rfl rfl zq1 zq1 zq1 zq1 zq1 (HP.out _ zq2)
 ·rw [if_pos rfl] at h;replace h:=Option.bind_eq_some_iff.mp h;obtain ⟨e,he,h⟩:=h;have CN:=sd (fun W=>words_nameEnd.calls k a0 (i:Int) e W he);clear he;unfold words_word.g at h;split at h
  case isFalse=>cases h
  rename_i hb
  obtain ⟨q0,q1⟩:=hb;obtain ⟨n,rfl⟩:=Int.eq_ofNat_of_zero_le (show 0≤e by omega);simp only [Int.toNat_natCast,Option.some.injEq,Prod.mk.injEq] at h
  obtain ⟨rfl,rfl,rfl,rfl,rfl,rfl⟩:=h;have hsz:(a0.extract i n).size=n - i:=by rw [ByteArray.size_extract];omega
  by_cases hm:(12:Int) < (n:Int) - (i:Int)
  ·rw [if_pos hm,if_pos hm] at HP;have hm2:12 < n - i:=by omega
   clear hm;go_enter Tryd.func51,Tryd.ntmps51
   go_wp2_with fail
   refine (CL.out _).mono ?_;rintro e w' ⟨rfl,nd0,rfl⟩;go_wp2_with fail
   refine (CN.out _).mono ?_;rintro e w' ⟨rfl,nd1,rfl⟩;go_wp2_with fail
   go_region
   go_wp2_with fail
   exact word_ret _ _ _ w.heap.size 1 (a0.extract i n) (i:Int) ((n:Int)) ((i:Int)) (9) rfl rfl rfl zq1 zq1 zq1 zq1 zq1 (HP.out _ zq2)
  rw [if_neg hm,if_neg hm] at HP;have hm2:¬ 12 < n - i:=by omega
  clear hm;go_enter Tryd.func51,Tryd.ntmps51
  go_wp2_with fail
  refine (CL.out _).mono ?_;rintro e w' ⟨rfl,nd0,rfl⟩;go_wp2_with fail
  refine (CN.out _).mono ?_;rintro e w' ⟨rfl,nd1,rfl⟩;go_wp2_with fail
  go_region
  go_wp2_with fail
  exact word_ret _ _ _ w.heap.size 1 (a0.extract i n) (i:Int) ((n:Int)) (0) (0) rfl rfl rfl zq1 zq1 zq1 zq1 zq1 (HP.out _ zq2)
theorem days_Of.calls (k:Nat) (a0_0 a0_1 a0_2 r1 r2:Int) (w:World) (h:days_Of.f k a0_0 a0_1 a0_2=some (r1,r2)) (hG:Gl w) :
  Calls Tryd.prog 79 #[.agg #[.int .i64 a0_0,.int .i64 a0_1,.int .i64 a0_2]] w fun e w'=>e=.returned (.tuple #[.int .i64 r1,.int .i64 r2])∧Below w.heap.size w w':=by
 have HG:=sd hG;clear hG;have hu105:=Tryd.underlying105;have HB:=sd (Below.refl w.heap.size w);have H:=h;clear h;unfold days_Of.f at H;have HC2:=sd H;clear H;go_enter Tryd.func79,Tryd.ntmps79
 go_upto_region 1 with (first|((with_reducible refine gate_dst (N:=1) rfl ?_);refine bxA 1 #[.int .i64 a0_0,.int .i64 a0_1,.int .i64 a0_2] 105 ?_;intro gb208 hg w3 hbox hb;have BK208:=sd (hbox);have GW208:=gem hg HB;have GE208:=GW208;replace HB:=hbm HB hb;clear hb hbox hg))
 repeat (go_quiet (first|((with_reducible refine gate_dst (N:=1) rfl ?_);refine bxA 1 #[.int .i64 a0_0,.int .i64 a0_1,.int .i64 a0_2] 105 ?_;intro gb208 hg w3 hbox hb;have BK208:=sd (hbox);have GW208:=gem hg HB;have GE208:=GW208;replace HB:=hbm HB hb;clear hb hbox hg));go_upto_region 1 with (first|((with_reducible refine gate_dst (N:=1) rfl ?_);refine bxA 1 #[.int .i64 a0_0,.int .i64 a0_1,.int .i64 a0_2] 105 ?_;intro gb208 hg w3 hbox hb;have BK208:=sd (hbox);have GW208:=gem hg HB;have GE208:=GW208;replace HB:=hbm HB hb;clear hb hbox hg)))
 (try simp only [Act.put,List.setIfInBounds_toArray,List.set_cons_zero,List.set_cons_succ])
 go_cut [27] (fun v27 wc=>∃ (kq:Nat) (x27_1:Bool),v27=.bool x27_1∧Aside0 (days_Of.j0 kq x27_1 a0_0 a0_1 a0_2=some (r1,r2))∧Aside0 (kq≤k)∧Aside0 (wc.heap[gb208]?=some (.cells #[.int .i64 a0_0,.int .i64 a0_1,.int .i64 a0_2] 105 (0,0)))∧Aside0 (Below w.heap.size w wc))
 case first =>
  have H:=HC2.out;clear HC2;replace H:=ifI H;rcases H with ⟨c4,H⟩|⟨c4,H⟩
  ·have c4b0:decide (a0_0 < 1900)=true:=decide_eq_true c4;clear c4;(first|rw [c4b0]|(simp only [i64_w,i32_w];rw [c4b0])|skip)
   have H':=sd H;clear H;obtain ⟨_,_,_,_,_,_⟩:=bk3 BK208;go_wp2
   repeat (go_quiet (fail);try go_wp2)
   go_meet
   case rel=>exact ⟨_,(true),zq7,H',⟨by first|omega|exact Nat.le_refl _⟩,⟨zq18⟩,⟨zq19⟩⟩
  have c4b0:decide (a0_0 < 1900)=false:=decide_eq_false c4;clear c4;(first|rw [c4b0]|(simp only [i64_w,i32_w];rw [c4b0])|skip)
  replace H:=ifI H;rcases H with ⟨c6,H⟩|⟨c6,H⟩
  ·have c6b0:decide (2199 < a0_0)=true:=decide_eq_true c6;clear c6;have H':=sd H;clear H;obtain ⟨_,_,_,_,_,_⟩:=bk3 BK208;go_wp2
   repeat (go_quiet (fail);try go_wp2)
   go_meet
   case rel=>exact ⟨_,(true),zq7,H',⟨by first|omega|exact Nat.le_refl _⟩,⟨zq18⟩,⟨zq19⟩⟩
  have c6b0:decide (2199 < a0_0)=false:=decide_eq_false c6;clear c6;replace H:=ifI H;rcases H with ⟨c8,H⟩|⟨c8,H⟩
  ·have c8b0:decide (a0_2 < 1)=true:=decide_eq_true c8;clear c8;have H':=sd H;clear H;obtain ⟨_,_,_,_,_,_⟩:=bk3 BK208;go_wp2
   repeat (go_quiet (fail);try go_wp2)
   go_meet
   case rel=>exact ⟨_,(true),zq7,H',⟨by first|omega|exact Nat.le_refl _⟩,⟨zq18⟩,⟨zq19⟩⟩
  have c8b0:decide (a0_2 < 1)=false:=decide_eq_false c8;clear c8;replace H:=bdI H;obtain ⟨t209,A10,H⟩:=H;(try dsimp only at H)
  have H':=sd H;clear H;obtain ⟨_,_,_,_,_,_⟩:=bk3 BK208;go_wp2_with (first|(go_at_call 87;(with_reducible refine (days_Length.calls a0_0 a0_1 t209 _ A10.out (gl_below HG.out zq20)).mono ?_);rintro e w' ⟨rfl,⟨nd,rfl⟩⟩;(try first|exact ⟨rfl,_,World.drewN_drewN _ _ _⟩|exact ⟨rfl,_,Eq.trans (World.drewN_drewN _ _ _) (congrArg (World.drewN _) (Nat.add_assoc _ _ _))⟩)))
  repeat (go_quiet (first|(go_at_call 87;(with_reducible refine (days_Length.calls a0_0 a0_1 t209 _ A10.out (gl_below HG.out zq20)).mono ?_);rintro e w' ⟨rfl,⟨nd,rfl⟩⟩;(try first|exact ⟨rfl,_,World.drewN_drewN _ _ _⟩|exact ⟨rfl,_,Eq.trans (World.drewN_drewN _ _ _) (congrArg (World.drewN _) (Nat.add_assoc _ _ _))⟩)));try go_wp2_with (first|(go_at_call 87;(with_reducible refine (days_Length.calls a0_0 a0_1 t209 _ A10.out (gl_below HG.out zq20)).mono ?_);rintro e w' ⟨rfl,⟨nd,rfl⟩⟩;(try first|exact ⟨rfl,_,World.drewN_drewN _ _ _⟩|exact ⟨rfl,_,Eq.trans (World.drewN_drewN _ _ _) (congrArg (World.drewN _) (Nat.add_assoc _ _ _))⟩))))
  go_meet
  case rel=>exact ⟨_,(decide (a0_2 > t209)),zq7,H',⟨by first|omega|exact Nat.le_refl _⟩,⟨zq18⟩,⟨zq19⟩⟩
 case rest =>
  clear HC2;try clear p2
  obtain ⟨kq,x27_1,rfl,HA,HJ1,BK208,HB⟩:=hcut
  cases kq with
 |zero=>exact absurd HA.out (by simp [days_Of.j0])
 |succ kj1 =>
   have H:=HA.out;clear HA;simp only [days_Of.j0] at H
   by_cases c12:x27_1=true
   ·subst c12;rw [if_pos rfl] at H;simp only [Option.some.injEq,Prod.mk.injEq] at H
    obtain ⟨rfl,rfl⟩:=H;go_wp2
    repeat (go_quiet (fail);try go_wp2)
    go_ret2
    exact ⟨zq4,zq19⟩
   replace c12:=Bool.eq_false_iff.mpr c12;subst c12;rw [if_neg Bool.false_ne_true] at H;replace H:=bdI H;obtain ⟨t210,A13,H⟩:=H;(try dsimp only at H)
   have H':=sd H;clear H;obtain ⟨_,_,_,_,_,_⟩:=bk3 BK208;go_wp2_with (first|(go_at_call 86;(with_reducible refine (days_before.calls a0_0 t210 _ A13.out).mono ?_);rintro e w' ⟨rfl,⟨nd,rfl⟩⟩;(try first|exact ⟨rfl,_,World.drewN_drewN _ _ _⟩|exact ⟨rfl,_,Eq.trans (World.drewN_drewN _ _ _) (congrArg (World.drewN _) (Nat.add_assoc _ _ _))⟩)))
   repeat (go_quiet (first|(go_at_call 86;(with_reducible refine (days_before.calls a0_0 t210 _ A13.out).mono ?_);rintro e w' ⟨rfl,⟨nd,rfl⟩⟩;(try first|exact ⟨rfl,_,World.drewN_drewN _ _ _⟩|exact ⟨rfl,_,Eq.trans (World.drewN_drewN _ _ _) (congrArg (World.drewN _) (Nat.add_assoc _ _ _))⟩)));try go_wp2_with (first|(go_at_call 86;(with_reducible refine (days_before.calls a0_0 t210 _ A13.out).mono ?_);rintro e w' ⟨rfl,⟨nd,rfl⟩⟩;(try first|exact ⟨rfl,_,World.drewN_drewN _ _ _⟩|exact ⟨rfl,_,Eq.trans (World.drewN_drewN _ _ _) (congrArg (World.drewN _) (Nat.add_assoc _ _ _))⟩))))
   go_loopg [2,4] kj1 (fun kq v2 v4 w'=>∃ (x2_2:Int) (x4_2:Int),v2=.int .i64 x2_2∧v4=.int .i64 x4_2∧Aside0 (days_Of.l0 kq x2_2 x4_2 a0_0 a0_1 a0_2=some (r1,r2))∧Aside0 (kq≤kj1)∧Aside0 (w'.heap[gb208]?=some (.cells #[.int .i64 a0_0,.int .i64 a0_1,.int .i64 a0_2] 105 (0,0)))∧Aside0 (Below w.heap.size w w'))
   case atStart=>exact ⟨(wrap64 ((wrap64 (t210+a0_2)) - 1)),(1),zq7,zq7,H',⟨Nat.le_refl _⟩,⟨zq18⟩,⟨zq19⟩⟩
   case round =>
    clear H';try clear c1
    obtain ⟨x2_2,x4_2,rfl,rfl,HA,HK2,BK208,HB⟩:=hrel
    cases gk with
   |zero=>exact absurd HA.out (by simp [days_Of.l0])
   |succ k2 =>
     have H:=HA.out;clear HA;simp only [days_Of.l0] at H
     replace H:=ifI H;rcases H with ⟨c15,H⟩|⟨c15,H⟩
     ·have c15b0:decide (x4_2 < a0_1)=true:=decide_eq_true c15;clear c15;replace H:=bdI H;obtain ⟨t211,A16,H⟩:=H;(try dsimp only at H)
      have H':=sd H;clear H;obtain ⟨_,_,_,_,_,_⟩:=bk3 BK208;go_wp2_with (first|(go_at_call 87;(with_reducible refine (days_Length.calls a0_0 x4_2 t211 _ A16.out (gl_below HG.out zq20)).mono ?_);rintro e w' ⟨rfl,⟨nd,rfl⟩⟩;(try first|exact ⟨rfl,_,World.drewN_drewN _ _ _⟩|exact ⟨rfl,_,Eq.trans (World.drewN_drewN _ _ _) (congrArg (World.drewN _) (Nat.add_assoc _ _ _))⟩)))
      repeat (go_quiet (first|(go_at_call 87;(with_reducible refine (days_Length.calls a0_0 x4_2 t211 _ A16.out (gl_below HG.out zq20)).mono ?_);rintro e w' ⟨rfl,⟨nd,rfl⟩⟩;(try first|exact ⟨rfl,_,World.drewN_drewN _ _ _⟩|exact ⟨rfl,_,Eq.trans (World.drewN_drewN _ _ _) (congrArg (World.drewN _) (Nat.add_assoc _ _ _))⟩)));try go_wp2_with (first|(go_at_call 87;(with_reducible refine (days_Length.calls a0_0 x4_2 t211 _ A16.out (gl_below HG.out zq20)).mono ?_);rintro e w' ⟨rfl,⟨nd,rfl⟩⟩;(try first|exact ⟨rfl,_,World.drewN_drewN _ _ _⟩|exact ⟨rfl,_,Eq.trans (World.drewN_drewN _ _ _) (congrArg (World.drewN _) (Nat.add_assoc _ _ _))⟩))))
      go_roundg k2
      case measure=>have:=HJ1.out;have:=HK2.out;omega
      case rel=>exact ⟨(wrap64 (x2_2+t211)),(wrap64 (x4_2+1)),zq7,zq7,H',⟨zq21⟩,⟨zq18⟩,⟨zq19⟩⟩
     have c15b0:decide (x4_2 < a0_1)=false:=decide_eq_false c15;clear c15;simp only [Option.some.injEq,Prod.mk.injEq] at H
     obtain ⟨rfl,rfl⟩:=H;obtain ⟨_,_,_,_,_,_⟩:=bk3 BK208;go_wp2
     repeat (go_quiet (fail);try go_wp2)
     go_ret2
     exact ⟨zq4,zq19⟩
end A

end Go.Proofs.YtlblkojjpagbkaaDoor