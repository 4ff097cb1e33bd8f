-- By pack.py, a program of this session's.
import Derived.Test.YtlblkojjpagbkaaDoorZ2
import Derived.Test.YtlblkojjpagbkaaDoorZ3
set_option linter.unusedVariables false
set_option linter.unusedSimpArgs false
namespace Go.Proofs.YtlblkojjpagbkaaDoor
namespace B
open Go.RowKit WW WL WM
section
variable {P:Program} {ops:Array Oper} {rest:List Oper} {o:Oper} {Q:Exit→Act→World→Prop} {a:Act} {w V W w1:World} {g g':Nat}
theorem hbm (H:Aside0 (Below w.heap.size w V)) (hb:Below W.heap.size W w1) (hs:Below w.heap.size w V→Below w.heap.size w W:=by (intro h;repeat (first|(with_reducible first|exact h|apply below_alloc|apply pw_below_drewN|apply below_drew1|refine below_set ?_ (Aside0.out ‹_›))|exact h))):Aside0 (Below w.heap.size w w1):=⟨below_step (hs H.out) hb⟩
end
end B
namespace WW
open Go.RowKit
section
variable {w W W2:World} {S S2 S':Nat→Prop}
theorem Kept.alloc (h:Kept w W S) (o:Obj):Kept w (W.alloc o) S:=h.below (below_alloc (Below.refl _ _) o)
end
end WW
namespace B
open Go.RowKit WW WL WM
section
variable {P:Program} {ops:Array Oper} {rest:List Oper} {o:Oper} {Q:Exit→Act→World→Prop} {a:Act} {w V W w1:World} {g g':Nat}
theorem bxA (N:Tmp) (cs:Array Value) (t:TypeId)
    (h:∀ g,g=W.heap.size→∀ w1,w1.heap[g]?=some (.cells cs t (0,0))→Below W.heap.size W w1→wpList P ops Q rest (a.put o.dst (.pointer (some ⟨g,0,none⟩))) w1)
    (hgd:o.guard=none:=by rfl) (hd:o.dst=some N:=by rfl) (hrun:(execOp a.eval o).run P W=.ok (.value (.pointer (some ⟨W.heap.size,0,none⟩))) (W.alloc (.cells cs t (0,0))):=by first|(go_simp;done)|(go_simp;rfl)):wpList P ops Q (o :: rest) a W :=
  box_event hgd hd hrun h
end
end B
namespace WW
open Go.RowKit
namespace Kd
section
variable {α:Type} {d:Kd α} {e base n cc g:Nat} {ok ok' okp S:Nat→Prop} {w w1 W W1:World} {A:Option Addr} {u v v1:Value} {xs:List α} {x:α} {c:List Value}
theorem N_nil (d:Kd α) (e:Nat) (w:World) (base:Nat) (ok:Nat→Prop):N d e w base ok (.slice none 0 0) []:=R_N (R_nil _ _ _ _ _)
end
end Kd
end WW
namespace A
open Go.RowKit B WW WL WM
theorem zq5 {P:Prop} (h:P:=by first|exact Kd.R_nil _ _ _ _ _|exact Kd.N_nil _ _ _ _ _|exact Kd.V_nil _ _ _ _ _|exact Kd.Q_nil _ _ _ _ _|exact Kd.S_nil _ _ _ _ _):P:=h
theorem zq15 {P:Prop} (h:P:=by repeat (first|exact Drawn0.refl _|apply Drawn0.step)):P:=h
end A
namespace A
open Go.RowKit B WW WL WM
attribute [local go_sem] max2_int min2_int max_two min_two max_three min_three max_four min_four
set_option maxHeartbeats 8000000
set_option maxRecDepth 100000
theorem words_digit.calls (a0:Int) (r:Bool) (w:World) (h:words_digit.f a0=some r) :
  Calls Tryd.prog 38 #[.int .u8 a0] w fun e w'=>e=.returned (.bool r)∧Drawn0 w w':=by
 have H:=h;clear h;unfold words_digit.f at H;replace H:=ifI H;rcases H with ⟨c2,H⟩|⟨c2,H⟩
 ·have c2b0:decide (48≤a0)=true:=decide_eq_true c2;clear c2;obtain rfl:=Option.some.inj H;go_enter Tryd.func38,Tryd.ntmps38
  go_wp2
  go_ret
  exact ⟨zq7,zq15⟩
 have c2b0:decide (48≤a0)=false:=decide_eq_false c2;clear c2;obtain rfl:=Option.some.inj H;go_enter Tryd.func38,Tryd.ntmps38
 go_wp2
 go_ret
 exact ⟨zq7,zq15⟩
theorem words_letter.calls (a0:Int) (r:Bool) (w:World) (h:words_letter.f a0=some r) :
  Calls Tryd.prog 37 #[.int .u8 a0] w fun e w'=>e=.returned (.bool r)∧Drawn0 w w':=by
 have H:=h;clear h;unfold words_letter.f at H;replace H:=ifI H;rcases H with ⟨c2,H⟩|⟨c2,H⟩
 ·have c2b0:decide (97≤a0)=true:=decide_eq_true c2;clear c2;replace H:=ifI H;rcases H with ⟨c3,H⟩|⟨c3,H⟩
  ·have c3b0:decide (a0≤122)=true:=decide_eq_true c3;clear c3;obtain rfl:=Option.some.inj H;go_enter Tryd.func37,Tryd.ntmps37
   go_wp2
   go_ret
   exact ⟨zq7,zq15⟩
  have c3b0:decide (a0≤122)=false:=decide_eq_false c3;clear c3;replace H:=ifI H;rcases H with ⟨c4,H⟩|⟨c4,H⟩
  ·have c4b0:decide (65≤a0)=true:=decide_eq_true c4;clear c4;replace H:=ifI H;rcases H with ⟨c5,H⟩|⟨c5,H⟩
   ·have c5b0:decide (a0≤90)=true:=decide_eq_true c5;clear c5;obtain rfl:=Option.some.inj H;go_enter Tryd.func37,Tryd.ntmps37
    go_wp2
    go_ret
    exact ⟨zq7,zq15⟩
   have c5b0:decide (a0≤90)=false:=decide_eq_false c5;clear c5;obtain rfl:=Option.some.inj H;go_enter Tryd.func37,Tryd.ntmps37
   go_wp2
   go_ret
   exact ⟨zq7,zq15⟩
  have c4b0:decide (65≤a0)=false:=decide_eq_false c4;clear c4;obtain rfl:=Option.some.inj H;go_enter Tryd.func37,Tryd.ntmps37
  go_wp2
  go_ret
  exact ⟨zq7,zq15⟩
 have c2b0:decide (97≤a0)=false:=decide_eq_false c2;clear c2;replace H:=ifI H;rcases H with ⟨c6,H⟩|⟨c6,H⟩
 ·have c6b0:decide (65≤a0)=true:=decide_eq_true c6;clear c6;replace H:=ifI H;rcases H with ⟨c7,H⟩|⟨c7,H⟩
  ·have c7b0:decide (a0≤90)=true:=decide_eq_true c7;clear c7;obtain rfl:=Option.some.inj H;go_enter Tryd.func37,Tryd.ntmps37
   go_wp2
   go_ret
   exact ⟨zq7,zq15⟩
  have c7b0:decide (a0≤90)=false:=decide_eq_false c7;clear c7;obtain rfl:=Option.some.inj H;go_enter Tryd.func37,Tryd.ntmps37
  go_wp2
  go_ret
  exact ⟨zq7,zq15⟩
 have c6b0:decide (65≤a0)=false:=decide_eq_false c6;clear c6;obtain rfl:=Option.some.inj H;go_enter Tryd.func37,Tryd.ntmps37
 go_wp2
 go_ret
 exact ⟨zq7,zq15⟩
theorem words_printable.calls (a0:Int) (r:Bool) (w:World) (h:words_printable.f a0=some r) :
  Calls Tryd.prog 55 #[.int .u8 a0] w fun e w'=>e=.returned (.bool r)∧Drawn0 w w':=by
 have H:=h;clear h;unfold words_printable.f at H;replace H:=ifI H;rcases H with ⟨c2,H⟩|⟨c2,H⟩
 ·have c2b0:decide (32≤a0)=true:=decide_eq_true c2;clear c2;obtain rfl:=Option.some.inj H;go_enter Tryd.func55,Tryd.ntmps55
  go_wp2
  go_ret
  exact ⟨zq7,zq15⟩
 have c2b0:decide (32≤a0)=false:=decide_eq_false c2;clear c2;obtain rfl:=Option.some.inj H;go_enter Tryd.func55,Tryd.ntmps55
 go_wp2
 go_ret
 exact ⟨zq7,zq15⟩
theorem wd_calls (c:UInt8) (w:World):Calls Tryd.prog 36 #[.int .u8 (c.toNat:Int)] w fun e w'=>e=.returned (.bool (isWdB c))∧Drawn0 w w':=by
 have h1:=letter_wd c.toNat c.toNat_lt;have h2:=digit_wd c.toNat c.toNat_lt;have HC1:=sd (fun w=>words_letter.calls _ (isLetB c) w h1);have HC2:=sd (fun w=>words_digit.calls _ (isDigB c) w h2);clear h1 h2;generalize hP:(fun e w'=>e=Ending.returned (.bool (isWdB c))∧Drawn0 w w')=Post;have HP:=sd hP;clear hP
 cases hL:isLetB c
 ·rw [hL] at HC1;go_enter Tryd.func36,Tryd.ntmps36
  go_wp2_with fail
  refine (HC1.out _).mono ?_;rintro e w1 ⟨rfl,hd1⟩;obtain ⟨⟨n1,rfl⟩⟩:=hd1;go_wp2_with fail
  refine (HC2.out _).mono ?_;rintro e w1 ⟨rfl,hd1⟩;obtain ⟨⟨n2,rfl⟩⟩:=hd1;go_wp2_with fail
  rw [← HP.out];exact ⟨by unfold isWdB;rw [hL];(try rfl),⟨⟨_,rfl⟩⟩⟩
 ·rw [hL] at HC1;go_enter Tryd.func36,Tryd.ntmps36
  go_wp2_with fail
  refine (HC1.out _).mono ?_;rintro e w1 ⟨rfl,hd1⟩;obtain ⟨⟨n1,rfl⟩⟩:=hd1;go_wp2_with fail
  rw [← HP.out];exact ⟨by unfold isWdB;rw [hL];(try rfl),⟨⟨_,rfl⟩⟩⟩
theorem rules_counts.calls (a0:Int) (r:Bool) (w:World) (h:rules_counts.f a0=some r) :
  Calls Tryd.prog 25 #[.int .i64 a0] w fun e w'=>e=.returned (.bool r)∧Drawn0 w w':=by
 have H:=h;clear h;unfold rules_counts.f at H;replace H:=ifI H;rcases H with ⟨c2,H⟩|⟨c2,H⟩
 ·obtain ⟨c2b0,c2b1⟩:=eqI c2;clear c2;obtain rfl:=Option.some.inj H;go_enter Tryd.func25,Tryd.ntmps25
  go_wp2
  go_ret
  exact ⟨zq7,zq15⟩
 obtain ⟨c2b0,c2b1⟩:=neI c2;obtain rfl:=Option.some.inj H;go_enter Tryd.func25,Tryd.ntmps25
 go_wp2
 go_ret
 exact ⟨zq7,zq15⟩
theorem rules_suits.calls (k:Nat) (a0 a1:Int) (r:Bool) (w:World) (h:rules_suits.f k a0 a1=some r) :
  Calls Tryd.prog 40 #[.int .i64 a0,.int .i64 a1] w fun e w'=>e=.returned (.bool r)∧Drawn0 w w':=by
 have H:=h;clear h;unfold rules_suits.f at H;have HC3:=sd H;clear H;go_enter Tryd.func40,Tryd.ntmps40
 go_upto_region 1 with (fail)
 go_cut [5] (fun v5 wc=>∃ (kq:Nat) (x5_2:Bool),v5=.bool x5_2∧Aside0 (rules_suits.j0 kq a0 a1 x5_2=some r)∧Aside0 (kq≤k)∧Drawn0 w wc)
 case first =>
  have H:=HC3.out;clear HC3;replace H:=ifI H;rcases H with ⟨c4,H⟩|⟨c4,H⟩
  ·have c4b0:decide (a0 < 1)=true:=decide_eq_true c4;clear c4;(first|rw [c4b0]|(simp only [i64_w,i32_w];rw [c4b0])|skip)
   have H':=sd H;clear H;go_wp2
   go_meet
   case rel=>exact ⟨_,(true),zq7,H',⟨by first|omega|exact Nat.le_refl _⟩,zq15⟩
  have c4b0:decide (a0 < 1)=false:=decide_eq_false c4;clear c4;(first|rw [c4b0]|(simp only [i64_w,i32_w];rw [c4b0])|skip)
  have H':=sd H;clear H;go_wp2
  go_meet
  case rel=>exact ⟨_,(decide (a0 > 4)),zq7,H',⟨by first|omega|exact Nat.le_refl _⟩,zq15⟩
 case rest =>
  clear HC3;try clear p2
  obtain ⟨kq,x5_2,rfl,HA,HJ2,⟨mc2,rfl⟩⟩:=hcut
  cases kq with
 |zero=>exact absurd HA.out (by simp [rules_suits.j0])
 |succ kj2 =>
   have H:=HA.out;clear HA;simp only [rules_suits.j0] at H
   by_cases c5:x5_2=true
   ·subst c5;rw [if_pos rfl] at H;obtain rfl:=Option.some.inj H;go_wp2
    go_ret
    exact ⟨zq7,zq15⟩
   replace c5:=Bool.eq_false_iff.mpr c5;subst c5;rw [if_neg Bool.false_ne_true] at H;replace H:=ifI H;rcases H with ⟨c6,H⟩|⟨c6,H⟩
   ·obtain ⟨c6b0,c6b1⟩:=eqI c6;clear c6;obtain rfl:=Option.some.inj H;go_wp2
    go_ret
    exact ⟨zq7,zq15⟩
   obtain ⟨c6b0,c6b1⟩:=neI c6;replace H:=bdI H;obtain ⟨t112,A7,H⟩:=H;(try dsimp only at H)
   by_cases c8:t112=true
   ·subst c8;rw [if_pos rfl] at H;replace H:=ifI H;rcases H with ⟨c9,H⟩|⟨c9,H⟩
    ·obtain ⟨c9b0,c9b1⟩:=eqI c9;clear c9;obtain rfl:=Option.some.inj H;go_wp2_with (first|((with_reducible refine gate_callee (f:=25) rfl ?_);refine gL 17 Tryd.func25 #[.int .i64 a0] ?_;(with_reducible refine (rules_counts.calls a0 true _ A7.out).mono ?_);rintro e w' ⟨rfl,⟨nd,rfl⟩⟩;refine ⟨_,rfl,?_⟩))
     go_ret
     exact ⟨zq7,zq15⟩
    obtain ⟨c9b0,c9b1⟩:=neI c9;obtain rfl:=Option.some.inj H;go_wp2_with (first|((with_reducible refine gate_callee (f:=25) rfl ?_);refine gL 17 Tryd.func25 #[.int .i64 a0] ?_;(with_reducible refine (rules_counts.calls a0 true _ A7.out).mono ?_);rintro e w' ⟨rfl,⟨nd,rfl⟩⟩;refine ⟨_,rfl,?_⟩))
    go_ret
    exact ⟨zq7,zq15⟩
   replace c8:=Bool.eq_false_iff.mpr c8;subst c8;rw [if_neg Bool.false_ne_true] at H;replace H:=ifI H;rcases H with ⟨c10,H⟩|⟨c10,H⟩
   ·obtain ⟨c10b0,c10b1⟩:=eqI c10;clear c10;obtain rfl:=Option.some.inj H;go_wp2_with (first|((with_reducible refine gate_callee (f:=25) rfl ?_);refine gL 17 Tryd.func25 #[.int .i64 a0] ?_;(with_reducible refine (rules_counts.calls a0 false _ A7.out).mono ?_);rintro e w' ⟨rfl,⟨nd,rfl⟩⟩;refine ⟨_,rfl,?_⟩))
    go_ret
    exact ⟨zq7,zq15⟩
   obtain ⟨c10b0,c10b1⟩:=neI c10;obtain rfl:=Option.some.inj H;go_wp2_with (first|((with_reducible refine gate_callee (f:=25) rfl ?_);refine gL 17 Tryd.func25 #[.int .i64 a0] ?_;(with_reducible refine (rules_counts.calls a0 false _ A7.out).mono ?_);rintro e w' ⟨rfl,⟨nd,rfl⟩⟩;refine ⟨_,rfl,?_⟩))
   go_ret
   exact ⟨zq7,zq15⟩
theorem words_nameEnd.calls (k:Nat) (a0:ByteArray) (a1 r:Int) (w:World) (h:words_nameEnd.f k a0 a1=some r) :
  Calls Tryd.prog 64 #[.string a0,.int .i64 a1] w fun e w'=>e=.returned (.int .i64 r)∧Drawn0 w w':=by
 have H:=h;clear h;unfold words_nameEnd.f at H;have H':=sd H;clear H;go_enter Tryd.func64,Tryd.ntmps64
 go_wp2
 go_loopg [1] k (fun kq v1 w'=>∃ (x1_1:Int),v1=.int .i64 x1_1∧Aside0 (words_nameEnd.l0 kq a0 x1_1=some r)∧Aside0 (kq≤k)∧Drawn0 w w')
 case atStart=>exact ⟨(a1),zq7,H',⟨Nat.le_refl _⟩,zq15⟩
 case round =>
  clear H';try clear p2
  obtain ⟨x1_1,rfl,HA,HK1,⟨m1,rfl⟩⟩:=hrel
  cases gk with
 |zero=>exact absurd HA.out (by simp [words_nameEnd.l0])
 |succ k1 =>
   have H:=HA.out;clear HA;simp only [words_nameEnd.l0] at H
   replace H:=ifI H;rcases H with ⟨c3,H⟩|⟨c3,H⟩
   ·have c3b0:decide (x1_1 < (a0.size:Int))=true:=decide_eq_true c3;clear c3;replace H:=ifI H;rcases H with ⟨c4,H⟩|⟨c4,H⟩
    ·have c4b0:decide (0≤x1_1)=true:=decide_eq_true c4;clear c4;replace H:=bdI H;obtain ⟨t180,A6,H⟩:=H;(try dsimp only at H)
     by_cases c7:t180=true
     ·subst c7;rw [if_pos rfl] at H;have H':=sd H;clear H;have p5:0≤(x1_1:Int):=od;have q5:x1_1 < (a0.size:Int):=od;have hx5:=bt_at a0 x1_1;replace p5:=eq_true p5;replace q5:=eq_true q5;go_wp2_with (first|(go_at_call 37;(with_reducible refine (words_letter.calls (bt a0 x1_1) true _ A6.out).mono ?_);rintro e w' ⟨rfl,⟨nd,rfl⟩⟩))
      go_roundg k1
      case measure=>have:=HK1.out;omega
      case rel=>exact ⟨(wrap64 (x1_1+1)),zq7,H',⟨by have:=HK1.out;omega⟩,zq15⟩
     replace c7:=Bool.eq_false_iff.mpr c7;subst c7;rw [if_neg Bool.false_ne_true] at H;replace H:=bdI H;obtain ⟨t181,A9,H⟩:=H;(try dsimp only at H)
     by_cases c10:t181=true
     ·subst c10;rw [if_pos rfl] at H;have H':=sd H;clear H;have p5:0≤(x1_1:Int):=od;have q5:x1_1 < (a0.size:Int):=od;have hx5:=bt_at a0 x1_1;replace p5:=eq_true p5;replace q5:=eq_true q5;go_wp2_with (first|(go_at_call 37;(with_reducible refine (words_letter.calls (bt a0 x1_1) false _ A6.out).mono ?_);rintro e w' ⟨rfl,⟨nd,rfl⟩⟩;have p8:0≤(x1_1:Int):=od;have q8:x1_1 < (a0.size:Int):=od;have hx8:=bt_at a0 x1_1;replace p8:=eq_true p8;replace q8:=eq_true q8)|(go_at_call 38;(with_reducible refine (words_digit.calls (bt a0 x1_1) true _ A9.out).mono ?_);rintro e w' ⟨rfl,⟨nd,rfl⟩⟩))
      go_roundg k1
      case measure=>have:=HK1.out;omega
      case rel=>exact ⟨(wrap64 (x1_1+1)),zq7,H',⟨by have:=HK1.out;omega⟩,zq15⟩
     replace c10:=Bool.eq_false_iff.mpr c10;subst c10;rw [if_neg Bool.false_ne_true] at H;obtain rfl:=Option.some.inj H;have p5:0≤(x1_1:Int):=od;have q5:x1_1 < (a0.size:Int):=od;have hx5:=bt_at a0 x1_1;replace p5:=eq_true p5;replace q5:=eq_true q5;go_wp2_with (first|(go_at_call 37;(with_reducible refine (words_letter.calls (bt a0 x1_1) false _ A6.out).mono ?_);rintro e w' ⟨rfl,⟨nd,rfl⟩⟩;have p8:0≤(x1_1:Int):=od;have q8:x1_1 < (a0.size:Int):=od;have hx8:=bt_at a0 x1_1;replace p8:=eq_true p8;replace q8:=eq_true q8)|(go_at_call 38;(with_reducible refine (words_digit.calls (bt a0 x1_1) false _ A9.out).mono ?_);rintro e w' ⟨rfl,⟨nd,rfl⟩⟩))
     go_ret
     exact ⟨zq7,zq15⟩
    exact absurd H (by simp)
   have c3b0:decide (x1_1 < (a0.size:Int))=false:=decide_eq_false c3;clear c3;obtain rfl:=Option.some.inj H;go_wp2
   go_ret
   exact ⟨zq7,zq15⟩
theorem words_digitAt.calls (a0:ByteArray) (a1:Int) (r:Bool) (w:World) (h:words_digitAt.f a0 a1=some r) :
  Calls Tryd.prog 65 #[.string a0,.int .i64 a1] w fun e w'=>e=.returned (.bool r)∧Drawn0 w w':=by
 have H:=h;clear h;unfold words_digitAt.f at H;replace H:=ifI H;rcases H with ⟨c3,H⟩|⟨c3,H⟩
 ·have c3b0:decide (a1 < (a0.size:Int))=true:=decide_eq_true c3;clear c3;replace H:=ifI H;rcases H with ⟨c4,H⟩|⟨c4,H⟩
  ·have c4b0:decide (0≤a1)=true:=decide_eq_true c4;clear c4;replace H:=bdI H;obtain ⟨t182,A6,H⟩:=H;(try dsimp only at H)
   obtain rfl:=Option.some.inj H;have p5:0≤(a1:Int):=od;have q5:a1 < (a0.size:Int):=od;have hx5:=bt_at a0 a1;replace p5:=eq_true p5;replace q5:=eq_true q5;go_enter Tryd.func65,Tryd.ntmps65
   go_wp2_with (first|(go_at_call 38;(with_reducible refine (words_digit.calls (bt a0 a1) t182 _ A6.out).mono ?_);rintro e w' ⟨rfl,⟨nd,rfl⟩⟩))
   go_ret
   exact ⟨zq7,zq15⟩
  exact absurd H (by simp)
 have c3b0:decide (a1 < (a0.size:Int))=false:=decide_eq_false c3;clear c3;obtain rfl:=Option.some.inj H;go_enter Tryd.func65,Tryd.ntmps65
 go_wp2
 go_ret
 exact ⟨zq7,zq15⟩
theorem words_numberEnd.calls (k:Nat) (a0:ByteArray) (a1 r:Int) (w:World) (h:words_numberEnd.f k a0 a1=some r) :
    Calls Tryd.prog 66 #[.string a0,.int .i64 a1] w fun e w'=>e=.returned (.int .i64 r)∧Drawn0 w w':=by
  have HPost:∀ W,Drawn0 w W→(fun (e:Ending) (w':World)=>e=.returned (.int .i64 r)∧Drawn0 w w') (.returned (.int .i64 r)) W:=fun W hW=>⟨rfl,hW⟩
  generalize (fun (e:Ending) (w':World)=>e=.returned (.int .i64 r)∧Drawn0 w w')=Post at HPost ⊢;have HP:=sd HPost;clear HPost;unfold words_numberEnd.f at h;split at h
  case isFalse=>cases h
  rename_i hb
  obtain ⟨hb0,hb1,hs⟩:=hb;obtain ⟨n,rfl⟩:=Int.eq_ofNat_of_zero_le hb0;have hn:n≤140737488351232:=by omega
  clear hb0 hb1;have H:=sd h;clear h;go_enter Tryd.func66,Tryd.ntmps66
  go_wp2_with fail
  go_step3
  go_wp2_with fail
  go_step3
  go_wp2_with fail
  go_loopg [1] k (fun kq v1 wr=>∃ (i:Nat),v1=.int .i64 (i:Int)∧i≤281474976710656∧Aside0 (words_numberEnd.l0 kq a0 (i:Int)=some r)∧Aside0 (Drawn0 w wr))
  case atStart=>exact ⟨n+1,by go_num,by omega,⟨by rw [show ((n+1:Nat):Int)=(n:Int)+1 by omega];exact H.out⟩,⟨Drawn0.refl _⟩⟩
  case round =>
    clear H;obtain ⟨i,rfl,hi,HA,HD⟩:=hrel
    cases gk with
   |zero=>exact absurd HA.out (by simp [words_numberEnd.l0])
   |succ k1 =>
      have H:=HA.out;clear HA;rw [words_numberEnd.l0] at H;by_cases hlt:i < a0.size
      · rw [if_pos (by omega)] at H
        have hbt:bt a0 (i:Int)=(a0[i].toNat:Int):=(bt_at a0 i hlt).symm;rw [hbt,show (i:Int)+1=((i+1:Nat):Int) by omega] at H;obtain ⟨c,hc⟩:∃ c,a0[i]=c:=⟨_,rfl⟩
        rw [hc] at H;clear hbt;have hib:decide ((i:Int) < (a0.size:Int))=true:=decide_eq_true (by omega);by_cases hsep:(c.toNat:Int)=46∨(c.toNat:Int)=47∨(c.toNat:Int)=45
        · rw [if_pos hsep] at H
          replace H:=Option.bind_eq_some_iff.mp H;obtain ⟨b,hb,H⟩:=H;have CA:=sd (fun W=>words_digitAt.calls a0 ((i+1:Nat):Int) b W hb);rw [show ((i+1:Nat):Int)=(i:Int)+1 by omega] at CA;clear hb
          have sep:(((c.toNat:Int) == 46)=true)∨((((c.toNat:Int) == 46)=false)∧((c.toNat:Int) == 47)=true)∨((((c.toNat:Int) == 46)=false)∧(((c.toNat:Int) == 47)=false)∧((c.toNat:Int) == 45)=true):=by
            simp only [beq_iff_eq,beq_eq_false_iff_ne];omega
          clear hsep
          cases b
          · rw [if_neg (by decide)] at H
            rcases sep with s1|⟨s1,s2⟩|⟨s1,s2,s3⟩
            · obtain rfl:=Option.some.inj H
              go_wp2_with (first|(go_at_call 37;(with_reducible refine (CL.out _).mono ?_);rintro e w' ⟨rfl,nd,rfl⟩)|(go_at_call 38;(with_reducible refine (CD.out _).mono ?_);rintro e w' ⟨rfl,nd,rfl⟩)|(go_at_call 65;(with_reducible refine (CA.out _).mono ?_);rintro e w' ⟨rfl,nd,rfl⟩))
              (try go_ret)
              exact HP.out _ zq81
            · obtain rfl:=Option.some.inj H
              go_wp2_with (first|(go_at_call 37;(with_reducible refine (CL.out _).mono ?_);rintro e w' ⟨rfl,nd,rfl⟩)|(go_at_call 38;(with_reducible refine (CD.out _).mono ?_);rintro e w' ⟨rfl,nd,rfl⟩)|(go_at_call 65;(with_reducible refine (CA.out _).mono ?_);rintro e w' ⟨rfl,nd,rfl⟩))
              (try go_ret)
              exact HP.out _ zq81
            · obtain rfl:=Option.some.inj H
              go_wp2_with (first|(go_at_call 37;(with_reducible refine (CL.out _).mono ?_);rintro e w' ⟨rfl,nd,rfl⟩)|(go_at_call 38;(with_reducible refine (CD.out _).mono ?_);rintro e w' ⟨rfl,nd,rfl⟩)|(go_at_call 65;(with_reducible refine (CA.out _).mono ?_);rintro e w' ⟨rfl,nd,rfl⟩))
              (try go_ret)
              exact HP.out _ zq81
          · rw [if_pos rfl] at H
            rcases sep with s1|⟨s1,s2⟩|⟨s1,s2,s3⟩
            · have HA:=sd H
              clear H;go_wp2_with (first|(go_at_call 37;(with_reducible refine (CL.out _).mono ?_);rintro e w' ⟨rfl,nd,rfl⟩)|(go_at_call 38;(with_reducible refine (CD.out _).mono ?_);rintro e w' ⟨rfl,nd,rfl⟩)|(go_at_call 65;(with_reducible refine (CA.out _).mono ?_);rintro e w' ⟨rfl,nd,rfl⟩))
              go_roundg k1
              case measure=>omega
              case rel=>exact ⟨i+1,by go_num,by omega,HA,⟨zq81⟩⟩
            · have HA:=sd H
              clear H;go_wp2_with (first|(go_at_call 37;(with_reducible refine (CL.out _).mono ?_);rintro e w' ⟨rfl,nd,rfl⟩)|(go_at_call 38;(with_reducible refine (CD.out _).mono ?_);rintro e w' ⟨rfl,nd,rfl⟩)|(go_at_call 65;(with_reducible refine (CA.out _).mono ?_);rintro e w' ⟨rfl,nd,rfl⟩))
              go_roundg k1
              case measure=>omega
              case rel=>exact ⟨i+1,by go_num,by omega,HA,⟨zq81⟩⟩
            · have HA:=sd H
              clear H;go_wp2_with (first|(go_at_call 37;(with_reducible refine (CL.out _).mono ?_);rintro e w' ⟨rfl,nd,rfl⟩)|(go_at_call 38;(with_reducible refine (CD.out _).mono ?_);rintro e w' ⟨rfl,nd,rfl⟩)|(go_at_call 65;(with_reducible refine (CA.out _).mono ?_);rintro e w' ⟨rfl,nd,rfl⟩))
              go_roundg k1
              case measure=>omega
              case rel=>exact ⟨i+1,by go_num,by omega,HA,⟨zq81⟩⟩
        rw [if_neg hsep] at H;have s1:((c.toNat:Int) == 46)=false:=beq_eq_false_iff_ne.mpr (fun h=>hsep (.inl h));have s2:((c.toNat:Int) == 47)=false:=beq_eq_false_iff_ne.mpr (fun h=>hsep (.inr (.inl h)));have s3:((c.toNat:Int) == 45)=false:=beq_eq_false_iff_ne.mpr (fun h=>hsep (.inr (.inr h)));clear hsep;replace H:=Option.bind_eq_some_iff.mp H;obtain ⟨b,hb,H⟩:=H;have CL:=sd (fun W=>words_letter.calls (c.toNat:Int) b W hb);clear hb
        cases b
        · rw [if_neg (by decide)] at H
          replace H:=Option.bind_eq_some_iff.mp H;obtain ⟨d,hd,H⟩:=H;have CD:=sd (fun W=>words_digit.calls (c.toNat:Int) d W hd);clear hd
          cases d
          · rw [if_neg (by decide)] at H
            obtain rfl:=Option.some.inj H;go_wp2_with (first|(go_at_call 37;(with_reducible refine (CL.out _).mono ?_);rintro e w' ⟨rfl,nd,rfl⟩)|(go_at_call 38;(with_reducible refine (CD.out _).mono ?_);rintro e w' ⟨rfl,nd,rfl⟩)|(go_at_call 65;(with_reducible refine (CA.out _).mono ?_);rintro e w' ⟨rfl,nd,rfl⟩))
            (try go_ret)
            exact HP.out _ zq81
          · rw [if_pos rfl] at H
            have HA:=sd H;clear H;go_wp2_with (first|(go_at_call 37;(with_reducible refine (CL.out _).mono ?_);rintro e w' ⟨rfl,nd,rfl⟩)|(go_at_call 38;(with_reducible refine (CD.out _).mono ?_);rintro e w' ⟨rfl,nd,rfl⟩)|(go_at_call 65;(with_reducible refine (CA.out _).mono ?_);rintro e w' ⟨rfl,nd,rfl⟩))
            go_roundg k1
            case measure=>omega
            case rel=>exact ⟨i+1,by go_num,by omega,HA,⟨zq81⟩⟩
        · rw [if_pos rfl] at H
          have HA:=sd H;clear H;go_wp2_with (first|(go_at_call 37;(with_reducible refine (CL.out _).mono ?_);rintro e w' ⟨rfl,nd,rfl⟩)|(go_at_call 38;(with_reducible refine (CD.out _).mono ?_);rintro e w' ⟨rfl,nd,rfl⟩)|(go_at_call 65;(with_reducible refine (CA.out _).mono ?_);rintro e w' ⟨rfl,nd,rfl⟩))
          go_roundg k1
          case measure=>omega
          case rel=>exact ⟨i+1,by go_num,by omega,HA,⟨zq81⟩⟩
      rw [if_neg (by omega)] at H;obtain rfl:=Option.some.inj H;go_wp2_with fail
      (try go_ret)
      exact HP.out _ zq81
theorem words_signEnd.calls (k:Nat) (a0:ByteArray) (a1 r:Int) (w:World) (h:words_signEnd.f k a0 a1=some r) :
  Calls Tryd.prog 68 #[.string a0,.int .i64 a1] w fun e w'=>e=.returned (.int .i64 r)∧Drawn0 w w':=by
 have H:=h;clear h;unfold words_signEnd.f at H;have HC3:=sd H;clear H;go_enter Tryd.func68,Tryd.ntmps68
 go_upto_if 9 with (fail)
 go_cut [] (fun wc=>∃ (kq:Nat),Aside0 (words_signEnd.j0 kq a0 a1=some r)∧Aside0 (kq≤k)∧Drawn0 w wc)
 case first =>
  have H:=HC3.out;clear HC3;replace H:=ifI H;rcases H with ⟨c4,H⟩|⟨c4,H⟩
  ·have c4b0:decide ((wrap64 (a1+2))≤(a0.size:Int))=true:=decide_eq_true c4;clear c4;(first|rw [c4b0]|(simp only [i64_w,i32_w];rw [c4b0])|skip)
   replace H:=ifI H;rcases H with ⟨c5,H⟩|⟨c5,H⟩
   ·have c5b0:=eq_true c5;have c5b1:decide (0≤a1)=true:=decide_eq_true c5;clear c5;replace H:=ifI H;rcases H with ⟨c6,H⟩|⟨c6,H⟩
    ·have c6b0:=eq_true c6;have c6b1:decide (a1≤(wrap64 (a1+2)))=true:=decide_eq_true c6;have c7b0:=eq_true (od:(wrap64 (a1+2))≤(a0.size:Int));replace H:=ifI H;rcases H with ⟨c8,H⟩|⟨c8,H⟩
     ·obtain ⟨c8b0,c8b1⟩:=eqI c8;clear c8;obtain rfl:=Option.some.inj H;go_wp2
      go_ret
      exact ⟨zq7,zq15⟩
     obtain ⟨c8b0,c8b1⟩:=neI c8;replace H:=ifI H;rcases H with ⟨c9,H⟩|⟨c9,H⟩
     ·obtain ⟨c9b0,c9b1⟩:=eqI c9;clear c9;obtain rfl:=Option.some.inj H;go_wp2
      go_ret
      exact ⟨zq7,zq15⟩
     obtain ⟨c9b0,c9b1⟩:=neI c9;replace H:=ifI H;rcases H with ⟨c10,H⟩|⟨c10,H⟩
     ·obtain ⟨c10b0,c10b1⟩:=eqI c10;clear c10;obtain rfl:=Option.some.inj H;go_wp2
      go_ret
      exact ⟨zq7,zq15⟩
     obtain ⟨c10b0,c10b1⟩:=neI c10;replace H:=ifI H;rcases H with ⟨c11,H⟩|⟨c11,H⟩
     ·obtain ⟨c11b0,c11b1⟩:=eqI c11;clear c11;obtain rfl:=Option.some.inj H;go_wp2
      go_ret
      exact ⟨zq7,zq15⟩
     obtain ⟨c11b0,c11b1⟩:=neI c11;have H':=sd H;clear H;go_wp2
     go_meet
     case rel=>exact ⟨_,H',⟨by first|omega|exact Nat.le_refl _⟩,zq15⟩
    exact absurd H (by simp)
   exact absurd H (by simp)
  have c4b0:decide ((wrap64 (a1+2))≤(a0.size:Int))=false:=decide_eq_false c4;clear c4;(first|rw [c4b0]|(simp only [i64_w,i32_w];rw [c4b0])|skip)
  have H':=sd H;clear H;go_wp2
  go_meet
  case rel=>exact ⟨_,H',⟨by first|omega|exact Nat.le_refl _⟩,zq15⟩
 case rest =>
  clear HC3;try clear c1
  obtain ⟨kq,HA,HJ2,⟨mc2,rfl⟩⟩:=hcut
  cases kq with
 |zero=>exact absurd HA.out (by simp [words_signEnd.j0])
 |succ kj2 =>
   have H:=HA.out;clear HA;simp only [words_signEnd.j0] at H
   replace H:=ifI H;rcases H with ⟨c12,H⟩|⟨c12,H⟩
   ·have c12b0:decide (0≤a1)=true:=decide_eq_true c12;clear c12;replace H:=ifI H;rcases H with ⟨c13,H⟩|⟨c13,H⟩
    ·have c13b0:decide (a1 < (a0.size:Int))=true:=decide_eq_true c13;clear c13;replace H:=ifI H;rcases H with ⟨c15,H⟩|⟨c15,H⟩
     ·obtain ⟨c15b0,c15b1⟩:=eqI c15;clear c15;obtain rfl:=Option.some.inj H;have p14:0≤(a1:Int):=od;have q14:a1 < (a0.size:Int):=od;have hx14:=bt_at a0 a1;replace p14:=eq_true p14;replace q14:=eq_true q14;go_wp2
      go_ret
      exact ⟨zq7,zq15⟩
     obtain ⟨c15b0,c15b1⟩:=neI c15;replace H:=ifI H;rcases H with ⟨c16,H⟩|⟨c16,H⟩
     ·obtain ⟨c16b0,c16b1⟩:=eqI c16;clear c16;obtain rfl:=Option.some.inj H;have p14:0≤(a1:Int):=od;have q14:a1 < (a0.size:Int):=od;have hx14:=bt_at a0 a1;replace p14:=eq_true p14;replace q14:=eq_true q14;go_wp2
      go_ret
      exact ⟨zq7,zq15⟩
     obtain ⟨c16b0,c16b1⟩:=neI c16;replace H:=ifI H;rcases H with ⟨c17,H⟩|⟨c17,H⟩
     ·obtain ⟨c17b0,c17b1⟩:=eqI c17;clear c17;obtain rfl:=Option.some.inj H;have p14:0≤(a1:Int):=od;have q14:a1 < (a0.size:Int):=od;have hx14:=bt_at a0 a1;replace p14:=eq_true p14;replace q14:=eq_true q14;go_wp2
      go_ret
      exact ⟨zq7,zq15⟩
     obtain ⟨c17b0,c17b1⟩:=neI c17;replace H:=ifI H;rcases H with ⟨c18,H⟩|⟨c18,H⟩
     ·obtain ⟨c18b0,c18b1⟩:=eqI c18;clear c18;obtain rfl:=Option.some.inj H;have p14:0≤(a1:Int):=od;have q14:a1 < (a0.size:Int):=od;have hx14:=bt_at a0 a1;replace p14:=eq_true p14;replace q14:=eq_true q14;go_wp2
      go_ret
      exact ⟨zq7,zq15⟩
     obtain ⟨c18b0,c18b1⟩:=neI c18;replace H:=ifI H;rcases H with ⟨c19,H⟩|⟨c19,H⟩
     ·obtain ⟨c19b0,c19b1⟩:=eqI c19;clear c19;obtain rfl:=Option.some.inj H;have p14:0≤(a1:Int):=od;have q14:a1 < (a0.size:Int):=od;have hx14:=bt_at a0 a1;replace p14:=eq_true p14;replace q14:=eq_true q14;go_wp2
      go_ret
      exact ⟨zq7,zq15⟩
     obtain ⟨c19b0,c19b1⟩:=neI c19;replace H:=ifI H;rcases H with ⟨c20,H⟩|⟨c20,H⟩
     ·obtain ⟨c20b0,c20b1⟩:=eqI c20;clear c20;obtain rfl:=Option.some.inj H;have p14:0≤(a1:Int):=od;have q14:a1 < (a0.size:Int):=od;have hx14:=bt_at a0 a1;replace p14:=eq_true p14;replace q14:=eq_true q14;go_wp2
      go_ret
      exact ⟨zq7,zq15⟩
     obtain ⟨c20b0,c20b1⟩:=neI c20;replace H:=ifI H;rcases H with ⟨c21,H⟩|⟨c21,H⟩
     ·obtain ⟨c21b0,c21b1⟩:=eqI c21;clear c21;obtain rfl:=Option.some.inj H;have p14:0≤(a1:Int):=od;have q14:a1 < (a0.size:Int):=od;have hx14:=bt_at a0 a1;replace p14:=eq_true p14;replace q14:=eq_true q14;go_wp2
      go_ret
      exact ⟨zq7,zq15⟩
     obtain ⟨c21b0,c21b1⟩:=neI c21;replace H:=ifI H;rcases H with ⟨c22,H⟩|⟨c22,H⟩
     ·obtain ⟨c22b0,c22b1⟩:=eqI c22;clear c22;obtain rfl:=Option.some.inj H;have p14:0≤(a1:Int):=od;have q14:a1 < (a0.size:Int):=od;have hx14:=bt_at a0 a1;replace p14:=eq_true p14;replace q14:=eq_true q14;go_wp2
      go_ret
      exact ⟨zq7,zq15⟩
     obtain ⟨c22b0,c22b1⟩:=neI c22;replace H:=ifI H;rcases H with ⟨c23,H⟩|⟨c23,H⟩
     ·obtain ⟨c23b0,c23b1⟩:=eqI c23;clear c23;obtain rfl:=Option.some.inj H;have p14:0≤(a1:Int):=od;have q14:a1 < (a0.size:Int):=od;have hx14:=bt_at a0 a1;replace p14:=eq_true p14;replace q14:=eq_true q14;go_wp2
      go_ret
      exact ⟨zq7,zq15⟩
     obtain ⟨c23b0,c23b1⟩:=neI c23;replace H:=ifI H;rcases H with ⟨c24,H⟩|⟨c24,H⟩
     ·obtain ⟨c24b0,c24b1⟩:=eqI c24;clear c24;obtain rfl:=Option.some.inj H;have p14:0≤(a1:Int):=od;have q14:a1 < (a0.size:Int):=od;have hx14:=bt_at a0 a1;replace p14:=eq_true p14;replace q14:=eq_true q14;go_wp2
      go_ret
      exact ⟨zq7,zq15⟩
     obtain ⟨c24b0,c24b1⟩:=neI c24;replace H:=ifI H;rcases H with ⟨c25,H⟩|⟨c25,H⟩
     ·obtain ⟨c25b0,c25b1⟩:=eqI c25;clear c25;obtain rfl:=Option.some.inj H;have p14:0≤(a1:Int):=od;have q14:a1 < (a0.size:Int):=od;have hx14:=bt_at a0 a1;replace p14:=eq_true p14;replace q14:=eq_true q14;go_wp2
      go_ret
      exact ⟨zq7,zq15⟩
     obtain ⟨c25b0,c25b1⟩:=neI c25;replace H:=ifI H;rcases H with ⟨c26,H⟩|⟨c26,H⟩
     ·obtain ⟨c26b0,c26b1⟩:=eqI c26;clear c26;obtain rfl:=Option.some.inj H;have p14:0≤(a1:Int):=od;have q14:a1 < (a0.size:Int):=od;have hx14:=bt_at a0 a1;replace p14:=eq_true p14;replace q14:=eq_true q14;go_wp2
      go_ret
      exact ⟨zq7,zq15⟩
     obtain ⟨c26b0,c26b1⟩:=neI c26;replace H:=ifI H;rcases H with ⟨c27,H⟩|⟨c27,H⟩
     ·obtain ⟨c27b0,c27b1⟩:=eqI c27;clear c27;obtain rfl:=Option.some.inj H;have p14:0≤(a1:Int):=od;have q14:a1 < (a0.size:Int):=od;have hx14:=bt_at a0 a1;replace p14:=eq_true p14;replace q14:=eq_true q14;go_wp2
      go_ret
      exact ⟨zq7,zq15⟩
     obtain ⟨c27b0,c27b1⟩:=neI c27;replace H:=ifI H;rcases H with ⟨c28,H⟩|⟨c28,H⟩
     ·obtain ⟨c28b0,c28b1⟩:=eqI c28;clear c28;obtain rfl:=Option.some.inj H;have p14:0≤(a1:Int):=od;have q14:a1 < (a0.size:Int):=od;have hx14:=bt_at a0 a1;replace p14:=eq_true p14;replace q14:=eq_true q14;go_wp2
      go_ret
      exact ⟨zq7,zq15⟩
     obtain ⟨c28b0,c28b1⟩:=neI c28;replace H:=ifI H;rcases H with ⟨c29,H⟩|⟨c29,H⟩
     ·obtain ⟨c29b0,c29b1⟩:=eqI c29;clear c29;obtain rfl:=Option.some.inj H;have p14:0≤(a1:Int):=od;have q14:a1 < (a0.size:Int):=od;have hx14:=bt_at a0 a1;replace p14:=eq_true p14;replace q14:=eq_true q14;go_wp2
      go_ret
      exact ⟨zq7,zq15⟩
     obtain ⟨c29b0,c29b1⟩:=neI c29;replace H:=ifI H;rcases H with ⟨c30,H⟩|⟨c30,H⟩
     ·obtain ⟨c30b0,c30b1⟩:=eqI c30;clear c30;obtain rfl:=Option.some.inj H;have p14:0≤(a1:Int):=od;have q14:a1 < (a0.size:Int):=od;have hx14:=bt_at a0 a1;replace p14:=eq_true p14;replace q14:=eq_true q14;go_wp2
      go_ret
      exact ⟨zq7,zq15⟩
     obtain ⟨c30b0,c30b1⟩:=neI c30;replace H:=ifI H;rcases H with ⟨c31,H⟩|⟨c31,H⟩
     ·obtain ⟨c31b0,c31b1⟩:=eqI c31;clear c31;obtain rfl:=Option.some.inj H;have p14:0≤(a1:Int):=od;have q14:a1 < (a0.size:Int):=od;have hx14:=bt_at a0 a1;replace p14:=eq_true p14;replace q14:=eq_true q14;go_wp2
      go_ret
      exact ⟨zq7,zq15⟩
     obtain ⟨c31b0,c31b1⟩:=neI c31;replace H:=ifI H;rcases H with ⟨c32,H⟩|⟨c32,H⟩
     ·obtain ⟨c32b0,c32b1⟩:=eqI c32;clear c32;obtain rfl:=Option.some.inj H;have p14:0≤(a1:Int):=od;have q14:a1 < (a0.size:Int):=od;have hx14:=bt_at a0 a1;replace p14:=eq_true p14;replace q14:=eq_true q14;go_wp2
      go_ret
      exact ⟨zq7,zq15⟩
     obtain ⟨c32b0,c32b1⟩:=neI c32;replace H:=ifI H;rcases H with ⟨c33,H⟩|⟨c33,H⟩
     ·obtain ⟨c33b0,c33b1⟩:=eqI c33;clear c33;obtain rfl:=Option.some.inj H;have p14:0≤(a1:Int):=od;have q14:a1 < (a0.size:Int):=od;have hx14:=bt_at a0 a1;replace p14:=eq_true p14;replace q14:=eq_true q14;go_wp2
      go_ret
      exact ⟨zq7,zq15⟩
     obtain ⟨c33b0,c33b1⟩:=neI c33;replace H:=ifI H;rcases H with ⟨c34,H⟩|⟨c34,H⟩
     ·obtain ⟨c34b0,c34b1⟩:=eqI c34;clear c34;obtain rfl:=Option.some.inj H;have p14:0≤(a1:Int):=od;have q14:a1 < (a0.size:Int):=od;have hx14:=bt_at a0 a1;replace p14:=eq_true p14;replace q14:=eq_true q14;go_wp2
      go_ret
      exact ⟨zq7,zq15⟩
     obtain ⟨c34b0,c34b1⟩:=neI c34;replace H:=ifI H;rcases H with ⟨c35,H⟩|⟨c35,H⟩
     ·obtain ⟨c35b0,c35b1⟩:=eqI c35;clear c35;obtain rfl:=Option.some.inj H;have p14:0≤(a1:Int):=od;have q14:a1 < (a0.size:Int):=od;have hx14:=bt_at a0 a1;replace p14:=eq_true p14;replace q14:=eq_true q14;go_wp2
      go_ret
      exact ⟨zq7,zq15⟩
     obtain ⟨c35b0,c35b1⟩:=neI c35;obtain rfl:=Option.some.inj H;have p14:0≤(a1:Int):=od;have q14:a1 < (a0.size:Int):=od;have hx14:=bt_at a0 a1;replace p14:=eq_true p14;replace q14:=eq_true q14;go_wp2
     go_ret
     exact ⟨zq7,zq15⟩
    exact absurd H (by simp)
   exact absurd H (by simp)
end A
namespace WL
open WW (Aside0)
section
variable {md:Region.Mode} {ops:Array Oper} {T:Bool×List (List Nat×List Nat)} {l l' li lj lk:Array Bool} {ds:List Nat} {i j k:Nat}
theorem one_of (hT:rtab md ops=T) (h:(readyT T.2 l.toList == [i] && l.toList.set i true == l'.toList)=true):readyB md ops l l' i=true:=by
  simp only [Bool.and_eq_true] at h
  obtain ⟨h1,h2⟩:=h;subst hT;simp only [readyB,Bool.and_eq_true]
  exact ⟨by rw [ready_eq];exact h1,set_of h2⟩
end
end WL
namespace WL
open WW (Aside0)
def opsOf (f:Func) (k:Nat):Array Oper:=((f.body.bind fun c=>opsIn c k)).getD #[]
end WL
namespace WL
section
variable {P:Program} {ops:Array Oper} {Q:Exit→Act→World→Prop} {md:Region.Mode} {S:World→Prop} {ds:List Nat}
theorem last_ {i:Nat} {N:Option Tmp} {oi:Oper} {fuel:Nat} {l:Array Bool} {a:Act} {w:World} (l':Array Bool) (hi:ops[i]?=some oi) (hN:oi.dst=N) (hc:readyB md ops l l' i=true) (hd:i∈ds)
    (h:∀ K:Act→World→Prop,Shut (∀ a' w',wpAnyLast P md ops Q S ds fuel l' a' w'→K a' w')→if Region.wanted oi (yielded ops a.tmps)=true then Oper.wp P oi a w K Q else K (a.put N undef) w) :
    wpAnyLast P md ops Q S ds (fuel+1) l a w:=by
  subst hN;simp only [readyB,Bool.and_eq_true,beq_iff_eq] at hc
  obtain ⟨h1,h2⟩:=hc;subst h2;exact wpAnyLast_ready h1 (by simp) (AllReadyL.cons_last hi hd (fun K hK=>h K hK) AllReadyL.nil)
end
end WL
namespace A
open Go.RowKit B WW WL WM
attribute [local go_sem] max2_int min2_int max_two min_two max_three min_three max_four min_four
set_option maxHeartbeats 8000000
set_option maxRecDepth 100000
theorem words_quoted.tab8:rtab .any (opsOf Tryd.f67 8)=words_quoted.T8:=by kernel_rfl
theorem words_quoted.calls (k:Nat) (a0:ByteArray) (a1:Int) (r1:ByteArray) (r2 r3 r4:Int) (w:World) (h:words_quoted.f k a0 a1=some (r1,r2,r3,r4)) :
  Calls Tryd.prog 67 #[.string a0,.int .i64 a1] w fun e w'=>e=.returned (.tuple #[.string r1,.int .i64 r2,.agg #[.int .i64 r3,.int .i64 r4]])∧Below w.heap.size w w':=by
 have hu91:=Tryd.underlying91;have HB:=sd (Below.refl w.heap.size w);have H:=h;clear h;unfold words_quoted.f at H;have H':=sd H;clear H;go_enter Tryd.func67,Tryd.ntmps67
 go_wp2_with (first|((with_reducible refine gate_dst (N:=6) rfl ?_);refine bxA 6 #[.int .i64 0,.int .i64 0] 91 ?_;intro gb183 hg w3 hbox hb;have BK183:=sd (hbox);have GW183:=gem hg HB;have GE183:=GW183;replace HB:=hbm HB hb;clear hb hbox hg))
 go_loopg [7,8] k (fun kq v7 v8 w'=>∃ (x7_1:List Int) (x8_1:Int) (x184000_1:Int) (x184001_1:Int),v8=.int .i64 x8_1∧Aside0 (words_quoted.l0 kq a0 a1 x7_1 x8_1 x184000_1 x184001_1=some (r1,r2,r3,r4))∧Aside0 (kq≤k)∧Aside0 (Kd.R (Kd.int .u8) 5 w' w.heap.size (fun _=>True) v7 x7_1)∧Aside0 (w'.heap[gb183]?=some (.cells #[.int .i64 x184000_1,.int .i64 x184001_1] 91 (0,0)))∧Aside0 (Below w.heap.size w w'))
 case atStart=>exact ⟨(([]:List Int)),(wrap64 (a1+1)),(0),(0),zq7,H',⟨Nat.le_refl _⟩,⟨zq5⟩,⟨zq82⟩,⟨zq83⟩⟩
 case round =>
  clear H';try clear p2
  obtain ⟨x7_1,x8_1,x184000_1,x184001_1,rfl,HA,HK1,HO_7,BK183,HB⟩:=hrel
  cases gk with
 |zero=>exact absurd HA.out (by simp [words_quoted.l0])
 |succ k1 =>
   have H:=HA.out;clear HA;simp only [words_quoted.l0] at H
   replace H:=ifI H;rcases H with ⟨c4,H⟩|⟨c4,H⟩
   ·have c4b0:decide (x8_1 < (a0.size:Int))=true:=decide_eq_true c4;clear c4;replace H:=ifI H;rcases H with ⟨c5,H⟩|⟨c5,H⟩
    ·have c5b0:decide (0≤x8_1)=true:=decide_eq_true c5;clear c5;replace H:=ifI H;rcases H with ⟨c7,H⟩|⟨c7,H⟩
     ·obtain ⟨c7b0,c7b1⟩:=eqI c7;clear c7;simp only [Option.some.injEq,Prod.mk.injEq] at H
      obtain ⟨rfl,rfl,rfl,rfl⟩:=H;have p6:0≤(x8_1:Int):=od;have q6:x8_1 < (a0.size:Int):=od;have hx6:=bt_at a0 x8_1;replace p6:=eq_true p6;replace q6:=eq_true q6;try go_wp2
      replace HO_7:=sd (Kd.R_drew HO_7.out);replace BK183:=sd (blk_drew BK183.out);replace HB:=sd (below_drew1 HB.out);have hcw9:=own_string (P:=Tryd.prog) Tryd.underlying81 Tryd.underlying5 Tryd.underlying9 (Kd.own_of_R HO_7.out);refine start_ (n:=8) (S:=fun w'=>w'.cell? ⟨gb183,0,none⟩=some (.int .i64 x184000_1)∧w'.cell? ⟨gb183,1,none⟩=some (.int .i64 x184001_1)∧(convert 81 9 u7).run Tryd.prog w'=.ok (.string (strOfNums x7_1)) w') (ds:=[7]) #[false,false,false,false,false,false,false,false] (by kernel_rfl) rfl rfl ⟨(blk_cell BK183.out 0).trans rfl,(blk_cell BK183.out 1).trans rfl,hcw9⟩ (fun hHeld=>?_);refine with_tabW words_quoted.tab8 words_quoted.bits8 (fun HT_ HW_=>?_);generalize wr.drew=w8 at HO_7 BK183 HB hHeld ⊢;refine pA 0 28 HT_.out ?_;refine tA 1 29 HT_.out HW_.out hHeld ?_;refine pA 2 30 HT_.out ?_;refine pA 3 31 HT_.out ?_;refine pA 5 4 HT_.out ?_;refine pA 6 5 HT_.out ?_;refine tA 4 32 HT_.out HW_.out hHeld ?_;refine last_ (i:=7) (N:=none) #[true,true,true,true,true,true,true,true] rfl rfl (one_of HT_.out (by kernel_rfl)) (by decide) (fun K hK=>?_);have hs10:w8.cell? ⟨gb183,0,none⟩=some (.int .i64 x184000_1):=(blk_cell BK183.out 0).trans rfl;have hfs10:=blk_frozen BK183.out 0;have hs11:w8.cell? ⟨gb183,1,none⟩=some (.int .i64 x184001_1):=(blk_cell BK183.out 1).trans rfl;have hfs11:=blk_frozen BK183.out 1;refine skip_ (w1:=?_) (by rfl) rfl ?_ ?_;rotate_left
      ·go_simp
       rfl
      refine hK.out _ _ ?_;clear hK K;refine done_ (done_of HT_.out (by kernel_rfl)) ?_;try go_wp2
      refine bodyPost_ret (results_list (rs:=[.tmp 4,.tmp 5,.cell 6 91]) rfl (by simp) (.tmp (.tmp (.cell gb183 91 #[.int .i64 x184000_1,.int .i64 x184001_1] (0,0) _ rfl (by (with_reducible repeat (first|refine blk_drewN ?_ _|refine blk_drew ?_|refine blk_alloc ?_ _));refine blk_put (cs:=#[.int .i64 x184000_1,.int .i64 x184001_1]) ?_ 1 _ rfl;(with_reducible repeat (first|refine blk_drewN ?_ _|refine blk_drew ?_|refine blk_alloc ?_ _));refine blk_put (cs:=#[.int .i64 x184000_1,.int .i64 x184001_1]) ?_ 0 _ rfl;(with_reducible repeat (first|refine blk_drewN ?_ _|refine blk_drew ?_|refine blk_alloc ?_ _));exact BK183.out) Tryd.underlying91 rfl (by kernel_rfl) .nil)))) rfl ?_;exact ⟨zq4,zq83⟩
     obtain ⟨c7b0,c7b1⟩:=neI c7;replace H:=ifI H;rcases H with ⟨c12,H⟩|⟨c12,H⟩
     ·obtain ⟨c12b0,c12b1⟩:=eqI c12;clear c12;replace H:=ifI H;rcases H with ⟨c13,H⟩|⟨c13,H⟩
      ·have c13b0:decide ((a0.size:Int)≤(wrap64 (x8_1+1)))=true:=decide_eq_true c13;clear c13;simp only [Option.some.injEq,Prod.mk.injEq] at H
       obtain ⟨rfl,rfl,rfl,rfl⟩:=H;have p6:0≤(x8_1:Int):=od;have q6:x8_1 < (a0.size:Int):=od;have hx6:=bt_at a0 x8_1;replace p6:=eq_true p6;replace q6:=eq_true q6;obtain ⟨_,_,_,_⟩:=bk2 BK183;go_wp2
       refine bodyPost_ret (results_list (rs:=[.tmp 4,.tmp 5,.cell 6 91]) rfl (by simp) (.tmp (.tmp (.cell gb183 91 #[.int .i64 (wrap64 ((wrap64 (x8_1+1)) - 1)),.int .i64 5] (0,0) _ rfl (by (with_reducible repeat (first|refine blk_drewN ?_ _|refine blk_drew ?_|refine blk_alloc ?_ _));refine blk_put (cs:=#[.int .i64 (wrap64 ((wrap64 (x8_1+1)) - 1)),.int .i64 x184001_1]) ?_ 1 _ rfl;(with_reducible repeat (first|refine blk_drewN ?_ _|refine blk_drew ?_|refine blk_alloc ?_ _));refine blk_put (cs:=#[.int .i64 x184000_1,.int .i64 x184001_1]) ?_ 0 _ rfl;(with_reducible repeat (first|refine blk_drewN ?_ _|refine blk_drew ?_|refine blk_alloc ?_ _));exact BK183.out) Tryd.underlying91 rfl (by kernel_rfl) .nil)))) rfl ?_;exact ⟨zq4,zq83⟩
      have c13b0:decide ((a0.size:Int)≤(wrap64 (x8_1+1)))=false:=decide_eq_false c13;clear c13;obtain ⟨ji15,hji15⟩:∃ j_:Int,(wrap64 (x8_1+1))=j_:=⟨_,rfl⟩
      replace H:(if 0≤(ji15) then (if (ji15) < (a0.size:Int) then (if (bt a0 (ji15))=34 then (if x7_1.length < 140737488355328 then (words_quoted.l0 k1 a0 a1 (x7_1++[bt a0 (ji15)]) (wrap64 ((ji15)+1)) x184000_1 x184001_1) else (none)) else (if (bt a0 (ji15))=92 then (if x7_1.length < 140737488355328 then (words_quoted.l0 k1 a0 a1 (x7_1++[bt a0 (ji15)]) (wrap64 ((ji15)+1)) x184000_1 x184001_1) else (none)) else (some ((⟨#[]⟩:ByteArray),0,wrap64 ((ji15) - 1),5)))) else (none)) else (none))=some (r1,r2,r3,r4):=by first|(rw [hji15] at H;exact H)|(simp only [hji15] at H ⊢;exact H)
      (try rw [hji15] at c13b0)
      have hji15w:(IntKind.i64.wrap (x8_1+1))=ji15:=(i64_w _).trans hji15;replace H:=ifI H;rcases H with ⟨c16,H⟩|⟨c16,H⟩
      ·have c16b0:decide (0≤(ji15))=true:=decide_eq_true c16;clear c16;replace H:=ifI H;rcases H with ⟨c17,H⟩|⟨c17,H⟩
       ·have c17b0:decide ((ji15) < (a0.size:Int))=true:=decide_eq_true c17;clear c17;replace H:=ifI H;rcases H with ⟨c19,H⟩|⟨c19,H⟩
        ·obtain ⟨c19b0,c19b1⟩:=eqI c19;clear c19;replace H:=ifI H;rcases H with ⟨c21,H⟩|⟨c21,H⟩
         ·have LMc21:=sd c21;clear c21;obtain ⟨y184,hy184⟩:∃ y_:List Int,y_=(x7_1++[bt a0 (ji15)]):=⟨_,rfl⟩
          replace H:(words_quoted.l0 k1 a0 a1 y184 (wrap64 ((ji15)+1)) x184000_1 x184001_1)=some (r1,r2,r3,r4):=by first|(rw [hy184];with_reducible exact H)|(have H2_:=(Option.bind_some _ _).symm.trans H;rw [hy184];with_reducible exact H2_)|(have H2_:=(Option.bind_some _ _).symm.trans H;with_reducible exact H2_)|with_reducible exact H|(rw [hy184];exact H)|exact H
          have Ny184:=sd hy184;clear hy184;have H':=sd H;clear H;have p6:0≤(x8_1:Int):=od;have q6:x8_1 < (a0.size:Int):=od;have hx6:=bt_at a0 x8_1;replace p6:=eq_true p6;replace q6:=eq_true q6;have p18:0≤((ji15):Int):=od;have q18:(ji15) < (a0.size:Int):=od;have hx18:=bt_at a0 (ji15);replace p18:=eq_true p18;replace q18:=eq_true q18;have p20:0≤((ji15):Int):=od;have q20:(ji15) < (a0.size:Int):=od;have hx20:=bt_at a0 (ji15);replace p20:=eq_true p20;replace q20:=eq_true q20;go_wp2_with (first|((with_reducible refine gate_builtin (b:=.append) (xs:=#[.tmp 57,.tmp 61]) rfl ?_);at_builtin;refine Kd.R_append (Kd.int .u8) (w0:=w) w.heap.size rfl (.tmp 57) (.tmp 61) 81 5 (.int .u8 0) 1 rfl Tryd.underlying81 info5 rfl (by decide) (by omega) u7 x7_1 (bt a0 (ji15)) [.int .u8 (bt a0 (ji15))] (fun _=>True) (fun _=>False) rfl rfl ?aP (fun _ hk=>hk.elim) ?aF ?aO ?aB ?aS ?aL ?_;(case aP=>exact rfl);(case aB=>exact zq83);(case aF=>exact (fun _ _=>trivial));(case aO=>exact zq84);(case aS=>exact (below_size zq83));(case aL=>have:=LMc21.out;omega);intro v185 w22 ho hb hg hat;rw [← Ny184.out] at ho;have HO186:=sd (ho);replace BK183:=sd (blk_grown (g:=gb183) (o:=.cells #[.int .i64 x184000_1,.int .i64 x184001_1] 91 (0,0)) zq82 hg (Kd.R_ne HO_7.out BK183.out (by decide)));replace HB:=sd (hb);clear HO_7;clear ho hb hg hat))
          go_roundg k1
          case measure=>have:=HK1.out;omega
          case rel=>exact ⟨(y184),(wrap64 ((ji15)+1)),(x184000_1),(x184001_1),(by first|rfl|(simp;done)|(simp only [← hji15] <;> (first|rfl|simp))|(simp [*];done)),H',⟨by have:=HK1.out;omega⟩,⟨by (with_reducible repeat (first|apply Kd.R_alloc|apply Kd.R_drewN|apply Kd.R_drew));exact HO186.out⟩,⟨zq82⟩,⟨zq83⟩⟩
         exact absurd H (by simp)
        obtain ⟨c19b0,c19b1⟩:=neI c19;replace H:=ifI H;rcases H with ⟨c24,H⟩|⟨c24,H⟩
        ·obtain ⟨c24b0,c24b1⟩:=eqI c24;clear c24;replace H:=ifI H;rcases H with ⟨c26,H⟩|⟨c26,H⟩
         ·have LMc26:=sd c26;clear c26;obtain ⟨y187,hy187⟩:∃ y_:List Int,y_=(x7_1++[bt a0 (ji15)]):=⟨_,rfl⟩
          replace H:(words_quoted.l0 k1 a0 a1 y187 (wrap64 ((ji15)+1)) x184000_1 x184001_1)=some (r1,r2,r3,r4):=by first|(rw [hy187];with_reducible exact H)|(have H2_:=(Option.bind_some _ _).symm.trans H;rw [hy187];with_reducible exact H2_)|(have H2_:=(Option.bind_some _ _).symm.trans H;with_reducible exact H2_)|with_reducible exact H|(rw [hy187];exact H)|exact H
          have Ny187:=sd hy187;clear hy187;have H':=sd H;clear H;have p6:0≤(x8_1:Int):=od;have q6:x8_1 < (a0.size:Int):=od;have hx6:=bt_at a0 x8_1;replace p6:=eq_true p6;replace q6:=eq_true q6;have p18:0≤((ji15):Int):=od;have q18:(ji15) < (a0.size:Int):=od;have hx18:=bt_at a0 (ji15);replace p18:=eq_true p18;replace q18:=eq_true q18;have p23:0≤((ji15):Int):=od;have q23:(ji15) < (a0.size:Int):=od;have hx23:=bt_at a0 (ji15);replace p23:=eq_true p23;replace q23:=eq_true q23;have p25:0≤((ji15):Int):=od;have q25:(ji15) < (a0.size:Int):=od;have hx25:=bt_at a0 (ji15);replace p25:=eq_true p25;replace q25:=eq_true q25;go_wp2_with (first|((with_reducible refine gate_builtin (b:=.append) (xs:=#[.tmp 57,.tmp 61]) rfl ?_);at_builtin;refine Kd.R_append (Kd.int .u8) (w0:=w) w.heap.size rfl (.tmp 57) (.tmp 61) 81 5 (.int .u8 0) 1 rfl Tryd.underlying81 info5 rfl (by decide) (by omega) u7 x7_1 (bt a0 (ji15)) [.int .u8 (bt a0 (ji15))] (fun _=>True) (fun _=>False) rfl rfl ?aP (fun _ hk=>hk.elim) ?aF ?aO ?aB ?aS ?aL ?_;(case aP=>exact rfl);(case aB=>exact zq83);(case aF=>exact (fun _ _=>trivial));(case aO=>exact zq84);(case aS=>exact (below_size zq83));(case aL=>have:=LMc26.out;omega);intro v188 w27 ho hb hg hat;rw [← Ny187.out] at ho;have HO189:=sd (ho);replace BK183:=sd (blk_grown (g:=gb183) (o:=.cells #[.int .i64 x184000_1,.int .i64 x184001_1] 91 (0,0)) zq82 hg (Kd.R_ne HO_7.out BK183.out (by decide)));replace HB:=sd (hb);clear HO_7;clear ho hb hg hat))
          go_roundg k1
          case measure=>have:=HK1.out;omega
          case rel=>exact ⟨(y187),(wrap64 ((ji15)+1)),(x184000_1),(x184001_1),(by first|rfl|(simp;done)|(simp only [← hji15] <;> (first|rfl|simp))|(simp [*];done)),H',⟨by have:=HK1.out;omega⟩,⟨by (with_reducible repeat (first|apply Kd.R_alloc|apply Kd.R_drewN|apply Kd.R_drew));exact HO189.out⟩,⟨zq82⟩,⟨zq83⟩⟩
         exact absurd H (by simp)
        obtain ⟨c24b0,c24b1⟩:=neI c24;simp only [Option.some.injEq,Prod.mk.injEq] at H
        obtain ⟨rfl,rfl,rfl,rfl⟩:=H;have p6:0≤(x8_1:Int):=od;have q6:x8_1 < (a0.size:Int):=od;have hx6:=bt_at a0 x8_1;replace p6:=eq_true p6;replace q6:=eq_true q6;have p18:0≤((ji15):Int):=od;have q18:(ji15) < (a0.size:Int):=od;have hx18:=bt_at a0 (ji15);replace p18:=eq_true p18;replace q18:=eq_true q18;have p23:0≤((ji15):Int):=od;have q23:(ji15) < (a0.size:Int):=od;have hx23:=bt_at a0 (ji15);replace p23:=eq_true p23;replace q23:=eq_true q23;obtain ⟨_,_,_,_⟩:=bk2 BK183;go_wp2
        refine bodyPost_ret (results_list (rs:=[.tmp 4,.tmp 5,.cell 6 91]) rfl (by simp) (.tmp (.tmp (.cell gb183 91 #[.int .i64 (wrap64 ((ji15) - 1)),.int .i64 5] (0,0) _ rfl (by (with_reducible repeat (first|refine blk_drewN ?_ _|refine blk_drew ?_|refine blk_alloc ?_ _));refine blk_put (cs:=#[.int .i64 (wrap64 ((ji15) - 1)),.int .i64 x184001_1]) ?_ 1 _ rfl;(with_reducible repeat (first|refine blk_drewN ?_ _|refine blk_drew ?_|refine blk_alloc ?_ _));refine blk_put (cs:=#[.int .i64 x184000_1,.int .i64 x184001_1]) ?_ 0 _ rfl;(with_reducible repeat (first|refine blk_drewN ?_ _|refine blk_drew ?_|refine blk_alloc ?_ _));exact BK183.out) Tryd.underlying91 rfl (by kernel_rfl) .nil)))) rfl ?_;exact ⟨by first|rfl|(simp [errW_none,errW_some] <;> rfl)|(simp only [← hji15];first|rfl|(simp [errW_none,errW_some] <;> rfl))|(simp [*,errW_none,errW_some] <;> rfl),zq83⟩
       exact absurd H (by simp)
      exact absurd H (by simp)
     obtain ⟨c12b0,c12b1⟩:=neI c12;replace H:=bdI H;obtain ⟨t190,A29,H⟩:=H;(try dsimp only at H)
     by_cases c30:t190=true
     ·subst c30;rw [if_pos rfl] at H;replace H:=ifI H;rcases H with ⟨c31,H⟩|⟨c31,H⟩
      ·have LMc31:=sd c31;clear c31;obtain ⟨y191,hy191⟩:∃ y_:List Int,y_=(x7_1++[bt a0 x8_1]):=⟨_,rfl⟩
       replace H:(words_quoted.l0 k1 a0 a1 y191 (wrap64 (x8_1+1)) x184000_1 x184001_1)=some (r1,r2,r3,r4):=by first|(rw [hy191];with_reducible exact H)|(have H2_:=(Option.bind_some _ _).symm.trans H;rw [hy191];with_reducible exact H2_)|(have H2_:=(Option.bind_some _ _).symm.trans H;with_reducible exact H2_)|with_reducible exact H|(rw [hy191];exact H)|exact H
       have Ny191:=sd hy191;clear hy191;have H':=sd H;clear H;have p6:0≤(x8_1:Int):=od;have q6:x8_1 < (a0.size:Int):=od;have hx6:=bt_at a0 x8_1;replace p6:=eq_true p6;replace q6:=eq_true q6;go_wp2_with (first|((with_reducible refine gate_callee (f:=55) rfl ?_);refine gL 65 Tryd.func55 #[.int .u8 (bt a0 x8_1)] ?_;(with_reducible refine (words_printable.calls (bt a0 x8_1) true _ A29.out).mono ?_);rintro e w' ⟨rfl,⟨nd,rfl⟩⟩;refine ⟨_,rfl,?_⟩)|((with_reducible refine gate_builtin (b:=.append) (xs:=#[.tmp 21,.tmp 23]) rfl ?_);at_builtin;refine Kd.R_append (Kd.int .u8) (w0:=w) w.heap.size rfl (.tmp 21) (.tmp 23) 81 5 (.int .u8 0) 1 rfl Tryd.underlying81 info5 rfl (by decide) (by omega) u7 x7_1 (bt a0 x8_1) [.int .u8 (bt a0 x8_1)] (fun _=>True) (fun _=>False) rfl rfl ?aP (fun _ hk=>hk.elim) ?aF ?aO ?aB ?aS ?aL ?_;(case aP=>exact rfl);(case aB=>exact zq83);(case aF=>exact (fun _ _=>trivial));(case aO=>exact zq84);(case aS=>exact (below_size zq83));(case aL=>have:=LMc31.out;omega);intro v192 w32 ho hb hg hat;rw [← Ny191.out] at ho;have HO193:=sd (ho);replace BK183:=sd (blk_grown (g:=gb183) (o:=.cells #[.int .i64 x184000_1,.int .i64 x184001_1] 91 (0,0)) zq82 hg (Kd.R_ne HO_7.out BK183.out (by decide)));replace HB:=sd (hb);clear HO_7;clear ho hb hg hat))
       go_roundg k1
       case measure=>have:=HK1.out;omega
       case rel=>exact ⟨(y191),(wrap64 (x8_1+1)),(x184000_1),(x184001_1),zq7,H',⟨by have:=HK1.out;omega⟩,⟨by (with_reducible repeat (first|apply Kd.R_alloc|apply Kd.R_drewN|apply Kd.R_drew));exact HO193.out⟩,⟨zq82⟩,⟨zq83⟩⟩
      exact absurd H (by simp)
     replace c30:=Bool.eq_false_iff.mpr c30;subst c30;rw [if_neg Bool.false_ne_true] at H;simp only [Option.some.injEq,Prod.mk.injEq] at H
     obtain ⟨rfl,rfl,rfl,rfl⟩:=H;have p6:0≤(x8_1:Int):=od;have q6:x8_1 < (a0.size:Int):=od;have hx6:=bt_at a0 x8_1;replace p6:=eq_true p6;replace q6:=eq_true q6;go_wp2_with (first|((with_reducible refine gate_callee (f:=55) rfl ?_);refine gL 65 Tryd.func55 #[.int .u8 (bt a0 x8_1)] ?_;(with_reducible refine (words_printable.calls (bt a0 x8_1) false _ A29.out).mono ?_);rintro e w' ⟨rfl,⟨nd,rfl⟩⟩;refine ⟨_,rfl,?_⟩;(try (rw [drewN_self wr];generalize hq_:World.drewN wr _=wr;have n0_:Aside0 (Kd.R (Kd.int .u8) 5 wr w.heap.size (fun _=>True) u7 x7_1):=⟨by rw [← hq_];exact zq84⟩;have n1_:Aside0 (wr.heap[gb183]?=some (.cells #[.int .i64 x184000_1,.int .i64 x184001_1] 91 (0,0))):=⟨by rw [← hq_];exact zq82⟩;have n2_:Aside0 (Below w.heap.size w wr):=⟨by rw [← hq_];exact zq83⟩;clear HO_7 BK183 HB hq_;have HO_7:=n0_;have BK183:=n1_;have HB:=n2_;clear n0_ n1_ n2_;(try (have hdBK183_0:=(blk_cell BK183.out 0).trans rfl;have heBK183_0:=blk_frozen BK183.out 0;have hdBK183_1:=(blk_cell BK183.out 1).trans rfl;have heBK183_1:=blk_frozen BK183.out 1))));obtain ⟨_,_,_,_⟩:=bk2 BK183))
     refine bodyPost_ret (results_list (rs:=[.tmp 4,.tmp 5,.cell 6 91]) rfl (by simp) (.tmp (.tmp (.cell gb183 91 #[.int .i64 x8_1,.int .i64 5] (0,0) _ rfl (by (with_reducible repeat (first|refine blk_drewN ?_ _|refine blk_drew ?_|refine blk_alloc ?_ _));refine blk_put (cs:=#[.int .i64 x8_1,.int .i64 x184001_1]) ?_ 1 _ rfl;(with_reducible repeat (first|refine blk_drewN ?_ _|refine blk_drew ?_|refine blk_alloc ?_ _));refine blk_put (cs:=#[.int .i64 x184000_1,.int .i64 x184001_1]) ?_ 0 _ rfl;(with_reducible repeat (first|refine blk_drewN ?_ _|refine blk_drew ?_|refine blk_alloc ?_ _));exact BK183.out) Tryd.underlying91 rfl (by kernel_rfl) .nil)))) rfl ?_;exact ⟨zq4,zq83⟩
    exact absurd H (by simp)
   have c4b0:decide (x8_1 < (a0.size:Int))=false:=decide_eq_false c4;clear c4;simp only [Option.some.injEq,Prod.mk.injEq] at H
   obtain ⟨rfl,rfl,rfl,rfl⟩:=H;obtain ⟨_,_,_,_⟩:=bk2 BK183;go_wp2
   refine bodyPost_ret (results_list (rs:=[.tmp 4,.tmp 5,.cell 6 91]) rfl (by simp) (.tmp (.tmp (.cell gb183 91 #[.int .i64 a1,.int .i64 6] (0,0) _ rfl (by (with_reducible repeat (first|refine blk_drewN ?_ _|refine blk_drew ?_|refine blk_alloc ?_ _));refine blk_put (cs:=#[.int .i64 a1,.int .i64 x184001_1]) ?_ 1 _ rfl;(with_reducible repeat (first|refine blk_drewN ?_ _|refine blk_drew ?_|refine blk_alloc ?_ _));refine blk_put (cs:=#[.int .i64 x184000_1,.int .i64 x184001_1]) ?_ 0 _ rfl;(with_reducible repeat (first|refine blk_drewN ?_ _|refine blk_drew ?_|refine blk_alloc ?_ _));exact BK183.out) Tryd.underlying91 rfl (by kernel_rfl) .nil)))) rfl ?_;exact ⟨zq4,zq83⟩
end A

end Go.Proofs.YtlblkojjpagbkaaDoor