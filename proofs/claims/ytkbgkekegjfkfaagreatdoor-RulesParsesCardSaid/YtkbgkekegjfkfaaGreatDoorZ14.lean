-- By pack.py, a program of this session's.
import Derived.Test.YtkbgkekegjfkfaaGreatDoorZ5
import Derived.Test.YtkbgkekegjfkfaaGreatDoorZ6
import Derived.Test.YtkbgkekegjfkfaaGreatDoorZ7
import Derived.Test.YtkbgkekegjfkfaaGreatDoorZ8
set_option linter.unusedVariables false
set_option linter.unusedSimpArgs false
namespace Go.Proofs.YtkbgkekegjfkfaaGreatDoor
namespace A
open Go.RowKit B WW WL WM
attribute [local go_sem] max2_int min2_int max_two min_two max_three min_three max_four min_four
set_option maxHeartbeats 8000000
set_option maxRecDepth 100000
def words_nameEnd.l0:Nat→ByteArray→Int→Option (Int)
|0,_,_=>none
|k+1,x0,x1=>if x1 < (x0.size:Int) then (if 0≤x1 then ((words_letter.f (bt x0 x1)).bind fun t208=>(if t208=true then (words_nameEnd.l0 k x0 (wrap64 (x1+1))) else ((words_digit.f (bt x0 x1)).bind fun t209=>(if t209=true then (words_nameEnd.l0 k x0 (wrap64 (x1+1))) else (some x1))))) else (none)) else (some x1)
def words_nameEnd.f (k:Nat) (a0:ByteArray) (a1:Int):Option (Int):=words_nameEnd.l0 k a0 a1
theorem words_nameEnd.calls (k:Nat) (a0:ByteArray) (a1 r:Int) (w:World) (h:words_nameEnd.f k a0 a1=some r) :
  Calls Tryz.prog 106 #[.string a0,.int .i64 a1] w fun e w'=>e=.returned (.int .i64 r)∧Drawn0 w w':=by
 have H:=h;clear h;unfold words_nameEnd.f at H;have H':=sd H;clear H;go_enter Tryz.func106,Tryz.ntmps106
 go_wp2
 go_loopg [1] k (fun kq v1 w'=>∃ (x1_1:Int),v1=.int .i64 x1_1∧Aside0 (words_nameEnd.l0 kq a0 x1_1=some r)∧Aside0 (kq≤k)∧Drawn0 w w')
 case atStart=>exact ⟨(a1),zq7,H',⟨Nat.le_refl _⟩,zq16⟩
 case round =>
  clear H';try clear c1
  obtain ⟨x1_1,rfl,HA,HK1,⟨m1,rfl⟩⟩:=hrel
  cases gk with
 |zero=>exact absurd HA.out (by simp [words_nameEnd.l0])
 |succ k1 =>
   have H:=HA.out;clear HA;simp only [words_nameEnd.l0] at H
   replace H:=ifI H;rcases H with ⟨c3,H⟩|⟨c3,H⟩
   ·have c3b0:decide (x1_1 < (a0.size:Int))=true:=decide_eq_true c3;clear c3;replace H:=ifI H;rcases H with ⟨c4,H⟩|⟨c4,H⟩
    ·have c4b0:decide (0≤x1_1)=true:=decide_eq_true c4;clear c4;replace H:=bdI H;obtain ⟨t208,A6,H⟩:=H;(try dsimp only at H)
     by_cases c7:t208=true
     ·subst c7;rw [if_pos rfl] at H;have H':=sd H;clear H;have p5:0≤(x1_1:Int):=od;have q5:x1_1 < (a0.size:Int):=od;have hx5:=bt_at a0 x1_1;replace p5:=eq_true p5;replace q5:=eq_true q5;go_wp2_with (first|(go_at_call 49;(with_reducible refine (words_letter.calls (bt a0 x1_1) true _ A6.out).mono ?_);rintro e w' ⟨rfl,⟨nd,rfl⟩⟩))
      go_roundg k1
      case measure=>have:=HK1.out;omega
      case rel=>exact ⟨(wrap64 (x1_1+1)),zq7,H',⟨by have:=HK1.out;omega⟩,zq16⟩
     replace c7:=Bool.eq_false_iff.mpr c7;subst c7;rw [if_neg Bool.false_ne_true] at H;replace H:=bdI H;obtain ⟨t209,A9,H⟩:=H;(try dsimp only at H)
     by_cases c10:t209=true
     ·subst c10;rw [if_pos rfl] at H;have H':=sd H;clear H;have p5:0≤(x1_1:Int):=od;have q5:x1_1 < (a0.size:Int):=od;have hx5:=bt_at a0 x1_1;replace p5:=eq_true p5;replace q5:=eq_true q5;go_wp2_with (first|(go_at_call 49;(with_reducible refine (words_letter.calls (bt a0 x1_1) false _ A6.out).mono ?_);rintro e w' ⟨rfl,⟨nd,rfl⟩⟩;have p8:0≤(x1_1:Int):=od;have q8:x1_1 < (a0.size:Int):=od;have hx8:=bt_at a0 x1_1;replace p8:=eq_true p8;replace q8:=eq_true q8)|(go_at_call 50;(with_reducible refine (words_digit.calls (bt a0 x1_1) true _ A9.out).mono ?_);rintro e w' ⟨rfl,⟨nd,rfl⟩⟩))
      go_roundg k1
      case measure=>have:=HK1.out;omega
      case rel=>exact ⟨(wrap64 (x1_1+1)),zq7,H',⟨by have:=HK1.out;omega⟩,zq16⟩
     replace c10:=Bool.eq_false_iff.mpr c10;subst c10;rw [if_neg Bool.false_ne_true] at H;obtain rfl:=Option.some.inj H;have p5:0≤(x1_1:Int):=od;have q5:x1_1 < (a0.size:Int):=od;have hx5:=bt_at a0 x1_1;replace p5:=eq_true p5;replace q5:=eq_true q5;go_wp2_with (first|(go_at_call 49;(with_reducible refine (words_letter.calls (bt a0 x1_1) false _ A6.out).mono ?_);rintro e w' ⟨rfl,⟨nd,rfl⟩⟩;have p8:0≤(x1_1:Int):=od;have q8:x1_1 < (a0.size:Int):=od;have hx8:=bt_at a0 x1_1;replace p8:=eq_true p8;replace q8:=eq_true q8)|(go_at_call 50;(with_reducible refine (words_digit.calls (bt a0 x1_1) false _ A9.out).mono ?_);rintro e w' ⟨rfl,⟨nd,rfl⟩⟩))
     go_ret
     exact ⟨zq7,zq16⟩
    exact absurd H (by simp)
   have c3b0:decide (x1_1 < (a0.size:Int))=false:=decide_eq_false c3;clear c3;obtain rfl:=Option.some.inj H;go_wp2
   go_ret
   exact ⟨zq7,zq16⟩
def words_word.h (k:Nat) (s:ByteArray) (i:Int):Option (Int×ByteArray×Int×Int×Int×Int) :=
 if bt s i=34 then (words_quoted.f k s i).bind fun q=>if q.2.2.2≠0 then some (3,q.1,i,q.2.1,q.2.2.1,q.2.2.2) else
  some (3,q.1,i,q.2.1,if 60 < (q.1.size:Int) then i else q.2.2.1,if 60 < (q.1.size:Int) then 9 else 0)
 else (words_signEnd.f k s i).bind fun e=>if e=i then some (4,⟨#[]⟩,i,e,i,5) else words_word.g s i 4 e 60
def words_word.f (k:Nat) (s:ByteArray) (i:Int):Option (Int×ByteArray×Int×Int×Int×Int) :=
 if 0≤i∧i < (s.size:Int)∧s.size≤140737488351232 then
  (words_letter.f (bt s i)).bind fun l=>if l=true then (words_nameEnd.f k s i).bind fun e=>words_word.g s i 1 e 12 else
  (words_digit.f (bt s i)).bind fun d=>if d=true then (words_numberEnd.f k s i).bind fun e=>words_word.g s i 2 e 60 else
  if bt s i=45 then (words_digitAt.f s (i+1)).bind fun b=>if b=true then (words_numberEnd.f k s i).bind fun e=>words_word.g s i 2 e 60 else words_word.h k s i
  else words_word.h k s i
 else none
theorem rf06_Code.calls (k:Nat) (a0:ByteArray) (r:Bool) (w:World) (h:rf06_Code.f k a0=some r) :
  Calls Tryz.prog 24 #[.string a0] w fun e w'=>e=.returned (.bool r)∧Drawn0 w w':=by
 have H:=h;clear h;unfold rf06_Code.f at H;have H':=sd H;clear H;go_enter Tryz.func24,Tryz.ntmps24
 go_wp2
 go_loopg [3] k (fun kq v3 w'=>∃ (x3_1:Int),v3=.int .i64 x3_1∧Aside0 (rf06_Code.l0 kq a0 x3_1=some r)∧Aside0 (kq≤k)∧Drawn0 w w')
 case atStart=>exact ⟨(0),zq7,H',⟨Nat.le_refl _⟩,zq16⟩
 case round =>
  clear H';obtain ⟨x3_1,rfl,HA,HK1,⟨m1,rfl⟩⟩:=hrel
  cases gk with
 |zero=>exact absurd HA.out (by simp [rf06_Code.l0])
 |succ k1 =>
   have H:=HA.out;clear HA;simp only [rf06_Code.l0] at H
   replace H:=ifI H;rcases H with ⟨c2,H⟩|⟨c2,H⟩
   ·have c2b0:decide (x3_1 < (a0.size:Int))=true:=decide_eq_true c2;clear c2;replace H:=ifI H;rcases H with ⟨c3,H⟩|⟨c3,H⟩
    ·have c3b0:decide (0≤x3_1)=true:=decide_eq_true c3;clear c3;replace H:=bdI H;obtain ⟨t125,A5,H⟩:=H;(try dsimp only at H)
     by_cases c6:t125=true
     ·subst c6;rw [if_pos rfl] at H;have H':=sd H;clear H;have p4:0≤(x3_1:Int):=od;have q4:x3_1 < (a0.size:Int):=od;have hx4:=bt_at a0 x3_1;replace p4:=eq_true p4;replace q4:=eq_true q4;go_wp2_with (first|((with_reducible refine gate_callee (f:=54) rfl ?_);refine gL 13 Tryz.func54 #[.int .u8 (bt a0 x3_1)] ?_;(with_reducible refine (rf06_letter.calls (bt a0 x3_1) true _ A5.out).mono ?_);rintro e w' ⟨rfl,⟨nd,rfl⟩⟩;refine ⟨_,rfl,?_⟩))
      go_roundg k1
      case measure=>have:=HK1.out;omega
      case rel=>exact ⟨(wrap64 (x3_1+1)),zq7,H',⟨by have:=HK1.out;omega⟩,zq16⟩
     replace c6:=Bool.eq_false_iff.mpr c6;subst c6;rw [if_neg Bool.false_ne_true] at H;replace H:=bdI H;obtain ⟨t126,A8,H⟩:=H;(try dsimp only at H)
     by_cases c9:t126=true
     ·subst c9;rw [if_pos rfl] at H;have H':=sd H;clear H;have p4:0≤(x3_1:Int):=od;have q4:x3_1 < (a0.size:Int):=od;have hx4:=bt_at a0 x3_1;replace p4:=eq_true p4;replace q4:=eq_true q4;go_wp2_with (first|((with_reducible refine gate_callee (f:=54) rfl ?_);refine gL 13 Tryz.func54 #[.int .u8 (bt a0 x3_1)] ?_;(with_reducible refine (rf06_letter.calls (bt a0 x3_1) false _ A5.out).mono ?_);rintro e w' ⟨rfl,⟨nd,rfl⟩⟩;refine ⟨_,rfl,?_⟩;have p7:0≤(x3_1:Int):=od;have q7:x3_1 < (a0.size:Int):=od;have hx7:=bt_at a0 x3_1;replace p7:=eq_true p7;replace q7:=eq_true q7)|(go_at_call 55;(with_reducible refine (rf06_digit.calls (bt a0 x3_1) true _ A8.out).mono ?_);rintro e w' ⟨rfl,⟨nd,rfl⟩⟩))
      go_roundg k1
      case measure=>have:=HK1.out;omega
      case rel=>exact ⟨(wrap64 (x3_1+1)),zq7,H',⟨by have:=HK1.out;omega⟩,zq16⟩
     replace c9:=Bool.eq_false_iff.mpr c9;subst c9;rw [if_neg Bool.false_ne_true] at H;obtain rfl:=Option.some.inj H;have p4:0≤(x3_1:Int):=od;have q4:x3_1 < (a0.size:Int):=od;have hx4:=bt_at a0 x3_1;replace p4:=eq_true p4;replace q4:=eq_true q4;go_wp2_with (first|((with_reducible refine gate_callee (f:=54) rfl ?_);refine gL 13 Tryz.func54 #[.int .u8 (bt a0 x3_1)] ?_;(with_reducible refine (rf06_letter.calls (bt a0 x3_1) false _ A5.out).mono ?_);rintro e w' ⟨rfl,⟨nd,rfl⟩⟩;refine ⟨_,rfl,?_⟩;have p7:0≤(x3_1:Int):=od;have q7:x3_1 < (a0.size:Int):=od;have hx7:=bt_at a0 x3_1;replace p7:=eq_true p7;replace q7:=eq_true q7)|(go_at_call 55;(with_reducible refine (rf06_digit.calls (bt a0 x3_1) false _ A8.out).mono ?_);rintro e w' ⟨rfl,⟨nd,rfl⟩⟩))
     go_ret
     exact ⟨zq7,zq16⟩
    exact absurd H (by simp)
   have c2b0:decide (x3_1 < (a0.size:Int))=false:=decide_eq_false c2;clear c2;replace H:=ifI H;rcases H with ⟨c10,H⟩|⟨c10,H⟩
   ·have c10b0:decide (1≤(a0.size:Int))=true:=decide_eq_true c10;have c10b1:decide (1≤a0.size)=true:=decide_eq_true (by omega);clear c10;obtain rfl:=Option.some.inj H;go_wp2
    go_ret
    exact ⟨zq7,zq16⟩
   have c10b0:decide (1≤(a0.size:Int))=false:=decide_eq_false c10;have c10b1:decide (1≤a0.size)=false:=decide_eq_false (by omega);clear c10;obtain rfl:=Option.some.inj H;go_wp2
   go_ret
   exact ⟨zq7,zq16⟩
theorem rf09_named.calls (k:Nat) (a0_0 a0_1:ByteArray) (r:Bool) (w:World) (h:rf09_named.f k a0_0 a0_1=some r) :
  Calls Tryz.prog 56 #[.agg #[.string a0_0,.string a0_1]] w fun e w'=>e=.returned (.bool r)∧Below w.heap.size w w':=by
 have hu50:=Tryz.underlying50;have HB:=sd (Below.refl w.heap.size w);have H:=h;clear h;unfold rf09_named.f at H;replace H:=bdI H;obtain ⟨t128,A2,H⟩:=H;(try dsimp only at H)
 by_cases c3:t128=true
 ·subst c3;rw [if_pos rfl] at H;replace H:=bdI H;obtain ⟨t129,A4,H⟩:=H;(try dsimp only at H)
  obtain rfl:=Option.some.inj H;go_enter Tryz.func56,Tryz.ntmps56
  go_wp2_with (first|((with_reducible refine gate_dst (N:=1) rfl ?_);refine bxA 1 #[.string a0_0,.string a0_1] 50 ?_;intro gb127 hg w5 hbox hb;have BK127:=sd (hbox);have GW127:=gem hg HB;have GE127:=GW127;replace HB:=hbm HB hb;clear hb hbox hg;obtain ⟨_,_,_,_⟩:=bk2 BK127)|((with_reducible refine gate_callee (f:=24) rfl ?_);refine gL 5 Tryz.func24 #[.string a0_0] ?_;(with_reducible refine (rf06_Code.calls k a0_0 true _ A2.out).mono ?_);rintro e w' ⟨rfl,⟨nd,rfl⟩⟩;refine ⟨_,rfl,?_⟩)|(go_at_call 24;(with_reducible refine (rf06_Code.calls k a0_1 t129 _ A4.out).mono ?_);rintro e w' ⟨rfl,⟨nd,rfl⟩⟩))
  go_ret
  exact ⟨zq4,by repeat (first|(with_reducible first|exact HB.out|apply below_alloc|apply pw_below_drewN|apply below_drew1|refine below_set ?_ GE127.out)|exact HB.out)⟩
 replace c3:=Bool.eq_false_iff.mpr c3;subst c3;rw [if_neg Bool.false_ne_true] at H;obtain rfl:=Option.some.inj H;go_enter Tryz.func56,Tryz.ntmps56
 go_wp2_with (first|((with_reducible refine gate_dst (N:=1) rfl ?_);refine bxA 1 #[.string a0_0,.string a0_1] 50 ?_;intro gb127 hg w7 hbox hb;have BK127:=sd (hbox);have GW127:=gem hg HB;have GE127:=GW127;replace HB:=hbm HB hb;clear hb hbox hg;obtain ⟨_,_,_,_⟩:=bk2 BK127)|((with_reducible refine gate_callee (f:=24) rfl ?_);refine gL 5 Tryz.func24 #[.string a0_0] ?_;(with_reducible refine (rf06_Code.calls k a0_0 false _ A2.out).mono ?_);rintro e w' ⟨rfl,⟨nd,rfl⟩⟩;refine ⟨_,rfl,?_⟩))
 go_ret
 exact ⟨zq4,by repeat (first|(with_reducible first|exact HB.out|apply below_alloc|apply pw_below_drewN|apply below_drew1|refine below_set ?_ GE127.out)|exact HB.out)⟩
theorem rf09_Right.tab4:rtab .any (opsOf Tryz.f25 4)=rf09_Right.T4:=by kernel_rfl
theorem rf09_Right.calls (k:Nat) (A0:Option Addr) (c0:Nat) (l0:List (S50)) (r:Bool) (w:World) (hr0:Kd.C k50 w A0 l0.length l0) (hc0:l0.length≤c0) (h:rf09_Right.f k l0=some r) :
  Calls Tryz.prog 25 #[.slice A0 l0.length c0] w fun e w'=>e=.returned (.bool r)∧Below w.heap.size w w':=by
 have hu50:=Tryz.underlying50;have HR0:=sd hr0;have HC0:=sd hc0;clear hr0 hc0;have HB:=sd (Below.refl w.heap.size w);have H:=h;clear h;unfold rf09_Right.f at H;have H':=sd H;clear H;go_enter Tryz.func25,Tryz.ntmps25
 go_wp2
 go_loopg [3] k (fun kq v3 w'=>∃ (x3_1:Int),v3=.int .i64 x3_1∧Aside0 (rf09_Right.l0 kq l0 x3_1=some r)∧Aside0 (kq≤k)∧Aside0 (Below w.heap.size w w'))
 case atStart=>exact ⟨(0),zq7,H',⟨Nat.le_refl _⟩,⟨zq6⟩⟩
 case round =>
  clear H';obtain ⟨x3_1,rfl,HA,HK1,HB⟩:=hrel
  cases gk with
 |zero=>exact absurd HA.out (by simp [rf09_Right.l0])
 |succ k1 =>
   have H:=HA.out;clear HA;simp only [rf09_Right.l0] at H
   replace H:=ifI H;rcases H with ⟨c2,H⟩|⟨c2,H⟩
   ·have c2b0:decide (x3_1 < (l0.length:Int))=true:=decide_eq_true c2;clear c2;replace H:=ifI H;rcases H with ⟨c3,H⟩|⟨c3,H⟩
    ·have c3b0:decide (0≤x3_1)=true:=decide_eq_true c3;clear c3;replace H:=bdI H;obtain ⟨t131,A4,H⟩:=H;(try dsimp only at H)
     by_cases c5:t131=true
     ·subst c5;rw [if_pos rfl] at H;replace H:=ifI H;rcases H with ⟨c6,H⟩|⟨c6,H⟩
      ·have c6b0:decide (0 < x3_1)=true:=decide_eq_true c6;clear c6;obtain ⟨ji7,hji7⟩:∃ j_:Int,(wrap64 (x3_1 - 1))=j_:=⟨_,rfl⟩
       replace H:(if 0≤(ji7) then (if (ji7) < (l0.length:Int) then (if ((Op.bytesLess (((rd_T50 l0 (ji7)).f0).toList) (((rd_T50 l0 x3_1).f0).toList))=true) then (rf09_Right.l0 k1 l0 (wrap64 (x3_1+1))) else (some false)) else (none)) else (none))=some r:=by first|(rw [hji7] at H;exact H)|(simp only [hji7] at H ⊢;exact H)
       (try rw [hji7] at A4)
       have hji7w:(IntKind.i64.wrap (x3_1 - 1))=ji7:=(i64_w _).trans hji7;replace H:=ifI H;rcases H with ⟨c8,H⟩|⟨c8,H⟩
       ·have c8b0:decide (0≤(ji7))=true:=decide_eq_true c8;clear c8;replace H:=ifI H;rcases H with ⟨c9,H⟩|⟨c9,H⟩
        ·have c9b0:decide ((ji7) < (l0.length:Int))=true:=decide_eq_true c9;clear c9;replace H:=ifI H;rcases H with ⟨c10,H⟩|⟨c10,H⟩
         ·have c10b0:(Op.bytesLess (((rd_T50 l0 (ji7)).f0).toList) (((rd_T50 l0 x3_1).f0).toList))=true:=c10;have c10b9:=less_le c10b0;clear c10;have H':=sd H;clear H;try go_wp2
          replace HB:=sd (below_drew1 HB.out);have p130:0≤(x3_1:Int):=od;have q130:x3_1 < (l0.length:Int):=od;obtain ⟨ad130,e130,hx130_0,hx130_1⟩:=at_T50 HR0.out x3_1 p130 q130;have hw130_1:=hx130_1;have hw130_0:=hx130_0
          cases e130
          replace hx130_0:=(HB.out.cell (World.block_lt_of_cell? w _ hx130_0)).trans hx130_0;replace hx130_1:=(HB.out.cell (World.block_lt_of_cell? w _ hx130_1)).trans hx130_1;replace p130:=eq_true p130;replace q130:=eq_true q130;have p132:0≤(x3_1:Int):=od;have q132:x3_1 < (l0.length:Int):=od;obtain ⟨ad132,e132,hx132_0,hx132_1⟩:=at_T50 HR0.out x3_1 p132 q132;have hw132_1:=hx132_1;have hw132_0:=hx132_0;obtain rfl:ad130=ad132:=(by injection e132)
          replace hx132_0:=(HB.out.cell (World.block_lt_of_cell? w _ hx132_0)).trans hx132_0;replace hx132_1:=(HB.out.cell (World.block_lt_of_cell? w _ hx132_1)).trans hx132_1;replace p132:=eq_true p132;replace q132:=eq_true q132;have p133:0≤((ji7):Int):=od;have q133:(ji7) < (l0.length:Int):=od;obtain ⟨ad133,e133,hx133_0,hx133_1⟩:=at_T50 HR0.out (ji7) p133 q133;have hw133_1:=hx133_1;have hw133_0:=hx133_0;obtain rfl:ad130=ad133:=(by injection e133)
          replace hx133_0:=(HB.out.cell (World.block_lt_of_cell? w _ hx133_0)).trans hx133_0;replace hx133_1:=(HB.out.cell (World.block_lt_of_cell? w _ hx133_1)).trans hx133_1;replace p133:=eq_true p133;replace q133:=eq_true q133;refine start_ (n:=24) (S:=fun w'=>w'.cell? (ad130.add ((x3_1).toNat * 2))=some (.string ((rd_T50 l0 x3_1).f0))∧w'.cell? ⟨(ad130.add ((x3_1).toNat * 2)).block,(ad130.add ((x3_1).toNat * 2)).off+1,none⟩=some (.string ((rd_T50 l0 x3_1).f1))∧w'.cell? (ad130.add ((x3_1).toNat * 2))=some (.string ((rd_T50 l0 x3_1).f0))∧w'.cell? ⟨(ad130.add ((x3_1).toNat * 2)).block,(ad130.add ((x3_1).toNat * 2)).off+1,none⟩=some (.string ((rd_T50 l0 x3_1).f1))∧w'.cell? (ad130.add (((ji7)).toNat * 2))=some (.string ((rd_T50 l0 (ji7)).f0))∧w'.cell? ⟨(ad130.add (((ji7)).toNat * 2)).block,(ad130.add (((ji7)).toNat * 2)).off+1,none⟩=some (.string ((rd_T50 l0 (ji7)).f1))) (ds:=[]) #[false,false,false,false,false,false,false,false,false,false,false,false,false,false,false,false,false,false,false,false,false,false,false,false] (by kernel_rfl) rfl rfl ⟨((HB.out.cell (World.block_lt_of_cell? w _ hw130_0)).trans hw130_0),((HB.out.cell (World.block_lt_of_cell? w _ hw130_1)).trans hw130_1),((HB.out.cell (World.block_lt_of_cell? w _ hw132_0)).trans hw132_0),((HB.out.cell (World.block_lt_of_cell? w _ hw132_1)).trans hw132_1),((HB.out.cell (World.block_lt_of_cell? w _ hw133_0)).trans hw133_0),((HB.out.cell (World.block_lt_of_cell? w _ hw133_1)).trans hw133_1)⟩ (fun hHeld=>?_);refine with_tabW rf09_Right.tab4 rf09_Right.bits4 (fun HT_ HW_=>?_);generalize wr.drew=w11 at HB hx130_0 hx130_1 hx132_0 hx132_1 hx133_0 hx133_1 hHeld ⊢;refine pA 0 10 HT_.out ?_;refine pA 1 11 HT_.out ?_;refine pA 2 12 HT_.out ?_;refine tA 3 13 HT_.out HW_.out hHeld ?_;refine one_ (i:=4) (N:=some 14) #[true,true,true,true,true,false,false,false,false,false,false,false,false,false,false,false,false,false,false,false,false,false,false,false] rfl rfl (one_of HT_.out (by kernel_rfl)) (by decide) (fun K hK=>?_);refine goes_ Tryz.func56 (by kernel_rfl) rfl #[.agg #[.string ((rd_T50 l0 x3_1).f0),.string ((rd_T50 l0 x3_1).f1)]] (by rfl) rfl rfl zq34 ?_;with_reducible refine (rf09_named.calls k1 ((rd_T50 l0 x3_1).f0) ((rd_T50 l0 x3_1).f1) true _ A4.out).mono ?_
          rintro e w12 ⟨rfl,hb⟩;refine ⟨_,rfl,?_⟩;replace HB:=hbm HB hb;clear hb;refine hK.out _ _ ⟨((HB.out.cell (World.block_lt_of_cell? w _ hw130_0)).trans hw130_0),((HB.out.cell (World.block_lt_of_cell? w _ hw130_1)).trans hw130_1),((HB.out.cell (World.block_lt_of_cell? w _ hw132_0)).trans hw132_0),((HB.out.cell (World.block_lt_of_cell? w _ hw132_1)).trans hw132_1),((HB.out.cell (World.block_lt_of_cell? w _ hw133_0)).trans hw133_0),((HB.out.cell (World.block_lt_of_cell? w _ hw133_1)).trans hw133_1)⟩ (fun hHeld=>?_);clear hK K;refine nA 14 ?_;refine pA 5 15 HT_.out ?_;refine pA 6 16 HT_.out ?_;refine pA 7 17 HT_.out ?_;refine pA 8 18 HT_.out ?_;refine pA 9 19 HT_.out ?_;refine pA 10 20 HT_.out ?_;refine pA 11 21 HT_.out ?_;refine pA 12 22 HT_.out ?_;refine pA 13 23 HT_.out ?_;refine pA 15 25 HT_.out ?_;refine pA 16 26 HT_.out ?_;refine pA 17 27 HT_.out ?_;refine pA 18 28 HT_.out ?_;refine pA 19 29 HT_.out ?_;refine tA 14 24 HT_.out HW_.out hHeld ?_;refine tA 20 30 HT_.out HW_.out hHeld ?_;refine pA 21 31 HT_.out ?_;refine pA 22 32 HT_.out ?_;refine pA 23 33 HT_.out ?_;refine done_ (done_of HT_.out (by kernel_rfl)) ?_;try go_wp2
          go_roundg k1
          case measure=>have:=HK1.out;omega
          case rel=>exact ⟨(wrap64 (x3_1+1)),zq7,H',⟨by have:=HK1.out;omega⟩,⟨zq6⟩⟩
         have c10b0:(Op.bytesLess (((rd_T50 l0 (ji7)).f0).toList) (((rd_T50 l0 x3_1).f0).toList))=false:=by simpa using c10
         have c10b9:=less_ge c10b0;clear c10;obtain rfl:=Option.some.inj H;try go_wp2
         replace HB:=sd (below_drew1 HB.out);have p130:0≤(x3_1:Int):=od;have q130:x3_1 < (l0.length:Int):=od;obtain ⟨ad130,e130,hx130_0,hx130_1⟩:=at_T50 HR0.out x3_1 p130 q130;have hw130_1:=hx130_1;have hw130_0:=hx130_0
         cases e130
         replace hx130_0:=(HB.out.cell (World.block_lt_of_cell? w _ hx130_0)).trans hx130_0;replace hx130_1:=(HB.out.cell (World.block_lt_of_cell? w _ hx130_1)).trans hx130_1;replace p130:=eq_true p130;replace q130:=eq_true q130;have p132:0≤(x3_1:Int):=od;have q132:x3_1 < (l0.length:Int):=od;obtain ⟨ad132,e132,hx132_0,hx132_1⟩:=at_T50 HR0.out x3_1 p132 q132;have hw132_1:=hx132_1;have hw132_0:=hx132_0;obtain rfl:ad130=ad132:=(by injection e132)
         replace hx132_0:=(HB.out.cell (World.block_lt_of_cell? w _ hx132_0)).trans hx132_0;replace hx132_1:=(HB.out.cell (World.block_lt_of_cell? w _ hx132_1)).trans hx132_1;replace p132:=eq_true p132;replace q132:=eq_true q132;have p133:0≤((ji7):Int):=od;have q133:(ji7) < (l0.length:Int):=od;obtain ⟨ad133,e133,hx133_0,hx133_1⟩:=at_T50 HR0.out (ji7) p133 q133;have hw133_1:=hx133_1;have hw133_0:=hx133_0;obtain rfl:ad130=ad133:=(by injection e133)
         replace hx133_0:=(HB.out.cell (World.block_lt_of_cell? w _ hx133_0)).trans hx133_0;replace hx133_1:=(HB.out.cell (World.block_lt_of_cell? w _ hx133_1)).trans hx133_1;replace p133:=eq_true p133;replace q133:=eq_true q133;refine start_ (n:=24) (S:=fun w'=>w'.cell? (ad130.add ((x3_1).toNat * 2))=some (.string ((rd_T50 l0 x3_1).f0))∧w'.cell? ⟨(ad130.add ((x3_1).toNat * 2)).block,(ad130.add ((x3_1).toNat * 2)).off+1,none⟩=some (.string ((rd_T50 l0 x3_1).f1))∧w'.cell? (ad130.add ((x3_1).toNat * 2))=some (.string ((rd_T50 l0 x3_1).f0))∧w'.cell? ⟨(ad130.add ((x3_1).toNat * 2)).block,(ad130.add ((x3_1).toNat * 2)).off+1,none⟩=some (.string ((rd_T50 l0 x3_1).f1))∧w'.cell? (ad130.add (((ji7)).toNat * 2))=some (.string ((rd_T50 l0 (ji7)).f0))∧w'.cell? ⟨(ad130.add (((ji7)).toNat * 2)).block,(ad130.add (((ji7)).toNat * 2)).off+1,none⟩=some (.string ((rd_T50 l0 (ji7)).f1))) (ds:=[]) #[false,false,false,false,false,false,false,false,false,false,false,false,false,false,false,false,false,false,false,false,false,false,false,false] (by kernel_rfl) rfl rfl ⟨((HB.out.cell (World.block_lt_of_cell? w _ hw130_0)).trans hw130_0),((HB.out.cell (World.block_lt_of_cell? w _ hw130_1)).trans hw130_1),((HB.out.cell (World.block_lt_of_cell? w _ hw132_0)).trans hw132_0),((HB.out.cell (World.block_lt_of_cell? w _ hw132_1)).trans hw132_1),((HB.out.cell (World.block_lt_of_cell? w _ hw133_0)).trans hw133_0),((HB.out.cell (World.block_lt_of_cell? w _ hw133_1)).trans hw133_1)⟩ (fun hHeld=>?_);refine with_tabW rf09_Right.tab4 rf09_Right.bits4 (fun HT_ HW_=>?_);generalize wr.drew=w13 at HB hx130_0 hx130_1 hx132_0 hx132_1 hx133_0 hx133_1 hHeld ⊢;refine pA 0 10 HT_.out ?_;refine pA 1 11 HT_.out ?_;refine pA 2 12 HT_.out ?_;refine tA 3 13 HT_.out HW_.out hHeld ?_;refine one_ (i:=4) (N:=some 14) #[true,true,true,true,true,false,false,false,false,false,false,false,false,false,false,false,false,false,false,false,false,false,false,false] rfl rfl (one_of HT_.out (by kernel_rfl)) (by decide) (fun K hK=>?_);refine goes_ Tryz.func56 (by kernel_rfl) rfl #[.agg #[.string ((rd_T50 l0 x3_1).f0),.string ((rd_T50 l0 x3_1).f1)]] (by rfl) rfl rfl zq34 ?_;with_reducible refine (rf09_named.calls k1 ((rd_T50 l0 x3_1).f0) ((rd_T50 l0 x3_1).f1) true _ A4.out).mono ?_
         rintro e w14 ⟨rfl,hb⟩;refine ⟨_,rfl,?_⟩;replace HB:=hbm HB hb;clear hb;refine hK.out _ _ ⟨((HB.out.cell (World.block_lt_of_cell? w _ hw130_0)).trans hw130_0),((HB.out.cell (World.block_lt_of_cell? w _ hw130_1)).trans hw130_1),((HB.out.cell (World.block_lt_of_cell? w _ hw132_0)).trans hw132_0),((HB.out.cell (World.block_lt_of_cell? w _ hw132_1)).trans hw132_1),((HB.out.cell (World.block_lt_of_cell? w _ hw133_0)).trans hw133_0),((HB.out.cell (World.block_lt_of_cell? w _ hw133_1)).trans hw133_1)⟩ (fun hHeld=>?_);clear hK K;refine nA 14 ?_;refine pA 5 15 HT_.out ?_;refine pA 6 16 HT_.out ?_;refine pA 7 17 HT_.out ?_;refine pA 8 18 HT_.out ?_;refine pA 9 19 HT_.out ?_;refine pA 10 20 HT_.out ?_;refine pA 11 21 HT_.out ?_;refine pA 12 22 HT_.out ?_;refine pA 13 23 HT_.out ?_;refine pA 15 25 HT_.out ?_;refine pA 16 26 HT_.out ?_;refine pA 17 27 HT_.out ?_;refine pA 18 28 HT_.out ?_;refine pA 19 29 HT_.out ?_;refine tA 14 24 HT_.out HW_.out hHeld ?_;refine tA 20 30 HT_.out HW_.out hHeld ?_;refine pA 21 31 HT_.out ?_;refine pA 22 32 HT_.out ?_;refine pA 23 33 HT_.out ?_;refine done_ (done_of HT_.out (by kernel_rfl)) ?_;try go_wp2
         go_ret
         exact ⟨by first|rfl|(simp [errW_none,errW_some] <;> rfl)|(simp only [← hji7];first|rfl|(simp [errW_none,errW_some] <;> rfl))|(simp [*,errW_none,errW_some] <;> rfl),zq6⟩
        exact absurd H (by simp)
       exact absurd H (by simp)
      have c6b0:decide (0 < x3_1)=false:=decide_eq_false c6;clear c6;have H':=sd H;clear H;try go_wp2
      replace HB:=sd (below_drew1 HB.out);have p130:0≤(x3_1:Int):=od;have q130:x3_1 < (l0.length:Int):=od;obtain ⟨ad130,e130,hx130_0,hx130_1⟩:=at_T50 HR0.out x3_1 p130 q130;have hw130_1:=hx130_1;have hw130_0:=hx130_0
      cases e130
      replace hx130_0:=(HB.out.cell (World.block_lt_of_cell? w _ hx130_0)).trans hx130_0;replace hx130_1:=(HB.out.cell (World.block_lt_of_cell? w _ hx130_1)).trans hx130_1;replace p130:=eq_true p130;replace q130:=eq_true q130;refine start_ (n:=24) (S:=fun w'=>w'.cell? (ad130.add ((x3_1).toNat * 2))=some (.string ((rd_T50 l0 x3_1).f0))∧w'.cell? ⟨(ad130.add ((x3_1).toNat * 2)).block,(ad130.add ((x3_1).toNat * 2)).off+1,none⟩=some (.string ((rd_T50 l0 x3_1).f1))) (ds:=[]) #[false,false,false,false,false,false,false,false,false,false,false,false,false,false,false,false,false,false,false,false,false,false,false,false] (by kernel_rfl) rfl rfl ⟨((HB.out.cell (World.block_lt_of_cell? w _ hw130_0)).trans hw130_0),((HB.out.cell (World.block_lt_of_cell? w _ hw130_1)).trans hw130_1)⟩ (fun hHeld=>?_);refine with_tabW rf09_Right.tab4 rf09_Right.bits4 (fun HT_ HW_=>?_);generalize wr.drew=w15 at HB hx130_0 hx130_1 hHeld ⊢;refine pA 0 10 HT_.out ?_;refine pA 1 11 HT_.out ?_;refine pA 2 12 HT_.out ?_;refine tA 3 13 HT_.out HW_.out hHeld ?_;refine one_ (i:=4) (N:=some 14) #[true,true,true,true,true,false,false,false,false,false,false,false,false,false,false,false,false,false,false,false,false,false,false,false] rfl rfl (one_of HT_.out (by kernel_rfl)) (by decide) (fun K hK=>?_);refine goes_ Tryz.func56 (by kernel_rfl) rfl #[.agg #[.string ((rd_T50 l0 x3_1).f0),.string ((rd_T50 l0 x3_1).f1)]] (by rfl) rfl rfl zq34 ?_;with_reducible refine (rf09_named.calls k1 ((rd_T50 l0 x3_1).f0) ((rd_T50 l0 x3_1).f1) true _ A4.out).mono ?_
      rintro e w16 ⟨rfl,hb⟩;refine ⟨_,rfl,?_⟩;replace HB:=hbm HB hb;clear hb;refine hK.out _ _ ⟨((HB.out.cell (World.block_lt_of_cell? w _ hw130_0)).trans hw130_0),((HB.out.cell (World.block_lt_of_cell? w _ hw130_1)).trans hw130_1)⟩ (fun hHeld=>?_);clear hK K;refine nA 14 ?_;refine pA 5 15 HT_.out ?_;refine pA 6 16 HT_.out ?_;refine pA 7 17 HT_.out ?_;refine pA 8 18 HT_.out ?_;refine pA 9 19 HT_.out ?_;refine oA 10 20 HT_.out ?_;refine oA 11 21 HT_.out ?_;refine oA 12 22 HT_.out ?_;refine oA 13 23 HT_.out ?_;refine oA 14 24 HT_.out ?_;refine oA 15 25 HT_.out ?_;refine oA 16 26 HT_.out ?_;refine oA 17 27 HT_.out ?_;refine oA 18 28 HT_.out ?_;refine oA 19 29 HT_.out ?_;refine oA 20 30 HT_.out ?_;refine oA 21 31 HT_.out ?_;refine pA 22 32 HT_.out ?_;refine pA 23 33 HT_.out ?_;refine done_ (done_of HT_.out (by kernel_rfl)) ?_;try go_wp2
      go_roundg k1
      case measure=>have:=HK1.out;omega
      case rel=>exact ⟨(wrap64 (x3_1+1)),zq7,H',⟨by have:=HK1.out;omega⟩,⟨zq6⟩⟩
     replace c5:=Bool.eq_false_iff.mpr c5;subst c5;rw [if_neg Bool.false_ne_true] at H;obtain rfl:=Option.some.inj H;try go_wp2
     replace HB:=sd (below_drew1 HB.out);have p130:0≤(x3_1:Int):=od;have q130:x3_1 < (l0.length:Int):=od;obtain ⟨ad130,e130,hx130_0,hx130_1⟩:=at_T50 HR0.out x3_1 p130 q130;have hw130_1:=hx130_1;have hw130_0:=hx130_0
     cases e130
     replace hx130_0:=(HB.out.cell (World.block_lt_of_cell? w _ hx130_0)).trans hx130_0;replace hx130_1:=(HB.out.cell (World.block_lt_of_cell? w _ hx130_1)).trans hx130_1;replace p130:=eq_true p130;replace q130:=eq_true q130;refine start_ (n:=24) (S:=fun w'=>w'.cell? (ad130.add ((x3_1).toNat * 2))=some (.string ((rd_T50 l0 x3_1).f0))∧w'.cell? ⟨(ad130.add ((x3_1).toNat * 2)).block,(ad130.add ((x3_1).toNat * 2)).off+1,none⟩=some (.string ((rd_T50 l0 x3_1).f1))) (ds:=[]) #[false,false,false,false,false,false,false,false,false,false,false,false,false,false,false,false,false,false,false,false,false,false,false,false] (by kernel_rfl) rfl rfl ⟨((HB.out.cell (World.block_lt_of_cell? w _ hw130_0)).trans hw130_0),((HB.out.cell (World.block_lt_of_cell? w _ hw130_1)).trans hw130_1)⟩ (fun hHeld=>?_);refine with_tabW rf09_Right.tab4 rf09_Right.bits4 (fun HT_ HW_=>?_);generalize wr.drew=w17 at HB hx130_0 hx130_1 hHeld ⊢;refine pA 0 10 HT_.out ?_;refine pA 1 11 HT_.out ?_;refine pA 2 12 HT_.out ?_;refine tA 3 13 HT_.out HW_.out hHeld ?_;refine one_ (i:=4) (N:=some 14) #[true,true,true,true,true,false,false,false,false,false,false,false,false,false,false,false,false,false,false,false,false,false,false,false] rfl rfl (one_of HT_.out (by kernel_rfl)) (by decide) (fun K hK=>?_);refine goes_ Tryz.func56 (by kernel_rfl) rfl #[.agg #[.string ((rd_T50 l0 x3_1).f0),.string ((rd_T50 l0 x3_1).f1)]] (by rfl) rfl rfl zq34 ?_;with_reducible refine (rf09_named.calls k1 ((rd_T50 l0 x3_1).f0) ((rd_T50 l0 x3_1).f1) false _ A4.out).mono ?_
     rintro e w18 ⟨rfl,hb⟩;refine ⟨_,rfl,?_⟩;replace HB:=hbm HB hb;clear hb;refine hK.out _ _ ⟨((HB.out.cell (World.block_lt_of_cell? w _ hw130_0)).trans hw130_0),((HB.out.cell (World.block_lt_of_cell? w _ hw130_1)).trans hw130_1)⟩ (fun hHeld=>?_);clear hK K;refine nA 14 ?_;refine pA 5 15 HT_.out ?_;refine pA 6 16 HT_.out ?_;refine oA 7 17 HT_.out ?_;refine oA 8 18 HT_.out ?_;refine oA 9 19 HT_.out ?_;refine oA 10 20 HT_.out ?_;refine oA 11 21 HT_.out ?_;refine oA 12 22 HT_.out ?_;refine oA 13 23 HT_.out ?_;refine oA 14 24 HT_.out ?_;refine oA 15 25 HT_.out ?_;refine oA 16 26 HT_.out ?_;refine oA 17 27 HT_.out ?_;refine oA 18 28 HT_.out ?_;refine oA 19 29 HT_.out ?_;refine oA 20 30 HT_.out ?_;refine oA 21 31 HT_.out ?_;refine oA 22 32 HT_.out ?_;refine pA 23 33 HT_.out ?_;refine done_ (done_of HT_.out (by kernel_rfl)) ?_;try go_wp2
     go_ret
     exact ⟨zq4,zq6⟩
    exact absurd H (by simp)
   have c2b0:decide (x3_1 < (l0.length:Int))=false:=decide_eq_false c2;clear c2;obtain rfl:=Option.some.inj H;go_wp2
   go_ret
   exact ⟨zq4,zq6⟩
def rf06_word.j0:Nat→ByteArray→Int→Int→Bool→Int→ByteArray→Int→Option (Int×ByteArray×Int×Int×Int×Int)
|0,_,_,_,_,_,_,_=>none
|k+1,x0,x1,x15,x54,x409000,x409001,x409002=>if x54=true then ((rf06_number.f k x0 x1).bind fun t413=>(if (wrap64 (t413 - x1)) > 60 then (some (0,(⟨#[]⟩:ByteArray),0,0,x1,9)) else (if 0≤x1 then (if x1≤t413 then (if t413≤(x0.size:Int) then (some (2,x0.extract (x1:Int).toNat (t413:Int).toNat,x409002,t413,0,0)) else (none)) else (none)) else (none)))) else ((rf06_sign.f k x0 x1).bind fun t414=>(if t414=0 then (some (0,(⟨#[]⟩:ByteArray),0,0,x1,5)) else (if (wrap64 ((wrap64 (x1+t414)) - x1)) > x15 then (some (0,(⟨#[]⟩:ByteArray),0,0,x1,9)) else (if 0≤x1 then (if x1≤(wrap64 (x1+t414)) then (if (wrap64 (x1+t414))≤(x0.size:Int) then (some (4,x0.extract (x1:Int).toNat ((wrap64 (x1+t414)):Int).toNat,x409002,wrap64 (x1+t414),0,0)) else (none)) else (none)) else (none)))))
def rf06_word.f (k:Nat) (a0:ByteArray) (a1:Int):Option (Int×ByteArray×Int×Int×Int×Int):=if 0≤a1 then (if a1 < (a0.size:Int) then (if (bt a0 a1)=34 then ((rf06_text.f k a0 a1).bind fun bt404=>(some (3,bt404.1,a1,bt404.2.1,bt404.2.2.1,bt404.2.2.2))) else ((rf06_letter.f (bt a0 a1)).bind fun t409=>(if t409=true then ((rf06_name.f k a0 a1).bind fun t410=>(if (wrap64 (t410 - a1)) > 12 then (some (0,(⟨#[]⟩:ByteArray),0,0,a1,9)) else (if a1≤t410 then (if t410≤(a0.size:Int) then (some (1,a0.extract (a1:Int).toNat (t410:Int).toNat,a1,t410,0,0)) else (none)) else (none)))) else ((rf06_digit.f (bt a0 a1)).bind fun t411=>(if t411=true then (rf06_word.j0 k a0 a1 12 true 1 (⟨#[]⟩:ByteArray) a1) else (if (bt a0 a1)=45 then ((rf06_follows.f a0 (wrap64 (a1+1))).bind fun t412=>(rf06_word.j0 k a0 a1 12 t412 1 (⟨#[]⟩:ByteArray) a1)) else (rf06_word.j0 k a0 a1 12 false 1 (⟨#[]⟩:ByteArray) a1))))))) else (none)) else (none)
end A
namespace B
open Go.Lib Go.RowKit WW
theorem gl_below {w w':World} (h:Gl w) (hb:Below w.heap.size w w'):Gl w':=⟨TabAt.below h.1 hb,h.2.1.below hb,h.2.2.below hb⟩
end B
namespace A
open Go.RowKit B WW WL WM
attribute [local go_sem] max2_int min2_int max_two min_two max_three min_three max_four min_four
set_option maxHeartbeats 8000000
set_option maxRecDepth 100000
theorem days_Date.calls (k:Nat) (a0 r1 r2 r3 r4:Int) (w:World) (h:days_Date.f k a0=some (r1,r2,r3,r4)) (hG:Gl w) :
  Calls Tryz.prog 101 #[.int .i64 a0] w fun e w'=>e=.returned (.tuple #[.agg #[.int .i64 r1,.int .i64 r2,.int .i64 r3],.int .i64 r4])∧Below w.heap.size w w':=by
 have HG:=sd hG;clear hG;have hu112:=Tryz.underlying112;have HB:=sd (Below.refl w.heap.size w);have H:=h;clear h;unfold days_Date.f at H;replace H:=bdI H;obtain ⟨t164,A2,H⟩:=H;(try dsimp only at H)
 by_cases c3:t164=true
 ·subst c3;rw [if_pos rfl] at H;have HC4:=sd H;clear H;go_enter Tryz.func101,Tryz.ntmps101
  go_upto_block 0 with (first|((with_reducible refine gate_dst (N:=2) rfl ?_);refine bxA 2 #[.int .i64 0,.int .i64 0,.int .i64 0] 112 ?_;intro gb163 hg w5 hbox hb;have BK163:=sd (hbox);have GW163:=gem hg HB;have GE163:=GW163;replace HB:=hbm HB hb;clear hb hbox hg)|((with_reducible refine gate_callee (f:=132) rfl ?_);refine gL 5 Tryz.func132 #[.int .i64 a0] ?_;(with_reducible refine (days_is.calls a0 true _ A2.out).mono ?_);rintro e w' ⟨rfl,⟨nd,rfl⟩⟩;refine ⟨_,rfl,?_⟩;(try (rw [drewN_self w5];generalize hq_:World.drewN w5 _=w5;have n0_:Aside0 (w5.heap[gb163]?=some (.cells #[.int .i64 0,.int .i64 0,.int .i64 0] 112 (0,0))):=⟨zq124⟩;have n1_:Aside0 (Below w.heap.size w w5):=⟨zq125⟩;clear BK163 HB hq_;have BK163:=n0_;have HB:=n1_;clear n0_ n1_;(try (have hdBK163_0:=(blk_cell BK163.out 0).trans rfl;have heBK163_0:=blk_frozen BK163.out 0;have hdBK163_1:=(blk_cell BK163.out 1).trans rfl;have heBK163_1:=blk_frozen BK163.out 1;have hdBK163_2:=(blk_cell BK163.out 2).trans rfl;have heBK163_2:=blk_frozen BK163.out 2))));obtain ⟨_,_,_,_,_,_⟩:=bk3 BK163))
  (try simp only [Act.put,List.setIfInBounds_toArray,List.set_cons_zero,List.set_cons_succ])
  go_cut [] (fun wc=>∃ (kq:Nat) (x164000_3:Int),Aside0 (days_Date.j1 kq a0 x164000_3 0 0=some (r1,r2,r3,r4))∧Aside0 (kq≤k)∧Aside0 (wc.heap[gb163]?=some (.cells #[.int .i64 x164000_3,.int .i64 0,.int .i64 0] 112 (0,0)))∧Aside0 (Below w.heap.size w wc))
  case first =>
   have H:=HC4.out;clear HC4;have H':=sd H;clear H;go_wp2
   go_loopg [] k (fun kq w'=>∃ (x164000_1:Int),Aside0 (days_Date.l0 kq a0 x164000_1 0 0=some (r1,r2,r3,r4))∧Aside0 (kq≤k)∧Aside0 (w'.heap[gb163]?=some (.cells #[.int .i64 x164000_1,.int .i64 0,.int .i64 0] 112 (0,0)))∧Aside0 (Below w.heap.size w w'))
   case atStart=>exact ⟨(wrap64 (1900+(wrap64 (Int.tdiv a0 366)))),H',⟨Nat.le_refl _⟩,⟨by (with_reducible repeat (first|refine blk_drewN ?_ _|refine blk_drew ?_|refine blk_alloc ?_ _));refine blk_put (cs:=#[.int .i64 0,.int .i64 0,.int .i64 0]) ?_ 0 _ rfl;(with_reducible repeat (first|refine blk_drewN ?_ _|refine blk_drew ?_|refine blk_alloc ?_ _));exact BK163.out⟩,⟨zq126⟩⟩
   case round =>
    clear H';try clear c1
    obtain ⟨x164000_1,HA,HK1,BK163,HB⟩:=hrel
    cases gk with
   |zero=>exact absurd HA.out (by simp [days_Date.l0])
   |succ k1 =>
     have H:=HA.out;clear HA;simp only [days_Date.l0] at H
     replace H:=ifI H;rcases H with ⟨c7,H⟩|⟨c7,H⟩
     ·have c7b0:decide (x164000_1 < 2199)=true:=decide_eq_true c7;clear c7;(first|rw [c7b0]|(simp only [i64_w,i32_w];rw [c7b0])|skip)
      replace H:=bdI H;obtain ⟨t165,A8,H⟩:=H;(try dsimp only at H)
      replace H:=ifI H;rcases H with ⟨c9,H⟩|⟨c9,H⟩
      ·have c9b0:decide (t165≤a0)=true:=decide_eq_true c9;clear c9;have H':=sd H;clear H;obtain ⟨_,_,_,_,_,_⟩:=bk3 BK163;go_wp2_with (first|(go_at_call 133;(with_reducible refine (days_before.calls (wrap64 (x164000_1+1)) t165 _ A8.out).mono ?_);rintro e w' ⟨rfl,⟨nd,rfl⟩⟩;(try (rw [drewN_self wr];generalize hq_:World.drewN wr _=wr;have n0_:Aside0 (wr.heap[gb163]?=some (.cells #[.int .i64 x164000_1,.int .i64 0,.int .i64 0] 112 (0,0))):=⟨zq124⟩;have n1_:Aside0 (Below w.heap.size w wr):=⟨zq125⟩;clear BK163 HB hq_;have BK163:=n0_;have HB:=n1_;clear n0_ n1_;(try (have hdBK163_0:=(blk_cell BK163.out 0).trans rfl;have heBK163_0:=blk_frozen BK163.out 0;have hdBK163_1:=(blk_cell BK163.out 1).trans rfl;have heBK163_1:=blk_frozen BK163.out 1;have hdBK163_2:=(blk_cell BK163.out 2).trans rfl;have heBK163_2:=blk_frozen BK163.out 2))))))
       go_roundg k1
       case measure=>have:=HK1.out;omega
       case rel=>exact ⟨(wrap64 (x164000_1+1)),H',⟨by have:=HK1.out;omega⟩,⟨by (with_reducible repeat (first|refine blk_drewN ?_ _|refine blk_drew ?_|refine blk_alloc ?_ _));refine blk_put (cs:=#[.int .i64 x164000_1,.int .i64 0,.int .i64 0]) ?_ 0 _ rfl;(with_reducible repeat (first|refine blk_drewN ?_ _|refine blk_drew ?_|refine blk_alloc ?_ _));exact BK163.out⟩,⟨zq126⟩⟩
      have c9b0:decide (t165≤a0)=false:=decide_eq_false c9;clear c9;have H':=sd H;clear H;obtain ⟨_,_,_,_,_,_⟩:=bk3 BK163;go_wp2_with (first|(go_at_call 133;(with_reducible refine (days_before.calls (wrap64 (x164000_1+1)) t165 _ A8.out).mono ?_);rintro e w' ⟨rfl,⟨nd,rfl⟩⟩))
      go_meet
      case rel=>exact ⟨_,(x164000_1),H',⟨zq8⟩,⟨zq127⟩,⟨zq126⟩⟩
     have c7b0:decide (x164000_1 < 2199)=false:=decide_eq_false c7;clear c7;(first|rw [c7b0]|(simp only [i64_w,i32_w];rw [c7b0])|skip)
     have H':=sd H;clear H;obtain ⟨_,_,_,_,_,_⟩:=bk3 BK163;go_wp2
     go_meet
     case rel=>exact ⟨_,(x164000_1),H',⟨zq8⟩,⟨zq127⟩,⟨zq126⟩⟩
  case rest =>
   clear HC4;try clear c1
   obtain ⟨kq,x164000_3,HA,HJ3,BK163,HB⟩:=hcut
   cases kq with
  |zero=>exact absurd HA.out (by simp [days_Date.j1])
  |succ kj3 =>
    have H:=HA.out;clear HA;simp only [days_Date.j1] at H
    replace H:=bdI H;obtain ⟨t166,A13,H⟩:=H;(try dsimp only at H)
    have H':=sd H;clear H;obtain ⟨_,_,_,_,_,_⟩:=bk3 BK163;go_wp2_with (first|((with_reducible refine gate_callee (f:=133) rfl ?_);refine gL 30 Tryz.func133 #[.int .i64 x164000_3] ?_;(with_reducible refine (days_before.calls x164000_3 t166 _ A13.out).mono ?_);rintro e w' ⟨rfl,⟨nd,rfl⟩⟩;refine ⟨_,rfl,?_⟩;(try (rw [drewN_self wc];generalize hq_:World.drewN wc _=wc;have n0_:Aside0 (wc.heap[gb163]?=some (.cells #[.int .i64 x164000_3,.int .i64 0,.int .i64 0] 112 (0,0))):=⟨zq124⟩;have n1_:Aside0 (Below w.heap.size w wc):=⟨zq125⟩;clear BK163 HB hq_;have BK163:=n0_;have HB:=n1_;clear n0_ n1_;(try (have hdBK163_0:=(blk_cell BK163.out 0).trans rfl;have heBK163_0:=blk_frozen BK163.out 0;have hdBK163_1:=(blk_cell BK163.out 1).trans rfl;have heBK163_1:=blk_frozen BK163.out 1;have hdBK163_2:=(blk_cell BK163.out 2).trans rfl;have heBK163_2:=blk_frozen BK163.out 2))))))
    go_loopg [0] kj3 (fun kq v0 w'=>∃ (x0_2:Int) (x164001_2:Int),v0=.int .i64 x0_2∧Aside0 (days_Date.l1 kq x0_2 x164000_3 x164001_2 0=some (r1,r2,r3,r4))∧Aside0 (kq≤kj3)∧Aside0 (w'.heap[gb163]?=some (.cells #[.int .i64 x164000_3,.int .i64 x164001_2,.int .i64 0] 112 (0,0)))∧Aside0 (Below w.heap.size w w'))
    case atStart=>exact ⟨(wrap64 (a0 - t166)),(1),zq7,H',⟨Nat.le_refl _⟩,⟨by (with_reducible repeat (first|refine blk_drewN ?_ _|refine blk_drew ?_|refine blk_alloc ?_ _));refine blk_put (cs:=#[.int .i64 x164000_3,.int .i64 0,.int .i64 0]) ?_ 1 _ rfl;(with_reducible repeat (first|refine blk_drewN ?_ _|refine blk_drew ?_|refine blk_alloc ?_ _));exact BK163.out⟩,⟨zq126⟩⟩
    case round =>
     clear H';try clear c1
     obtain ⟨x0_2,x164001_2,rfl,HA,HK2,BK163,HB⟩:=hrel
     cases gk with
    |zero=>exact absurd HA.out (by simp [days_Date.l1])
    |succ k2 =>
      have H:=HA.out;clear HA;simp only [days_Date.l1] at H
      replace H:=bdI H;obtain ⟨t167,A15,H⟩:=H;(try dsimp only at H)
      replace H:=ifI H;rcases H with ⟨c16,H⟩|⟨c16,H⟩
      ·have c16b0:decide (t167≤x0_2)=true:=decide_eq_true c16;clear c16;replace H:=bdI H;obtain ⟨t168,A17,H⟩:=H;(try dsimp only at H)
       have H':=sd H;clear H;obtain ⟨_,_,_,_,_,_⟩:=bk3 BK163;go_wp2_with (first|((with_reducible refine gate_callee (f:=134) rfl ?_);refine gL 38 Tryz.func134 #[.int .i64 x164000_3,.int .i64 x164001_2] ?_;(with_reducible refine (days_Length.calls x164000_3 x164001_2 t167 _ A15.out (gl_below HG.out zq22)).mono ?_);rintro e w' ⟨rfl,⟨nd,rfl⟩⟩;refine ⟨_,rfl,?_⟩;(try (rw [drewN_self wr];generalize hq_:World.drewN wr _=wr;have n0_:Aside0 (wr.heap[gb163]?=some (.cells #[.int .i64 x164000_3,.int .i64 x164001_2,.int .i64 0] 112 (0,0))):=⟨zq124⟩;have n1_:Aside0 (Below w.heap.size w wr):=⟨zq125⟩;clear BK163 HB hq_;have BK163:=n0_;have HB:=n1_;clear n0_ n1_;(try (have hdBK163_0:=(blk_cell BK163.out 0).trans rfl;have heBK163_0:=blk_frozen BK163.out 0;have hdBK163_1:=(blk_cell BK163.out 1).trans rfl;have heBK163_1:=blk_frozen BK163.out 1;have hdBK163_2:=(blk_cell BK163.out 2).trans rfl;have heBK163_2:=blk_frozen BK163.out 2)))))|((with_reducible refine gate_callee (f:=134) rfl ?_);refine gL 45 Tryz.func134 #[.int .i64 x164000_3,.int .i64 x164001_2] ?_;(with_reducible refine (days_Length.calls x164000_3 x164001_2 t168 _ A17.out (gl_below HG.out zq22)).mono ?_);rintro e w' ⟨rfl,⟨nd,rfl⟩⟩;refine ⟨_,rfl,?_⟩;(try (rw [drewN_self wr];generalize hq_:World.drewN wr _=wr;have n0_:Aside0 (wr.heap[gb163]?=some (.cells #[.int .i64 x164000_3,.int .i64 x164001_2,.int .i64 0] 112 (0,0))):=⟨zq124⟩;have n1_:Aside0 (Below w.heap.size w wr):=⟨zq125⟩;clear BK163 HB hq_;have BK163:=n0_;have HB:=n1_;clear n0_ n1_;(try (have hdBK163_0:=(blk_cell BK163.out 0).trans rfl;have heBK163_0:=blk_frozen BK163.out 0;have hdBK163_1:=(blk_cell BK163.out 1).trans rfl;have heBK163_1:=blk_frozen BK163.out 1;have hdBK163_2:=(blk_cell BK163.out 2).trans rfl;have heBK163_2:=blk_frozen BK163.out 2))))))
       go_roundg k2
       case measure=>have:=HJ3.out;have:=HK2.out;omega
       case rel=>exact ⟨(wrap64 (x0_2 - t168)),(wrap64 (x164001_2+1)),zq7,H',⟨by have:=HJ3.out;have:=HK2.out;omega⟩,⟨by (with_reducible repeat (first|refine blk_drewN ?_ _|refine blk_drew ?_|refine blk_alloc ?_ _));refine blk_put (cs:=#[.int .i64 x164000_3,.int .i64 x164001_2,.int .i64 0]) ?_ 1 _ rfl;(with_reducible repeat (first|refine blk_drewN ?_ _|refine blk_drew ?_|refine blk_alloc ?_ _));exact BK163.out⟩,⟨zq126⟩⟩
      have c16b0:decide (t167≤x0_2)=false:=decide_eq_false c16;clear c16;simp only [Option.some.injEq,Prod.mk.injEq] at H
      obtain ⟨rfl,rfl,rfl,rfl⟩:=H;obtain ⟨_,_,_,_,_,_⟩:=bk3 BK163;go_wp2_with (first|((with_reducible refine gate_callee (f:=134) rfl ?_);refine gL 38 Tryz.func134 #[.int .i64 x164000_3,.int .i64 x164001_2] ?_;(with_reducible refine (days_Length.calls x164000_3 x164001_2 t167 _ A15.out (gl_below HG.out zq22)).mono ?_);rintro e w' ⟨rfl,⟨nd,rfl⟩⟩;refine ⟨_,rfl,?_⟩;(try (rw [drewN_self wr];generalize hq_:World.drewN wr _=wr;have n0_:Aside0 (wr.heap[gb163]?=some (.cells #[.int .i64 x164000_3,.int .i64 x164001_2,.int .i64 0] 112 (0,0))):=⟨zq124⟩;have n1_:Aside0 (Below w.heap.size w wr):=⟨zq125⟩;clear BK163 HB hq_;have BK163:=n0_;have HB:=n1_;clear n0_ n1_;(try (have hdBK163_0:=(blk_cell BK163.out 0).trans rfl;have heBK163_0:=blk_frozen BK163.out 0;have hdBK163_1:=(blk_cell BK163.out 1).trans rfl;have heBK163_1:=blk_frozen BK163.out 1;have hdBK163_2:=(blk_cell BK163.out 2).trans rfl;have heBK163_2:=blk_frozen BK163.out 2))))))
      refine bodyPost_ret (results_ct rfl _ _ gb163 112 #[.int .i64 x164000_3,.int .i64 x164001_2,.int .i64 (wrap64 (x0_2+1))] (0,0) _ rfl (by (with_reducible repeat (first|refine blk_drewN ?_ _|refine blk_drew ?_|refine blk_alloc ?_ _));refine blk_put (cs:=#[.int .i64 x164000_3,.int .i64 x164001_2,.int .i64 (wrap64 (x0_2+1))]) ?_ 2 _ rfl;(with_reducible repeat (first|refine blk_drewN ?_ _|refine blk_drew ?_|refine blk_alloc ?_ _));refine blk_put (cs:=#[.int .i64 x164000_3,.int .i64 x164001_2,.int .i64 (wrap64 (x0_2+1))]) ?_ 1 _ rfl;(with_reducible repeat (first|refine blk_drewN ?_ _|refine blk_drew ?_|refine blk_alloc ?_ _));refine blk_put (cs:=#[.int .i64 x164000_3,.int .i64 x164001_2,.int .i64 (wrap64 (x0_2+1))]) ?_ 0 _ rfl;(with_reducible repeat (first|refine blk_drewN ?_ _|refine blk_drew ?_|refine blk_alloc ?_ _));refine blk_put (cs:=#[.int .i64 x164000_3,.int .i64 x164001_2,.int .i64 0]) ?_ 2 _ rfl;(with_reducible repeat (first|refine blk_drewN ?_ _|refine blk_drew ?_|refine blk_alloc ?_ _));exact BK163.out) Tryz.underlying112 rfl (by kernel_rfl)) rfl ?_;exact ⟨zq4,zq126⟩
 replace c3:=Bool.eq_false_iff.mpr c3;subst c3;rw [if_neg Bool.false_ne_true] at H;simp only [Option.some.injEq,Prod.mk.injEq] at H
 obtain ⟨rfl,rfl,rfl,rfl⟩:=H;go_enter Tryz.func101,Tryz.ntmps101
 go_wp2_with (first|((with_reducible refine gate_dst (N:=2) rfl ?_);refine bxA 2 #[.int .i64 0,.int .i64 0,.int .i64 0] 112 ?_;intro gb163 hg w20 hbox hb;have BK163:=sd (hbox);have GW163:=gem hg HB;have GE163:=GW163;replace HB:=hbm HB hb;clear hb hbox hg)|((with_reducible refine gate_callee (f:=132) rfl ?_);refine gL 5 Tryz.func132 #[.int .i64 a0] ?_;(with_reducible refine (days_is.calls a0 false _ A2.out).mono ?_);rintro e w' ⟨rfl,⟨nd,rfl⟩⟩;refine ⟨_,rfl,?_⟩;(try (rw [drewN_self w20];generalize hq_:World.drewN w20 _=w20;have n0_:Aside0 (w20.heap[gb163]?=some (.cells #[.int .i64 0,.int .i64 0,.int .i64 0] 112 (0,0))):=⟨zq124⟩;have n1_:Aside0 (Below w.heap.size w w20):=⟨zq125⟩;clear BK163 HB hq_;have BK163:=n0_;have HB:=n1_;clear n0_ n1_;(try (have hdBK163_0:=(blk_cell BK163.out 0).trans rfl;have heBK163_0:=blk_frozen BK163.out 0;have hdBK163_1:=(blk_cell BK163.out 1).trans rfl;have heBK163_1:=blk_frozen BK163.out 1;have hdBK163_2:=(blk_cell BK163.out 2).trans rfl;have heBK163_2:=blk_frozen BK163.out 2))));obtain ⟨_,_,_,_,_,_⟩:=bk3 BK163))
 refine bodyPost_ret (results_ct rfl _ _ gb163 112 #[.int .i64 0,.int .i64 0,.int .i64 0] (0,0) _ rfl (by (with_reducible repeat (first|refine blk_drewN ?_ _|refine blk_drew ?_|refine blk_alloc ?_ _));refine blk_put (cs:=#[.int .i64 0,.int .i64 0,.int .i64 0]) ?_ 2 _ rfl;(with_reducible repeat (first|refine blk_drewN ?_ _|refine blk_drew ?_|refine blk_alloc ?_ _));refine blk_put (cs:=#[.int .i64 0,.int .i64 0,.int .i64 0]) ?_ 1 _ rfl;(with_reducible repeat (first|refine blk_drewN ?_ _|refine blk_drew ?_|refine blk_alloc ?_ _));refine blk_put (cs:=#[.int .i64 0,.int .i64 0,.int .i64 0]) ?_ 0 _ rfl;(with_reducible repeat (first|refine blk_drewN ?_ _|refine blk_drew ?_|refine blk_alloc ?_ _));exact BK163.out) Tryz.underlying112 rfl (by kernel_rfl)) rfl ?_;exact ⟨zq4,zq126⟩
end A
namespace A
open Go.RowKit B WW WL WM
theorem zq1 {P:Prop} (h:P:=by repeat (first|(with_reducible first|assumption|apply has_drewN|apply has_drew|refine has_same ?_|apply any_drewN|apply any_drew|apply any_set|exact ⟨_,‹_›⟩)|(with_reducible refine has_other (by simp) ?_)|(go_simp;done)|exact ⟨_,by go_simp⟩)):P:=h
end A

end Go.Proofs.YtkbgkekegjfkfaaGreatDoor