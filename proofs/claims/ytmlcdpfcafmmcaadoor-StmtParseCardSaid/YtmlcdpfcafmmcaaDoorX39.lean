-- By pack.py, a program of this session's.
import Derived.Test.YtmlcdpfcafmmcaaDoorX26
set_option linter.unusedVariables false
set_option linter.unusedSimpArgs false
namespace Go.Proofs.YtmlcdpfcafmmcaaDoor.A
open Go.RowKit B WW WL WM
attribute [local go_sem] max2_int min2_int max_two min_two max_three min_three max_four min_four
set_option maxHeartbeats 8000000
set_option maxRecDepth 100000
mutual
def rf47_shaped.j0:Nat→List (S93)→ByteArray→Bool→Option (Bool)
 | 0,_,_,_=>none
 | k+1,x0,x2,x29=>if x29=true then (some false) else (rf47_shaped.l0 k x0 x2 0)
def rf47_shaped.l0:Nat→List (S93)→ByteArray→Int→Option (Bool)
 | 0,_,_,_=>none
 | k+1,x0,x2,x7=>if x7 < (x2.size:Int) then (if 0≤(wrap64 (x7+1)) then (if (wrap64 (x7+1)) < (x0.length:Int) then (if 0≤x7 then (if (bt x2 x7)=99 then (if ((rd_T93 x0 (wrap64 (x7+1))).f0)=1 then (if (bt x2 x7)=110 then (if ((rd_T93 x0 (wrap64 (x7+1))).f0)=2 then (if (bt x2 x7)=116 then (if ((rd_T93 x0 (wrap64 (x7+1))).f0)=3 then (rf47_shaped.l0 k x0 x2 (wrap64 (x7+1))) else (some false)) else (rf47_shaped.l0 k x0 x2 (wrap64 (x7+1)))) else (some false)) else (if (bt x2 x7)=116 then (if ((rd_T93 x0 (wrap64 (x7+1))).f0)=3 then (rf47_shaped.l0 k x0 x2 (wrap64 (x7+1))) else (some false)) else (rf47_shaped.l0 k x0 x2 (wrap64 (x7+1))))) else (if ((rd_T93 x0 (wrap64 (x7+1))).f0)=2 then (if (bt x2 x7)=110 then (if (bt x2 x7)=116 then (if ((rd_T93 x0 (wrap64 (x7+1))).f0)=3 then (rf47_shaped.l0 k x0 x2 (wrap64 (x7+1))) else (some false)) else (rf47_shaped.l0 k x0 x2 (wrap64 (x7+1)))) else (if (bt x2 x7)=116 then (if ((rd_T93 x0 (wrap64 (x7+1))).f0)=3 then (rf47_shaped.l0 k x0 x2 (wrap64 (x7+1))) else (some false)) else (rf47_shaped.l0 k x0 x2 (wrap64 (x7+1))))) else (some false))) else (if (bt x2 x7)=110 then (if ((rd_T93 x0 (wrap64 (x7+1))).f0)=2 then (if (bt x2 x7)=116 then (if ((rd_T93 x0 (wrap64 (x7+1))).f0)=3 then (rf47_shaped.l0 k x0 x2 (wrap64 (x7+1))) else (some false)) else (rf47_shaped.l0 k x0 x2 (wrap64 (x7+1)))) else (some false)) else (if (bt x2 x7)=116 then (if ((rd_T93 x0 (wrap64 (x7+1))).f0)=3 then (rf47_shaped.l0 k x0 x2 (wrap64 (x7+1))) else (some false)) else (rf47_shaped.l0 k x0 x2 (wrap64 (x7+1)))))) else (none)) else (none)) else (none)) else (some true)
end
def rf47_shaped.f (k:Nat) (l0:List (S93)) (a1:ByteArray) (a2:ByteArray):Option (Bool):=if (l0.length:Int)=(wrap64 ((a2.size:Int)+1)) then (if 0 < (l0.length:Int) then (if ((rd_T93 l0 0).f0)=1 then (rf47_shaped.j0 k l0 a2 (((rd_T93 l0 0).f1).toList != a1.toList)) else (rf47_shaped.j0 k l0 a2 true)) else (none)) else (rf47_shaped.j0 k l0 a2 true)
def rf06_follows.f (a0:ByteArray) (a1:Int):Option (Bool):=if a1 < (a0.size:Int) then (if 0≤a1 then ((rf06_digit.f (bt a0 a1)).bind fun t353=>(some t353)) else (none)) else (some false)
theorem rf06_follows.calls (a0:ByteArray) (a1:Int) (r:Bool) (w:World) (h:rf06_follows.f a0 a1=some r) :
  Calls Tryd.prog 93 #[.string a0,.int .i64 a1] w fun e w'=>e=.returned (.bool r)∧Drawn0 w w':=by
 have H:=h;clear h;unfold rf06_follows.f at H;replace H:=ifI H;rcases H with ⟨c3,H⟩ | ⟨c3,H⟩
 ·have c3b0:decide (a1 < (a0.size:Int))=true:=decide_eq_true c3;clear c3;replace H:=ifI H;rcases H with ⟨c4,H⟩ | ⟨c4,H⟩
  ·have c4b0:decide (0≤a1)=true:=decide_eq_true c4;clear c4;replace H:=bdI H;obtain ⟨t353,A6,H⟩:=H;(try dsimp only at H)
   obtain rfl:=Option.some.inj H;have p5:0≤(a1:Int):=od;have q5:a1 < (a0.size:Int):=od;have hx5:=bt_at a0 a1;replace p5:=eq_true p5;replace q5:=eq_true q5;go_enter Tryd.func93,Tryd.ntmps93
   go_wp2_with (first | (go_at_call 57;(with_reducible refine (rf06_digit.calls (bt a0 a1) t353 _ A6.out).mono ?_);rintro e w' ⟨rfl,⟨nd,rfl⟩⟩))
   go_ret
   exact ⟨zq1,zq2⟩
  exact absurd H (by simp)
 have c3b0:decide (a1 < (a0.size:Int))=false:=decide_eq_false c3;clear c3;obtain rfl:=Option.some.inj H;go_enter Tryd.func93,Tryd.ntmps93
 go_wp2
 go_ret
 exact ⟨zq1,zq2⟩
def rf06_number.l0:Nat→ByteArray→Int→Option (Int)
 | 0,_,_=>none
 | k+1,x0,x1=>if x1 < (x0.size:Int) then (if 0≤x1 then ((rf06_letter.f (bt x0 x1)).bind fun t354=>(if t354=true then (rf06_number.l0 k x0 (wrap64 (x1+1))) else ((rf06_digit.f (bt x0 x1)).bind fun t355=>(if t355=true then (rf06_number.l0 k x0 (wrap64 (x1+1))) else (if (bt x0 x1)=46 then ((rf06_follows.f x0 (wrap64 (x1+1))).bind fun t356=>(if t356=true then (rf06_number.l0 k x0 (wrap64 (x1+1))) else (some x1))) else (if (bt x0 x1)=47 then ((rf06_follows.f x0 (wrap64 (x1+1))).bind fun t357=>(if t357=true then (rf06_number.l0 k x0 (wrap64 (x1+1))) else (some x1))) else (if (bt x0 x1)=45 then ((rf06_follows.f x0 (wrap64 (x1+1))).bind fun t358=>(if t358=true then (rf06_number.l0 k x0 (wrap64 (x1+1))) else (some x1))) else (some x1)))))))) else (none)) else (some x1)
def rf06_number.f (k:Nat) (a0:ByteArray) (a1:Int):Option (Int):=rf06_number.l0 k a0 (wrap64 (a1+1))
theorem rf06_number.calls (k:Nat) (a0:ByteArray) (a1 r:Int) (w:World) (h:rf06_number.f k a0 a1=some r) :
  Calls Tryd.prog 94 #[.string a0,.int .i64 a1] w fun e w'=>e=.returned (.int .i64 r)∧Drawn0 w w':=by
 have H:=h;clear h;unfold rf06_number.f at H;have H':=sd H;clear H;go_enter Tryd.func94,Tryd.ntmps94
 go_wp2
 go_loopg [1] k (fun kq v1 w'=>∃ (x1_1:Int),v1=.int .i64 x1_1∧Aside0 (rf06_number.l0 kq a0 x1_1=some r)∧Aside0 (kq≤k)∧Drawn0 w w')
 case atStart=>exact ⟨(wrap64 (a1+1)),zq1,H',⟨Nat.le_refl _⟩,zq2⟩
 case round =>
  clear H';try clear p2
  obtain ⟨x1_1,rfl,HA,HK1,⟨m1,rfl⟩⟩:=hrel
  cases gk with
  | zero=>exact absurd HA.out (by simp [rf06_number.l0])
  | succ k1 =>
   have H:=HA.out;clear HA;simp only [rf06_number.l0] at H
   replace H:=ifI H;rcases H with ⟨c3,H⟩ | ⟨c3,H⟩
   ·have c3b0:decide (x1_1 < (a0.size:Int))=true:=decide_eq_true c3;clear c3;replace H:=ifI H;rcases H with ⟨c4,H⟩ | ⟨c4,H⟩
    ·have c4b0:decide (0≤x1_1)=true:=decide_eq_true c4;clear c4;replace H:=bdI H;obtain ⟨t354,A6,H⟩:=H;(try dsimp only at H)
     by_cases c7:t354=true
     ·subst c7;rw [if_pos rfl] at H;have H':=sd H;clear H;have p5:0≤(x1_1:Int):=od;have q5:x1_1 < (a0.size:Int):=od;have hx5:=bt_at a0 x1_1;replace p5:=eq_true p5;replace q5:=eq_true q5;go_wp2_with (first | ((with_reducible refine gate_callee (f:=56) rfl ?_);refine gL 16 Tryd.func56 #[.int .u8 (bt a0 x1_1)] ?_;(with_reducible refine (rf06_letter.calls (bt a0 x1_1) true _ A6.out).mono ?_);rintro e w' ⟨rfl,⟨nd,rfl⟩⟩;refine ⟨_,rfl,?_⟩))
      go_roundg k1
      case measure=>have:=HK1.out;omega
      case rel=>exact ⟨(wrap64 (x1_1+1)),zq1,H',⟨by have:=HK1.out;omega⟩,zq2⟩
     replace c7:=Bool.eq_false_iff.mpr c7;subst c7;rw [if_neg Bool.false_ne_true] at H;replace H:=bdI H;obtain ⟨t355,A8,H⟩:=H;(try dsimp only at H)
     by_cases c9:t355=true
     ·subst c9;rw [if_pos rfl] at H;have H':=sd H;clear H;have p5:0≤(x1_1:Int):=od;have q5:x1_1 < (a0.size:Int):=od;have hx5:=bt_at a0 x1_1;replace p5:=eq_true p5;replace q5:=eq_true q5;go_wp2_with (first | ((with_reducible refine gate_callee (f:=56) rfl ?_);refine gL 16 Tryd.func56 #[.int .u8 (bt a0 x1_1)] ?_;(with_reducible refine (rf06_letter.calls (bt a0 x1_1) false _ A6.out).mono ?_);rintro e w' ⟨rfl,⟨nd,rfl⟩⟩;refine ⟨_,rfl,?_⟩) | (go_at_call 57;(with_reducible refine (rf06_digit.calls (bt a0 x1_1) true _ A8.out).mono ?_);rintro e w' ⟨rfl,⟨nd,rfl⟩⟩))
      go_roundg k1
      case measure=>have:=HK1.out;omega
      case rel=>exact ⟨(wrap64 (x1_1+1)),zq1,H',⟨by have:=HK1.out;omega⟩,zq2⟩
     replace c9:=Bool.eq_false_iff.mpr c9;subst c9;rw [if_neg Bool.false_ne_true] at H;replace H:=ifI H;rcases H with ⟨c10,H⟩ | ⟨c10,H⟩
     ·obtain ⟨c10b0,c10b1⟩:=eqI c10;clear c10;replace H:=bdI H;obtain ⟨t356,A11,H⟩:=H;(try dsimp only at H)
      by_cases c12:t356=true
      ·subst c12;rw [if_pos rfl] at H;have H':=sd H;clear H;have p5:0≤(x1_1:Int):=od;have q5:x1_1 < (a0.size:Int):=od;have hx5:=bt_at a0 x1_1;replace p5:=eq_true p5;replace q5:=eq_true q5;go_wp2_with (first | ((with_reducible refine gate_callee (f:=56) rfl ?_);refine gL 16 Tryd.func56 #[.int .u8 (bt a0 x1_1)] ?_;(with_reducible refine (rf06_letter.calls (bt a0 x1_1) false _ A6.out).mono ?_);rintro e w' ⟨rfl,⟨nd,rfl⟩⟩;refine ⟨_,rfl,?_⟩) | (go_at_call 57;(with_reducible refine (rf06_digit.calls (bt a0 x1_1) false _ A8.out).mono ?_);rintro e w' ⟨rfl,⟨nd,rfl⟩⟩) | (go_at_call 93;(with_reducible refine (rf06_follows.calls a0 (wrap64 (x1_1+1)) true _ A11.out).mono ?_);rintro e w' ⟨rfl,⟨nd,rfl⟩⟩))
       go_roundg k1
       case measure=>have:=HK1.out;omega
       case rel=>exact ⟨(wrap64 (x1_1+1)),zq1,H',⟨by have:=HK1.out;omega⟩,zq2⟩
      replace c12:=Bool.eq_false_iff.mpr c12;subst c12;rw [if_neg Bool.false_ne_true] at H;obtain rfl:=Option.some.inj H;have p5:0≤(x1_1:Int):=od;have q5:x1_1 < (a0.size:Int):=od;have hx5:=bt_at a0 x1_1;replace p5:=eq_true p5;replace q5:=eq_true q5;go_wp2_with (first | ((with_reducible refine gate_callee (f:=56) rfl ?_);refine gL 16 Tryd.func56 #[.int .u8 (bt a0 x1_1)] ?_;(with_reducible refine (rf06_letter.calls (bt a0 x1_1) false _ A6.out).mono ?_);rintro e w' ⟨rfl,⟨nd,rfl⟩⟩;refine ⟨_,rfl,?_⟩) | (go_at_call 57;(with_reducible refine (rf06_digit.calls (bt a0 x1_1) false _ A8.out).mono ?_);rintro e w' ⟨rfl,⟨nd,rfl⟩⟩) | (go_at_call 93;(with_reducible refine (rf06_follows.calls a0 (wrap64 (x1_1+1)) false _ A11.out).mono ?_);rintro e w' ⟨rfl,⟨nd,rfl⟩⟩))
      go_ret
      exact ⟨zq1,zq2⟩
     obtain ⟨c10b0,c10b1⟩:=neI c10;replace H:=ifI H;rcases H with ⟨c13,H⟩ | ⟨c13,H⟩
     ·obtain ⟨c13b0,c13b1⟩:=eqI c13;clear c13;replace H:=bdI H;obtain ⟨t357,A14,H⟩:=H;(try dsimp only at H)
      by_cases c15:t357=true
      ·subst c15;rw [if_pos rfl] at H;have H':=sd H;clear H;have p5:0≤(x1_1:Int):=od;have q5:x1_1 < (a0.size:Int):=od;have hx5:=bt_at a0 x1_1;replace p5:=eq_true p5;replace q5:=eq_true q5;go_wp2_with (first | ((with_reducible refine gate_callee (f:=56) rfl ?_);refine gL 16 Tryd.func56 #[.int .u8 (bt a0 x1_1)] ?_;(with_reducible refine (rf06_letter.calls (bt a0 x1_1) false _ A6.out).mono ?_);rintro e w' ⟨rfl,⟨nd,rfl⟩⟩;refine ⟨_,rfl,?_⟩) | (go_at_call 57;(with_reducible refine (rf06_digit.calls (bt a0 x1_1) false _ A8.out).mono ?_);rintro e w' ⟨rfl,⟨nd,rfl⟩⟩) | (go_at_call 93;(with_reducible refine (rf06_follows.calls a0 (wrap64 (x1_1+1)) true _ A14.out).mono ?_);rintro e w' ⟨rfl,⟨nd,rfl⟩⟩))
       go_roundg k1
       case measure=>have:=HK1.out;omega
       case rel=>exact ⟨(wrap64 (x1_1+1)),zq1,H',⟨by have:=HK1.out;omega⟩,zq2⟩
      replace c15:=Bool.eq_false_iff.mpr c15;subst c15;rw [if_neg Bool.false_ne_true] at H;obtain rfl:=Option.some.inj H;have p5:0≤(x1_1:Int):=od;have q5:x1_1 < (a0.size:Int):=od;have hx5:=bt_at a0 x1_1;replace p5:=eq_true p5;replace q5:=eq_true q5;go_wp2_with (first | ((with_reducible refine gate_callee (f:=56) rfl ?_);refine gL 16 Tryd.func56 #[.int .u8 (bt a0 x1_1)] ?_;(with_reducible refine (rf06_letter.calls (bt a0 x1_1) false _ A6.out).mono ?_);rintro e w' ⟨rfl,⟨nd,rfl⟩⟩;refine ⟨_,rfl,?_⟩) | (go_at_call 57;(with_reducible refine (rf06_digit.calls (bt a0 x1_1) false _ A8.out).mono ?_);rintro e w' ⟨rfl,⟨nd,rfl⟩⟩) | (go_at_call 93;(with_reducible refine (rf06_follows.calls a0 (wrap64 (x1_1+1)) false _ A14.out).mono ?_);rintro e w' ⟨rfl,⟨nd,rfl⟩⟩))
      go_ret
      exact ⟨zq1,zq2⟩
     obtain ⟨c13b0,c13b1⟩:=neI c13;replace H:=ifI H;rcases H with ⟨c16,H⟩ | ⟨c16,H⟩
     ·obtain ⟨c16b0,c16b1⟩:=eqI c16;clear c16;replace H:=bdI H;obtain ⟨t358,A17,H⟩:=H;(try dsimp only at H)
      by_cases c18:t358=true
      ·subst c18;rw [if_pos rfl] at H;have H':=sd H;clear H;have p5:0≤(x1_1:Int):=od;have q5:x1_1 < (a0.size:Int):=od;have hx5:=bt_at a0 x1_1;replace p5:=eq_true p5;replace q5:=eq_true q5;go_wp2_with (first | ((with_reducible refine gate_callee (f:=56) rfl ?_);refine gL 16 Tryd.func56 #[.int .u8 (bt a0 x1_1)] ?_;(with_reducible refine (rf06_letter.calls (bt a0 x1_1) false _ A6.out).mono ?_);rintro e w' ⟨rfl,⟨nd,rfl⟩⟩;refine ⟨_,rfl,?_⟩) | (go_at_call 57;(with_reducible refine (rf06_digit.calls (bt a0 x1_1) false _ A8.out).mono ?_);rintro e w' ⟨rfl,⟨nd,rfl⟩⟩) | (go_at_call 93;(with_reducible refine (rf06_follows.calls a0 (wrap64 (x1_1+1)) true _ A17.out).mono ?_);rintro e w' ⟨rfl,⟨nd,rfl⟩⟩))
       go_roundg k1
       case measure=>have:=HK1.out;omega
       case rel=>exact ⟨(wrap64 (x1_1+1)),zq1,H',⟨by have:=HK1.out;omega⟩,zq2⟩
      replace c18:=Bool.eq_false_iff.mpr c18;subst c18;rw [if_neg Bool.false_ne_true] at H;obtain rfl:=Option.some.inj H;have p5:0≤(x1_1:Int):=od;have q5:x1_1 < (a0.size:Int):=od;have hx5:=bt_at a0 x1_1;replace p5:=eq_true p5;replace q5:=eq_true q5;go_wp2_with (first | ((with_reducible refine gate_callee (f:=56) rfl ?_);refine gL 16 Tryd.func56 #[.int .u8 (bt a0 x1_1)] ?_;(with_reducible refine (rf06_letter.calls (bt a0 x1_1) false _ A6.out).mono ?_);rintro e w' ⟨rfl,⟨nd,rfl⟩⟩;refine ⟨_,rfl,?_⟩) | (go_at_call 57;(with_reducible refine (rf06_digit.calls (bt a0 x1_1) false _ A8.out).mono ?_);rintro e w' ⟨rfl,⟨nd,rfl⟩⟩) | (go_at_call 93;(with_reducible refine (rf06_follows.calls a0 (wrap64 (x1_1+1)) false _ A17.out).mono ?_);rintro e w' ⟨rfl,⟨nd,rfl⟩⟩))
      go_ret
      exact ⟨zq1,zq2⟩
     obtain ⟨c16b0,c16b1⟩:=neI c16;obtain rfl:=Option.some.inj H;have p5:0≤(x1_1:Int):=od;have q5:x1_1 < (a0.size:Int):=od;have hx5:=bt_at a0 x1_1;replace p5:=eq_true p5;replace q5:=eq_true q5;go_wp2_with (first | ((with_reducible refine gate_callee (f:=56) rfl ?_);refine gL 16 Tryd.func56 #[.int .u8 (bt a0 x1_1)] ?_;(with_reducible refine (rf06_letter.calls (bt a0 x1_1) false _ A6.out).mono ?_);rintro e w' ⟨rfl,⟨nd,rfl⟩⟩;refine ⟨_,rfl,?_⟩) | (go_at_call 57;(with_reducible refine (rf06_digit.calls (bt a0 x1_1) false _ A8.out).mono ?_);rintro e w' ⟨rfl,⟨nd,rfl⟩⟩))
     go_ret
     exact ⟨zq1,zq2⟩
    exact absurd H (by simp)
   have c3b0:decide (x1_1 < (a0.size:Int))=false:=decide_eq_false c3;clear c3;obtain rfl:=Option.some.inj H;go_wp2
   go_ret
   exact ⟨zq1,zq2⟩
def rf04_value.l0:Nat→ByteArray→Int→Int→Option (Int)
 | 0,_,_,_=>none
 | k+1,x0,x3,x4=>if x4 < (x0.size:Int) then (if 0≤x4 then (rf04_value.l0 k x0 (wrap64 ((wrap64 (x3 * 10))+(((bt x0 x4) - 48) % 256))) (wrap64 (x4+1))) else (none)) else (some x3)
def rf04_value.f (k:Nat) (a0:ByteArray):Option (Int):=rf04_value.l0 k a0 0 0
theorem rf04_value.calls (k:Nat) (a0:ByteArray) (r:Int) (w:World) (h:rf04_value.f k a0=some r) :
  Calls Tryd.prog 112 #[.string a0] w fun e w'=>e=.returned (.int .i64 r)∧Drawn0 w w':=by
 have H:=h;clear h;unfold rf04_value.f at H;have H':=sd H;clear H;go_enter Tryd.func112,Tryd.ntmps112
 go_wp2
 go_loopg [3,4] k (fun kq v3 v4 w'=>∃ (x3_1:Int) (x4_1:Int),v3=.int .i64 x3_1∧v4=.int .i64 x4_1∧Aside0 (rf04_value.l0 kq a0 x3_1 x4_1=some r)∧Aside0 (kq≤k)∧Drawn0 w w')
 case atStart=>exact ⟨(0),(0),zq1,zq1,H',⟨Nat.le_refl _⟩,zq2⟩
 case round =>
  clear H';try clear c1
  obtain ⟨x3_1,x4_1,rfl,rfl,HA,HK1,⟨m1,rfl⟩⟩:=hrel
  cases gk with
  | zero=>exact absurd HA.out (by simp [rf04_value.l0])
  | succ k1 =>
   have H:=HA.out;clear HA;simp only [rf04_value.l0] at H
   replace H:=ifI H;rcases H with ⟨c2,H⟩ | ⟨c2,H⟩
   ·have c2b0:decide (x4_1 < (a0.size:Int))=true:=decide_eq_true c2;clear c2;replace H:=ifI H;rcases H with ⟨c3,H⟩ | ⟨c3,H⟩
    ·have c3b0:decide (0≤x4_1)=true:=decide_eq_true c3;clear c3;have H':=sd H;clear H;have p4:0≤(x4_1:Int):=od;have q4:x4_1 < (a0.size:Int):=od;have hx4:=bt_at a0 x4_1;replace p4:=eq_true p4;replace q4:=eq_true q4;go_wp2
     go_roundg k1
     case measure=>have:=HK1.out;omega
     case rel=>exact ⟨(wrap64 ((wrap64 (x3_1 * 10))+(((bt a0 x4_1) - 48) % 256))),(wrap64 (x4_1+1)),zq1,zq1,H',⟨by have:=HK1.out;omega⟩,zq2⟩
    exact absurd H (by simp)
   have c2b0:decide (x4_1 < (a0.size:Int))=false:=decide_eq_false c2;clear c2;obtain rfl:=Option.some.inj H;go_wp2
   go_ret
   exact ⟨zq1,zq2⟩
def rf04_Parse.T3:Bool×List (List Nat×List Nat):=(true,[([],[]),([0],[0]),([1],[1]),([],[]),([3],[3]),([4,2],[4]),([],[]),([6],[6]),([7,5],[7]),([2,5,8],[2,5,8]),([9,8],[9]),([10],[10]),([10],[10]),([11,10,0,1,2,3,4,5,6,7,8,9,10,11,12],[11]),([12,13,0,1,2,3,4,5,6,7,8,9,10,11,12,13],[12])])
def rf04_Parse.B3:List Nat:=[0,1,3,0,8,31,0,64,255,511,1023,2047,2047,8191,16383]
theorem rf04_Parse.tab3:rtab .any (opsOf Tryd.f98 3)=rf04_Parse.T3:=by kernel_rfl
theorem rf04_Parse.bits3:waitsOk rf04_Parse.T3.2 rf04_Parse.B3=true:=by kernel_rfl
end Go.Proofs.YtmlcdpfcafmmcaaDoor.A
namespace Go.Proofs.YtmlcdpfcafmmcaaDoor.A
open Go.RowKit B WW WL WM
theorem zq53 {P:Prop} (h:P:=by first | rfl | (simp;done) | (simp only [← hji10] <;> (first | rfl | simp)) | (simp [*];done)):P:=h
end Go.Proofs.YtmlcdpfcafmmcaaDoor.A
namespace Go.Proofs.YtmlcdpfcafmmcaaDoor.A
open Go.RowKit B WW WL WM
attribute [local go_sem] max2_int min2_int max_two min_two max_three min_three max_four min_four
set_option maxHeartbeats 8000000
set_option maxRecDepth 100000
theorem rf47_shaped.calls (k:Nat) (A0:Option Addr) (c0:Nat) (l0:List (S93)) (a1 a2:ByteArray) (r:Bool) (w:World) (hr0:Kd.C k93 w A0 l0.length l0) (hc0:l0.length≤c0) (h:rf47_shaped.f k l0 a1 a2=some r) :
  Calls Tryd.prog 72 #[.slice A0 l0.length c0,.string a1,.string a2] w fun e w'=>e=.returned (.bool r)∧Drawn0 w w':=by
 have HR0:=sd hr0;have HC0:=sd hc0;clear hr0 hc0;have H:=h;clear h;unfold rf47_shaped.f at H;have HC4:=sd H;clear H;go_enter Tryd.func72,Tryd.ntmps72
 go_upto_region 1 with (fail)
 go_cut [29] (fun v29 wc=>∃ (kq:Nat) (x29_3:Bool),v29=.bool x29_3∧Aside0 (rf47_shaped.j0 kq l0 a2 x29_3=some r)∧Aside0 (kq≤k)∧Drawn0 w wc)
 case first =>
  have H:=HC4.out;clear HC4;replace H:=ifI H;rcases H with ⟨c5,H⟩ | ⟨c5,H⟩
  ·obtain ⟨c5b0,c5b1⟩:=eqI c5;clear c5;(first | rw [c5b0] | (simp only [i64_w,i32_w];rw [c5b0]) | skip)
   replace H:=ifI H;rcases H with ⟨c6,H⟩ | ⟨c6,H⟩
   ·have c6b0:decide (0 < (l0.length:Int))=true:=decide_eq_true c6;have c6b1:decide (0 < l0.length)=true:=decide_eq_true (by omega);clear c6;replace H:=ifI H;rcases H with ⟨c7,H⟩ | ⟨c7,H⟩
    ·obtain ⟨c7b0,c7b1⟩:=eqI c7;clear c7;have H':=sd H;clear H;have p390:0≤(0:Int):=(by omega)
     have q390:0 < (l0.length:Int):=od;obtain ⟨ad390,e390,hx390_0,hx390_1,hx390_2⟩:=at_T93 HR0.out 0 p390 q390
     cases e390
     have qi390:(0 < l0.length)=True:=eq_true (by omega);(try rw [show ((0:Int)).toNat=0 from rfl] at hx390_0)
     (try rw [show 0 * 3=0 from rfl] at hx390_0)
     (try rw [Addr.add_zero'] at hx390_0)
     (try rw [show ((0:Int)).toNat=0 from rfl] at hx390_1)
     (try rw [show 0 * 3=0 from rfl] at hx390_1)
     (try rw [Addr.add_zero'] at hx390_1)
     (try rw [show ((0:Int)).toNat=0 from rfl] at hx390_2)
     (try rw [show 0 * 3=0 from rfl] at hx390_2)
     (try rw [Addr.add_zero'] at hx390_2)
     replace p390:=eq_true p390;replace q390:=eq_true q390;have p391:0≤(0:Int):=(by omega)
     have q391:0 < (l0.length:Int):=od;obtain ⟨ad391,e391,hx391_0,hx391_1,hx391_2⟩:=at_T93 HR0.out 0 p391 q391;obtain rfl:ad390=ad391:=(by injection e391)
     have qi391:(0 < l0.length)=True:=eq_true (by omega);(try rw [show ((0:Int)).toNat=0 from rfl] at hx391_0)
     (try rw [show 0 * 3=0 from rfl] at hx391_0)
     (try rw [Addr.add_zero'] at hx391_0)
     (try rw [show ((0:Int)).toNat=0 from rfl] at hx391_1)
     (try rw [show 0 * 3=0 from rfl] at hx391_1)
     (try rw [Addr.add_zero'] at hx391_1)
     (try rw [show ((0:Int)).toNat=0 from rfl] at hx391_2)
     (try rw [show 0 * 3=0 from rfl] at hx391_2)
     (try rw [Addr.add_zero'] at hx391_2)
     replace p391:=eq_true p391;replace q391:=eq_true q391;go_wp2
     go_meet
     case rel=>exact ⟨_,((((rd_T93 l0 0).f1).toList != a1.toList)),zq1,H',⟨by first | omega | exact Nat.le_refl _⟩,zq2⟩
    obtain ⟨c7b0,c7b1⟩:=neI c7;have H':=sd H;clear H;have p390:0≤(0:Int):=(by omega)
    have q390:0 < (l0.length:Int):=od;obtain ⟨ad390,e390,hx390_0,hx390_1,hx390_2⟩:=at_T93 HR0.out 0 p390 q390
    cases e390
    have qi390:(0 < l0.length)=True:=eq_true (by omega);(try rw [show ((0:Int)).toNat=0 from rfl] at hx390_0)
    (try rw [show 0 * 3=0 from rfl] at hx390_0)
    (try rw [Addr.add_zero'] at hx390_0)
    (try rw [show ((0:Int)).toNat=0 from rfl] at hx390_1)
    (try rw [show 0 * 3=0 from rfl] at hx390_1)
    (try rw [Addr.add_zero'] at hx390_1)
    (try rw [show ((0:Int)).toNat=0 from rfl] at hx390_2)
    (try rw [show 0 * 3=0 from rfl] at hx390_2)
    (try rw [Addr.add_zero'] at hx390_2)
    replace p390:=eq_true p390;replace q390:=eq_true q390;go_wp2
    go_meet
    case rel=>exact ⟨_,(true),zq1,H',⟨by first | omega | exact Nat.le_refl _⟩,zq2⟩
   exact absurd H (by simp)
  obtain ⟨c5b0,c5b1⟩:=neI c5;(first | rw [c5b0] | (simp only [i64_w,i32_w];rw [c5b0]) | skip)
  have H':=sd H;clear H;go_wp2
  go_meet
  case rel=>exact ⟨_,(true),zq1,H',⟨by first | omega | exact Nat.le_refl _⟩,zq2⟩
 case rest =>
  clear HC4;try clear p2
  try clear p3
  try clear q3
  try clear hx3
  try clear qi3
  try clear c5
  try clear c5b0
  try clear c5b1
  try clear c6
  try clear c6b0
  try clear c6b1
  try clear p6
  try clear c7
  try clear c7b0
  try clear c7b1
  try clear hx390_0
  try clear hx390_1
  try clear hx390_2
  try clear hx391_0
  try clear hx391_1
  try clear hx391_2
  try clear p390
  try clear p391
  try clear q390
  try clear q391
  obtain ⟨kq,x29_3,rfl,HA,HJ3,⟨mc3,rfl⟩⟩:=hcut
  cases kq with
  | zero=>exact absurd HA.out (by simp [rf47_shaped.j0])
  | succ kj3 =>
   have H:=HA.out;clear HA;simp only [rf47_shaped.j0] at H
   by_cases c8:x29_3=true
   ·subst c8;rw [if_pos rfl] at H;obtain rfl:=Option.some.inj H;go_wp2
    go_ret
    exact ⟨zq1,zq2⟩
   replace c8:=Bool.eq_false_iff.mpr c8;subst c8;rw [if_neg Bool.false_ne_true] at H;have H':=sd H;clear H;go_wp2
   go_loopg [7] kj3 (fun kq v7 w'=>∃ (x7_2:Int),v7=.int .i64 x7_2∧Aside0 (rf47_shaped.l0 kq l0 a2 x7_2=some r)∧Aside0 (kq≤kj3)∧Drawn0 w w')
   case atStart=>exact ⟨(0),zq1,H',⟨Nat.le_refl _⟩,zq2⟩
   case round =>
    clear H';try clear p2
    try clear c3
    try clear p3
    try clear q3
    try clear hx3
    try clear qi3
    try clear c5
    try clear c5b0
    try clear c5b1
    try clear c6
    try clear c6b0
    try clear c6b1
    try clear p6
    try clear c7
    try clear c7b0
    try clear c7b1
    try clear c8
    try clear hx390_0
    try clear hx390_1
    try clear hx390_2
    try clear hx391_0
    try clear hx391_1
    try clear hx391_2
    try clear p2
    try clear p3
    try clear p390
    try clear p391
    try clear p6
    try clear q3
    try clear q390
    try clear q391
    obtain ⟨x7_2,rfl,HA,HK2,⟨m2,rfl⟩⟩:=hrel
    cases gk with
    | zero=>exact absurd HA.out (by simp [rf47_shaped.l0])
    | succ k2 =>
     have H:=HA.out;clear HA;simp only [rf47_shaped.l0] at H
     replace H:=ifI H;rcases H with ⟨c9,H⟩ | ⟨c9,H⟩
     ·have c9b0:decide (x7_2 < (a2.size:Int))=true:=decide_eq_true c9;clear c9;obtain ⟨ji10,hji10⟩:∃ j_:Int,(wrap64 (x7_2+1))=j_:=⟨_,rfl⟩
      replace H:(if 0≤(ji10) then (if (ji10) < (l0.length:Int) then (if 0≤x7_2 then (if (bt a2 x7_2)=99 then (if ((rd_T93 l0 (ji10)).f0)=1 then (if (bt a2 x7_2)=110 then (if ((rd_T93 l0 (ji10)).f0)=2 then (if (bt a2 x7_2)=116 then (if ((rd_T93 l0 (ji10)).f0)=3 then (rf47_shaped.l0 k2 l0 a2 ji10) else (some false)) else (rf47_shaped.l0 k2 l0 a2 ji10)) else (some false)) else (if (bt a2 x7_2)=116 then (if ((rd_T93 l0 (ji10)).f0)=3 then (rf47_shaped.l0 k2 l0 a2 ji10) else (some false)) else (rf47_shaped.l0 k2 l0 a2 ji10))) else (if ((rd_T93 l0 (ji10)).f0)=2 then (if (bt a2 x7_2)=110 then (if (bt a2 x7_2)=116 then (if ((rd_T93 l0 (ji10)).f0)=3 then (rf47_shaped.l0 k2 l0 a2 ji10) else (some false)) else (rf47_shaped.l0 k2 l0 a2 ji10)) else (if (bt a2 x7_2)=116 then (if ((rd_T93 l0 (ji10)).f0)=3 then (rf47_shaped.l0 k2 l0 a2 ji10) else (some false)) else (rf47_shaped.l0 k2 l0 a2 ji10))) else (some false))) else (if (bt a2 x7_2)=110 then (if ((rd_T93 l0 (ji10)).f0)=2 then (if (bt a2 x7_2)=116 then (if ((rd_T93 l0 (ji10)).f0)=3 then (rf47_shaped.l0 k2 l0 a2 ji10) else (some false)) else (rf47_shaped.l0 k2 l0 a2 ji10)) else (some false)) else (if (bt a2 x7_2)=116 then (if ((rd_T93 l0 (ji10)).f0)=3 then (rf47_shaped.l0 k2 l0 a2 ji10) else (some false)) else (rf47_shaped.l0 k2 l0 a2 ji10)))) else (none)) else (none)) else (none))=some r:=by first | (rw [hji10] at H;exact H) | (simp only [hji10] at H ⊢;exact H)
      have hji10w:(IntKind.i64.wrap (x7_2+1))=ji10:=(i64_w _).trans hji10;replace H:=ifI H;rcases H with ⟨c11,H⟩ | ⟨c11,H⟩
      ·have c11b0:decide (0≤(ji10))=true:=decide_eq_true c11;clear c11;replace H:=ifI H;rcases H with ⟨c12,H⟩ | ⟨c12,H⟩
       ·have c12b0:decide ((ji10) < (l0.length:Int))=true:=decide_eq_true c12;clear c12;replace H:=ifI H;rcases H with ⟨c13,H⟩ | ⟨c13,H⟩
        ·have c13b0:decide (0≤x7_2)=true:=decide_eq_true c13;clear c13;replace H:=ifI H;rcases H with ⟨c15,H⟩ | ⟨c15,H⟩
         ·obtain ⟨c15b0,c15b1⟩:=eqI c15;clear c15;replace H:=ifI H;rcases H with ⟨c16,H⟩ | ⟨c16,H⟩
          ·obtain ⟨c16b0,c16b1⟩:=eqI c16;clear c16;replace H:=ifI H;rcases H with ⟨c18,H⟩ | ⟨c18,H⟩
           ·obtain ⟨c18b0,c18b1⟩:=eqI c18;clear c18;replace H:=ifI H;rcases H with ⟨c19,H⟩ | ⟨c19,H⟩
            ·obtain ⟨c19b0,c19b1⟩:=eqI c19;clear c19;replace H:=ifI H;rcases H with ⟨c21,H⟩ | ⟨c21,H⟩
             ·obtain ⟨c21b0,c21b1⟩:=eqI c21;clear c21;replace H:=ifI H;rcases H with ⟨c22,H⟩ | ⟨c22,H⟩
              ·obtain ⟨c22b0,c22b1⟩:=eqI c22;clear c22;have H':=sd H;clear H;have p392:0≤((ji10):Int):=od;have q392:(ji10) < (l0.length:Int):=od;obtain ⟨ad392,e392,hx392_0,hx392_1,hx392_2⟩:=at_T93 HR0.out (ji10) p392 q392
               cases e392
               replace p392:=eq_true p392;replace q392:=eq_true q392;have p14:0≤(x7_2:Int):=od;have q14:x7_2 < (a2.size:Int):=od;have hx14:=bt_at a2 x7_2;replace p14:=eq_true p14;replace q14:=eq_true q14;have p17:0≤(x7_2:Int):=od;have q17:x7_2 < (a2.size:Int):=od;have hx17:=bt_at a2 x7_2;replace p17:=eq_true p17;replace q17:=eq_true q17;have p20:0≤(x7_2:Int):=od;have q20:x7_2 < (a2.size:Int):=od;have hx20:=bt_at a2 x7_2;replace p20:=eq_true p20;replace q20:=eq_true q20;go_wp2
               go_roundg k2
               case measure=>have:=HJ3.out;have:=HK2.out;omega
               case rel=>exact ⟨(ji10),zq53,H',⟨zq54⟩,zq2⟩
              obtain ⟨c22b0,c22b1⟩:=neI c22;obtain rfl:=Option.some.inj H;have p392:0≤((ji10):Int):=od;have q392:(ji10) < (l0.length:Int):=od;obtain ⟨ad392,e392,hx392_0,hx392_1,hx392_2⟩:=at_T93 HR0.out (ji10) p392 q392
              cases e392
              replace p392:=eq_true p392;replace q392:=eq_true q392;have p14:0≤(x7_2:Int):=od;have q14:x7_2 < (a2.size:Int):=od;have hx14:=bt_at a2 x7_2;replace p14:=eq_true p14;replace q14:=eq_true q14;have p17:0≤(x7_2:Int):=od;have q17:x7_2 < (a2.size:Int):=od;have hx17:=bt_at a2 x7_2;replace p17:=eq_true p17;replace q17:=eq_true q17;have p20:0≤(x7_2:Int):=od;have q20:x7_2 < (a2.size:Int):=od;have hx20:=bt_at a2 x7_2;replace p20:=eq_true p20;replace q20:=eq_true q20;go_wp2
              go_ret
              exact ⟨zq53,zq2⟩
             obtain ⟨c21b0,c21b1⟩:=neI c21;have H':=sd H;clear H;have p392:0≤((ji10):Int):=od;have q392:(ji10) < (l0.length:Int):=od;obtain ⟨ad392,e392,hx392_0,hx392_1,hx392_2⟩:=at_T93 HR0.out (ji10) p392 q392
             cases e392
             replace p392:=eq_true p392;replace q392:=eq_true q392;have p14:0≤(x7_2:Int):=od;have q14:x7_2 < (a2.size:Int):=od;have hx14:=bt_at a2 x7_2;replace p14:=eq_true p14;replace q14:=eq_true q14;have p17:0≤(x7_2:Int):=od;have q17:x7_2 < (a2.size:Int):=od;have hx17:=bt_at a2 x7_2;replace p17:=eq_true p17;replace q17:=eq_true q17;have p20:0≤(x7_2:Int):=od;have q20:x7_2 < (a2.size:Int):=od;have hx20:=bt_at a2 x7_2;replace p20:=eq_true p20;replace q20:=eq_true q20;go_wp2
             go_roundg k2
             case measure=>have:=HJ3.out;have:=HK2.out;omega
             case rel=>exact ⟨(ji10),zq53,H',⟨zq54⟩,zq2⟩
            obtain ⟨c19b0,c19b1⟩:=neI c19;obtain rfl:=Option.some.inj H;have p392:0≤((ji10):Int):=od;have q392:(ji10) < (l0.length:Int):=od;obtain ⟨ad392,e392,hx392_0,hx392_1,hx392_2⟩:=at_T93 HR0.out (ji10) p392 q392
            cases e392
            replace p392:=eq_true p392;replace q392:=eq_true q392;have p14:0≤(x7_2:Int):=od;have q14:x7_2 < (a2.size:Int):=od;have hx14:=bt_at a2 x7_2;replace p14:=eq_true p14;replace q14:=eq_true q14;have p17:0≤(x7_2:Int):=od;have q17:x7_2 < (a2.size:Int):=od;have hx17:=bt_at a2 x7_2;replace p17:=eq_true p17;replace q17:=eq_true q17;go_wp2
            go_ret
            exact ⟨zq53,zq2⟩
           obtain ⟨c18b0,c18b1⟩:=neI c18;replace H:=ifI H;rcases H with ⟨c24,H⟩ | ⟨c24,H⟩
           ·obtain ⟨c24b0,c24b1⟩:=eqI c24;clear c24;replace H:=ifI H;rcases H with ⟨c25,H⟩ | ⟨c25,H⟩
            ·obtain ⟨c25b0,c25b1⟩:=eqI c25;clear c25;have H':=sd H;clear H;have p392:0≤((ji10):Int):=od;have q392:(ji10) < (l0.length:Int):=od;obtain ⟨ad392,e392,hx392_0,hx392_1,hx392_2⟩:=at_T93 HR0.out (ji10) p392 q392
             cases e392
             replace p392:=eq_true p392;replace q392:=eq_true q392;have p14:0≤(x7_2:Int):=od;have q14:x7_2 < (a2.size:Int):=od;have hx14:=bt_at a2 x7_2;replace p14:=eq_true p14;replace q14:=eq_true q14;have p17:0≤(x7_2:Int):=od;have q17:x7_2 < (a2.size:Int):=od;have hx17:=bt_at a2 x7_2;replace p17:=eq_true p17;replace q17:=eq_true q17;have p23:0≤(x7_2:Int):=od;have q23:x7_2 < (a2.size:Int):=od;have hx23:=bt_at a2 x7_2;replace p23:=eq_true p23;replace q23:=eq_true q23;go_wp2
             go_roundg k2
             case measure=>have:=HJ3.out;have:=HK2.out;omega
             case rel=>exact ⟨(ji10),zq53,H',⟨zq54⟩,zq2⟩
            obtain ⟨c25b0,c25b1⟩:=neI c25;obtain rfl:=Option.some.inj H;have p392:0≤((ji10):Int):=od;have q392:(ji10) < (l0.length:Int):=od;obtain ⟨ad392,e392,hx392_0,hx392_1,hx392_2⟩:=at_T93 HR0.out (ji10) p392 q392
            cases e392
            replace p392:=eq_true p392;replace q392:=eq_true q392;have p14:0≤(x7_2:Int):=od;have q14:x7_2 < (a2.size:Int):=od;have hx14:=bt_at a2 x7_2;replace p14:=eq_true p14;replace q14:=eq_true q14;have p17:0≤(x7_2:Int):=od;have q17:x7_2 < (a2.size:Int):=od;have hx17:=bt_at a2 x7_2;replace p17:=eq_true p17;replace q17:=eq_true q17;have p23:0≤(x7_2:Int):=od;have q23:x7_2 < (a2.size:Int):=od;have hx23:=bt_at a2 x7_2;replace p23:=eq_true p23;replace q23:=eq_true q23;go_wp2
            go_ret
            exact ⟨zq53,zq2⟩
           obtain ⟨c24b0,c24b1⟩:=neI c24;have H':=sd H;clear H;have p392:0≤((ji10):Int):=od;have q392:(ji10) < (l0.length:Int):=od;obtain ⟨ad392,e392,hx392_0,hx392_1,hx392_2⟩:=at_T93 HR0.out (ji10) p392 q392
           cases e392
           replace p392:=eq_true p392;replace q392:=eq_true q392;have p14:0≤(x7_2:Int):=od;have q14:x7_2 < (a2.size:Int):=od;have hx14:=bt_at a2 x7_2;replace p14:=eq_true p14;replace q14:=eq_true q14;have p17:0≤(x7_2:Int):=od;have q17:x7_2 < (a2.size:Int):=od;have hx17:=bt_at a2 x7_2;replace p17:=eq_true p17;replace q17:=eq_true q17;have p23:0≤(x7_2:Int):=od;have q23:x7_2 < (a2.size:Int):=od;have hx23:=bt_at a2 x7_2;replace p23:=eq_true p23;replace q23:=eq_true q23;go_wp2
           go_roundg k2
           case measure=>have:=HJ3.out;have:=HK2.out;omega
           case rel=>exact ⟨(ji10),zq53,H',⟨zq54⟩,zq2⟩
          obtain ⟨c16b0,c16b1⟩:=neI c16;replace H:=ifI H;rcases H with ⟨c26,H⟩ | ⟨c26,H⟩
          ·obtain ⟨c26b0,c26b1⟩:=eqI c26;clear c26;replace H:=ifI H;rcases H with ⟨c28,H⟩ | ⟨c28,H⟩
           ·obtain ⟨c28b0,c28b1⟩:=eqI c28;clear c28;replace H:=ifI H;rcases H with ⟨c30,H⟩ | ⟨c30,H⟩
            ·obtain ⟨c30b0,c30b1⟩:=eqI c30;clear c30;replace H:=ifI H;rcases H with ⟨c31,H⟩ | ⟨c31,H⟩
             ·obtain ⟨c31b0,c31b1⟩:=eqI c31;clear c31;have H':=sd H;clear H;have p392:0≤((ji10):Int):=od;have q392:(ji10) < (l0.length:Int):=od;obtain ⟨ad392,e392,hx392_0,hx392_1,hx392_2⟩:=at_T93 HR0.out (ji10) p392 q392
              cases e392
              replace p392:=eq_true p392;replace q392:=eq_true q392;have p14:0≤(x7_2:Int):=od;have q14:x7_2 < (a2.size:Int):=od;have hx14:=bt_at a2 x7_2;replace p14:=eq_true p14;replace q14:=eq_true q14;have p27:0≤(x7_2:Int):=od;have q27:x7_2 < (a2.size:Int):=od;have hx27:=bt_at a2 x7_2;replace p27:=eq_true p27;replace q27:=eq_true q27;have p29:0≤(x7_2:Int):=od;have q29:x7_2 < (a2.size:Int):=od;have hx29:=bt_at a2 x7_2;replace p29:=eq_true p29;replace q29:=eq_true q29;go_wp2
              go_roundg k2
              case measure=>have:=HJ3.out;have:=HK2.out;omega
              case rel=>exact ⟨(ji10),zq53,H',⟨zq54⟩,zq2⟩
             obtain ⟨c31b0,c31b1⟩:=neI c31;obtain rfl:=Option.some.inj H;have p392:0≤((ji10):Int):=od;have q392:(ji10) < (l0.length:Int):=od;obtain ⟨ad392,e392,hx392_0,hx392_1,hx392_2⟩:=at_T93 HR0.out (ji10) p392 q392
             cases e392
             replace p392:=eq_true p392;replace q392:=eq_true q392;have p14:0≤(x7_2:Int):=od;have q14:x7_2 < (a2.size:Int):=od;have hx14:=bt_at a2 x7_2;replace p14:=eq_true p14;replace q14:=eq_true q14;have p27:0≤(x7_2:Int):=od;have q27:x7_2 < (a2.size:Int):=od;have hx27:=bt_at a2 x7_2;replace p27:=eq_true p27;replace q27:=eq_true q27;have p29:0≤(x7_2:Int):=od;have q29:x7_2 < (a2.size:Int):=od;have hx29:=bt_at a2 x7_2;replace p29:=eq_true p29;replace q29:=eq_true q29;go_wp2
             go_ret
             exact ⟨zq53,zq2⟩
            obtain ⟨c30b0,c30b1⟩:=neI c30;have H':=sd H;clear H;have p392:0≤((ji10):Int):=od;have q392:(ji10) < (l0.length:Int):=od;obtain ⟨ad392,e392,hx392_0,hx392_1,hx392_2⟩:=at_T93 HR0.out (ji10) p392 q392
            cases e392
            replace p392:=eq_true p392;replace q392:=eq_true q392;have p14:0≤(x7_2:Int):=od;have q14:x7_2 < (a2.size:Int):=od;have hx14:=bt_at a2 x7_2;replace p14:=eq_true p14;replace q14:=eq_true q14;have p27:0≤(x7_2:Int):=od;have q27:x7_2 < (a2.size:Int):=od;have hx27:=bt_at a2 x7_2;replace p27:=eq_true p27;replace q27:=eq_true q27;have p29:0≤(x7_2:Int):=od;have q29:x7_2 < (a2.size:Int):=od;have hx29:=bt_at a2 x7_2;replace p29:=eq_true p29;replace q29:=eq_true q29;go_wp2
            go_roundg k2
            case measure=>have:=HJ3.out;have:=HK2.out;omega
            case rel=>exact ⟨(ji10),zq53,H',⟨zq54⟩,zq2⟩
           obtain ⟨c28b0,c28b1⟩:=neI c28;replace H:=ifI H;rcases H with ⟨c33,H⟩ | ⟨c33,H⟩
           ·obtain ⟨c33b0,c33b1⟩:=eqI c33;clear c33;replace H:=ifI H;rcases H with ⟨c34,H⟩ | ⟨c34,H⟩
            ·obtain ⟨c34b0,c34b1⟩:=eqI c34;clear c34;have H':=sd H;clear H;have p392:0≤((ji10):Int):=od;have q392:(ji10) < (l0.length:Int):=od;obtain ⟨ad392,e392,hx392_0,hx392_1,hx392_2⟩:=at_T93 HR0.out (ji10) p392 q392
             cases e392
             replace p392:=eq_true p392;replace q392:=eq_true q392;have p14:0≤(x7_2:Int):=od;have q14:x7_2 < (a2.size:Int):=od;have hx14:=bt_at a2 x7_2;replace p14:=eq_true p14;replace q14:=eq_true q14;have p27:0≤(x7_2:Int):=od;have q27:x7_2 < (a2.size:Int):=od;have hx27:=bt_at a2 x7_2;replace p27:=eq_true p27;replace q27:=eq_true q27;have p32:0≤(x7_2:Int):=od;have q32:x7_2 < (a2.size:Int):=od;have hx32:=bt_at a2 x7_2;replace p32:=eq_true p32;replace q32:=eq_true q32;go_wp2
             go_roundg k2
             case measure=>have:=HJ3.out;have:=HK2.out;omega
             case rel=>exact ⟨(ji10),zq53,H',⟨zq54⟩,zq2⟩
            obtain ⟨c34b0,c34b1⟩:=neI c34;obtain rfl:=Option.some.inj H;have p392:0≤((ji10):Int):=od;have q392:(ji10) < (l0.length:Int):=od;obtain ⟨ad392,e392,hx392_0,hx392_1,hx392_2⟩:=at_T93 HR0.out (ji10) p392 q392
            cases e392
            replace p392:=eq_true p392;replace q392:=eq_true q392;have p14:0≤(x7_2:Int):=od;have q14:x7_2 < (a2.size:Int):=od;have hx14:=bt_at a2 x7_2;replace p14:=eq_true p14;replace q14:=eq_true q14;have p27:0≤(x7_2:Int):=od;have q27:x7_2 < (a2.size:Int):=od;have hx27:=bt_at a2 x7_2;replace p27:=eq_true p27;replace q27:=eq_true q27;have p32:0≤(x7_2:Int):=od;have q32:x7_2 < (a2.size:Int):=od;have hx32:=bt_at a2 x7_2;replace p32:=eq_true p32;replace q32:=eq_true q32;go_wp2
            go_ret
            exact ⟨zq53,zq2⟩
           obtain ⟨c33b0,c33b1⟩:=neI c33;have H':=sd H;clear H;have p392:0≤((ji10):Int):=od;have q392:(ji10) < (l0.length:Int):=od;obtain ⟨ad392,e392,hx392_0,hx392_1,hx392_2⟩:=at_T93 HR0.out (ji10) p392 q392
           cases e392
           replace p392:=eq_true p392;replace q392:=eq_true q392;have p14:0≤(x7_2:Int):=od;have q14:x7_2 < (a2.size:Int):=od;have hx14:=bt_at a2 x7_2;replace p14:=eq_true p14;replace q14:=eq_true q14;have p27:0≤(x7_2:Int):=od;have q27:x7_2 < (a2.size:Int):=od;have hx27:=bt_at a2 x7_2;replace p27:=eq_true p27;replace q27:=eq_true q27;have p32:0≤(x7_2:Int):=od;have q32:x7_2 < (a2.size:Int):=od;have hx32:=bt_at a2 x7_2;replace p32:=eq_true p32;replace q32:=eq_true q32;go_wp2
           go_roundg k2
           case measure=>have:=HJ3.out;have:=HK2.out;omega
           case rel=>exact ⟨(ji10),zq53,H',⟨zq54⟩,zq2⟩
          obtain ⟨c26b0,c26b1⟩:=neI c26;obtain rfl:=Option.some.inj H;have p392:0≤((ji10):Int):=od;have q392:(ji10) < (l0.length:Int):=od;obtain ⟨ad392,e392,hx392_0,hx392_1,hx392_2⟩:=at_T93 HR0.out (ji10) p392 q392
          cases e392
          replace p392:=eq_true p392;replace q392:=eq_true q392;have p14:0≤(x7_2:Int):=od;have q14:x7_2 < (a2.size:Int):=od;have hx14:=bt_at a2 x7_2;replace p14:=eq_true p14;replace q14:=eq_true q14;go_wp2
          go_ret
          exact ⟨zq53,zq2⟩
         obtain ⟨c15b0,c15b1⟩:=neI c15;replace H:=ifI H;rcases H with ⟨c36,H⟩ | ⟨c36,H⟩
         ·obtain ⟨c36b0,c36b1⟩:=eqI c36;clear c36;replace H:=ifI H;rcases H with ⟨c37,H⟩ | ⟨c37,H⟩
          ·obtain ⟨c37b0,c37b1⟩:=eqI c37;clear c37;replace H:=ifI H;rcases H with ⟨c39,H⟩ | ⟨c39,H⟩
           ·obtain ⟨c39b0,c39b1⟩:=eqI c39;clear c39;replace H:=ifI H;rcases H with ⟨c40,H⟩ | ⟨c40,H⟩
            ·obtain ⟨c40b0,c40b1⟩:=eqI c40;clear c40;have H':=sd H;clear H;have p392:0≤((ji10):Int):=od;have q392:(ji10) < (l0.length:Int):=od;obtain ⟨ad392,e392,hx392_0,hx392_1,hx392_2⟩:=at_T93 HR0.out (ji10) p392 q392
             cases e392
             replace p392:=eq_true p392;replace q392:=eq_true q392;have p14:0≤(x7_2:Int):=od;have q14:x7_2 < (a2.size:Int):=od;have hx14:=bt_at a2 x7_2;replace p14:=eq_true p14;replace q14:=eq_true q14;have p35:0≤(x7_2:Int):=od;have q35:x7_2 < (a2.size:Int):=od;have hx35:=bt_at a2 x7_2;replace p35:=eq_true p35;replace q35:=eq_true q35;have p38:0≤(x7_2:Int):=od;have q38:x7_2 < (a2.size:Int):=od;have hx38:=bt_at a2 x7_2;replace p38:=eq_true p38;replace q38:=eq_true q38;go_wp2
             go_roundg k2
             case measure=>have:=HJ3.out;have:=HK2.out;omega
             case rel=>exact ⟨(ji10),zq53,H',⟨zq54⟩,zq2⟩
            obtain ⟨c40b0,c40b1⟩:=neI c40;obtain rfl:=Option.some.inj H;have p392:0≤((ji10):Int):=od;have q392:(ji10) < (l0.length:Int):=od;obtain ⟨ad392,e392,hx392_0,hx392_1,hx392_2⟩:=at_T93 HR0.out (ji10) p392 q392
            cases e392
            replace p392:=eq_true p392;replace q392:=eq_true q392;have p14:0≤(x7_2:Int):=od;have q14:x7_2 < (a2.size:Int):=od;have hx14:=bt_at a2 x7_2;replace p14:=eq_true p14;replace q14:=eq_true q14;have p35:0≤(x7_2:Int):=od;have q35:x7_2 < (a2.size:Int):=od;have hx35:=bt_at a2 x7_2;replace p35:=eq_true p35;replace q35:=eq_true q35;have p38:0≤(x7_2:Int):=od;have q38:x7_2 < (a2.size:Int):=od;have hx38:=bt_at a2 x7_2;replace p38:=eq_true p38;replace q38:=eq_true q38;go_wp2
            go_ret
            exact ⟨zq53,zq2⟩
           obtain ⟨c39b0,c39b1⟩:=neI c39;have H':=sd H;clear H;have p392:0≤((ji10):Int):=od;have q392:(ji10) < (l0.length:Int):=od;obtain ⟨ad392,e392,hx392_0,hx392_1,hx392_2⟩:=at_T93 HR0.out (ji10) p392 q392
           cases e392
           replace p392:=eq_true p392;replace q392:=eq_true q392;have p14:0≤(x7_2:Int):=od;have q14:x7_2 < (a2.size:Int):=od;have hx14:=bt_at a2 x7_2;replace p14:=eq_true p14;replace q14:=eq_true q14;have p35:0≤(x7_2:Int):=od;have q35:x7_2 < (a2.size:Int):=od;have hx35:=bt_at a2 x7_2;replace p35:=eq_true p35;replace q35:=eq_true q35;have p38:0≤(x7_2:Int):=od;have q38:x7_2 < (a2.size:Int):=od;have hx38:=bt_at a2 x7_2;replace p38:=eq_true p38;replace q38:=eq_true q38;go_wp2
           go_roundg k2
           case measure=>have:=HJ3.out;have:=HK2.out;omega
           case rel=>exact ⟨(ji10),zq53,H',⟨zq54⟩,zq2⟩
          obtain ⟨c37b0,c37b1⟩:=neI c37;obtain rfl:=Option.some.inj H;have p392:0≤((ji10):Int):=od;have q392:(ji10) < (l0.length:Int):=od;obtain ⟨ad392,e392,hx392_0,hx392_1,hx392_2⟩:=at_T93 HR0.out (ji10) p392 q392
          cases e392
          replace p392:=eq_true p392;replace q392:=eq_true q392;have p14:0≤(x7_2:Int):=od;have q14:x7_2 < (a2.size:Int):=od;have hx14:=bt_at a2 x7_2;replace p14:=eq_true p14;replace q14:=eq_true q14;have p35:0≤(x7_2:Int):=od;have q35:x7_2 < (a2.size:Int):=od;have hx35:=bt_at a2 x7_2;replace p35:=eq_true p35;replace q35:=eq_true q35;go_wp2
          go_ret
          exact ⟨zq53,zq2⟩
         obtain ⟨c36b0,c36b1⟩:=neI c36;replace H:=ifI H;rcases H with ⟨c42,H⟩ | ⟨c42,H⟩
         ·obtain ⟨c42b0,c42b1⟩:=eqI c42;clear c42;replace H:=ifI H;rcases H with ⟨c43,H⟩ | ⟨c43,H⟩
          ·obtain ⟨c43b0,c43b1⟩:=eqI c43;clear c43;have H':=sd H;clear H;have p392:0≤((ji10):Int):=od;have q392:(ji10) < (l0.length:Int):=od;obtain ⟨ad392,e392,hx392_0,hx392_1,hx392_2⟩:=at_T93 HR0.out (ji10) p392 q392
           cases e392
           replace p392:=eq_true p392;replace q392:=eq_true q392;have p14:0≤(x7_2:Int):=od;have q14:x7_2 < (a2.size:Int):=od;have hx14:=bt_at a2 x7_2;replace p14:=eq_true p14;replace q14:=eq_true q14;have p35:0≤(x7_2:Int):=od;have q35:x7_2 < (a2.size:Int):=od;have hx35:=bt_at a2 x7_2;replace p35:=eq_true p35;replace q35:=eq_true q35;have p41:0≤(x7_2:Int):=od;have q41:x7_2 < (a2.size:Int):=od;have hx41:=bt_at a2 x7_2;replace p41:=eq_true p41;replace q41:=eq_true q41;go_wp2
           go_roundg k2
           case measure=>have:=HJ3.out;have:=HK2.out;omega
           case rel=>exact ⟨(ji10),zq53,H',⟨zq54⟩,zq2⟩
          obtain ⟨c43b0,c43b1⟩:=neI c43;obtain rfl:=Option.some.inj H;have p392:0≤((ji10):Int):=od;have q392:(ji10) < (l0.length:Int):=od;obtain ⟨ad392,e392,hx392_0,hx392_1,hx392_2⟩:=at_T93 HR0.out (ji10) p392 q392
          cases e392
          replace p392:=eq_true p392;replace q392:=eq_true q392;have p14:0≤(x7_2:Int):=od;have q14:x7_2 < (a2.size:Int):=od;have hx14:=bt_at a2 x7_2;replace p14:=eq_true p14;replace q14:=eq_true q14;have p35:0≤(x7_2:Int):=od;have q35:x7_2 < (a2.size:Int):=od;have hx35:=bt_at a2 x7_2;replace p35:=eq_true p35;replace q35:=eq_true q35;have p41:0≤(x7_2:Int):=od;have q41:x7_2 < (a2.size:Int):=od;have hx41:=bt_at a2 x7_2;replace p41:=eq_true p41;replace q41:=eq_true q41;go_wp2
          go_ret
          exact ⟨zq53,zq2⟩
         obtain ⟨c42b0,c42b1⟩:=neI c42;have H':=sd H;clear H;have p392:0≤((ji10):Int):=od;have q392:(ji10) < (l0.length:Int):=od;obtain ⟨ad392,e392,hx392_0,hx392_1,hx392_2⟩:=at_T93 HR0.out (ji10) p392 q392
         cases e392
         replace p392:=eq_true p392;replace q392:=eq_true q392;have p14:0≤(x7_2:Int):=od;have q14:x7_2 < (a2.size:Int):=od;have hx14:=bt_at a2 x7_2;replace p14:=eq_true p14;replace q14:=eq_true q14;have p35:0≤(x7_2:Int):=od;have q35:x7_2 < (a2.size:Int):=od;have hx35:=bt_at a2 x7_2;replace p35:=eq_true p35;replace q35:=eq_true q35;have p41:0≤(x7_2:Int):=od;have q41:x7_2 < (a2.size:Int):=od;have hx41:=bt_at a2 x7_2;replace p41:=eq_true p41;replace q41:=eq_true q41;go_wp2
         go_roundg k2
         case measure=>have:=HJ3.out;have:=HK2.out;omega
         case rel=>exact ⟨(ji10),zq53,H',⟨zq54⟩,zq2⟩
        exact absurd H (by simp)
       exact absurd H (by simp)
      exact absurd H (by simp)
     have c9b0:decide (x7_2 < (a2.size:Int))=false:=decide_eq_false c9;clear c9;obtain rfl:=Option.some.inj H;go_wp2
     go_ret
     exact ⟨zq1,zq2⟩
end Go.Proofs.YtmlcdpfcafmmcaaDoor.A
