-- By pack.py, a program of this session's.
import Derived.Test.YtkbgkekegjfkfaaGreatDoorZ2
import Derived.Test.YtkbgkekegjfkfaaGreatDoorZ3
import Derived.Test.YtkbgkekegjfkfaaGreatDoorZ4
set_option linter.unusedVariables false
set_option linter.unusedSimpArgs false
namespace Go.Proofs.YtkbgkekegjfkfaaGreatDoor
namespace A
open Go.RowKit B WW WL WM
attribute [local go_sem] max2_int min2_int max_two min_two max_three min_three max_four min_four
set_option maxHeartbeats 8000000
set_option maxRecDepth 100000
def num_size.f (a0:Int):Option (Int):=if I64 a0 then some (a0.natAbs:Int) else none
theorem num_size.same (a0:Int) (hb:I64 a0) (w:World) :
  Calls Tryz.prog 100 #[.int .i64 a0] w fun e w'=>e=.returned (.int .u64 (a0.natAbs:Int))∧w=w':=by
 obtain ⟨h0,h1⟩:=hb;by_cases h:a0 < 0
 ·go_enter Tryz.func100,Tryz.ntmps100
  go_wp2
  go_ret
  exact ⟨ret_int (by rw [wu64,wu64];omega),rfl⟩
 go_enter Tryz.func100,Tryz.ntmps100
 go_wp2
 go_ret
 exact ⟨ret_int (by omega),rfl⟩
theorem num_size.calls (a0 r:Int) (w:World) (h:num_size.f a0=some r) :
  Calls Tryz.prog 100 #[.int .i64 a0] w fun e w'=>e=.returned (.int .u64 r)∧Drawn0 w w':=by
 unfold num_size.f at h;split at h <;> simp only [Option.some.injEq,reduceCtorEq] at h
 rename_i hb
 subst h;refine (num_size.same a0 hb w).mono ?_;rintro e w' ⟨rfl,rfl⟩;exact ⟨rfl,Drawn0.refl _⟩
def num_Text.f (a0:Int):Option (ByteArray):=if I64 a0 then some ⟨(Lib.itoa a0).toArray⟩ else none
def days_padded.f (a0:Int):Option (ByteArray):=if a0 < 10 then ((num_Text.f a0).bind fun t169=>(if 1+t169.size≤9223372036854775807 then (some ((⟨#[48]⟩:ByteArray)++t169)) else (none))) else ((num_Text.f a0).bind fun t170=>(some t170))
def days_Text.T4:Bool×List (List Nat×List Nat):=(true,[([],[]),([0],[0]),([1],[1]),([2],[2]),([],[]),([4],[4]),([5,2],[5]),([3,6],[3,6]),([7],[7]),([],[]),([9],[9]),([10,6],[10]),([8,11],[8,11]),([12,11,0,1,2,3,4,5,6,7,8,9,10,11,12],[12]),([13,0,1,2,3,4,5,6,7,8,9,10,11,12,13],[])])
def days_Text.B4:List Nat:=[0,1,3,7,0,16,55,127,255,0,512,1655,4095,8191,16383]
theorem days_Text.bits4:waitsOk days_Text.T4.2 days_Text.B4=true:=by kernel_rfl
def num_Add.f (a0:Int) (a1:Int):Option (Int×Bool):=if ((decide ((wrap64 (a0+a1)) > a0)) != (decide (a1 > 0)))=true then (if a1=0 then (some (wrap64 (a0+a1),true)) else (some (0,false))) else (some (wrap64 (a0+a1),true))
theorem num_Add.calls (a0 a1 r1:Int) (r2:Bool) (w:World) (h:num_Add.f a0 a1=some (r1,r2)) :
  Calls Tryz.prog 117 #[.int .i64 a0,.int .i64 a1] w fun e w'=>e=.returned (.tuple #[.int .i64 r1,.bool r2])∧Drawn0 w w':=by
 have H:=h;clear h;unfold num_Add.f at H;replace H:=ifI H;rcases H with ⟨c3,H⟩|⟨c3,H⟩
 ·have c3b0:((decide ((wrap64 (a0+a1)) > a0)) != (decide (a1 > 0)))=true:=c3;(try (have c3b1:decide ((decide ((wrap64 (a0+a1)) > a0))=(decide (a1 > 0)))=false:=by simpa using c3))
  (try (have c3b2:((decide ((wrap64 (a0+a1)) > a0)) == (decide (a1 > 0)))=false:=by simpa using c3))
  (try (have c3b3:¬ ((decide ((wrap64 (a0+a1)) > a0))=(decide (a1 > 0))):=by simpa using c3))
  clear c3;replace H:=ifI H;rcases H with ⟨c4,H⟩|⟨c4,H⟩
  ·obtain ⟨c4b0,c4b1⟩:=eqI c4;clear c4;simp only [Option.some.injEq,Prod.mk.injEq] at H
   obtain ⟨rfl,rfl⟩:=H;go_enter Tryz.func117,Tryz.ntmps117
   go_wp2
   go_ret2
   exact ⟨zq7,zq16⟩
  obtain ⟨c4b0,c4b1⟩:=neI c4;simp only [Option.some.injEq,Prod.mk.injEq] at H
  obtain ⟨rfl,rfl⟩:=H;go_enter Tryz.func117,Tryz.ntmps117
  go_wp2
  go_ret2
  exact ⟨zq7,zq16⟩
 have c3b0:((decide ((wrap64 (a0+a1)) > a0)) != (decide (a1 > 0)))=false:=by simpa using c3
 (try (have c3b1:decide ((decide ((wrap64 (a0+a1)) > a0))=(decide (a1 > 0)))=true:=by simpa using c3))
 (try (have c3b2:((decide ((wrap64 (a0+a1)) > a0)) == (decide (a1 > 0)))=true:=by simpa using c3))
 clear c3;simp only [Option.some.injEq,Prod.mk.injEq] at H
 obtain ⟨rfl,rfl⟩:=H;go_enter Tryz.func117,Tryz.ntmps117
 go_wp2
 go_ret2
 exact ⟨zq7,zq16⟩
def num_Sub.f (a0:Int) (a1:Int):Option (Int×Bool):=if ((decide ((wrap64 (a0 - a1)) < a0)) != (decide (a1 > 0)))=true then (if a1=0 then (some (wrap64 (a0 - a1),true)) else (some (0,false))) else (some (wrap64 (a0 - a1),true))
theorem num_Sub.calls (a0 a1 r1:Int) (r2:Bool) (w:World) (h:num_Sub.f a0 a1=some (r1,r2)) :
  Calls Tryz.prog 118 #[.int .i64 a0,.int .i64 a1] w fun e w'=>e=.returned (.tuple #[.int .i64 r1,.bool r2])∧Drawn0 w w':=by
 have H:=h;clear h;unfold num_Sub.f at H;replace H:=ifI H;rcases H with ⟨c3,H⟩|⟨c3,H⟩
 ·have c3b0:((decide ((wrap64 (a0 - a1)) < a0)) != (decide (a1 > 0)))=true:=c3;(try (have c3b1:decide ((decide ((wrap64 (a0 - a1)) < a0))=(decide (a1 > 0)))=false:=by simpa using c3))
  (try (have c3b2:((decide ((wrap64 (a0 - a1)) < a0)) == (decide (a1 > 0)))=false:=by simpa using c3))
  (try (have c3b3:¬ ((decide ((wrap64 (a0 - a1)) < a0))=(decide (a1 > 0))):=by simpa using c3))
  clear c3;replace H:=ifI H;rcases H with ⟨c4,H⟩|⟨c4,H⟩
  ·obtain ⟨c4b0,c4b1⟩:=eqI c4;clear c4;simp only [Option.some.injEq,Prod.mk.injEq] at H
   obtain ⟨rfl,rfl⟩:=H;go_enter Tryz.func118,Tryz.ntmps118
   go_wp2
   go_ret2
   exact ⟨zq7,zq16⟩
  obtain ⟨c4b0,c4b1⟩:=neI c4;simp only [Option.some.injEq,Prod.mk.injEq] at H
  obtain ⟨rfl,rfl⟩:=H;go_enter Tryz.func118,Tryz.ntmps118
  go_wp2
  go_ret2
  exact ⟨zq7,zq16⟩
 have c3b0:((decide ((wrap64 (a0 - a1)) < a0)) != (decide (a1 > 0)))=false:=by simpa using c3
 (try (have c3b1:decide ((decide ((wrap64 (a0 - a1)) < a0))=(decide (a1 > 0)))=true:=by simpa using c3))
 (try (have c3b2:((decide ((wrap64 (a0 - a1)) < a0)) == (decide (a1 > 0)))=true:=by simpa using c3))
 clear c3;simp only [Option.some.injEq,Prod.mk.injEq] at H
 obtain ⟨rfl,rfl⟩:=H;go_enter Tryz.func118,Tryz.ntmps118
 go_wp2
 go_ret2
 exact ⟨zq7,zq16⟩
def bits_Mul64.f (a0:Int) (a1:Int):Option (Int×Int):=if 0≤a0∧a0 < 18446744073709551616∧0≤a1∧a1 < 18446744073709551616 then some (a0 * a1 / 18446744073709551616,a0 * a1 % 18446744073709551616) else none
def num_Mul.f (a0:Int) (a1:Int):Option (Int×Bool):=if I64 a0∧I64 a1 then some (fit (a0 * a1)) else none
def days_number.l0:Nat→ByteArray→Int→Int→Int→Option (Int×Bool)
|0,_,_,_,_=>none
|k+1,x0,x2,x6,x7=>if x7 < x6 then (if 0≤x7 then (if x7 < (x0.size:Int) then (if (bt x0 x7) < 48 then (some (0,false)) else (if (bt x0 x7) > 57 then (some (0,false)) else (days_number.l0 k x0 (wrap64 ((wrap64 (10 * x2))+(((bt x0 x7) - 48) % 256))) x6 (wrap64 (x7+1))))) else (none)) else (none)) else (some (x2,true))
def days_number.f (k:Nat) (a0:ByteArray):Option (Int×Bool):=days_number.l0 k a0 0 (a0.size:Int) 0
theorem days_number.calls (k:Nat) (a0:ByteArray) (r1:Int) (r2:Bool) (w:World) (h:days_number.f k a0=some (r1,r2)) :
  Calls Tryz.prog 120 #[.string a0] w fun e w'=>e=.returned (.tuple #[.int .i64 r1,.bool r2])∧Drawn0 w w':=by
 have H:=h;clear h;unfold days_number.f at H;have H':=sd H;clear H;go_enter Tryz.func120,Tryz.ntmps120
 go_wp2
 go_loopg [2,7] k (fun kq v2 v7 w'=>∃ (x2_1:Int) (x7_1:Int),v2=.int .i64 x2_1∧v7=.int .i64 x7_1∧Aside0 (days_number.l0 kq a0 x2_1 (a0.size:Int) x7_1=some (r1,r2))∧Aside0 (kq≤k)∧Drawn0 w w')
 case atStart=>exact ⟨(0),(0),zq7,zq7,H',⟨Nat.le_refl _⟩,zq16⟩
 case round =>
  clear H';try clear c1
  obtain ⟨x2_1,x7_1,rfl,rfl,HA,HK1,⟨m1,rfl⟩⟩:=hrel
  cases gk with
 |zero=>exact absurd HA.out (by simp [days_number.l0])
 |succ k1 =>
   have H:=HA.out;clear HA;simp only [days_number.l0] at H
   replace H:=ifI H;rcases H with ⟨c2,H⟩|⟨c2,H⟩
   ·have c2b0:decide (x7_1 < (a0.size:Int))=true:=decide_eq_true c2;clear c2;replace H:=ifI H;rcases H with ⟨c3,H⟩|⟨c3,H⟩
    ·have c3b0:decide (0≤x7_1)=true:=decide_eq_true c3;clear c3;replace H:=ifI H;rcases H with ⟨c4,H⟩|⟨c4,H⟩
     ·have c4b0:decide (x7_1 < (a0.size:Int))=true:=decide_eq_true c4;clear c4;replace H:=ifI H;rcases H with ⟨c6,H⟩|⟨c6,H⟩
      ·have c6b0:decide ((bt a0 x7_1) < 48)=true:=decide_eq_true c6;clear c6;simp only [Option.some.injEq,Prod.mk.injEq] at H
       obtain ⟨rfl,rfl⟩:=H;have p5:0≤(x7_1:Int):=od;have q5:x7_1 < (a0.size:Int):=od;have hx5:=bt_at a0 x7_1;replace p5:=eq_true p5;replace q5:=eq_true q5;go_wp2
       go_ret2
       exact ⟨zq7,zq16⟩
      have c6b0:decide ((bt a0 x7_1) < 48)=false:=decide_eq_false c6;clear c6;replace H:=ifI H;rcases H with ⟨c8,H⟩|⟨c8,H⟩
      ·have c8b0:decide (57 < (bt a0 x7_1))=true:=decide_eq_true c8;clear c8;simp only [Option.some.injEq,Prod.mk.injEq] at H
       obtain ⟨rfl,rfl⟩:=H;have p5:0≤(x7_1:Int):=od;have q5:x7_1 < (a0.size:Int):=od;have hx5:=bt_at a0 x7_1;replace p5:=eq_true p5;replace q5:=eq_true q5;have p7:0≤(x7_1:Int):=od;have q7:x7_1 < (a0.size:Int):=od;have hx7:=bt_at a0 x7_1;replace p7:=eq_true p7;replace q7:=eq_true q7;go_wp2
       go_ret2
       exact ⟨zq7,zq16⟩
      have c8b0:decide (57 < (bt a0 x7_1))=false:=decide_eq_false c8;clear c8;have H':=sd H;clear H;have p5:0≤(x7_1:Int):=od;have q5:x7_1 < (a0.size:Int):=od;have hx5:=bt_at a0 x7_1;replace p5:=eq_true p5;replace q5:=eq_true q5;have p7:0≤(x7_1:Int):=od;have q7:x7_1 < (a0.size:Int):=od;have hx7:=bt_at a0 x7_1;replace p7:=eq_true p7;replace q7:=eq_true q7;have p9:0≤(x7_1:Int):=od;have q9:x7_1 < (a0.size:Int):=od;have hx9:=bt_at a0 x7_1;replace p9:=eq_true p9;replace q9:=eq_true q9;go_wp2
      go_roundg k1
      case measure=>have:=HK1.out;omega
      case rel=>exact ⟨(wrap64 ((wrap64 (10 * x2_1))+(((bt a0 x7_1) - 48) % 256))),(wrap64 (x7_1+1)),zq7,zq7,H',⟨by have:=HK1.out;omega⟩,zq16⟩
     exact absurd H (by simp)
    exact absurd H (by simp)
   have c2b0:decide (x7_1 < (a0.size:Int))=false:=decide_eq_false c2;clear c2;simp only [Option.some.injEq,Prod.mk.injEq] at H
   obtain ⟨rfl,rfl⟩:=H;go_wp2
   go_ret2
   exact ⟨zq7,zq16⟩
def rf01_Digits.l0:Nat→ByteArray→Int→Option (Bool)
|0,_,_=>none
|k+1,x0,x3=>if x3 < (x0.size:Int) then (if 0≤x3 then (if (bt x0 x3) < 48 then (some false) else (if (bt x0 x3) > 57 then (some false) else (rf01_Digits.l0 k x0 (wrap64 (x3+1))))) else (none)) else (some (x0.toList != ([]:List UInt8)))
def rf01_Digits.f (k:Nat) (a0:ByteArray):Option (Bool):=rf01_Digits.l0 k a0 0
theorem rf01_Digits.calls (k:Nat) (a0:ByteArray) (r:Bool) (w:World) (h:rf01_Digits.f k a0=some r) :
  Calls Tryz.prog 90 #[.string a0] w fun e w'=>e=.returned (.bool r)∧Drawn0 w w':=by
 have H:=h;clear h;unfold rf01_Digits.f at H;have H':=sd H;clear H;go_enter Tryz.func90,Tryz.ntmps90
 go_wp2
 go_loopg [3] k (fun kq v3 w'=>∃ (x3_1:Int),v3=.int .i64 x3_1∧Aside0 (rf01_Digits.l0 kq a0 x3_1=some r)∧Aside0 (kq≤k)∧Drawn0 w w')
 case atStart=>exact ⟨(0),zq7,H',⟨Nat.le_refl _⟩,zq16⟩
 case round =>
  clear H';obtain ⟨x3_1,rfl,HA,HK1,⟨m1,rfl⟩⟩:=hrel
  cases gk with
 |zero=>exact absurd HA.out (by simp [rf01_Digits.l0])
 |succ k1 =>
   have H:=HA.out;clear HA;simp only [rf01_Digits.l0] at H
   replace H:=ifI H;rcases H with ⟨c2,H⟩|⟨c2,H⟩
   ·have c2b0:decide (x3_1 < (a0.size:Int))=true:=decide_eq_true c2;clear c2;replace H:=ifI H;rcases H with ⟨c3,H⟩|⟨c3,H⟩
    ·have c3b0:decide (0≤x3_1)=true:=decide_eq_true c3;clear c3;replace H:=ifI H;rcases H with ⟨c5,H⟩|⟨c5,H⟩
     ·have c5b0:decide ((bt a0 x3_1) < 48)=true:=decide_eq_true c5;clear c5;obtain rfl:=Option.some.inj H;have p4:0≤(x3_1:Int):=od;have q4:x3_1 < (a0.size:Int):=od;have hx4:=bt_at a0 x3_1;replace p4:=eq_true p4;replace q4:=eq_true q4;go_wp2
      go_ret
      exact ⟨zq7,zq16⟩
     have c5b0:decide ((bt a0 x3_1) < 48)=false:=decide_eq_false c5;clear c5;replace H:=ifI H;rcases H with ⟨c7,H⟩|⟨c7,H⟩
     ·have c7b0:decide (57 < (bt a0 x3_1))=true:=decide_eq_true c7;clear c7;obtain rfl:=Option.some.inj H;have p4:0≤(x3_1:Int):=od;have q4:x3_1 < (a0.size:Int):=od;have hx4:=bt_at a0 x3_1;replace p4:=eq_true p4;replace q4:=eq_true q4;have p6:0≤(x3_1:Int):=od;have q6:x3_1 < (a0.size:Int):=od;have hx6:=bt_at a0 x3_1;replace p6:=eq_true p6;replace q6:=eq_true q6;go_wp2
      go_ret
      exact ⟨zq7,zq16⟩
     have c7b0:decide (57 < (bt a0 x3_1))=false:=decide_eq_false c7;clear c7;have H':=sd H;clear H;have p4:0≤(x3_1:Int):=od;have q4:x3_1 < (a0.size:Int):=od;have hx4:=bt_at a0 x3_1;replace p4:=eq_true p4;replace q4:=eq_true q4;have p6:0≤(x3_1:Int):=od;have q6:x3_1 < (a0.size:Int):=od;have hx6:=bt_at a0 x3_1;replace p6:=eq_true p6;replace q6:=eq_true q6;go_wp2
     go_roundg k1
     case measure=>have:=HK1.out;omega
     case rel=>exact ⟨(wrap64 (x3_1+1)),zq7,H',⟨by have:=HK1.out;omega⟩,zq16⟩
    exact absurd H (by simp)
   have c2b0:decide (x3_1 < (a0.size:Int))=false:=decide_eq_false c2;clear c2;obtain rfl:=Option.some.inj H;go_wp2
   go_ret
   exact ⟨zq7,zq16⟩
def rf01_Add.f (a0:Int) (a1:Int):Option (Int×Bool):=if a1 > 0 then (if a0 > (wrap64 (9223372036854775807 - a1)) then (some (0,false)) else (if a1 < 0 then (if a0 < (wrap64 ((-9223372036854775808) - a1)) then (some (0,false)) else (some (wrap64 (a0+a1),true))) else (some (wrap64 (a0+a1),true)))) else (if a1 < 0 then (if a0 < (wrap64 ((-9223372036854775808) - a1)) then (some (0,false)) else (some (wrap64 (a0+a1),true))) else (some (wrap64 (a0+a1),true)))
theorem rf01_Add.calls (a0 a1 r1:Int) (r2:Bool) (w:World) (h:rf01_Add.f a0 a1=some (r1,r2)) :
  Calls Tryz.prog 92 #[.int .i64 a0,.int .i64 a1] w fun e w'=>e=.returned (.tuple #[.int .i64 r1,.bool r2])∧Drawn0 w w':=by
 have H:=h;clear h;unfold rf01_Add.f at H;replace H:=ifI H;rcases H with ⟨c3,H⟩|⟨c3,H⟩
 ·have c3b0:decide (0 < a1)=true:=decide_eq_true c3;clear c3;replace H:=ifI H;rcases H with ⟨c4,H⟩|⟨c4,H⟩
  ·have c4b0:decide ((wrap64 (9223372036854775807 - a1)) < a0)=true:=decide_eq_true c4;clear c4;simp only [Option.some.injEq,Prod.mk.injEq] at H
   obtain ⟨rfl,rfl⟩:=H;go_enter Tryz.func92,Tryz.ntmps92
   go_wp2
   go_ret2
   exact ⟨zq7,zq16⟩
  have c4b0:decide ((wrap64 (9223372036854775807 - a1)) < a0)=false:=decide_eq_false c4;clear c4;replace H:=ifI H;rcases H with ⟨c5,H⟩|⟨c5,H⟩
  ·have c5b0:decide (a1 < 0)=true:=decide_eq_true c5;clear c5;replace H:=ifI H;rcases H with ⟨c6,H⟩|⟨c6,H⟩
   ·have c6b0:decide (a0 < (wrap64 ((-9223372036854775808) - a1)))=true:=decide_eq_true c6;clear c6;simp only [Option.some.injEq,Prod.mk.injEq] at H
    obtain ⟨rfl,rfl⟩:=H;go_enter Tryz.func92,Tryz.ntmps92
    go_wp2
    go_ret2
    exact ⟨zq7,zq16⟩
   have c6b0:decide (a0 < (wrap64 ((-9223372036854775808) - a1)))=false:=decide_eq_false c6;clear c6;simp only [Option.some.injEq,Prod.mk.injEq] at H
   obtain ⟨rfl,rfl⟩:=H;go_enter Tryz.func92,Tryz.ntmps92
   go_wp2
   go_ret2
   exact ⟨zq7,zq16⟩
  have c5b0:decide (a1 < 0)=false:=decide_eq_false c5;clear c5;simp only [Option.some.injEq,Prod.mk.injEq] at H
  obtain ⟨rfl,rfl⟩:=H;go_enter Tryz.func92,Tryz.ntmps92
  go_wp2
  go_ret2
  exact ⟨zq7,zq16⟩
 have c3b0:decide (0 < a1)=false:=decide_eq_false c3;clear c3;replace H:=ifI H;rcases H with ⟨c7,H⟩|⟨c7,H⟩
 ·have c7b0:decide (a1 < 0)=true:=decide_eq_true c7;clear c7;replace H:=ifI H;rcases H with ⟨c8,H⟩|⟨c8,H⟩
  ·have c8b0:decide (a0 < (wrap64 ((-9223372036854775808) - a1)))=true:=decide_eq_true c8;clear c8;simp only [Option.some.injEq,Prod.mk.injEq] at H
   obtain ⟨rfl,rfl⟩:=H;go_enter Tryz.func92,Tryz.ntmps92
   go_wp2
   go_ret2
   exact ⟨zq7,zq16⟩
  have c8b0:decide (a0 < (wrap64 ((-9223372036854775808) - a1)))=false:=decide_eq_false c8;clear c8;simp only [Option.some.injEq,Prod.mk.injEq] at H
  obtain ⟨rfl,rfl⟩:=H;go_enter Tryz.func92,Tryz.ntmps92
  go_wp2
  go_ret2
  exact ⟨zq7,zq16⟩
 have c7b0:decide (a1 < 0)=false:=decide_eq_false c7;clear c7;simp only [Option.some.injEq,Prod.mk.injEq] at H
 obtain ⟨rfl,rfl⟩:=H;go_enter Tryz.func92,Tryz.ntmps92
 go_wp2
 go_ret2
 exact ⟨zq7,zq16⟩
def rf04_value.l0:Nat→ByteArray→Int→Int→Option (Int)
|0,_,_,_=>none
|k+1,x0,x3,x4=>if x4 < (x0.size:Int) then (if 0≤x4 then (rf04_value.l0 k x0 (wrap64 ((wrap64 (x3 * 10))+(((bt x0 x4) - 48) % 256))) (wrap64 (x4+1))) else (none)) else (some x3)
def rf04_value.f (k:Nat) (a0:ByteArray):Option (Int):=rf04_value.l0 k a0 0 0
theorem rf04_value.calls (k:Nat) (a0:ByteArray) (r:Int) (w:World) (h:rf04_value.f k a0=some r) :
  Calls Tryz.prog 94 #[.string a0] w fun e w'=>e=.returned (.int .i64 r)∧Drawn0 w w':=by
 have H:=h;clear h;unfold rf04_value.f at H;have H':=sd H;clear H;go_enter Tryz.func94,Tryz.ntmps94
 go_wp2
 go_loopg [3,4] k (fun kq v3 v4 w'=>∃ (x3_1:Int) (x4_1:Int),v3=.int .i64 x3_1∧v4=.int .i64 x4_1∧Aside0 (rf04_value.l0 kq a0 x3_1 x4_1=some r)∧Aside0 (kq≤k)∧Drawn0 w w')
 case atStart=>exact ⟨(0),(0),zq7,zq7,H',⟨Nat.le_refl _⟩,zq16⟩
 case round =>
  clear H';obtain ⟨x3_1,x4_1,rfl,rfl,HA,HK1,⟨m1,rfl⟩⟩:=hrel
  cases gk with
 |zero=>exact absurd HA.out (by simp [rf04_value.l0])
 |succ k1 =>
   have H:=HA.out;clear HA;simp only [rf04_value.l0] at H
   replace H:=ifI H;rcases H with ⟨c2,H⟩|⟨c2,H⟩
   ·have c2b0:decide (x4_1 < (a0.size:Int))=true:=decide_eq_true c2;clear c2;replace H:=ifI H;rcases H with ⟨c3,H⟩|⟨c3,H⟩
    ·have c3b0:decide (0≤x4_1)=true:=decide_eq_true c3;clear c3;have H':=sd H;clear H;have p4:0≤(x4_1:Int):=od;have q4:x4_1 < (a0.size:Int):=od;have hx4:=bt_at a0 x4_1;replace p4:=eq_true p4;replace q4:=eq_true q4;go_wp2
     go_roundg k1
     case measure=>have:=HK1.out;omega
     case rel=>exact ⟨(wrap64 ((wrap64 (x3_1 * 10))+(((bt a0 x4_1) - 48) % 256))),(wrap64 (x4_1+1)),zq7,zq7,H',⟨by have:=HK1.out;omega⟩,zq16⟩
    exact absurd H (by simp)
   have c2b0:decide (x4_1 < (a0.size:Int))=false:=decide_eq_false c2;clear c2;obtain rfl:=Option.some.inj H;go_wp2
   go_ret
   exact ⟨zq7,zq16⟩
def rf04_Parse.T3:Bool×List (List Nat×List Nat):=(true,[([],[]),([0],[0]),([1],[1]),([],[]),([3],[3]),([4,2],[4]),([],[]),([6],[6]),([7,5],[7]),([2,5,8],[2,5,8]),([9,8],[9]),([10],[10]),([10],[10]),([11,10,0,1,2,3,4,5,6,7,8,9,10,11,12],[11]),([12,13,0,1,2,3,4,5,6,7,8,9,10,11,12,13],[12])])
def rf04_Parse.B3:List Nat:=[0,1,3,0,8,31,0,64,255,511,1023,2047,2047,8191,16383]
theorem rf04_Parse.bits3:waitsOk rf04_Parse.T3.2 rf04_Parse.B3=true:=by kernel_rfl
end A
namespace A
open Go.RowKit B WW WL WM
theorem zq9 {P:Prop} (h:P:=by (with_reducible repeat (first|apply Kd.R_alloc|apply Kd.R_drewN|apply Kd.R_drew));exact HO_2.out):P:=h
theorem zq13 {P:Prop} (h:P:=by (with_reducible repeat (first|refine blk_drewN ?_ _|refine blk_drew ?_|refine blk_alloc ?_ _));refine blk_far ?_ NB228_229.out _;(with_reducible repeat (first|refine blk_drewN ?_ _|refine blk_drew ?_|refine blk_alloc ?_ _));refine blk_far ?_ NB228_229.out _;(with_reducible repeat (first|refine blk_drewN ?_ _|refine blk_drew ?_|refine blk_alloc ?_ _));refine blk_put (cs:=#[.int .i64 t222,.string t223,.int .i64 0]) ?_ 2 _ rfl;(with_reducible repeat (first|refine blk_drewN ?_ _|refine blk_drew ?_|refine blk_alloc ?_ _));refine blk_put (cs:=#[.int .i64 t222,.string (⟨#[]⟩:ByteArray),.int .i64 0]) ?_ 1 _ rfl;(with_reducible repeat (first|refine blk_drewN ?_ _|refine blk_drew ?_|refine blk_alloc ?_ _));refine blk_put (cs:=#[.int .i64 0,.string (⟨#[]⟩:ByteArray),.int .i64 0]) ?_ 0 _ rfl;(with_reducible repeat (first|refine blk_drewN ?_ _|refine blk_drew ?_|refine blk_alloc ?_ _));exact BK228.out):P:=h
theorem zq14 {P:Prop} (h:P:=by (with_reducible repeat (first|apply Kd.R_alloc|apply Kd.R_drewN|apply Kd.R_drew));exact Kd.R_mono (Kd.R_far (p:=⟨gb229,1,none⟩) (Kd.R_far (p:=⟨gb229,0,none⟩) (Kd.R_far (p:=⟨gb228,2,none⟩) (Kd.R_far (p:=⟨gb228,1,none⟩) (Kd.R_far (p:=⟨gb228,0,none⟩) (Kd.R_types (Kd.R_mono HO_2.out (fun k_ hk=>(⟨hk,hk.2⟩:_∧k_≠gb228))) BK229.out (by decide)) (fun _ hk=>hk.1.2) (.int .i64 t222)) (fun _ hk=>hk.1.2) (.string t223)) (fun _ hk=>hk.1.2) (.int .i64 t224)) (fun _ hk=>hk.2) (.int .i64 t226)) (fun _ hk=>hk.2) (.int .i64 t227)) (fun _ hk=>hk.1.1.2)):P:=h
theorem zq15 {P:Prop} (h:P:=by (with_reducible repeat (first|refine blk_drewN ?_ _|refine blk_drew ?_|refine blk_alloc ?_ _));refine blk_put (cs:=#[.int .i64 t226,.int .i64 0]) ?_ 1 _ rfl;(with_reducible repeat (first|refine blk_drewN ?_ _|refine blk_drew ?_|refine blk_alloc ?_ _));refine blk_put (cs:=#[.int .i64 0,.int .i64 0]) ?_ 0 _ rfl;(with_reducible repeat (first|refine blk_drewN ?_ _|refine blk_drew ?_|refine blk_alloc ?_ _));refine blk_far ?_ NB229_228.out _;(with_reducible repeat (first|refine blk_drewN ?_ _|refine blk_drew ?_|refine blk_alloc ?_ _));refine blk_far ?_ NB229_228.out _;(with_reducible repeat (first|refine blk_drewN ?_ _|refine blk_drew ?_|refine blk_alloc ?_ _));refine blk_far ?_ NB229_228.out _;(with_reducible repeat (first|refine blk_drewN ?_ _|refine blk_drew ?_|refine blk_alloc ?_ _));exact BK229.out):P:=h
theorem zq38 {P:Prop} (h:P:=by (with_reducible repeat (first|refine blk_drewN ?_ _|refine blk_drew ?_|refine blk_alloc ?_ _));exact BK149.out):P:=h
theorem zq53 {P:Prop} (h:P:=by (with_reducible repeat (first|apply Kd.R_alloc|apply Kd.R_drewN|apply Kd.R_drew));exact HO_4.out):P:=h
end A
namespace WW
open Go.RowKit
theorem ReadsRow.inner_ {α:Type} {R:α→List Value→Prop} {size:Nat} {w:World} {ad:Addr} {n:Nat} {ps:List α} (h:ReadsRow R size w (some ad) n ps) :
    ∃ inner,Reps R size ps inner∧∀ j u,inner[j]?=some u→w.cell? (ad.add j)=some u:=by
  have key:∀ m,m≤ps.length→∃ inner,Reps R size (ps.take m) inner∧∀ j u,inner[j]?=some u→w.cell? (ad.add j)=some u:=by
    intro m;induction m with
   |zero=>exact fun _=>⟨[],Reps.none _ _,fun j u hu=>by simp at hu⟩
   |succ m ih =>
      intro hm;obtain ⟨inner,hr,hc⟩:=ih (by omega);obtain ⟨ad',he,hcell⟩:=h.2.2 (by have:=h.1;omega);injection he with he
      subst he;obtain ⟨c,hcl,hp,hcc⟩:=hcell m _ (List.getElem?_eq_getElem (show m < ps.length by omega));refine ⟨inner++c,?_,fun j u hu=>?_⟩
      · rw [List.take_succ_eq_append_getElem (show m < ps.length by omega)]
        exact hr.snoc hp hcl
      · have hil:inner.length=m * size:=by rw [hr.1,List.length_take,Nat.min_eq_left (by omega)]
        rcases Nat.lt_or_ge j inner.length with hj|hj
        · rw [List.getElem?_append_left hj] at hu
          exact hc j u hu
        · rw [List.getElem?_append_right hj] at hu
          have:=hcc (j - inner.length) u hu;rwa [hil,Nat.add_sub_cancel' (by omega)] at this
  obtain ⟨inner,hr,hc⟩:=key ps.length (Nat.le_refl _);rw [List.take_length] at hr;exact ⟨inner,hr,hc⟩
theorem seg_get {α:Type} (a seg:List α) (o:Nat) (h:o+seg.length≤a.length) (q:Nat) :
    (a.take o++seg++a.drop (o+seg.length))[q]?=if q < o then a[q]? else if q < o+seg.length then seg[q - o]? else a[q]?:=by
  have hl:(a.take o).length=o:=by rw [List.length_take];omega
  rw [List.append_assoc];by_cases h1:q < o
  · rw [if_pos h1,List.getElem?_append_left (by omega),List.getElem?_take,if_pos h1]
  · rw [if_neg h1,List.getElem?_append_right (by omega),hl]
    by_cases h2:q < o+seg.length
    · rw [if_pos h2,List.getElem?_append_left (by omega)]
    · rw [if_neg h2,List.getElem?_append_right (by omega),List.getElem?_drop]
      congr 1
      omega
end WW
namespace B
open Go.Lib Go.RowKit WW
theorem itoa_pos {n:Int} (h:¬ n < 0):itoa n=decDigits n.natAbs:=by rw [itoa,if_neg h];congr 1;omega
theorem dval_append_le (l m:List UInt8):dval l≤dval (l++m):=by
  have key:∀ (m:List UInt8) (v:Nat),v≤m.foldl (fun v c=>10 * v+(c.toNat - 48)) v:=by
    intro m;induction m with
   |nil=>intro v;exact Nat.le_refl _
   |cons c m ih=>intro v;exact Nat.le_trans (by omega) (ih (10 * v+(c.toNat - 48)))
  unfold dval;rw [List.foldl_append];exact key m _
theorem sgn_big_append (b:Bool) (l m:List UInt8) (hn:¬ I64 (sgn b (dval l))):¬ I64 (sgn b (dval (l++m))):=sgn_big b (dval_append_le l m) hn
theorem PInv.stop {neg:Bool} {m:List UInt8} {j:Nat} {n:Int} (h:PInv neg m j n false):¬ I64 (sgn neg (dval m)):=by
  rcases h with ⟨h,_⟩|⟨_,_,h⟩
  · cases h
  · have:=sgn_big_append neg (m.take j) (m.drop j) h
    rwa [List.take_append_drop] at this
theorem parse_stop {l:List UInt8} (hf:formedL l=true) {j:Nat} {n:Int} (h:PInv (negOf l) (magOf l) j n false) (lo hi:Int):parseL l lo hi=(0,3):=by
  unfold parseL;rw [if_pos hf,if_neg];intro hh;exact h.stop hh.1
end B
namespace A
open Go.RowKit B WW WL WM
attribute [local go_sem] max2_int min2_int max_two min_two max_three min_three max_four min_four
theorem info73:(Tryz.prog.info? 73).map (fun i=>(i.zero,i.size,i.bytes))=some (some (.agg #[(.int .i64 0),(.string ⟨#[]⟩),(.int .i64 0)]),3,32):=by kernel_rfl
theorem k73_mkM (w:World) (base:Nat) (ok:Nat→Prop) (x:S73):k73.M w base ok x [.int .i64 x.f0,.string x.f1,.int .i64 x.f2]:=⟨[.int .i64 x.f0],[.string x.f1,.int .i64 x.f2],rfl,rfl,⟨[.string x.f1],[.int .i64 x.f2],rfl,rfl,rfl⟩⟩
end A
namespace WW
open Go.RowKit
section
variable {w w1:World} {base n size:Nat} {e:TypeId} {v:Value} {xs:List Value}
theorem setCells_row {g:Nat} {e:TypeId}:∀ (vs:List Value) (o:Nat) (w:World) (cur:Array Value),w.heap[g]?=some (.cells cur e (0,0))→o+vs.length≤cur.size →
    ∃ cur',(w.setCells g o vs).heap[g]?=some (.cells cur' e (0,0))∧cur'.size=cur.size∧cur'.toList=cur.toList.take o++vs++cur.toList.drop (o+vs.length)
 |[],o,w,cur,h,_=>⟨cur,h,rfl,by simp⟩
 |v :: r,o,w,cur,h,hl=>by
    have h2:=blk_set h o v;simp only [List.length_cons] at hl
    obtain ⟨cur',h3,h4,h5⟩:=setCells_row r (o+1) (w.setCell ⟨g,o,none⟩ v) _ h2 (by simp;omega);refine ⟨cur',h3,by rw [h4];simp,?_⟩;rw [h5,Array.toList_setIfInBounds];have ho:o < cur.toList.length:=by rw [Array.length_toList];omega
    rw [List.take_set,List.drop_set_of_lt (by omega)];simp only [List.length_cons]
    rw [show o+1+r.length=o+(r.length+1) by omega];congr 1
    rw [List.take_succ_eq_append_getElem ho,List.set_append_right _ _ (by rw [List.length_take];omega)];have ho':o < cur.size:=by omega
    simp [Nat.min_eq_left (Nat.le_of_lt ho')]
end
end WW
namespace WW
open Go.RowKit
section
variable {P:Program} {ops:Array Oper} {o:Oper} {a:Act} {Q:Exit→Act→World→Prop} {Kc:Act→World→Prop}
namespace Kd
variable {α:Type}
theorem R_append_rows_step (d:Kd α) {Rr:α→List Value→Prop} {w0 W:World} (base:Nat) (hw:Region.wanted o (yielded ops a.tmps)=true) (s x:Operand) (t e:TypeId) (z:Value) (bytes:Nat)
    (ho:o.op=.call { callee:=.builtin .append,args:=#[s,x],argTypes:=#[t,t] })
    (ht:P.underlying t=some (.slice e)) (hinfo:(P.info? e).map (fun i=>(i.zero,i.size,i.bytes))=some (some z,d.sz,bytes)) (hz:z.cells.size=d.sz) (hs0:0 < d.sz) (hb0:0 < bytes)
    (v:Value) (xs ys:List α) (A:Option Addr) (m c:Nat) (ok okp:Nat→Prop) (hs:a.eval s=v) (hx:a.eval x=.slice A m c)
    (HO:d.R e W base ok v xs) (HR:ReadsRow Rr d.sz W A m ys) (hKM:∀ x cs,Rr x cs→d.M W base okp x cs) (hokp:∀ k,okp k→ok k∧some k≠v.ownBlock) (hfresh:∀ k,W.heap.size≤k→ok k)
    (HB:Below base w0 W) (hbase:base≤W.heap.size) (hl:(xs.length+m) * bytes≤140737488355328)
    (h:∀ v1 w1,d.R e w1 base ok v1 (xs++ys)→Below base w0 w1→W.grownBy w1 v.ownBlock→(v1.ownBlock=v.ownBlock∨∃ b,v1.ownBlock=some b∧W.heap.size≤b)→Kc (a.put o.dst v1) w1) :
    if Region.wanted o (yielded ops a.tmps)=true then Oper.wp P o a W Kc Q else Kc (a.put o.dst undef) W:=by
  obtain ⟨i0,hi,hzz⟩:=Option.map_eq_some_iff.1 hinfo;simp only [Prod.mk.injEq] at hzz
  obtain ⟨hz0,hz1,hz2⟩:=hzz;have hm:ys.length=m:=HR.1;have hlen:xs.length+m≤140737488355328:=Nat.le_trans (Nat.le_mul_of_pos_right _ hb0) hl;obtain ⟨hok,inner,hown,hr⟩:=HO
  have hrun:∃ v1 w1,(Builtin.append_ #[t,t] o.type #[v,.slice A m c]).run P W=.ok v1 w1∧d.R e w1 base ok v1 (xs++ys)∧W.grownBy w1 v.ownBlock∧(v1.ownBlock=v.ownBlock∨∃ b,v1.ownBlock=some b∧W.heap.size≤b):=by
    rcases A with _|ad
    · have h0:m=0:=by
        rcases Nat.eq_zero_or_pos m with h0|h0
        · exact h0
        · obtain ⟨ad,h,_⟩:=HR.2.2 h0
          cases h
      subst h0;obtain rfl:ys=[]:=List.eq_nil_of_length_eq_zero hm;refine ⟨v,W,?_,by rw [List.append_nil];exact ⟨hok,inner,hown,hr⟩,World.grownBy.refl W _,.inl rfl⟩;rcases hown.2 with ⟨rfl,hn⟩|⟨g,cap,cur,rfl,_,_,hnc,_⟩
      · simp [Builtin.append_,run_underlying ht,sizeOf,typeInfo,hi,Builtin.lenOf,Builtin.firstCells]
      · simp [Builtin.append_,run_underlying ht,sizeOf,typeInfo,hi,Builtin.lenOf,Builtin.firstCells,hnc,storeCells]
    · obtain ⟨news,hnr,hnc⟩:=ReadsRow.inner_ HR
      have hnM:Reps (d.M W base okp) d.sz ys news:=hnr.imp_ (fun p c hp=>hKM p c hp)
      have hone:∀ u∈news,u.oneCell'=true:=by
        intro u hu;obtain ⟨q,hq,rfl⟩:=List.mem_iff_getElem.1 hu
        have hql:q / d.sz < ys.length:=by
          rw [Nat.div_lt_iff_lt_mul hs0];rw [← hnM.1];exact hq
        have hc:=hnM.2 (q / d.sz) _ (List.getElem?_eq_getElem hql);refine d.K_one (d.K_of_M hc) _ ?_;rw [List.mem_iff_getElem?];refine ⟨q % d.sz,?_⟩;rw [List.getElem?_take,if_pos (Nat.mod_lt _ hs0),List.getElem?_drop,Nat.mul_comm,Nat.div_add_mod,List.getElem?_eq_getElem hq]
      obtain ⟨v1,w1,hrun,h2,hg,_,hat⟩:=run_append_own_at (P:=P) W base t o.type e i0 z d.sz bytes ht hi hz0 hz1 hz2 hz hs0 v xs.length inner hown ad m c news (by rw [hnM.1,hm]) hnc hone (by simp only [maxLen];omega) hl hbase
      have hat':v1.ownBlock=v.ownBlock∨∃ b,v1.ownBlock=some b∧W.heap.size≤b:=by
        rcases hat with hat|hat
        · exact .inl hat
        · exact .inr ⟨_,hat,Nat.le_refl _⟩
      have hne:∀ k,some k≠v.ownBlock→k < W.heap.size→some k≠v1.ownBlock:=by
        intro k hk hlt;rcases hat' with hat|⟨b,hb,hle⟩
        · rw [hat];exact hk
        · rw [hb]
          intro he;injection he with he
          omega
      have step:∀ {q:α} {c:List Value} {o:Nat→Prop},d.M W base o q c→(∀ k,o k→ok k∧some k≠v.ownBlock)→d.M w1 base (fun k=>ok k∧some k≠v1.ownBlock) q c:=by
        intro q c o hq ho;have h1:=d.M_move (w1:=w1) (fun k hk=>hg.block k hk.2.2.1 (ho k hk.1).2) (d.M_bound hq);exact d.M_mono (fun k hk=>⟨(ho k hk.1).1,hne k (ho k hk.1).2 hk.2.2.1⟩) h1
      refine ⟨v1,w1,hrun,⟨fun k hk=>?_,inner++news,by rw [List.length_append,hm];exact h2,reps_append (hr.imp_ (fun _ _ hq=>step hq (fun _ hk=>hk))) (hnM.imp_ (fun _ _ hq=>step hq hokp))⟩,hg,hat'⟩;rcases hat' with hat|⟨b,hb,hle⟩
      · exact hok k (hat ▸ hk)
      · rw [hb] at hk
        injection hk with hk
        exact hfresh k (by omega)
  obtain ⟨v1,w1,hr1,h1,hg,hat⟩:=hrun;rw [if_pos hw];unfold Oper.wp execOp;simp only [ho,resolve,invoke,builtin,Sem.run_bind,Sem.run_pure,Result.andThen_ok,List.map_toArray,List.map_cons,List.map_nil,hs,hx,hr1]
  exact h v1 w1 h1 (HB.grown hg hbase (own_base hown)) hg hat
end Kd
end
end WW
namespace WW
open Go.RowKit
namespace Kd
section
variable {α:Type} {d:Kd α} {e base g n cap:Nat} {ok okp:Nat→Prop} {W:World} {xs:List α}
theorem R_seg (h:d.R e W base ok (.slice (some ⟨g,0,none⟩) n cap) xs) (i:Int) (h0:0≤i) (h1:i < n) {c seg:List Value} {j:Nat} (hcl:c.length=d.sz) (hcc:∀ j u,c[j]?=some u→W.cell? ⟨g,i.toNat * d.sz+j,none⟩=some u)
    (hj:j+seg.length≤d.sz) {x':α} (hM:d.M W base okp x' (c.take j++seg++c.drop (j+seg.length))) (hokp:∀ k,okp k→ok k∧k≠g) :
    d.R e (W.setCells g (i.toNat * d.sz+j) seg) base ok (.slice (some ⟨g,0,none⟩) n cap) (xs.set i.toNat x')∧W.grownBy (W.setCells g (i.toNat * d.sz+j) seg) (some g):=by
  obtain ⟨hn,hnc,_⟩:=R_reads' h;obtain ⟨hok,inner,ho,hr⟩:=h;have hil:i.toNat < xs.length:=by omega
  have hseg:i.toNat * d.sz+d.sz≤inner.length:=by rw [hr.1,← Nat.succ_mul];exact Nat.mul_le_mul_right _ hil
  have hin:inner.length=n * d.sz:=by rw [hr.1,hn]
  obtain ⟨ho1,ho2⟩:=ho;rcases ho2 with ⟨hv,_⟩|⟨g',cap',cur,hv,hb,hh,hnc',hcm,hcs,ht⟩
  · cases hv
  injection hv with ha _ hc
  injection ha with ha
  injection ha with hg
  subst hg;subst hc
  have hfit:i.toNat * d.sz+j+seg.length≤cur.size:=by
    have:n * d.sz≤cap * d.sz:=Nat.mul_le_mul_right _ hnc;omega
  obtain ⟨cur',h3,h4,h5⟩:=setCells_row seg (i.toNat * d.sz+j) W cur hh hfit;obtain ⟨s1,s2,s3,s4⟩:=setCells_same g seg (i.toNat * d.sz+j) W;have hfar:∀ k,k≠g→(W.setCells g (i.toNat * d.sz+j) seg).heap[k]?=W.heap[k]?:=fun k hk=>setCells_far seg _ k hk
  have hcin:∀ q,q < d.sz→c[q]?=inner[i.toNat * d.sz+q]?:=by
    intro q hq;have hq':q < c.length:=by omega
    have h6:=hcc q _ (List.getElem?_eq_getElem hq');rw [cell_of_row W g _ cur e (0,0) hh] at h6;rw [List.getElem?_eq_getElem hq',← h6,← ht,List.getElem?_take,if_pos (by rw [← hn];omega),Array.getElem?_toList]
  refine ⟨⟨hok,inner.take (i.toNat * d.sz+j)++seg++inner.drop (i.toNat * d.sz+j+seg.length),⟨?_,.inr ⟨g,cap,cur',by rw [List.length_set,hn],hb,h3,by rw [List.length_set,← hn];exact hnc,hcm,by rw [h4,hcs],?_⟩⟩,?_⟩,
    ⟨s1,s2,s3,by rw [s4];exact Nat.le_refl _,fun k _ hk=>hfar k (fun he=>hk (by rw [he]))⟩⟩
  · rw [List.length_set]
    simp only [List.length_append,List.length_take,List.length_drop]
    rw [hr.1] at hseg ⊢;omega
  · rw [List.length_set,← hn]
    apply List.ext_getElem?;intro q;rw [List.getElem?_take,h5];rw [seg_get cur.toList seg (i.toNat * d.sz+j) (by rw [Array.length_toList];omega) q,seg_get inner seg (i.toNat * d.sz+j) (by omega) q]
    have hcur:∀ q,q < n * d.sz→cur.toList[q]?=inner[q]?:=by
      intro q hq;rw [← ht,List.getElem?_take,if_pos (by rw [← hn];exact hq)]
    by_cases hq:q < n * d.sz
    · rw [if_pos hq,hcur q hq]
    · rw [if_neg hq,if_neg (by omega),if_neg (by omega),List.getElem?_eq_none (by omega)]
  · refine ⟨?_,fun m p hm=>?_⟩
    · rw [List.length_set]
      simp only [List.length_append,List.length_take,List.length_drop]
      rw [hr.1] at hseg ⊢;omega
    · have hml:m < xs.length:=by
        have:=(List.getElem?_eq_some_iff.1 hm).1;rwa [List.length_set] at this
      have hmfit:m * d.sz+d.sz≤inner.length:=by rw [hr.1,← Nat.succ_mul];exact Nat.mul_le_mul_right _ hml
      have hgo:some g=(Value.slice (some ⟨g,0,none⟩) n cap).ownBlock:=by simp [Value.ownBlock]
      by_cases hmi:m=i.toNat
      · subst hmi
        rw [List.getElem?_set_self (by omega)] at hm;injection hm with hm
        subst hm
        have hcells:((inner.take (i.toNat * d.sz+j)++seg++inner.drop (i.toNat * d.sz+j+seg.length)).drop (i.toNat * d.sz)).take d.sz=c.take j++seg++c.drop (j+seg.length):=by
          apply List.ext_getElem?;intro q;rw [List.getElem?_take,List.getElem?_drop,seg_get inner seg _ (by omega),seg_get c seg j (by omega) q];by_cases hq:q < d.sz
          · rw [if_pos hq,hcin q hq]
            by_cases hq1:q < j
            · rw [if_pos (by omega),if_pos hq1]
            · rw [if_neg (by omega),if_neg hq1]
              by_cases hq2:q < j+seg.length
              · rw [if_pos (by omega),if_pos hq2]
                congr 1
                omega
              · rw [if_neg (by omega),if_neg hq2]
          · rw [if_neg hq,if_neg (by omega),if_neg (by omega),List.getElem?_eq_none (by omega)]
        rw [hcells];refine d.M_mono (fun k hk=>?_) (d.M_move (w1:=W.setCells g (i.toNat * d.sz+j) seg) (fun k hk=>hfar k (hokp k hk).2) hM);exact ⟨(hokp k hk).1,fun he=>(hokp k hk).2 (by rw [← hgo] at he;injection he)⟩
      · rw [List.getElem?_set_ne (by omega)] at hm
        have hold:=hr.2 m p hm
        have hcells:((inner.take (i.toNat * d.sz+j)++seg++inner.drop (i.toNat * d.sz+j+seg.length)).drop (m * d.sz)).take d.sz=(inner.drop (m * d.sz)).take d.sz:=by
          apply List.ext_getElem?;intro q;rw [List.getElem?_take,List.getElem?_take,List.getElem?_drop,List.getElem?_drop,seg_get inner seg _ (by omega)];by_cases hq:q < d.sz
          · rw [if_pos hq,if_pos hq]
            rcases Nat.lt_or_gt_of_ne hmi with hlt|hgt
            · have:m * d.sz+d.sz≤i.toNat * d.sz:=by rw [← Nat.succ_mul];exact Nat.mul_le_mul_right _ hlt
              rw [if_pos (by omega)]
            · have:i.toNat * d.sz+d.sz≤m * d.sz:=by rw [← Nat.succ_mul];exact Nat.mul_le_mul_right _ hgt
              rw [if_neg (by omega),if_neg (by omega)]
          · rw [if_neg hq,if_neg hq]
        rw [hcells];refine d.M_move (fun k hk=>hfar k (fun he=>hk.2 (by rw [he];exact hgo))) hold
end
end Kd
end WW
namespace WW
open Go.RowKit
namespace Kd
section
variable {P:Program} {ops:Array Oper} {rest:List Oper} {o:Oper} {a:Act} {Q:Exit→Act→World→Prop} {α:Type}
theorem R_append_rows (d:Kd α) {Rr:α→List Value→Prop} {w0 W:World} (base:Nat) (hgd:o.guard=none) (s x:Operand) (t e:TypeId) (z:Value) (bytes:Nat)
    (ho:o.op=.call { callee:=.builtin .append,args:=#[s,x],argTypes:=#[t,t] })
    (ht:P.underlying t=some (.slice e)) (hinfo:(P.info? e).map (fun i=>(i.zero,i.size,i.bytes))=some (some z,d.sz,bytes)) (hz:z.cells.size=d.sz) (hs0:0 < d.sz) (hb0:0 < bytes)
    (v:Value) (xs ys:List α) (A:Option Addr) (m c:Nat) (ok okp:Nat→Prop) (hs:a.eval s=v) (hx:a.eval x=.slice A m c)
    (HO:d.R e W base ok v xs) (HR:ReadsRow Rr d.sz W A m ys) (hKM:∀ x cs,Rr x cs→d.M W base okp x cs) (hokp:∀ k,okp k→ok k∧some k≠v.ownBlock) (hfresh:∀ k,W.heap.size≤k→ok k)
    (HB:Below base w0 W) (hbase:base≤W.heap.size) (hl:(xs.length+m) * bytes≤140737488355328)
    (h:∀ v1 w1,d.R e w1 base ok v1 (xs++ys)→Below base w0 w1→W.grownBy w1 v.ownBlock→(v1.ownBlock=v.ownBlock∨∃ b,v1.ownBlock=some b∧W.heap.size≤b)→wpList P ops Q rest (a.put o.dst v1) w1) :
    wpList P ops Q (o :: rest) a W:=by
  obtain ⟨i0,hi,hzz⟩:=Option.map_eq_some_iff.1 hinfo;simp only [Prod.mk.injEq] at hzz
  obtain ⟨hz0,hz1,hz2⟩:=hzz;have hm:ys.length=m:=HR.1;have hlen:xs.length+m≤140737488355328:=Nat.le_trans (Nat.le_mul_of_pos_right _ hb0) hl;obtain ⟨hok,inner,hown,hr⟩:=HO
  have hrun:∃ v1 w1,(Builtin.append_ #[t,t] o.type #[v,.slice A m c]).run P W=.ok v1 w1∧d.R e w1 base ok v1 (xs++ys)∧W.grownBy w1 v.ownBlock∧(v1.ownBlock=v.ownBlock∨∃ b,v1.ownBlock=some b∧W.heap.size≤b):=by
    rcases A with _|ad
    · have h0:m=0:=by
        rcases Nat.eq_zero_or_pos m with h0|h0
        · exact h0
        · obtain ⟨ad,h,_⟩:=HR.2.2 h0
          cases h
      subst h0;obtain rfl:ys=[]:=List.eq_nil_of_length_eq_zero hm;refine ⟨v,W,?_,by rw [List.append_nil];exact ⟨hok,inner,hown,hr⟩,World.grownBy.refl W _,.inl rfl⟩;rcases hown.2 with ⟨rfl,hn⟩|⟨g,cap,cur,rfl,_,_,hnc,_⟩
      · simp [Builtin.append_,run_underlying ht,sizeOf,typeInfo,hi,Builtin.lenOf,Builtin.firstCells]
      · simp [Builtin.append_,run_underlying ht,sizeOf,typeInfo,hi,Builtin.lenOf,Builtin.firstCells,hnc,storeCells]
    · obtain ⟨news,hnr,hnc⟩:=ReadsRow.inner_ HR
      have hnM:Reps (d.M W base okp) d.sz ys news:=hnr.imp_ (fun p c hp=>hKM p c hp)
      have hone:∀ u∈news,u.oneCell'=true:=by
        intro u hu;obtain ⟨q,hq,rfl⟩:=List.mem_iff_getElem.1 hu
        have hql:q / d.sz < ys.length:=by
          rw [Nat.div_lt_iff_lt_mul hs0];rw [← hnM.1];exact hq
        have hc:=hnM.2 (q / d.sz) _ (List.getElem?_eq_getElem hql);refine d.K_one (d.K_of_M hc) _ ?_;rw [List.mem_iff_getElem?];refine ⟨q % d.sz,?_⟩;rw [List.getElem?_take,if_pos (Nat.mod_lt _ hs0),List.getElem?_drop,Nat.mul_comm,Nat.div_add_mod,List.getElem?_eq_getElem hq]
      obtain ⟨v1,w1,hrun,h2,hg,_,hat⟩:=run_append_own_at (P:=P) W base t o.type e i0 z d.sz bytes ht hi hz0 hz1 hz2 hz hs0 v xs.length inner hown ad m c news (by rw [hnM.1,hm]) hnc hone (by simp only [maxLen];omega) hl hbase
      have hat':v1.ownBlock=v.ownBlock∨∃ b,v1.ownBlock=some b∧W.heap.size≤b:=by
        rcases hat with hat|hat
        · exact .inl hat
        · exact .inr ⟨_,hat,Nat.le_refl _⟩
      have hne:∀ k,some k≠v.ownBlock→k < W.heap.size→some k≠v1.ownBlock:=by
        intro k hk hlt;rcases hat' with hat|⟨b,hb,hle⟩
        · rw [hat];exact hk
        · rw [hb]
          intro he;injection he with he
          omega
      have step:∀ {q:α} {c:List Value} {o:Nat→Prop},d.M W base o q c→(∀ k,o k→ok k∧some k≠v.ownBlock)→d.M w1 base (fun k=>ok k∧some k≠v1.ownBlock) q c:=by
        intro q c o hq ho;have h1:=d.M_move (w1:=w1) (fun k hk=>hg.block k hk.2.2.1 (ho k hk.1).2) (d.M_bound hq);exact d.M_mono (fun k hk=>⟨(ho k hk.1).1,hne k (ho k hk.1).2 hk.2.2.1⟩) h1
      refine ⟨v1,w1,hrun,⟨fun k hk=>?_,inner++news,by rw [List.length_append,hm];exact h2,reps_append (hr.imp_ (fun _ _ hq=>step hq (fun _ hk=>hk))) (hnM.imp_ (fun _ _ hq=>step hq hokp))⟩,hg,hat'⟩;rcases hat' with hat|⟨b,hb,hle⟩
      · exact hok k (hat ▸ hk)
      · rw [hb] at hk
        injection hk with hk
        exact hfresh k (by omega)
  obtain ⟨v1,w1,hr1,h1,hg,hat⟩:=hrun;refine wpList_plain hgd fun K hK=>?_
  unfold Oper.wp execOp;simp only [ho,resolve,invoke,builtin,Sem.run_bind,Sem.run_pure,Result.andThen_ok,List.map_toArray,List.map_cons,List.map_nil,hs,hx,hr1]
  exact hK _ _ (h v1 w1 h1 (HB.grown hg hbase (own_base hown)) hg hat)
end
end Kd
end WW
namespace WW
open Go.RowKit
namespace Kd
section
variable {P:Program} {ops:Array Oper} {o:Oper} {a:Act} {Q:Exit→Act→World→Prop} {Kc:Act→World→Prop} {α:Type}
theorem R_append_step (d:Kd α) {w0 W:World} (base:Nat) (hw:Region.wanted o (yielded ops a.tmps)=true) (s x:Operand) (t e:TypeId) (z:Value) (bytes:Nat)
    (ho:o.op=.call { callee:=.builtin .append,args:=#[s,x],argTypes:=#[t,t] })
    (ht:P.underlying t=some (.slice e)) (hinfo:(P.info? e).map (fun i=>(i.zero,i.size,i.bytes))=some (some z,d.sz,bytes)) (hz:z.cells.size=d.sz) (hs0:0 < d.sz) (hb0:0 < bytes)
    (v:Value) (xs:List α) (p:α) (cs:List Value) (ok okp:Nat→Prop) (hs:a.eval s=v) (hx:a.eval x=.slice (some ⟨W.heap.size,0,none⟩) 1 1) (hp:d.M W base okp p cs) (hokp:∀ k,okp k→ok k∧some k≠v.ownBlock) (hfresh:∀ k,W.heap.size≤k→ok k)
    (HO:d.R e W base ok v xs) (HB:Below base w0 W) (hbase:base≤W.heap.size) (hl:(xs.length+1) * bytes≤140737488355328)
    (h:∀ v1 w1,d.R e w1 base ok v1 (xs++[p])→Below base w0 w1→W.grownBy w1 v.ownBlock→(v1.ownBlock=v.ownBlock∨∃ b,v1.ownBlock=some b∧W.heap.size≤b)→Kc (a.put o.dst v1) w1) :
    if Region.wanted o (yielded ops a.tmps)=true then Oper.wp P o a (W.alloc (.cells cs.toArray e)) Kc Q else Kc (a.put o.dst undef) (W.alloc (.cells cs.toArray e)):=by
  obtain ⟨h0,inner,hown,hr⟩:=HO;refine step_append_cells base hw s x t e z d.sz bytes ho ht hinfo hz hs0 hb0 v xs.length inner cs hs hx (d.K_len (d.K_of_M hp)) (d.K_one (d.K_of_M hp)) hown HB hbase hl ?_;intro v1 w1 hown1 hb1 hg1 hat1;exact h v1 w1 (R_appended h0 hr hp hokp hfresh hown1 hg1 hat1) hb1 hg1 hat1
end
end Kd
end WW
namespace B
open Go.RowKit WW WL WM
section
variable {P:Program} {ops:Array Oper} {rest:List Oper} {o:Oper} {Q:Exit→Act→World→Prop} {a:Act} {w V W w1:World} {g g':Nat}
theorem rbm {α:Type} {d:Kd α} {e base:Nat} {ok:Nat→Prop} {v:Value} {xs:List α} (H:Aside0 (d.R e V base ok v xs)) (hb:Below W.heap.size W w1) (hs:d.R e V base ok v xs→d.R e W base ok v xs:=by (intro h;(with_reducible repeat (first|apply Kd.R_alloc|apply Kd.R_drewN|apply Kd.R_drew));exact h)):Aside0 (d.R e w1 base ok v xs):=⟨Kd.R_below (hs H.out) hb⟩
end
end B

end Go.Proofs.YtkbgkekegjfkfaaGreatDoor