-- By pack.py, a program of this session's.
import Derived.Test.YtkbgkekegjfkfaaGreatDoorZ2
import Derived.Test.YtkbgkekegjfkfaaGreatDoorZ3
import Derived.Test.YtkbgkekegjfkfaaGreatDoorZ4
set_option linter.unusedVariables false
set_option linter.unusedSimpArgs false
namespace Go.Proofs.YtkbgkekegjfkfaaGreatDoor
namespace A
open Go.RowKit B WW WL WM
attribute [local go_sem] max2_int min2_int max_two min_two max_three min_three max_four min_four
set_option maxHeartbeats 8000000
set_option maxRecDepth 100000
def isPrn (c:UInt8):Bool:=decide (32≤c.toNat) && decide (c.toNat≤126)
def plainW (l:List UInt8):Bool:=decide (l.length≤60) && l.all isPrn
def dims_Right.T6:Bool×List (List Nat×List Nat):=(true,[([],[]),([0],[0]),([1],[1]),([2,1],[2]),([3],[3]),([4,3],[3,4]),([5,3,3],[3,5]),([6],[6]),([6],[6]),([8,6],[6,8]),([7,9,6],[6,7,9]),([10,6],[6,10]),([11,6],[6,11]),([6],[6]),([13,6],[6,13]),([12,14,6],[6,12,14]),([6,15,3],[3,6,15]),([3,16],[3,16])])
def dims_Right.B6:List Nat:=[0,1,3,7,15,31,63,127,127,383,1023,2047,4095,127,8319,32767,65535,131071]
theorem dims_Right.bits6:waitsOk dims_Right.T6.2 dims_Right.B6=true:=by kernel_rfl
def rules_counts.f (a0:Int):Option (Bool):=if a0=1 then (some true) else (some (a0 == 4))
theorem rules_counts.calls (a0:Int) (r:Bool) (w:World) (h:rules_counts.f a0=some r) :
  Calls Tryz.prog 67 #[.int .i64 a0] w fun e w'=>e=.returned (.bool r)∧Drawn0 w w':=by
 have H:=h;clear h;unfold rules_counts.f at H;replace H:=ifI H;rcases H with ⟨c2,H⟩|⟨c2,H⟩
 ·obtain ⟨c2b0,c2b1⟩:=eqI c2;clear c2;obtain rfl:=Option.some.inj H;go_enter Tryz.func67,Tryz.ntmps67
  go_wp2
  go_ret
  exact ⟨zq7,zq16⟩
 obtain ⟨c2b0,c2b1⟩:=neI c2;obtain rfl:=Option.some.inj H;go_enter Tryz.func67,Tryz.ntmps67
 go_wp2
 go_ret
 exact ⟨zq7,zq16⟩
def rules_suits.j0:Nat→Int→Int→Bool→Option (Bool)
|0,_,_,_=>none
|k+1,x0,x1,x5=>if x5=true then (some false) else (if x1=1 then (some true) else ((rules_counts.f x0).bind fun t112=>(if t112=true then (if x1=2 then (some true) else (some (x1 == 3))) else (if x1=4 then (some true) else (some (x1 == 5))))))
def rules_suits.f (k:Nat) (a0:Int) (a1:Int):Option (Bool):=if a0 < 1 then (rules_suits.j0 k a0 a1 true) else (rules_suits.j0 k a0 a1 (decide (a0 > 4)))
def words_Plain.f (a0:ByteArray):Option (Bool):=if a0.size≤140737488351232 then some (plainW a0.data.toList) else none
def rules_cond.j0:Nat→Bool→Bool→Option (Int)
|0,_,_=>none
|k+1,x3,x4=>if x3=true then (if x4=true then (some 0) else (some 5)) else (some 3)
def rules_cond.f (k:Nat) (a0_0:Int) (a0_1:Int) (a0_2:ByteArray) (a0_3:Int):Option (Int):=(rules_suits.f k a0_0 a0_1).bind fun t114=>(if t114=true then (if a0_0=1 then (if a0_3≤1000000000000 then (rules_cond.j0 k (decide (a0_3 ≥ (-1000000000000))) (a0_2.toList == ([]:List UInt8))) else (rules_cond.j0 k false (a0_2.toList == ([]:List UInt8)))) else (if a0_0=4 then (if a0_3 ≥ 0 then (rules_cond.j0 k (decide (a0_3≤109572)) (a0_2.toList == ([]:List UInt8))) else (rules_cond.j0 k false (a0_2.toList == ([]:List UInt8)))) else (if a0_0=2 then ((words_Plain.f a0_2).bind fun t115=>(rules_cond.j0 k (a0_3 == 0) t115)) else (if a0_0=3 then ((words_Plain.f a0_2).bind fun t116=>(rules_cond.j0 k (a0_3 == 0) t116)) else (rules_cond.j0 k (a0_3 == 0) (a0_2.toList == ([]:List UInt8))))))) else (some 10))
def words_signEnd.j0:Nat→ByteArray→Int→Option (Int)
|0,_,_=>none
|k+1,x0,x1=>if 0≤x1 then (if x1 < (x0.size:Int) then (if (bt x0 x1)=40 then (some (wrap64 (x1+1))) else (if (bt x0 x1)=41 then (some (wrap64 (x1+1))) else (if (bt x0 x1)=123 then (some (wrap64 (x1+1))) else (if (bt x0 x1)=125 then (some (wrap64 (x1+1))) else (if (bt x0 x1)=91 then (some (wrap64 (x1+1))) else (if (bt x0 x1)=93 then (some (wrap64 (x1+1))) else (if (bt x0 x1)=44 then (some (wrap64 (x1+1))) else (if (bt x0 x1)=59 then (some (wrap64 (x1+1))) else (if (bt x0 x1)=58 then (some (wrap64 (x1+1))) else (if (bt x0 x1)=61 then (some (wrap64 (x1+1))) else (if (bt x0 x1)=43 then (some (wrap64 (x1+1))) else (if (bt x0 x1)=45 then (some (wrap64 (x1+1))) else (if (bt x0 x1)=42 then (some (wrap64 (x1+1))) else (if (bt x0 x1)=47 then (some (wrap64 (x1+1))) else (if (bt x0 x1)=60 then (some (wrap64 (x1+1))) else (if (bt x0 x1)=62 then (some (wrap64 (x1+1))) else (if (bt x0 x1)=124 then (some (wrap64 (x1+1))) else (if (bt x0 x1)=38 then (some (wrap64 (x1+1))) else (if (bt x0 x1)=33 then (some (wrap64 (x1+1))) else (if (bt x0 x1)=64 then (some (wrap64 (x1+1))) else (if (bt x0 x1)=37 then (some (wrap64 (x1+1))) else (some x1)))))))))))))))))))))) else (none)) else (none)
def words_signEnd.f (k:Nat) (a0:ByteArray) (a1:Int):Option (Int):=if (wrap64 (a1+2))≤(a0.size:Int) then (if 0≤a1 then (if a1≤(wrap64 (a1+2)) then (if (a0.extract (a1:Int).toNat ((wrap64 (a1+2)):Int).toNat).toList=([60,61]:List UInt8) then (some (wrap64 (a1+2))) else (if (a0.extract (a1:Int).toNat ((wrap64 (a1+2)):Int).toNat).toList=([62,61]:List UInt8) then (some (wrap64 (a1+2))) else (if (a0.extract (a1:Int).toNat ((wrap64 (a1+2)):Int).toNat).toList=([33,61]:List UInt8) then (some (wrap64 (a1+2))) else (if (a0.extract (a1:Int).toNat ((wrap64 (a1+2)):Int).toNat).toList=([46,46]:List UInt8) then (some (wrap64 (a1+2))) else (words_signEnd.j0 k a0 a1))))) else (none)) else (none)) else (words_signEnd.j0 k a0 a1)
theorem words_signEnd.calls (k:Nat) (a0:ByteArray) (a1 r:Int) (w:World) (h:words_signEnd.f k a0 a1=some r) :
  Calls Tryz.prog 110 #[.string a0,.int .i64 a1] w fun e w'=>e=.returned (.int .i64 r)∧Drawn0 w w':=by
 have H:=h;clear h;unfold words_signEnd.f at H;have HC3:=sd H;clear H;go_enter Tryz.func110,Tryz.ntmps110
 go_upto_if 9 with (fail)
 go_cut [] (fun wc=>∃ (kq:Nat),Aside0 (words_signEnd.j0 kq a0 a1=some r)∧Aside0 (kq≤k)∧Drawn0 w wc)
 case first =>
  have H:=HC3.out;clear HC3;replace H:=ifI H;rcases H with ⟨c4,H⟩|⟨c4,H⟩
  ·have c4b0:decide ((wrap64 (a1+2))≤(a0.size:Int))=true:=decide_eq_true c4;clear c4;(first|rw [c4b0]|(simp only [i64_w,i32_w];rw [c4b0])|skip)
   replace H:=ifI H;rcases H with ⟨c5,H⟩|⟨c5,H⟩
   ·have c5b0:=eq_true c5;have c5b1:decide (0≤a1)=true:=decide_eq_true c5;clear c5;replace H:=ifI H;rcases H with ⟨c6,H⟩|⟨c6,H⟩
    ·have c6b0:=eq_true c6;have c6b1:decide (a1≤(wrap64 (a1+2)))=true:=decide_eq_true c6;have c7b0:=eq_true (od:(wrap64 (a1+2))≤(a0.size:Int));replace H:=ifI H;rcases H with ⟨c8,H⟩|⟨c8,H⟩
     ·obtain ⟨c8b0,c8b1⟩:=eqI c8;clear c8;obtain rfl:=Option.some.inj H;go_wp2
      go_ret
      exact ⟨zq7,zq16⟩
     obtain ⟨c8b0,c8b1⟩:=neI c8;replace H:=ifI H;rcases H with ⟨c9,H⟩|⟨c9,H⟩
     ·obtain ⟨c9b0,c9b1⟩:=eqI c9;clear c9;obtain rfl:=Option.some.inj H;go_wp2
      go_ret
      exact ⟨zq7,zq16⟩
     obtain ⟨c9b0,c9b1⟩:=neI c9;replace H:=ifI H;rcases H with ⟨c10,H⟩|⟨c10,H⟩
     ·obtain ⟨c10b0,c10b1⟩:=eqI c10;clear c10;obtain rfl:=Option.some.inj H;go_wp2
      go_ret
      exact ⟨zq7,zq16⟩
     obtain ⟨c10b0,c10b1⟩:=neI c10;replace H:=ifI H;rcases H with ⟨c11,H⟩|⟨c11,H⟩
     ·obtain ⟨c11b0,c11b1⟩:=eqI c11;clear c11;obtain rfl:=Option.some.inj H;go_wp2
      go_ret
      exact ⟨zq7,zq16⟩
     obtain ⟨c11b0,c11b1⟩:=neI c11;have H':=sd H;clear H;go_wp2
     go_meet
     case rel=>exact ⟨_,H',⟨by first|omega|exact Nat.le_refl _⟩,zq16⟩
    exact absurd H (by simp)
   exact absurd H (by simp)
  have c4b0:decide ((wrap64 (a1+2))≤(a0.size:Int))=false:=decide_eq_false c4;clear c4;(first|rw [c4b0]|(simp only [i64_w,i32_w];rw [c4b0])|skip)
  have H':=sd H;clear H;go_wp2
  go_meet
  case rel=>exact ⟨_,H',⟨by first|omega|exact Nat.le_refl _⟩,zq16⟩
 case rest =>
  clear HC3;try clear c1
  obtain ⟨kq,HA,HJ2,⟨mc2,rfl⟩⟩:=hcut
  cases kq with
 |zero=>exact absurd HA.out (by simp [words_signEnd.j0])
 |succ kj2 =>
   have H:=HA.out;clear HA;simp only [words_signEnd.j0] at H
   replace H:=ifI H;rcases H with ⟨c12,H⟩|⟨c12,H⟩
   ·have c12b0:decide (0≤a1)=true:=decide_eq_true c12;clear c12;replace H:=ifI H;rcases H with ⟨c13,H⟩|⟨c13,H⟩
    ·have c13b0:decide (a1 < (a0.size:Int))=true:=decide_eq_true c13;clear c13;replace H:=ifI H;rcases H with ⟨c15,H⟩|⟨c15,H⟩
     ·obtain ⟨c15b0,c15b1⟩:=eqI c15;clear c15;obtain rfl:=Option.some.inj H;have p14:0≤(a1:Int):=od;have q14:a1 < (a0.size:Int):=od;have hx14:=bt_at a0 a1;replace p14:=eq_true p14;replace q14:=eq_true q14;go_wp2
      go_ret
      exact ⟨zq7,zq16⟩
     obtain ⟨c15b0,c15b1⟩:=neI c15;replace H:=ifI H;rcases H with ⟨c16,H⟩|⟨c16,H⟩
     ·obtain ⟨c16b0,c16b1⟩:=eqI c16;clear c16;obtain rfl:=Option.some.inj H;have p14:0≤(a1:Int):=od;have q14:a1 < (a0.size:Int):=od;have hx14:=bt_at a0 a1;replace p14:=eq_true p14;replace q14:=eq_true q14;go_wp2
      go_ret
      exact ⟨zq7,zq16⟩
     obtain ⟨c16b0,c16b1⟩:=neI c16;replace H:=ifI H;rcases H with ⟨c17,H⟩|⟨c17,H⟩
     ·obtain ⟨c17b0,c17b1⟩:=eqI c17;clear c17;obtain rfl:=Option.some.inj H;have p14:0≤(a1:Int):=od;have q14:a1 < (a0.size:Int):=od;have hx14:=bt_at a0 a1;replace p14:=eq_true p14;replace q14:=eq_true q14;go_wp2
      go_ret
      exact ⟨zq7,zq16⟩
     obtain ⟨c17b0,c17b1⟩:=neI c17;replace H:=ifI H;rcases H with ⟨c18,H⟩|⟨c18,H⟩
     ·obtain ⟨c18b0,c18b1⟩:=eqI c18;clear c18;obtain rfl:=Option.some.inj H;have p14:0≤(a1:Int):=od;have q14:a1 < (a0.size:Int):=od;have hx14:=bt_at a0 a1;replace p14:=eq_true p14;replace q14:=eq_true q14;go_wp2
      go_ret
      exact ⟨zq7,zq16⟩
     obtain ⟨c18b0,c18b1⟩:=neI c18;replace H:=ifI H;rcases H with ⟨c19,H⟩|⟨c19,H⟩
     ·obtain ⟨c19b0,c19b1⟩:=eqI c19;clear c19;obtain rfl:=Option.some.inj H;have p14:0≤(a1:Int):=od;have q14:a1 < (a0.size:Int):=od;have hx14:=bt_at a0 a1;replace p14:=eq_true p14;replace q14:=eq_true q14;go_wp2
      go_ret
      exact ⟨zq7,zq16⟩
     obtain ⟨c19b0,c19b1⟩:=neI c19;replace H:=ifI H;rcases H with ⟨c20,H⟩|⟨c20,H⟩
     ·obtain ⟨c20b0,c20b1⟩:=eqI c20;clear c20;obtain rfl:=Option.some.inj H;have p14:0≤(a1:Int):=od;have q14:a1 < (a0.size:Int):=od;have hx14:=bt_at a0 a1;replace p14:=eq_true p14;replace q14:=eq_true q14;go_wp2
      go_ret
      exact ⟨zq7,zq16⟩
     obtain ⟨c20b0,c20b1⟩:=neI c20;replace H:=ifI H;rcases H with ⟨c21,H⟩|⟨c21,H⟩
     ·obtain ⟨c21b0,c21b1⟩:=eqI c21;clear c21;obtain rfl:=Option.some.inj H;have p14:0≤(a1:Int):=od;have q14:a1 < (a0.size:Int):=od;have hx14:=bt_at a0 a1;replace p14:=eq_true p14;replace q14:=eq_true q14;go_wp2
      go_ret
      exact ⟨zq7,zq16⟩
     obtain ⟨c21b0,c21b1⟩:=neI c21;replace H:=ifI H;rcases H with ⟨c22,H⟩|⟨c22,H⟩
     ·obtain ⟨c22b0,c22b1⟩:=eqI c22;clear c22;obtain rfl:=Option.some.inj H;have p14:0≤(a1:Int):=od;have q14:a1 < (a0.size:Int):=od;have hx14:=bt_at a0 a1;replace p14:=eq_true p14;replace q14:=eq_true q14;go_wp2
      go_ret
      exact ⟨zq7,zq16⟩
     obtain ⟨c22b0,c22b1⟩:=neI c22;replace H:=ifI H;rcases H with ⟨c23,H⟩|⟨c23,H⟩
     ·obtain ⟨c23b0,c23b1⟩:=eqI c23;clear c23;obtain rfl:=Option.some.inj H;have p14:0≤(a1:Int):=od;have q14:a1 < (a0.size:Int):=od;have hx14:=bt_at a0 a1;replace p14:=eq_true p14;replace q14:=eq_true q14;go_wp2
      go_ret
      exact ⟨zq7,zq16⟩
     obtain ⟨c23b0,c23b1⟩:=neI c23;replace H:=ifI H;rcases H with ⟨c24,H⟩|⟨c24,H⟩
     ·obtain ⟨c24b0,c24b1⟩:=eqI c24;clear c24;obtain rfl:=Option.some.inj H;have p14:0≤(a1:Int):=od;have q14:a1 < (a0.size:Int):=od;have hx14:=bt_at a0 a1;replace p14:=eq_true p14;replace q14:=eq_true q14;go_wp2
      go_ret
      exact ⟨zq7,zq16⟩
     obtain ⟨c24b0,c24b1⟩:=neI c24;replace H:=ifI H;rcases H with ⟨c25,H⟩|⟨c25,H⟩
     ·obtain ⟨c25b0,c25b1⟩:=eqI c25;clear c25;obtain rfl:=Option.some.inj H;have p14:0≤(a1:Int):=od;have q14:a1 < (a0.size:Int):=od;have hx14:=bt_at a0 a1;replace p14:=eq_true p14;replace q14:=eq_true q14;go_wp2
      go_ret
      exact ⟨zq7,zq16⟩
     obtain ⟨c25b0,c25b1⟩:=neI c25;replace H:=ifI H;rcases H with ⟨c26,H⟩|⟨c26,H⟩
     ·obtain ⟨c26b0,c26b1⟩:=eqI c26;clear c26;obtain rfl:=Option.some.inj H;have p14:0≤(a1:Int):=od;have q14:a1 < (a0.size:Int):=od;have hx14:=bt_at a0 a1;replace p14:=eq_true p14;replace q14:=eq_true q14;go_wp2
      go_ret
      exact ⟨zq7,zq16⟩
     obtain ⟨c26b0,c26b1⟩:=neI c26;replace H:=ifI H;rcases H with ⟨c27,H⟩|⟨c27,H⟩
     ·obtain ⟨c27b0,c27b1⟩:=eqI c27;clear c27;obtain rfl:=Option.some.inj H;have p14:0≤(a1:Int):=od;have q14:a1 < (a0.size:Int):=od;have hx14:=bt_at a0 a1;replace p14:=eq_true p14;replace q14:=eq_true q14;go_wp2
      go_ret
      exact ⟨zq7,zq16⟩
     obtain ⟨c27b0,c27b1⟩:=neI c27;replace H:=ifI H;rcases H with ⟨c28,H⟩|⟨c28,H⟩
     ·obtain ⟨c28b0,c28b1⟩:=eqI c28;clear c28;obtain rfl:=Option.some.inj H;have p14:0≤(a1:Int):=od;have q14:a1 < (a0.size:Int):=od;have hx14:=bt_at a0 a1;replace p14:=eq_true p14;replace q14:=eq_true q14;go_wp2
      go_ret
      exact ⟨zq7,zq16⟩
     obtain ⟨c28b0,c28b1⟩:=neI c28;replace H:=ifI H;rcases H with ⟨c29,H⟩|⟨c29,H⟩
     ·obtain ⟨c29b0,c29b1⟩:=eqI c29;clear c29;obtain rfl:=Option.some.inj H;have p14:0≤(a1:Int):=od;have q14:a1 < (a0.size:Int):=od;have hx14:=bt_at a0 a1;replace p14:=eq_true p14;replace q14:=eq_true q14;go_wp2
      go_ret
      exact ⟨zq7,zq16⟩
     obtain ⟨c29b0,c29b1⟩:=neI c29;replace H:=ifI H;rcases H with ⟨c30,H⟩|⟨c30,H⟩
     ·obtain ⟨c30b0,c30b1⟩:=eqI c30;clear c30;obtain rfl:=Option.some.inj H;have p14:0≤(a1:Int):=od;have q14:a1 < (a0.size:Int):=od;have hx14:=bt_at a0 a1;replace p14:=eq_true p14;replace q14:=eq_true q14;go_wp2
      go_ret
      exact ⟨zq7,zq16⟩
     obtain ⟨c30b0,c30b1⟩:=neI c30;replace H:=ifI H;rcases H with ⟨c31,H⟩|⟨c31,H⟩
     ·obtain ⟨c31b0,c31b1⟩:=eqI c31;clear c31;obtain rfl:=Option.some.inj H;have p14:0≤(a1:Int):=od;have q14:a1 < (a0.size:Int):=od;have hx14:=bt_at a0 a1;replace p14:=eq_true p14;replace q14:=eq_true q14;go_wp2
      go_ret
      exact ⟨zq7,zq16⟩
     obtain ⟨c31b0,c31b1⟩:=neI c31;replace H:=ifI H;rcases H with ⟨c32,H⟩|⟨c32,H⟩
     ·obtain ⟨c32b0,c32b1⟩:=eqI c32;clear c32;obtain rfl:=Option.some.inj H;have p14:0≤(a1:Int):=od;have q14:a1 < (a0.size:Int):=od;have hx14:=bt_at a0 a1;replace p14:=eq_true p14;replace q14:=eq_true q14;go_wp2
      go_ret
      exact ⟨zq7,zq16⟩
     obtain ⟨c32b0,c32b1⟩:=neI c32;replace H:=ifI H;rcases H with ⟨c33,H⟩|⟨c33,H⟩
     ·obtain ⟨c33b0,c33b1⟩:=eqI c33;clear c33;obtain rfl:=Option.some.inj H;have p14:0≤(a1:Int):=od;have q14:a1 < (a0.size:Int):=od;have hx14:=bt_at a0 a1;replace p14:=eq_true p14;replace q14:=eq_true q14;go_wp2
      go_ret
      exact ⟨zq7,zq16⟩
     obtain ⟨c33b0,c33b1⟩:=neI c33;replace H:=ifI H;rcases H with ⟨c34,H⟩|⟨c34,H⟩
     ·obtain ⟨c34b0,c34b1⟩:=eqI c34;clear c34;obtain rfl:=Option.some.inj H;have p14:0≤(a1:Int):=od;have q14:a1 < (a0.size:Int):=od;have hx14:=bt_at a0 a1;replace p14:=eq_true p14;replace q14:=eq_true q14;go_wp2
      go_ret
      exact ⟨zq7,zq16⟩
     obtain ⟨c34b0,c34b1⟩:=neI c34;replace H:=ifI H;rcases H with ⟨c35,H⟩|⟨c35,H⟩
     ·obtain ⟨c35b0,c35b1⟩:=eqI c35;clear c35;obtain rfl:=Option.some.inj H;have p14:0≤(a1:Int):=od;have q14:a1 < (a0.size:Int):=od;have hx14:=bt_at a0 a1;replace p14:=eq_true p14;replace q14:=eq_true q14;go_wp2
      go_ret
      exact ⟨zq7,zq16⟩
     obtain ⟨c35b0,c35b1⟩:=neI c35;obtain rfl:=Option.some.inj H;have p14:0≤(a1:Int):=od;have q14:a1 < (a0.size:Int):=od;have hx14:=bt_at a0 a1;replace p14:=eq_true p14;replace q14:=eq_true q14;go_wp2
     go_ret
     exact ⟨zq7,zq16⟩
    exact absurd H (by simp)
   exact absurd H (by simp)
def rf06_letter.f (a0:Int):Option (Bool):=if a0 ≥ 97 then (if a0≤122 then (some true) else (if a0 ≥ 65 then (if a0≤90 then (some true) else (some (a0 == 95))) else (some (a0 == 95)))) else (if a0 ≥ 65 then (if a0≤90 then (some true) else (some (a0 == 95))) else (some (a0 == 95)))
theorem rf06_letter.calls (a0:Int) (r:Bool) (w:World) (h:rf06_letter.f a0=some r) :
  Calls Tryz.prog 54 #[.int .u8 a0] w fun e w'=>e=.returned (.bool r)∧Drawn0 w w':=by
 have H:=h;clear h;unfold rf06_letter.f at H;replace H:=ifI H;rcases H with ⟨c2,H⟩|⟨c2,H⟩
 ·have c2b0:decide (97≤a0)=true:=decide_eq_true c2;clear c2;replace H:=ifI H;rcases H with ⟨c3,H⟩|⟨c3,H⟩
  ·have c3b0:decide (a0≤122)=true:=decide_eq_true c3;clear c3;obtain rfl:=Option.some.inj H;go_enter Tryz.func54,Tryz.ntmps54
   go_wp2
   go_ret
   exact ⟨zq7,zq16⟩
  have c3b0:decide (a0≤122)=false:=decide_eq_false c3;clear c3;replace H:=ifI H;rcases H with ⟨c4,H⟩|⟨c4,H⟩
  ·have c4b0:decide (65≤a0)=true:=decide_eq_true c4;clear c4;replace H:=ifI H;rcases H with ⟨c5,H⟩|⟨c5,H⟩
   ·have c5b0:decide (a0≤90)=true:=decide_eq_true c5;clear c5;obtain rfl:=Option.some.inj H;go_enter Tryz.func54,Tryz.ntmps54
    go_wp2
    go_ret
    exact ⟨zq7,zq16⟩
   have c5b0:decide (a0≤90)=false:=decide_eq_false c5;clear c5;obtain rfl:=Option.some.inj H;go_enter Tryz.func54,Tryz.ntmps54
   go_wp2
   go_ret
   exact ⟨zq7,zq16⟩
  have c4b0:decide (65≤a0)=false:=decide_eq_false c4;clear c4;obtain rfl:=Option.some.inj H;go_enter Tryz.func54,Tryz.ntmps54
  go_wp2
  go_ret
  exact ⟨zq7,zq16⟩
 have c2b0:decide (97≤a0)=false:=decide_eq_false c2;clear c2;replace H:=ifI H;rcases H with ⟨c6,H⟩|⟨c6,H⟩
 ·have c6b0:decide (65≤a0)=true:=decide_eq_true c6;clear c6;replace H:=ifI H;rcases H with ⟨c7,H⟩|⟨c7,H⟩
  ·have c7b0:decide (a0≤90)=true:=decide_eq_true c7;clear c7;obtain rfl:=Option.some.inj H;go_enter Tryz.func54,Tryz.ntmps54
   go_wp2
   go_ret
   exact ⟨zq7,zq16⟩
  have c7b0:decide (a0≤90)=false:=decide_eq_false c7;clear c7;obtain rfl:=Option.some.inj H;go_enter Tryz.func54,Tryz.ntmps54
  go_wp2
  go_ret
  exact ⟨zq7,zq16⟩
 have c6b0:decide (65≤a0)=false:=decide_eq_false c6;clear c6;obtain rfl:=Option.some.inj H;go_enter Tryz.func54,Tryz.ntmps54
 go_wp2
 go_ret
 exact ⟨zq7,zq16⟩
def rf06_digit.f (a0:Int):Option (Bool):=if a0 ≥ 48 then (some (decide (a0≤57))) else (some false)
theorem rf06_digit.calls (a0:Int) (r:Bool) (w:World) (h:rf06_digit.f a0=some r) :
  Calls Tryz.prog 55 #[.int .u8 a0] w fun e w'=>e=.returned (.bool r)∧Drawn0 w w':=by
 have H:=h;clear h;unfold rf06_digit.f at H;replace H:=ifI H;rcases H with ⟨c2,H⟩|⟨c2,H⟩
 ·have c2b0:decide (48≤a0)=true:=decide_eq_true c2;clear c2;obtain rfl:=Option.some.inj H;go_enter Tryz.func55,Tryz.ntmps55
  go_wp2
  go_ret
  exact ⟨zq7,zq16⟩
 have c2b0:decide (48≤a0)=false:=decide_eq_false c2;clear c2;obtain rfl:=Option.some.inj H;go_enter Tryz.func55,Tryz.ntmps55
 go_wp2
 go_ret
 exact ⟨zq7,zq16⟩
def rf06_Code.l0:Nat→ByteArray→Int→Option (Bool)
|0,_,_=>none
|k+1,x0,x3=>if x3 < (x0.size:Int) then (if 0≤x3 then ((rf06_letter.f (bt x0 x3)).bind fun t125=>(if t125=true then (rf06_Code.l0 k x0 (wrap64 (x3+1))) else ((rf06_digit.f (bt x0 x3)).bind fun t126=>(if t126=true then (rf06_Code.l0 k x0 (wrap64 (x3+1))) else (some false))))) else (none)) else (if (x0.size:Int) ≥ 1 then (some (decide ((x0.size:Int)≤12))) else (some false))
def rf06_Code.f (k:Nat) (a0:ByteArray):Option (Bool):=rf06_Code.l0 k a0 0
def rf09_named.f (k:Nat) (a0_0:ByteArray) (a0_1:ByteArray):Option (Bool):=(rf06_Code.f k a0_0).bind fun t128=>(if t128=true then ((rf06_Code.f k a0_1).bind fun t129=>(some t129)) else (some false))
def rf04_Is.f (a0:Int):Option (Bool):=if a0 ≥ 0 then (some (decide (a0≤109572))) else (some false)
theorem rf04_Is.calls (a0:Int) (r:Bool) (w:World) (h:rf04_Is.f a0=some r) :
  Calls Tryz.prog 57 #[.int .i64 a0] w fun e w'=>e=.returned (.bool r)∧Drawn0 w w':=by
 have H:=h;clear h;unfold rf04_Is.f at H;replace H:=ifI H;rcases H with ⟨c2,H⟩|⟨c2,H⟩
 ·have c2b0:decide (0≤a0)=true:=decide_eq_true c2;clear c2;obtain rfl:=Option.some.inj H;go_enter Tryz.func57,Tryz.ntmps57
  go_wp2
  go_ret
  exact ⟨zq7,zq16⟩
 have c2b0:decide (0≤a0)=false:=decide_eq_false c2;clear c2;obtain rfl:=Option.some.inj H;go_enter Tryz.func57,Tryz.ntmps57
 go_wp2
 go_ret
 exact ⟨zq7,zq16⟩
def rf06_Plain.l0:Nat→ByteArray→Int→Option (Bool)
|0,_,_=>none
|k+1,x0,x3=>if x3 < (x0.size:Int) then (if 0≤x3 then (if (bt x0 x3) < 32 then (some false) else (if (bt x0 x3) > 126 then (some false) else (rf06_Plain.l0 k x0 (wrap64 (x3+1))))) else (none)) else (some (decide ((x0.size:Int)≤60)))
def rf06_Plain.f (k:Nat) (a0:ByteArray):Option (Bool):=rf06_Plain.l0 k a0 0
theorem rf06_Plain.calls (k:Nat) (a0:ByteArray) (r:Bool) (w:World) (h:rf06_Plain.f k a0=some r) :
  Calls Tryz.prog 58 #[.string a0] w fun e w'=>e=.returned (.bool r)∧Drawn0 w w':=by
 have H:=h;clear h;unfold rf06_Plain.f at H;have H':=sd H;clear H;go_enter Tryz.func58,Tryz.ntmps58
 go_wp2
 go_loopg [3] k (fun kq v3 w'=>∃ (x3_1:Int),v3=.int .i64 x3_1∧Aside0 (rf06_Plain.l0 kq a0 x3_1=some r)∧Aside0 (kq≤k)∧Drawn0 w w')
 case atStart=>exact ⟨(0),zq7,H',⟨Nat.le_refl _⟩,zq16⟩
 case round =>
  clear H';obtain ⟨x3_1,rfl,HA,HK1,⟨m1,rfl⟩⟩:=hrel
  cases gk with
 |zero=>exact absurd HA.out (by simp [rf06_Plain.l0])
 |succ k1 =>
   have H:=HA.out;clear HA;simp only [rf06_Plain.l0] at H
   replace H:=ifI H;rcases H with ⟨c2,H⟩|⟨c2,H⟩
   ·have c2b0:decide (x3_1 < (a0.size:Int))=true:=decide_eq_true c2;clear c2;replace H:=ifI H;rcases H with ⟨c3,H⟩|⟨c3,H⟩
    ·have c3b0:decide (0≤x3_1)=true:=decide_eq_true c3;clear c3;replace H:=ifI H;rcases H with ⟨c5,H⟩|⟨c5,H⟩
     ·have c5b0:decide ((bt a0 x3_1) < 32)=true:=decide_eq_true c5;clear c5;obtain rfl:=Option.some.inj H;have p4:0≤(x3_1:Int):=od;have q4:x3_1 < (a0.size:Int):=od;have hx4:=bt_at a0 x3_1;replace p4:=eq_true p4;replace q4:=eq_true q4;go_wp2
      go_ret
      exact ⟨zq7,zq16⟩
     have c5b0:decide ((bt a0 x3_1) < 32)=false:=decide_eq_false c5;clear c5;replace H:=ifI H;rcases H with ⟨c7,H⟩|⟨c7,H⟩
     ·have c7b0:decide (126 < (bt a0 x3_1))=true:=decide_eq_true c7;clear c7;obtain rfl:=Option.some.inj H;have p4:0≤(x3_1:Int):=od;have q4:x3_1 < (a0.size:Int):=od;have hx4:=bt_at a0 x3_1;replace p4:=eq_true p4;replace q4:=eq_true q4;have p6:0≤(x3_1:Int):=od;have q6:x3_1 < (a0.size:Int):=od;have hx6:=bt_at a0 x3_1;replace p6:=eq_true p6;replace q6:=eq_true q6;go_wp2
      go_ret
      exact ⟨zq7,zq16⟩
     have c7b0:decide (126 < (bt a0 x3_1))=false:=decide_eq_false c7;clear c7;have H':=sd H;clear H;have p4:0≤(x3_1:Int):=od;have q4:x3_1 < (a0.size:Int):=od;have hx4:=bt_at a0 x3_1;replace p4:=eq_true p4;replace q4:=eq_true q4;have p6:0≤(x3_1:Int):=od;have q6:x3_1 < (a0.size:Int):=od;have hx6:=bt_at a0 x3_1;replace p6:=eq_true p6;replace q6:=eq_true q6;go_wp2
     go_roundg k1
     case measure=>have:=HK1.out;omega
     case rel=>exact ⟨(wrap64 (x3_1+1)),zq7,H',⟨by have:=HK1.out;omega⟩,zq16⟩
    exact absurd H (by simp)
   have c2b0:decide (x3_1 < (a0.size:Int))=false:=decide_eq_false c2;clear c2;obtain rfl:=Option.some.inj H;go_wp2
   go_ret
   exact ⟨zq7,zq16⟩
mutual
def rf48_condition.j0:Nat→Bool→Int→Int→ByteArray→Int→Option (Int)
|0,_,_,_,_,_=>none
|k+1,x10,x135000,x135001,x135002,x135003=>if x10=true then (some 10) else ((rf48_number.f x135000).bind fun t135=>(if t135=true then (if x135001 < 1 then (rf48_condition.j1 k true x135000 x135001 x135002 x135003) else (if x135001 > 3 then (rf48_condition.j1 k true x135000 x135001 x135002 x135003) else ((rf48_number.f x135000).bind fun t136=>(if t136=true then (rf48_condition.j1 k false x135000 x135001 x135002 x135003) else (if x135001=1 then (rf48_condition.j1 k false x135000 x135001 x135002 x135003) else (if x135001=4 then (rf48_condition.j1 k false x135000 x135001 x135002 x135003) else (rf48_condition.j1 k (x135001 != 5) x135000 x135001 x135002 x135003))))))) else ((rf48_number.f x135000).bind fun t137=>(if t137=true then (rf48_condition.j1 k false x135000 x135001 x135002 x135003) else (if x135001=1 then (rf48_condition.j1 k false x135000 x135001 x135002 x135003) else (if x135001=4 then (rf48_condition.j1 k false x135000 x135001 x135002 x135003) else (rf48_condition.j1 k (x135001 != 5) x135000 x135001 x135002 x135003)))))))
def rf48_condition.j1:Nat→Bool→Int→Int→ByteArray→Int→Option (Int)
|0,_,_,_,_,_=>none
|k+1,x44,x135000,x135001,x135002,x135003=>if x44=true then (some 10) else (if x135000=1 then (if x135003 > 1000000000000 then (rf48_condition.j2 k true x135000 x135001 x135002 x135003) else (if x135003 < (-1000000000000) then (rf48_condition.j2 k true x135000 x135001 x135002 x135003) else (if x135000=4 then ((rf04_Is.f x135003).bind fun t138=>(if t138=true then ((rf48_number.f x135000).bind fun t139=>(if t139=true then (rf48_condition.j2 k false x135000 x135001 x135002 x135003) else (rf48_condition.j2 k (x135003 != 0) x135000 x135001 x135002 x135003))) else (rf48_condition.j2 k true x135000 x135001 x135002 x135003))) else ((rf48_number.f x135000).bind fun t140=>(if t140=true then (rf48_condition.j2 k false x135000 x135001 x135002 x135003) else (rf48_condition.j2 k (x135003 != 0) x135000 x135001 x135002 x135003)))))) else (if x135000=4 then ((rf04_Is.f x135003).bind fun t141=>(if t141=true then ((rf48_number.f x135000).bind fun t142=>(if t142=true then (rf48_condition.j2 k false x135000 x135001 x135002 x135003) else (rf48_condition.j2 k (x135003 != 0) x135000 x135001 x135002 x135003))) else (rf48_condition.j2 k true x135000 x135001 x135002 x135003))) else ((rf48_number.f x135000).bind fun t143=>(if t143=true then (rf48_condition.j2 k false x135000 x135001 x135002 x135003) else (rf48_condition.j2 k (x135003 != 0) x135000 x135001 x135002 x135003)))))
def rf48_condition.j2:Nat→Bool→Int→Int→ByteArray→Int→Option (Int)
|0,_,_,_,_,_=>none
|k+1,x79,x135000,x135001,x135002,x135003=>if x79=true then (some 3) else ((rf48_number.f x135000).bind fun t144=>(if t144=true then (if x135002.toList=([]:List UInt8) then ((rf48_number.f x135000).bind fun t145=>(if t145=true then (some 0) else ((rf06_Plain.f k x135002).bind fun t146=>(if t146=true then (some 0) else (some 5))))) else (some 5)) else ((rf48_number.f x135000).bind fun t147=>(if t147=true then (some 0) else ((rf06_Plain.f k x135002).bind fun t148=>(if t148=true then (some 0) else (some 5)))))))
end
def rf48_condition.f (k:Nat) (a0_0:Int) (a0_1:Int) (a0_2:ByteArray) (a0_3:Int):Option (Int):=if a0_0 < 1 then (rf48_condition.j0 k true a0_0 a0_1 a0_2 a0_3) else (rf48_condition.j0 k (decide (a0_0 > 4)) a0_0 a0_1 a0_2 a0_3)
def rf06_name.l0:Nat→ByteArray→Int→Option (Int)
|0,_,_=>none
|k+1,x0,x1=>if x1 < (x0.size:Int) then (if 0≤x1 then ((rf06_letter.f (bt x0 x1)).bind fun t386=>(if t386=true then (rf06_name.l0 k x0 (wrap64 (x1+1))) else ((rf06_digit.f (bt x0 x1)).bind fun t387=>(if t387=true then (rf06_name.l0 k x0 (wrap64 (x1+1))) else (some x1))))) else (none)) else (some x1)
def rf06_name.f (k:Nat) (a0:ByteArray) (a1:Int):Option (Int):=rf06_name.l0 k a0 a1
theorem rf06_name.calls (k:Nat) (a0:ByteArray) (a1 r:Int) (w:World) (h:rf06_name.f k a0 a1=some r) :
  Calls Tryz.prog 123 #[.string a0,.int .i64 a1] w fun e w'=>e=.returned (.int .i64 r)∧Drawn0 w w':=by
 have H:=h;clear h;unfold rf06_name.f at H;have H':=sd H;clear H;go_enter Tryz.func123,Tryz.ntmps123
 go_wp2
 go_loopg [1] k (fun kq v1 w'=>∃ (x1_1:Int),v1=.int .i64 x1_1∧Aside0 (rf06_name.l0 kq a0 x1_1=some r)∧Aside0 (kq≤k)∧Drawn0 w w')
 case atStart=>exact ⟨(a1),zq7,H',⟨Nat.le_refl _⟩,zq16⟩
 case round =>
  clear H';try clear c1
  obtain ⟨x1_1,rfl,HA,HK1,⟨m1,rfl⟩⟩:=hrel
  cases gk with
 |zero=>exact absurd HA.out (by simp [rf06_name.l0])
 |succ k1 =>
   have H:=HA.out;clear HA;simp only [rf06_name.l0] at H
   replace H:=ifI H;rcases H with ⟨c3,H⟩|⟨c3,H⟩
   ·have c3b0:decide (x1_1 < (a0.size:Int))=true:=decide_eq_true c3;clear c3;replace H:=ifI H;rcases H with ⟨c4,H⟩|⟨c4,H⟩
    ·have c4b0:decide (0≤x1_1)=true:=decide_eq_true c4;clear c4;replace H:=bdI H;obtain ⟨t386,A6,H⟩:=H;(try dsimp only at H)
     by_cases c7:t386=true
     ·subst c7;rw [if_pos rfl] at H;have H':=sd H;clear H;have p5:0≤(x1_1:Int):=od;have q5:x1_1 < (a0.size:Int):=od;have hx5:=bt_at a0 x1_1;replace p5:=eq_true p5;replace q5:=eq_true q5;go_wp2_with (first|(go_at_call 54;(with_reducible refine (rf06_letter.calls (bt a0 x1_1) true _ A6.out).mono ?_);rintro e w' ⟨rfl,⟨nd,rfl⟩⟩))
      go_roundg k1
      case measure=>have:=HK1.out;omega
      case rel=>exact ⟨(wrap64 (x1_1+1)),zq7,H',⟨by have:=HK1.out;omega⟩,zq16⟩
     replace c7:=Bool.eq_false_iff.mpr c7;subst c7;rw [if_neg Bool.false_ne_true] at H;replace H:=bdI H;obtain ⟨t387,A9,H⟩:=H;(try dsimp only at H)
     by_cases c10:t387=true
     ·subst c10;rw [if_pos rfl] at H;have H':=sd H;clear H;have p5:0≤(x1_1:Int):=od;have q5:x1_1 < (a0.size:Int):=od;have hx5:=bt_at a0 x1_1;replace p5:=eq_true p5;replace q5:=eq_true q5;go_wp2_with (first|(go_at_call 54;(with_reducible refine (rf06_letter.calls (bt a0 x1_1) false _ A6.out).mono ?_);rintro e w' ⟨rfl,⟨nd,rfl⟩⟩;have p8:0≤(x1_1:Int):=od;have q8:x1_1 < (a0.size:Int):=od;have hx8:=bt_at a0 x1_1;replace p8:=eq_true p8;replace q8:=eq_true q8)|(go_at_call 55;(with_reducible refine (rf06_digit.calls (bt a0 x1_1) true _ A9.out).mono ?_);rintro e w' ⟨rfl,⟨nd,rfl⟩⟩))
      go_roundg k1
      case measure=>have:=HK1.out;omega
      case rel=>exact ⟨(wrap64 (x1_1+1)),zq7,H',⟨by have:=HK1.out;omega⟩,zq16⟩
     replace c10:=Bool.eq_false_iff.mpr c10;subst c10;rw [if_neg Bool.false_ne_true] at H;obtain rfl:=Option.some.inj H;have p5:0≤(x1_1:Int):=od;have q5:x1_1 < (a0.size:Int):=od;have hx5:=bt_at a0 x1_1;replace p5:=eq_true p5;replace q5:=eq_true q5;go_wp2_with (first|(go_at_call 54;(with_reducible refine (rf06_letter.calls (bt a0 x1_1) false _ A6.out).mono ?_);rintro e w' ⟨rfl,⟨nd,rfl⟩⟩;have p8:0≤(x1_1:Int):=od;have q8:x1_1 < (a0.size:Int):=od;have hx8:=bt_at a0 x1_1;replace p8:=eq_true p8;replace q8:=eq_true q8)|(go_at_call 55;(with_reducible refine (rf06_digit.calls (bt a0 x1_1) false _ A9.out).mono ?_);rintro e w' ⟨rfl,⟨nd,rfl⟩⟩))
     go_ret
     exact ⟨zq7,zq16⟩
    exact absurd H (by simp)
   have c3b0:decide (x1_1 < (a0.size:Int))=false:=decide_eq_false c3;clear c3;obtain rfl:=Option.some.inj H;go_wp2
   go_ret
   exact ⟨zq7,zq16⟩
def rf06_follows.f (a0:ByteArray) (a1:Int):Option (Bool):=if a1 < (a0.size:Int) then (if 0≤a1 then ((rf06_digit.f (bt a0 a1)).bind fun t388=>(some t388)) else (none)) else (some false)
theorem rf06_follows.calls (a0:ByteArray) (a1:Int) (r:Bool) (w:World) (h:rf06_follows.f a0 a1=some r) :
  Calls Tryz.prog 124 #[.string a0,.int .i64 a1] w fun e w'=>e=.returned (.bool r)∧Drawn0 w w':=by
 have H:=h;clear h;unfold rf06_follows.f at H;replace H:=ifI H;rcases H with ⟨c3,H⟩|⟨c3,H⟩
 ·have c3b0:decide (a1 < (a0.size:Int))=true:=decide_eq_true c3;clear c3;replace H:=ifI H;rcases H with ⟨c4,H⟩|⟨c4,H⟩
  ·have c4b0:decide (0≤a1)=true:=decide_eq_true c4;clear c4;replace H:=bdI H;obtain ⟨t388,A6,H⟩:=H;(try dsimp only at H)
   obtain rfl:=Option.some.inj H;have p5:0≤(a1:Int):=od;have q5:a1 < (a0.size:Int):=od;have hx5:=bt_at a0 a1;replace p5:=eq_true p5;replace q5:=eq_true q5;go_enter Tryz.func124,Tryz.ntmps124
   go_wp2_with (first|(go_at_call 55;(with_reducible refine (rf06_digit.calls (bt a0 a1) t388 _ A6.out).mono ?_);rintro e w' ⟨rfl,⟨nd,rfl⟩⟩))
   go_ret
   exact ⟨zq7,zq16⟩
  exact absurd H (by simp)
 have c3b0:decide (a1 < (a0.size:Int))=false:=decide_eq_false c3;clear c3;obtain rfl:=Option.some.inj H;go_enter Tryz.func124,Tryz.ntmps124
 go_wp2
 go_ret
 exact ⟨zq7,zq16⟩
def rf06_number.l0:Nat→ByteArray→Int→Option (Int)
|0,_,_=>none
|k+1,x0,x1=>if x1 < (x0.size:Int) then (if 0≤x1 then ((rf06_letter.f (bt x0 x1)).bind fun t389=>(if t389=true then (rf06_number.l0 k x0 (wrap64 (x1+1))) else ((rf06_digit.f (bt x0 x1)).bind fun t390=>(if t390=true then (rf06_number.l0 k x0 (wrap64 (x1+1))) else (if (bt x0 x1)=46 then ((rf06_follows.f x0 (wrap64 (x1+1))).bind fun t391=>(if t391=true then (rf06_number.l0 k x0 (wrap64 (x1+1))) else (some x1))) else (if (bt x0 x1)=47 then ((rf06_follows.f x0 (wrap64 (x1+1))).bind fun t392=>(if t392=true then (rf06_number.l0 k x0 (wrap64 (x1+1))) else (some x1))) else (if (bt x0 x1)=45 then ((rf06_follows.f x0 (wrap64 (x1+1))).bind fun t393=>(if t393=true then (rf06_number.l0 k x0 (wrap64 (x1+1))) else (some x1))) else (some x1)))))))) else (none)) else (some x1)
def rf06_number.f (k:Nat) (a0:ByteArray) (a1:Int):Option (Int):=rf06_number.l0 k a0 (wrap64 (a1+1))
def rf04_Leap.f (a0:Int):Option (Bool):=if (Int.tmod a0 4)=0 then (if (Int.tmod a0 100)=0 then (some ((Int.tmod a0 400) == 0)) else (some true)) else (some ((Int.tmod a0 400) == 0))
theorem rf04_Leap.calls (a0:Int) (r:Bool) (w:World) (h:rf04_Leap.f a0=some r) :
  Calls Tryz.prog 137 #[.int .i64 a0] w fun e w'=>e=.returned (.bool r)∧Drawn0 w w':=by
 have H:=h;clear h;unfold rf04_Leap.f at H;replace H:=ifI H;rcases H with ⟨c2,H⟩|⟨c2,H⟩
 ·obtain ⟨c2b0,c2b1⟩:=eqI c2;clear c2;replace H:=ifI H;rcases H with ⟨c3,H⟩|⟨c3,H⟩
  ·obtain ⟨c3b0,c3b1⟩:=eqI c3;clear c3;obtain rfl:=Option.some.inj H;go_enter Tryz.func137,Tryz.ntmps137
   go_wp2
   go_ret
   exact ⟨zq7,zq16⟩
  obtain ⟨c3b0,c3b1⟩:=neI c3;obtain rfl:=Option.some.inj H;go_enter Tryz.func137,Tryz.ntmps137
  go_wp2
  go_ret
  exact ⟨zq7,zq16⟩
 obtain ⟨c2b0,c2b1⟩:=neI c2;obtain rfl:=Option.some.inj H;go_enter Tryz.func137,Tryz.ntmps137
 go_wp2
 go_ret
 exact ⟨zq7,zq16⟩
def rf04_Length.j0:Nat→Int→Int→Bool→Option (Int)
|0,_,_,_=>none
|k+1,x0,x1,x10=>if x10=true then (some 0) else (if x1=2 then ((rf04_Leap.f x0).bind fun t288=>(if t288=true then (some 29) else ((some (([31,28,31,30,31,30,31,31,30,31,30,31]:List Int):List Int)).bind fun y289=>(if 0≤(wrap64 (x1 - 1)) then (if (wrap64 (x1 - 1)) < (y289.length:Int) then (some (rd y289 (wrap64 (x1 - 1)))) else (none)) else (none))))) else ((some (([31,28,31,30,31,30,31,31,30,31,30,31]:List Int):List Int)).bind fun y293=>(if 0≤(wrap64 (x1 - 1)) then (if (wrap64 (x1 - 1)) < (y293.length:Int) then (some (rd y293 (wrap64 (x1 - 1)))) else (none)) else (none))))
def rf04_Length.f (k:Nat) (a0:Int) (a1:Int):Option (Int):=if a1 < 1 then (rf04_Length.j0 k a0 a1 true) else (rf04_Length.j0 k a0 a1 (decide (a1 > 12)))
def rf04_first.l0:Nat→Int→Int→Int→Option (Int)
|0,_,_,_=>none
|k+1,x0,x3,x4=>if x4 < x0 then ((rf04_Length.f k (wrap64 (1900+(wrap64 (Int.tdiv x4 12)))) (wrap64 ((Int.tmod x4 12)+1))).bind fun t474=>(rf04_first.l0 k x0 (wrap64 (x3+t474)) (wrap64 (x4+1)))) else (some x3)
def rf04_first.f (k:Nat) (a0:Int):Option (Int):=rf04_first.l0 k a0 0 0
def rf04_Of.f (k:Nat) (a0_0:Int) (a0_1:Int) (a0_2:Int):Option (Int×Int):=if a0_0 < 1900 then (some (0,11)) else (if a0_0 > 2199 then (some (0,11)) else (if a0_2 < 1 then (some (0,11)) else ((rf04_Length.f k a0_0 a0_1).bind fun t476=>(if a0_2 > t476 then (some (0,11)) else ((rf04_first.f k (wrap64 ((wrap64 ((wrap64 ((wrap64 (a0_0 - 1900)) * 12))+a0_1)) - 1))).bind fun t477=>(some (wrap64 ((wrap64 (t477+a0_2)) - 1),0)))))))
end A
namespace B
open Go.RowKit WW WL WM
section
variable {P:Program} {md:Region.Mode} {ops:Array Oper} {Q:Exit→Act→World→Prop} {S:World→Prop} {ds:List Nat} {T:Bool×List (List Nat×List Nat)} {BB:List Nat} {oi:Oper} {v:Value} {fuel:Nat} {l l':Array Bool} {a a':Act} {w:World}
theorem oA (i N:Nat) (hT:rtab md ops=T) (h:wpAnyLast P md ops Q S ds fuel l' a' w)
    (hi:ops[i]?=some oi:=by rfl) (hN:oi.dst=some N:=by rfl) (hl:l.setIfInBounds i true=l':=by (simp only [List.setIfInBounds_toArray,List.set_cons_zero,List.set_cons_succ];rfl))
    (hc:anyT T l.toList l'.toList i=true:=by kernel_rfl) (hQ:∀ c a w,Q (.panic c) (a.put oi.dst undef) w→Q (.panic c) a w:=by exact (fun _ _ _ h=>h)) (hg:Region.wanted oi (yielded ops a.tmps)=false:=by rfl)
    (ha:a.put (some N) undef=a':=by (simp only [Act.put,List.setIfInBounds_toArray,List.set_cons_zero,List.set_cons_succ,i64_w,i32_w];rfl)):wpAnyLast P md ops Q S ds (fuel+1) l a w :=
  pure_ l' hi hN (any_of hT hc) hQ (.inr ⟨hg,rfl⟩) ha h
theorem nA (N:Nat) (h:wpAnyLast P md ops Q S ds fuel l a' w) (ha:a.put (some N) v=a':=by (simp only [Act.put,List.setIfInBounds_toArray,List.set_cons_zero,List.set_cons_succ,i64_w,i32_w];rfl)):wpAnyLast P md ops Q S ds fuel l (a.put (some N) v) w:=norm_ ha h
end
end B
namespace B
open Go.Lib Go.RowKit WW
theorem less_le {a b:List UInt8} (h:Op.bytesLess a b=true):(Op.bytesLess b a || b == a)=false:=by
  rcases less_cases a b with ⟨a1,a2,a3,a4⟩|⟨a1,a2,a3,a4⟩|⟨a1,a2,a3⟩
  · rw [a2,a4];rfl
  · rw [a1] at h;cases h
  · rw [a2] at h;cases h
theorem less_ge {a b:List UInt8} (h:Op.bytesLess a b=false):(Op.bytesLess b a || b == a)=true:=by
  rcases less_cases a b with ⟨a1,a2,a3,a4⟩|⟨a1,a2,a3,a4⟩|⟨a1,a2,a3⟩
  · rw [a1] at h;cases h
  · rw [a2];rfl
  · rw [a1,beq_self_eq_true,Bool.or_true]
end B
namespace A
open Go.RowKit B WW WL WM
attribute [local go_sem] max2_int min2_int max_two min_two max_three min_three max_four min_four
def z50:S50:=⟨(⟨#[]⟩:ByteArray),(⟨#[]⟩:ByteArray)⟩
theorem k50_open {w:World} {x:S50} {cs:List Value} (h:k50.K w x cs):cs=[.string x.f0,.string x.f1]:=by
  obtain ⟨_,_,rfl,rfl,rfl⟩:=h;exact rfl
def rd_T50 (xs:List S50) (i:Int):S50:=xs.getD i.toNat z50
theorem at_T50 {w:World} {A:Option Addr} {n:Nat} {xs:List S50} (h:Kd.C k50 w A n xs) (i:Int) (h0:0≤i) (h1:i < n):∃ ad ,A=some ad∧w.cell? (ad.add (i.toNat * 2))=some (.string (rd_T50 xs i).f0)∧w.cell? ⟨(ad.add (i.toNat * 2)).block,(ad.add (i.toNat * 2)).off+1,none⟩=some (.string (rd_T50 xs i).f1):=by
  obtain ⟨ad,c,e,_,hK,hc0⟩:=Kd.C_get h z50 i h0 h1;have hc:∀ j u,c[j]?=some u→w.cell? (ad.add (i.toNat * 2+j))=some u:=hc0;obtain rfl:=k50_open hK;exact ⟨ad,e,hc 0 _ rfl,by rw [← add_field _ _ 1 (by omega)];exact hc 1 _ rfl⟩
end A
namespace WW
open Go.RowKit
namespace Kd
section
variable {w W:World} {A:Option Addr} {n:Nat}
theorem at_int {k:IntKind} {xs:List Int} (h:(Kd.int k).C w A n xs) (i:Int) (h0:0≤i) (h1:i < n):∃ ad,A=some ad∧w.cell? (ad.add i.toNat)=some (.int k (rd xs i)) :=
  ReadsOf.at_ (reads_of_C (enc:=Value.int k) (d:=(0:Int)) (h1:=fun _=>rfl) h) i h0 h1
end
end Kd
end WW
namespace A
open Go.RowKit B WW WL WM
attribute [local go_sem] max2_int min2_int max_two min_two max_three min_three max_four min_four
set_option maxHeartbeats 8000000
set_option maxRecDepth 100000
def rf09_Right.l0:Nat→List (S50)→Int→Option (Bool)
|0,_,_=>none
|k+1,x0,x3=>if x3 < (x0.length:Int) then (if 0≤x3 then ((rf09_named.f k ((rd_T50 x0 x3).f0) ((rd_T50 x0 x3).f1)).bind fun t131=>(if t131=true then (if x3 > 0 then (if 0≤(wrap64 (x3 - 1)) then (if (wrap64 (x3 - 1)) < (x0.length:Int) then (if ((Op.bytesLess (((rd_T50 x0 (wrap64 (x3 - 1))).f0).toList) (((rd_T50 x0 x3).f0).toList))=true) then (rf09_Right.l0 k x0 (wrap64 (x3+1))) else (some false)) else (none)) else (none)) else (rf09_Right.l0 k x0 (wrap64 (x3+1)))) else (some false))) else (none)) else (some (decide ((x0.length:Int)≤6)))
def rf09_Right.f (k:Nat) (l0:List (S50)):Option (Bool):=rf09_Right.l0 k l0 0
theorem rf04_Length.calls (k:Nat) (a0 a1 r:Int) (w:World) (h:rf04_Length.f k a0 a1=some r) :
  Calls Tryz.prog 105 #[.int .i64 a0,.int .i64 a1] w fun e w'=>e=.returned (.int .i64 r)∧Below w.heap.size w w':=by
 have HB:=sd (Below.refl w.heap.size w);have H:=h;clear h;unfold rf04_Length.f at H;have HC3:=sd H;clear H;go_enter Tryz.func105,Tryz.ntmps105
 go_upto_region 1 with (fail)
 go_cut [10] (fun v10 wc=>∃ (kq:Nat) (x10_2:Bool),v10=.bool x10_2∧Aside0 (rf04_Length.j0 kq a0 a1 x10_2=some r)∧Aside0 (kq≤k)∧Aside0 (Below w.heap.size w wc))
 case first =>
  have H:=HC3.out;clear HC3;replace H:=ifI H;rcases H with ⟨c4,H⟩|⟨c4,H⟩
  ·have c4b0:decide (a1 < 1)=true:=decide_eq_true c4;clear c4;(first|rw [c4b0]|(simp only [i64_w,i32_w];rw [c4b0])|skip)
   have H':=sd H;clear H;go_wp2
   go_meet
   case rel=>exact ⟨_,(true),zq7,H',⟨by first|omega|exact Nat.le_refl _⟩,⟨zq6⟩⟩
  have c4b0:decide (a1 < 1)=false:=decide_eq_false c4;clear c4;(first|rw [c4b0]|(simp only [i64_w,i32_w];rw [c4b0])|skip)
  have H':=sd H;clear H;go_wp2
  go_meet
  case rel=>exact ⟨_,(decide (a1 > 12)),zq7,H',⟨by first|omega|exact Nat.le_refl _⟩,⟨zq6⟩⟩
 case rest =>
  clear HC3;try clear c1
  obtain ⟨kq,x10_2,rfl,HA,HJ2,HB⟩:=hcut
  cases kq with
 |zero=>exact absurd HA.out (by simp [rf04_Length.j0])
 |succ kj2 =>
   have H:=HA.out;clear HA;simp only [rf04_Length.j0] at H
   by_cases c5:x10_2=true
   ·subst c5;rw [if_pos rfl] at H;obtain rfl:=Option.some.inj H;go_wp2
    go_ret
    exact ⟨zq4,zq6⟩
   replace c5:=Bool.eq_false_iff.mpr c5;subst c5;rw [if_neg Bool.false_ne_true] at H;replace H:=ifI H;rcases H with ⟨c6,H⟩|⟨c6,H⟩
   ·obtain ⟨c6b0,c6b1⟩:=eqI c6;clear c6;replace H:=bdI H;obtain ⟨t288,A7,H⟩:=H;(try dsimp only at H)
    by_cases c8:t288=true
    ·subst c8;rw [if_pos rfl] at H;obtain rfl:=Option.some.inj H;go_wp2_with (first|(go_at_call 137;(with_reducible refine (rf04_Leap.calls a0 true _ A7.out).mono ?_);rintro e w' ⟨rfl,⟨nd,rfl⟩⟩))
     go_ret
     exact ⟨zq4,zq6⟩
    replace c8:=Bool.eq_false_iff.mpr c8;subst c8;rw [if_neg Bool.false_ne_true] at H;obtain ⟨y289,hy289⟩:∃ y_:List Int,y_=(([31,28,31,30,31,30,31,31,30,31,30,31]:List Int)):=⟨_,rfl⟩
    replace H:(if 0≤(wrap64 (a1 - 1)) then (if (wrap64 (a1 - 1)) < (y289.length:Int) then (some (rd y289 (wrap64 (a1 - 1)))) else (none)) else (none))=some r:=by first|(rw [hy289];with_reducible exact H)|(have H2_:=(Option.bind_some _ _).symm.trans H;rw [hy289];with_reducible exact H2_)|(have H2_:=(Option.bind_some _ _).symm.trans H;with_reducible exact H2_)|with_reducible exact H|(rw [hy289];exact H)|exact H
    have Ny289:=sd hy289;clear hy289;obtain ⟨ji9,hji9⟩:∃ j_:Int,(wrap64 (a1 - 1))=j_:=⟨_,rfl⟩
    replace H:(if 0≤(ji9) then (if (ji9) < (y289.length:Int) then (some (rd y289 (ji9))) else (none)) else (none))=some r:=by first|(rw [hji9] at H;exact H)|(simp only [hji9] at H ⊢;exact H)
    (try rw [hji9] at A7)
    have hji9w:(IntKind.i64.wrap (a1 - 1))=ji9:=(i64_w _).trans hji9;replace H:=ifI H;rcases H with ⟨c10,H⟩|⟨c10,H⟩
    ·have c10b0:decide (0≤(ji9))=true:=decide_eq_true c10;clear c10;replace H:=ifI H;rcases H with ⟨c11,H⟩|⟨c11,H⟩
     ·have c11b0:decide ((ji9) < (y289.length:Int))=true:=decide_eq_true c11;clear c11;obtain rfl:=Option.some.inj H;go_wp2_with (first|(go_at_call 137;(with_reducible refine (rf04_Leap.calls a0 false _ A7.out).mono ?_);rintro e w' ⟨rfl,⟨nd,rfl⟩⟩)|((with_reducible refine gate_dst (N:=17) rfl ?_);refine Kd.R_lit (Kd.int .i64) _ 3 ?hg (N:=17) ?hd (xs:=([31,28,31,30,31,30,31,31,30,31,30,31]:List Int)) (inner:=[.int .i64 31,.int .i64 28,.int .i64 31,.int .i64 30,.int .i64 31,.int .i64 30,.int .i64 31,.int .i64 31,.int .i64 30,.int .i64 31,.int .i64 30,.int .i64 31]) (ok:=fun _=>True) (okp:=fun _=>True) ?hr ?hp (fun _ hk=>hk) trivial (Below.refl _ _) (Nat.le_refl _) (by simp) ?_;(case hd=>rfl);(case hg=>rfl);(case hr=>first|(go_simp;done)|(go_simp;rfl));(case hp=>exact (Reps.one (show Kd.M (Kd.int .i64) _ _ _ 31 [.int .i64 31] from rfl) (Reps.one (show Kd.M (Kd.int .i64) _ _ _ 28 [.int .i64 28] from rfl) (Reps.one (show Kd.M (Kd.int .i64) _ _ _ 31 [.int .i64 31] from rfl) (Reps.one (show Kd.M (Kd.int .i64) _ _ _ 30 [.int .i64 30] from rfl) (Reps.one (show Kd.M (Kd.int .i64) _ _ _ 31 [.int .i64 31] from rfl) (Reps.one (show Kd.M (Kd.int .i64) _ _ _ 30 [.int .i64 30] from rfl) (Reps.one (show Kd.M (Kd.int .i64) _ _ _ 31 [.int .i64 31] from rfl) (Reps.one (show Kd.M (Kd.int .i64) _ _ _ 31 [.int .i64 31] from rfl) (Reps.one (show Kd.M (Kd.int .i64) _ _ _ 30 [.int .i64 30] from rfl) (Reps.one (show Kd.M (Kd.int .i64) _ _ _ 31 [.int .i64 31] from rfl) (Reps.one (show Kd.M (Kd.int .i64) _ _ _ 30 [.int .i64 30] from rfl) (Reps.one (show Kd.M (Kd.int .i64) _ _ _ 31 [.int .i64 31] from rfl) (Reps.none _ _))))))))))))));intro v290 w12 ho13 hb hg_ hnew_;clear hg_ hnew_;(first|rw [← Ny289.out] at ho13|(simp only [Int.reduceToNat] at ho13;rw [← Ny289.out] at ho13));have HO291:=sd (Kd.R_lower ho13 (below_size zq6));replace HB:=hbm HB hb;clear hb ho13;obtain ⟨Ao14,co14,eo14⟩:=Kd.R_slice HO291.out;subst eo14;have p292:0≤((ji9):Int):=od;have q292:(ji9) < (y289.length:Int):=od;obtain ⟨ad292,e292,hx292_0⟩:=Kd.at_int (Kd.R_reads' HO291.out).2.2 (ji9) p292 q292;cases e292;replace p292:=eq_true p292;replace q292:=eq_true q292))
      go_ret
      exact ⟨by first|rfl|(simp [errW_none,errW_some] <;> rfl)|(simp only [← hji9];first|rfl|(simp [errW_none,errW_some] <;> rfl))|(simp [*,errW_none,errW_some] <;> rfl),zq6⟩
     exact absurd H (by simp)
    exact absurd H (by simp)
   obtain ⟨c6b0,c6b1⟩:=neI c6;obtain ⟨y293,hy293⟩:∃ y_:List Int,y_=(([31,28,31,30,31,30,31,31,30,31,30,31]:List Int)):=⟨_,rfl⟩
   replace H:(if 0≤(wrap64 (a1 - 1)) then (if (wrap64 (a1 - 1)) < (y293.length:Int) then (some (rd y293 (wrap64 (a1 - 1)))) else (none)) else (none))=some r:=by first|(rw [hy293];with_reducible exact H)|(have H2_:=(Option.bind_some _ _).symm.trans H;rw [hy293];with_reducible exact H2_)|(have H2_:=(Option.bind_some _ _).symm.trans H;with_reducible exact H2_)|with_reducible exact H|(rw [hy293];exact H)|exact H
   have Ny293:=sd hy293;clear hy293;obtain ⟨ji15,hji15⟩:∃ j_:Int,(wrap64 (a1 - 1))=j_:=⟨_,rfl⟩
   replace H:(if 0≤(ji15) then (if (ji15) < (y293.length:Int) then (some (rd y293 (ji15))) else (none)) else (none))=some r:=by first|(rw [hji15] at H;exact H)|(simp only [hji15] at H ⊢;exact H)
   have hji15w:(IntKind.i64.wrap (a1 - 1))=ji15:=(i64_w _).trans hji15;replace H:=ifI H;rcases H with ⟨c16,H⟩|⟨c16,H⟩
   ·have c16b0:decide (0≤(ji15))=true:=decide_eq_true c16;clear c16;replace H:=ifI H;rcases H with ⟨c17,H⟩|⟨c17,H⟩
    ·have c17b0:decide ((ji15) < (y293.length:Int))=true:=decide_eq_true c17;clear c17;obtain rfl:=Option.some.inj H;go_wp2_with (first|((with_reducible refine gate_dst (N:=17) rfl ?_);refine Kd.R_lit (Kd.int .i64) _ 3 ?hg (N:=17) ?hd (xs:=([31,28,31,30,31,30,31,31,30,31,30,31]:List Int)) (inner:=[.int .i64 31,.int .i64 28,.int .i64 31,.int .i64 30,.int .i64 31,.int .i64 30,.int .i64 31,.int .i64 31,.int .i64 30,.int .i64 31,.int .i64 30,.int .i64 31]) (ok:=fun _=>True) (okp:=fun _=>True) ?hr ?hp (fun _ hk=>hk) trivial (Below.refl _ _) (Nat.le_refl _) (by simp) ?_;(case hd=>rfl);(case hg=>rfl);(case hr=>first|(go_simp;done)|(go_simp;rfl));(case hp=>exact (Reps.one (show Kd.M (Kd.int .i64) _ _ _ 31 [.int .i64 31] from rfl) (Reps.one (show Kd.M (Kd.int .i64) _ _ _ 28 [.int .i64 28] from rfl) (Reps.one (show Kd.M (Kd.int .i64) _ _ _ 31 [.int .i64 31] from rfl) (Reps.one (show Kd.M (Kd.int .i64) _ _ _ 30 [.int .i64 30] from rfl) (Reps.one (show Kd.M (Kd.int .i64) _ _ _ 31 [.int .i64 31] from rfl) (Reps.one (show Kd.M (Kd.int .i64) _ _ _ 30 [.int .i64 30] from rfl) (Reps.one (show Kd.M (Kd.int .i64) _ _ _ 31 [.int .i64 31] from rfl) (Reps.one (show Kd.M (Kd.int .i64) _ _ _ 31 [.int .i64 31] from rfl) (Reps.one (show Kd.M (Kd.int .i64) _ _ _ 30 [.int .i64 30] from rfl) (Reps.one (show Kd.M (Kd.int .i64) _ _ _ 31 [.int .i64 31] from rfl) (Reps.one (show Kd.M (Kd.int .i64) _ _ _ 30 [.int .i64 30] from rfl) (Reps.one (show Kd.M (Kd.int .i64) _ _ _ 31 [.int .i64 31] from rfl) (Reps.none _ _))))))))))))));intro v294 w18 ho19 hb hg_ hnew_;clear hg_ hnew_;(first|rw [← Ny293.out] at ho19|(simp only [Int.reduceToNat] at ho19;rw [← Ny293.out] at ho19));have HO295:=sd (Kd.R_lower ho19 (below_size zq6));replace HB:=hbm HB hb;clear hb ho19;obtain ⟨Ao20,co20,eo20⟩:=Kd.R_slice HO295.out;subst eo20;have p296:0≤((ji15):Int):=od;have q296:(ji15) < (y293.length:Int):=od;obtain ⟨ad296,e296,hx296_0⟩:=Kd.at_int (Kd.R_reads' HO295.out).2.2 (ji15) p296 q296;cases e296;replace p296:=eq_true p296;replace q296:=eq_true q296))
     go_ret
     exact ⟨by first|rfl|(simp [errW_none,errW_some] <;> rfl)|(simp only [← hji15];first|rfl|(simp [errW_none,errW_some] <;> rfl))|(simp [*,errW_none,errW_some] <;> rfl),zq6⟩
    exact absurd H (by simp)
   exact absurd H (by simp)
end A
namespace B
open Go.RowKit
theorem has_drewN {W:World} {a:Addr} {n:Nat} {v:Value} (h:W.cell? a=some v):(W.drewN n).cell? a=some v:=h
end B
namespace A
open Go.RowKit B WW WL WM
theorem zq116 {P:Prop} (h:P:=by (with_reducible repeat (first|refine blk_drewN ?_ _|refine blk_drew ?_|refine blk_alloc ?_ _));refine blk_put (cs:=#[.string ((rd_T50 l0 x10_1).f0),.string (⟨#[]⟩:ByteArray)]) ?_ 1 _ rfl;(with_reducible repeat (first|refine blk_drewN ?_ _|refine blk_drew ?_|refine blk_alloc ?_ _));refine blk_put (cs:=#[.string (⟨#[]⟩:ByteArray),.string (⟨#[]⟩:ByteArray)]) ?_ 0 _ rfl;(with_reducible repeat (first|refine blk_drewN ?_ _|refine blk_drew ?_|refine blk_alloc ?_ _));exact BK109.out):P:=h
end A

end Go.Proofs.YtkbgkekegjfkfaaGreatDoor