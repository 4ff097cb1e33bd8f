-- By pack.py, a program of this session's.
import Derived.Test.YtmlcdpfcafmmcaaDoorX32
set_option linter.unusedVariables false
set_option linter.unusedSimpArgs false
namespace Go.Proofs.YtmlcdpfcafmmcaaDoor.A
open Go.RowKit B WW WL WM
attribute [local go_sem] max2_int min2_int max_two min_two max_three min_three max_four min_four
set_option maxHeartbeats 8000000
set_option maxRecDepth 100000
def rf01_Digits.l0:Nat→ByteArray→Int→Option (Bool)
 | 0,_,_=>none
 | k+1,x0,x3=>if x3 < (x0.size:Int) then (if 0≤x3 then (if (bt x0 x3) < 48 then (some false) else (if (bt x0 x3) > 57 then (some false) else (rf01_Digits.l0 k x0 (wrap64 (x3+1))))) else (none)) else (some (x0.toList != ([]:List UInt8)))
def rf01_Digits.f (k:Nat) (a0:ByteArray):Option (Bool):=rf01_Digits.l0 k a0 0
theorem rf01_Digits.calls (k:Nat) (a0:ByteArray) (r:Bool) (w:World) (h:rf01_Digits.f k a0=some r) :
  Calls Tryd.prog 97 #[.string a0] w fun e w'=>e=.returned (.bool r)∧Drawn0 w w':=by
 have H:=h;clear h;unfold rf01_Digits.f at H;have H':=sd H;clear H;go_enter Tryd.func97,Tryd.ntmps97
 go_wp2
 go_loopg [3] k (fun kq v3 w'=>∃ (x3_1:Int),v3=.int .i64 x3_1∧Aside0 (rf01_Digits.l0 kq a0 x3_1=some r)∧Aside0 (kq≤k)∧Drawn0 w w')
 case atStart=>exact ⟨(0),zq1,H',⟨Nat.le_refl _⟩,zq2⟩
 case round =>
  clear H';obtain ⟨x3_1,rfl,HA,HK1,⟨m1,rfl⟩⟩:=hrel
  cases gk with
  | zero=>exact absurd HA.out (by simp [rf01_Digits.l0])
  | succ k1 =>
   have H:=HA.out;clear HA;simp only [rf01_Digits.l0] at H
   replace H:=ifI H;rcases H with ⟨c2,H⟩ | ⟨c2,H⟩
   ·have c2b0:decide (x3_1 < (a0.size:Int))=true:=decide_eq_true c2;clear c2;replace H:=ifI H;rcases H with ⟨c3,H⟩ | ⟨c3,H⟩
    ·have c3b0:decide (0≤x3_1)=true:=decide_eq_true c3;clear c3;replace H:=ifI H;rcases H with ⟨c5,H⟩ | ⟨c5,H⟩
     ·have c5b0:decide ((bt a0 x3_1) < 48)=true:=decide_eq_true c5;clear c5;obtain rfl:=Option.some.inj H;have p4:0≤(x3_1:Int):=od;have q4:x3_1 < (a0.size:Int):=od;have hx4:=bt_at a0 x3_1;replace p4:=eq_true p4;replace q4:=eq_true q4;go_wp2
      go_ret
      exact ⟨zq1,zq2⟩
     have c5b0:decide ((bt a0 x3_1) < 48)=false:=decide_eq_false c5;clear c5;replace H:=ifI H;rcases H with ⟨c7,H⟩ | ⟨c7,H⟩
     ·have c7b0:decide (57 < (bt a0 x3_1))=true:=decide_eq_true c7;clear c7;obtain rfl:=Option.some.inj H;have p4:0≤(x3_1:Int):=od;have q4:x3_1 < (a0.size:Int):=od;have hx4:=bt_at a0 x3_1;replace p4:=eq_true p4;replace q4:=eq_true q4;have p6:0≤(x3_1:Int):=od;have q6:x3_1 < (a0.size:Int):=od;have hx6:=bt_at a0 x3_1;replace p6:=eq_true p6;replace q6:=eq_true q6;go_wp2
      go_ret
      exact ⟨zq1,zq2⟩
     have c7b0:decide (57 < (bt a0 x3_1))=false:=decide_eq_false c7;clear c7;have H':=sd H;clear H;have p4:0≤(x3_1:Int):=od;have q4:x3_1 < (a0.size:Int):=od;have hx4:=bt_at a0 x3_1;replace p4:=eq_true p4;replace q4:=eq_true q4;have p6:0≤(x3_1:Int):=od;have q6:x3_1 < (a0.size:Int):=od;have hx6:=bt_at a0 x3_1;replace p6:=eq_true p6;replace q6:=eq_true q6;go_wp2
     go_roundg k1
     case measure=>have:=HK1.out;omega
     case rel=>exact ⟨(wrap64 (x3_1+1)),zq1,H',⟨by have:=HK1.out;omega⟩,zq2⟩
    exact absurd H (by simp)
   have c2b0:decide (x3_1 < (a0.size:Int))=false:=decide_eq_false c2;clear c2;obtain rfl:=Option.some.inj H;go_wp2
   go_ret
   exact ⟨zq1,zq2⟩
def rf01_size.f (a0:Int):Option (Int):=if a0 < 0 then (some (IntKind.u64.wrap ((IntKind.u64.wrap (18446744073709551615 - (IntKind.u64.wrap (a0))))+1))) else (some (IntKind.u64.wrap (a0)))
theorem rf01_size.calls (a0 r:Int) (w:World) (h:rf01_size.f a0=some r) :
  Calls Tryd.prog 114 #[.int .i64 a0] w fun e w'=>e=.returned (.int .u64 r)∧Drawn0 w w':=by
 have H:=h;clear h;unfold rf01_size.f at H;replace H:=ifI H;rcases H with ⟨c2,H⟩ | ⟨c2,H⟩
 ·have c2b0:decide (a0 < 0)=true:=decide_eq_true c2;clear c2;obtain rfl:=Option.some.inj H;go_enter Tryd.func114,Tryd.ntmps114
  go_wp2
  go_ret
  exact ⟨zq1,zq2⟩
 have c2b0:decide (a0 < 0)=false:=decide_eq_false c2;clear c2;obtain rfl:=Option.some.inj H;go_enter Tryd.func114,Tryd.ntmps114
 go_wp2
 go_ret
 exact ⟨zq1,zq2⟩
mutual
def rf01_Mul.j0:Nat→Int→Int→Bool→Option (Int×Bool)
 | 0,_,_,_=>none
 | k+1,x6,x7,x8=>if x8=true then (rf01_Mul.j1 k x6 x7 x8 9223372036854775808) else (rf01_Mul.j1 k x6 x7 x8 9223372036854775807)
def rf01_Mul.j1:Nat→Int→Int→Bool→Int→Option (Int×Bool)
 | 0,_,_,_,_=>none
 | k+1,x6,x7,x8,x9=>if x7 > 0 then (if x7=0 then (none) else (rf01_Mul.j2 k x6 x7 x8 (decide (x6 > (IntKind.u64.wrap (Int.tdiv x9 x7)))))) else (rf01_Mul.j2 k x6 x7 x8 false)
def rf01_Mul.j2:Nat→Int→Int→Bool→Bool→Option (Int×Bool)
 | 0,_,_,_,_=>none
 | k+1,x6,x7,x8,x37=>if x37=true then (some (0,false)) else (if x8=true then (some (wrap64 (-(wrap64 (IntKind.u64.wrap (x6 * x7)))),true)) else (some (wrap64 (IntKind.u64.wrap (x6 * x7)),true)))
end
def rf01_Mul.f (k:Nat) (a0:Int) (a1:Int):Option (Int×Bool):=(rf01_size.f a0).bind fun t393=>((rf01_size.f a1).bind fun t394=>(if a0 < 0 then (if a1 > 0 then (rf01_Mul.j0 k t393 t394 true) else (if a0 > 0 then (rf01_Mul.j0 k t393 t394 (decide (a1 < 0))) else (rf01_Mul.j0 k t393 t394 false))) else (if a0 > 0 then (rf01_Mul.j0 k t393 t394 (decide (a1 < 0))) else (rf01_Mul.j0 k t393 t394 false))))
theorem rf01_Mul.calls (k:Nat) (a0 a1 r1:Int) (r2:Bool) (w:World) (h:rf01_Mul.f k a0 a1=some (r1,r2)) :
  Calls Tryd.prog 109 #[.int .i64 a0,.int .i64 a1] w fun e w'=>e=.returned (.tuple #[.int .i64 r1,.bool r2])∧Drawn0 w w':=by
 have H:=h;clear h;unfold rf01_Mul.f at H;replace H:=bdI H;obtain ⟨t393,A3,H⟩:=H;(try dsimp only at H)
 replace H:=bdI H;obtain ⟨t394,A4,H⟩:=H;(try dsimp only at H)
 have HC5:=sd H;clear H;go_enter Tryd.func109,Tryd.ntmps109
 go_upto_region 2 with (first | ((with_reducible refine gate_callee (f:=114) rfl ?_);refine gL 11 Tryd.func114 #[.int .i64 a0] ?_;(with_reducible refine (rf01_size.calls a0 t393 _ A3.out).mono ?_);rintro e w' ⟨rfl,⟨nd,rfl⟩⟩;refine ⟨_,rfl,?_⟩) | ((with_reducible refine gate_callee (f:=114) rfl ?_);refine gL 13 Tryd.func114 #[.int .i64 a1] ?_;(with_reducible refine (rf01_size.calls a1 t394 _ A4.out).mono ?_);rintro e w' ⟨rfl,⟨nd,rfl⟩⟩;refine ⟨_,rfl,?_⟩))
 (try simp only [Act.put,List.setIfInBounds_toArray,List.set_cons_zero,List.set_cons_succ])
 go_cut [8] (fun v8 wc=>∃ (kq:Nat) (x8_4:Bool),v8=.bool x8_4∧Aside0 (rf01_Mul.j0 kq t393 t394 x8_4=some (r1,r2))∧Aside0 (kq≤k)∧Drawn0 w wc)
 case first =>
  have H:=HC5.out;clear HC5;replace H:=ifI H;rcases H with ⟨c6,H⟩ | ⟨c6,H⟩
  ·have c6b0:decide (a0 < 0)=true:=decide_eq_true c6;clear c6;(first | rw [c6b0] | (simp only [i64_w,i32_w];rw [c6b0]) | skip)
   replace H:=ifI H;rcases H with ⟨c7,H⟩ | ⟨c7,H⟩
   ·have c7b0:decide (0 < a1)=true:=decide_eq_true c7;clear c7;have H':=sd H;clear H;go_wp2
    go_meet
    case rel=>exact ⟨_,(true),zq1,H',⟨by first | omega | exact Nat.le_refl _⟩,zq2⟩
   have c7b0:decide (0 < a1)=false:=decide_eq_false c7;clear c7;replace H:=ifI H;rcases H with ⟨c8,H⟩ | ⟨c8,H⟩
   ·have c8b0:decide (0 < a0)=true:=decide_eq_true c8;clear c8;have H':=sd H;clear H;go_wp2
    go_meet
    case rel=>exact ⟨_,(decide (a1 < 0)),zq1,H',⟨by first | omega | exact Nat.le_refl _⟩,zq2⟩
   have c8b0:decide (0 < a0)=false:=decide_eq_false c8;clear c8;have H':=sd H;clear H;go_wp2
   go_meet
   case rel=>exact ⟨_,(false),zq1,H',⟨by first | omega | exact Nat.le_refl _⟩,zq2⟩
  have c6b0:decide (a0 < 0)=false:=decide_eq_false c6;clear c6;(first | rw [c6b0] | (simp only [i64_w,i32_w];rw [c6b0]) | skip)
  replace H:=ifI H;rcases H with ⟨c9,H⟩ | ⟨c9,H⟩
  ·have c9b0:decide (0 < a0)=true:=decide_eq_true c9;clear c9;have H':=sd H;clear H;go_wp2
   go_meet
   case rel=>exact ⟨_,(decide (a1 < 0)),zq1,H',⟨by first | omega | exact Nat.le_refl _⟩,zq2⟩
  have c9b0:decide (0 < a0)=false:=decide_eq_false c9;clear c9;have H':=sd H;clear H;go_wp2
  go_meet
  case rel=>exact ⟨_,(false),zq1,H',⟨by first | omega | exact Nat.le_refl _⟩,zq2⟩
 case rest =>
  clear HC5;try clear c1
  try clear p2
  try clear c6
  try clear c6b0
  try clear c7
  try clear c7b0
  try clear c8
  try clear c8b0
  try clear c9
  try clear c9b0
  obtain ⟨kq,x8_4,rfl,HA,HJ4,⟨mc4,rfl⟩⟩:=hcut
  cases kq with
  | zero=>exact absurd HA.out (by simp [rf01_Mul.j0])
  | succ kj4 =>
   have H:=HA.out;clear HA;simp only [rf01_Mul.j0] at H
   have HC10:=sd H;clear H;go_upto_if 28 with (fail)
   go_cut [9] (fun v9 wc=>∃ (kq:Nat) (x9_9:Int),v9=.int .u64 x9_9∧Aside0 (rf01_Mul.j1 kq t393 t394 x8_4 x9_9=some (r1,r2))∧Aside0 (kq≤kj4)∧Drawn0 w wc)
   case first =>
    have H:=HC10.out;clear HC10;by_cases c11:x8_4=true
    ·subst c11;rw [if_pos rfl] at H;have H':=sd H;clear H;go_wp2
     go_meet
     case rel=>exact ⟨_,(9223372036854775808),zq1,H',⟨zq8⟩,zq2⟩
    replace c11:=Bool.eq_false_iff.mpr c11;subst c11;rw [if_neg Bool.false_ne_true] at H;have H':=sd H;clear H;go_wp2
    go_meet
    case rel=>exact ⟨_,(9223372036854775807),zq1,H',⟨zq8⟩,zq2⟩
   case rest =>
    clear HC10;try clear c1
    try clear p2
    try clear c4
    try clear c6
    try clear c6b0
    try clear c7
    try clear c7b0
    try clear c8
    try clear c8b0
    try clear c9
    try clear c9b0
    try clear c10
    try clear c11
    try clear p2
    obtain ⟨kq,x9_9,rfl,HA,HJ9,⟨mc9,rfl⟩⟩:=hcut
    cases kq with
    | zero=>exact absurd HA.out (by simp [rf01_Mul.j1])
    | succ kj9 =>
     have H:=HA.out;clear HA;simp only [rf01_Mul.j1] at H
     have HC12:=sd H;clear H;go_upto_region 6 with (fail)
     go_cut [37] (fun v37 wc=>∃ (kq:Nat) (x37_11:Bool),v37=.bool x37_11∧Aside0 (rf01_Mul.j2 kq t393 t394 x8_4 x37_11=some (r1,r2))∧Aside0 (kq≤kj9)∧Drawn0 w wc)
     case first =>
      have H:=HC12.out;clear HC12;replace H:=ifI H;rcases H with ⟨c13,H⟩ | ⟨c13,H⟩
      ·have c13b0:decide (0 < t394)=true:=decide_eq_true c13;clear c13;(first | rw [c13b0] | (simp only [i64_w,i32_w];rw [c13b0]) | skip)
       replace H:=ifI H;rcases H with ⟨c14,H⟩ | ⟨c14,H⟩
       ·exact absurd H (by simp)
       obtain ⟨c14b0,c14b1⟩:=neI c14;have H':=sd H;clear H;go_wp2
       go_meet
       case rel=>exact ⟨_,(decide (t393 > (IntKind.u64.wrap (Int.tdiv x9_9 t394)))),zq1,H',⟨by have:=HJ4.out;have:=HJ9.out;first | omega | exact Nat.le_refl _⟩,zq2⟩
      have c13b0:decide (0 < t394)=false:=decide_eq_false c13;clear c13;(first | rw [c13b0] | (simp only [i64_w,i32_w];rw [c13b0]) | skip)
      have H':=sd H;clear H;go_wp2
      go_meet
      case rel=>exact ⟨_,(false),zq1,H',⟨by have:=HJ4.out;have:=HJ9.out;first | omega | exact Nat.le_refl _⟩,zq2⟩
     case rest =>
      clear HC12;try clear c1
      try clear p2
      try clear c4
      try clear c6
      try clear c6b0
      try clear c7
      try clear c7b0
      try clear c8
      try clear c8b0
      try clear c9
      try clear c9b0
      try clear c10
      try clear c11
      try clear c13
      try clear c13b0
      try clear c14
      try clear c14b0
      try clear c14b1
      try clear p2
      obtain ⟨kq,x37_11,rfl,HA,HJ11,⟨mc11,rfl⟩⟩:=hcut
      cases kq with
      | zero=>exact absurd HA.out (by simp [rf01_Mul.j2])
      | succ kj11 =>
       have H:=HA.out;clear HA;simp only [rf01_Mul.j2] at H
       by_cases c15:x37_11=true
       ·subst c15;rw [if_pos rfl] at H;simp only [Option.some.injEq,Prod.mk.injEq] at H
        obtain ⟨rfl,rfl⟩:=H;go_wp2
        go_ret2
        exact ⟨zq1,zq2⟩
       replace c15:=Bool.eq_false_iff.mpr c15;subst c15;rw [if_neg Bool.false_ne_true] at H;by_cases c16:x8_4=true
       ·subst c16;rw [if_pos rfl] at H;simp only [Option.some.injEq,Prod.mk.injEq] at H
        obtain ⟨rfl,rfl⟩:=H;go_wp2
        go_ret2
        exact ⟨zq1,zq2⟩
       replace c16:=Bool.eq_false_iff.mpr c16;subst c16;rw [if_neg Bool.false_ne_true] at H;simp only [Option.some.injEq,Prod.mk.injEq] at H
       obtain ⟨rfl,rfl⟩:=H;go_wp2
       go_ret2
       exact ⟨zq1,zq2⟩
def rf01_Add.f (a0:Int) (a1:Int):Option (Int×Bool):=if a1 > 0 then (if a0 > (wrap64 (9223372036854775807 - a1)) then (some (0,false)) else (if a1 < 0 then (if a0 < (wrap64 ((-9223372036854775808) - a1)) then (some (0,false)) else (some (wrap64 (a0+a1),true))) else (some (wrap64 (a0+a1),true)))) else (if a1 < 0 then (if a0 < (wrap64 ((-9223372036854775808) - a1)) then (some (0,false)) else (some (wrap64 (a0+a1),true))) else (some (wrap64 (a0+a1),true)))
theorem rf01_Add.calls (a0 a1 r1:Int) (r2:Bool) (w:World) (h:rf01_Add.f a0 a1=some (r1,r2)) :
  Calls Tryd.prog 110 #[.int .i64 a0,.int .i64 a1] w fun e w'=>e=.returned (.tuple #[.int .i64 r1,.bool r2])∧Drawn0 w w':=by
 have H:=h;clear h;unfold rf01_Add.f at H;replace H:=ifI H;rcases H with ⟨c3,H⟩ | ⟨c3,H⟩
 ·have c3b0:decide (0 < a1)=true:=decide_eq_true c3;clear c3;replace H:=ifI H;rcases H with ⟨c4,H⟩ | ⟨c4,H⟩
  ·have c4b0:decide ((wrap64 (9223372036854775807 - a1)) < a0)=true:=decide_eq_true c4;clear c4;simp only [Option.some.injEq,Prod.mk.injEq] at H
   obtain ⟨rfl,rfl⟩:=H;go_enter Tryd.func110,Tryd.ntmps110
   go_wp2
   go_ret2
   exact ⟨zq1,zq2⟩
  have c4b0:decide ((wrap64 (9223372036854775807 - a1)) < a0)=false:=decide_eq_false c4;clear c4;replace H:=ifI H;rcases H with ⟨c5,H⟩ | ⟨c5,H⟩
  ·have c5b0:decide (a1 < 0)=true:=decide_eq_true c5;clear c5;replace H:=ifI H;rcases H with ⟨c6,H⟩ | ⟨c6,H⟩
   ·have c6b0:decide (a0 < (wrap64 ((-9223372036854775808) - a1)))=true:=decide_eq_true c6;clear c6;simp only [Option.some.injEq,Prod.mk.injEq] at H
    obtain ⟨rfl,rfl⟩:=H;go_enter Tryd.func110,Tryd.ntmps110
    go_wp2
    go_ret2
    exact ⟨zq1,zq2⟩
   have c6b0:decide (a0 < (wrap64 ((-9223372036854775808) - a1)))=false:=decide_eq_false c6;clear c6;simp only [Option.some.injEq,Prod.mk.injEq] at H
   obtain ⟨rfl,rfl⟩:=H;go_enter Tryd.func110,Tryd.ntmps110
   go_wp2
   go_ret2
   exact ⟨zq1,zq2⟩
  have c5b0:decide (a1 < 0)=false:=decide_eq_false c5;clear c5;simp only [Option.some.injEq,Prod.mk.injEq] at H
  obtain ⟨rfl,rfl⟩:=H;go_enter Tryd.func110,Tryd.ntmps110
  go_wp2
  go_ret2
  exact ⟨zq1,zq2⟩
 have c3b0:decide (0 < a1)=false:=decide_eq_false c3;clear c3;replace H:=ifI H;rcases H with ⟨c7,H⟩ | ⟨c7,H⟩
 ·have c7b0:decide (a1 < 0)=true:=decide_eq_true c7;clear c7;replace H:=ifI H;rcases H with ⟨c8,H⟩ | ⟨c8,H⟩
  ·have c8b0:decide (a0 < (wrap64 ((-9223372036854775808) - a1)))=true:=decide_eq_true c8;clear c8;simp only [Option.some.injEq,Prod.mk.injEq] at H
   obtain ⟨rfl,rfl⟩:=H;go_enter Tryd.func110,Tryd.ntmps110
   go_wp2
   go_ret2
   exact ⟨zq1,zq2⟩
  have c8b0:decide (a0 < (wrap64 ((-9223372036854775808) - a1)))=false:=decide_eq_false c8;clear c8;simp only [Option.some.injEq,Prod.mk.injEq] at H
  obtain ⟨rfl,rfl⟩:=H;go_enter Tryd.func110,Tryd.ntmps110
  go_wp2
  go_ret2
  exact ⟨zq1,zq2⟩
 have c7b0:decide (a1 < 0)=false:=decide_eq_false c7;clear c7;simp only [Option.some.injEq,Prod.mk.injEq] at H
 obtain ⟨rfl,rfl⟩:=H;go_enter Tryd.func110,Tryd.ntmps110
 go_wp2
 go_ret2
 exact ⟨zq1,zq2⟩
mutual
def rf01_Parse.j0:Nat→ByteArray→Int→Int→ByteArray→Bool→Option (Int×Int)
 | 0,_,_,_,_,_=>none
 | k+1,x0,x1,x2,x8,x9=>if x9=true then (if 1≤(x0.size:Int) then (rf01_Parse.j1 k x1 x2 (x0.extract 1 x0.size) x9) else (none)) else (rf01_Parse.j1 k x1 x2 x8 x9)
def rf01_Parse.j1:Nat→Int→Int→ByteArray→Bool→Option (Int×Int)
 | 0,_,_,_,_=>none
 | k+1,x1,x2,x8,x9=>(rf01_Digits.f k x8).bind fun t395=>(if t395=true then (if 0 < (x8.size:Int) then (if (bt x8 0)=48 then (if (x8.size:Int) > 1 then (rf01_Parse.j2 k x1 x2 x8 x9 true) else (rf01_Parse.j2 k x1 x2 x8 x9 x9)) else (rf01_Parse.j2 k x1 x2 x8 x9 false)) else (none)) else (rf01_Parse.j2 k x1 x2 x8 x9 true))
def rf01_Parse.j2:Nat→Int→Int→ByteArray→Bool→Bool→Option (Int×Int)
 | 0,_,_,_,_,_=>none
 | k+1,x1,x2,x8,x9,x41=>if x41=true then (some (0,5)) else (rf01_Parse.l0 k x1 x2 x8 x9 0 0)
def rf01_Parse.l0:Nat→Int→Int→ByteArray→Bool→Int→Int→Option (Int×Int)
 | 0,_,_,_,_,_,_=>none
 | k+1,x1,x2,x8,x9,x10,x11=>if x11 < (x8.size:Int) then ((rf01_Mul.f k x10 10).bind fun bt396=>(if bt396.2=true then (if 0≤x11 then (if x9=true then ((rf01_Add.f bt396.1 (-(((bt x8 x11) - 48) % 256))).bind fun bt398=>(if bt398.2=true then (rf01_Parse.l0 k x1 x2 x8 x9 bt398.1 (wrap64 (x11+1))) else (some (0,3)))) else ((rf01_Add.f bt396.1 (((bt x8 x11) - 48) % 256)).bind fun bt400=>(if bt400.2=true then (rf01_Parse.l0 k x1 x2 x8 x9 bt400.1 (wrap64 (x11+1))) else (some (0,3))))) else (none)) else (some (0,3)))) else (if x10 < x1 then (some (0,3)) else (if x10 > x2 then (some (0,3)) else (some (x10,0))))
end
def rf01_Parse.f (k:Nat) (a0:ByteArray) (a1:Int) (a2:Int):Option (Int×Int):=if a0.toList=([]:List UInt8) then (rf01_Parse.j0 k a0 a1 a2 a0 false) else (if 0 < (a0.size:Int) then (rf01_Parse.j0 k a0 a1 a2 a0 ((bt a0 0) == 45)) else (none))
mutual
def rf07_Parse.j0:Nat→ByteArray→Int→Bool→Option (Int×Int)
 | 0,_,_,_=>none
 | k+1,x0,x1,x18=>if x18=true then (some (0,2)) else (if x0.toList=([]:List UInt8) then (rf07_Parse.j1 k x1 x0 (⟨#[]⟩:ByteArray) (⟨#[]⟩:ByteArray) false) else (if 0 < (x0.size:Int) then (rf07_Parse.j1 k x1 x0 (⟨#[]⟩:ByteArray) (⟨#[]⟩:ByteArray) ((bt x0 0) == 45)) else (none)))
def rf07_Parse.j1:Nat→Int→ByteArray→ByteArray→ByteArray→Bool→Option (Int×Int)
 | 0,_,_,_,_,_=>none
 | k+1,x1,x6,x7,x8,x26=>if x26=true then (if 1≤(x6.size:Int) then (rf07_Parse.j2 k x1 (x6.extract 1 x6.size) x7 (⟨#[45]⟩:ByteArray)) else (none)) else (rf07_Parse.j2 k x1 x6 x7 x8)
def rf07_Parse.j2:Nat→Int→ByteArray→ByteArray→ByteArray→Option (Int×Int)
 | 0,_,_,_,_=>none
 | k+1,x1,x6,x7,x8=>if x1 > 0 then (if (wrap64 ((wrap64 ((x6.size:Int) - x1)) - 1)) < 1 then (some (0,5)) else (if 0≤(wrap64 ((wrap64 ((x6.size:Int) - x1)) - 1)) then (if (wrap64 ((wrap64 ((x6.size:Int) - x1)) - 1)) < (x6.size:Int) then (if (bt x6 (wrap64 ((wrap64 ((x6.size:Int) - x1)) - 1)))=46 then (if (wrap64 ((wrap64 ((x6.size:Int) - x1)) - 1))≤(x6.size:Int) then (if 0≤(wrap64 ((wrap64 ((wrap64 ((x6.size:Int) - x1)) - 1))+1)) then (if (wrap64 ((wrap64 ((wrap64 ((x6.size:Int) - x1)) - 1))+1))≤(x6.size:Int) then (rf07_Parse.j3 k x1 (x6.extract 0 ((wrap64 ((wrap64 ((x6.size:Int) - x1)) - 1)):Int).toNat) (x6.extract ((wrap64 ((wrap64 ((wrap64 ((x6.size:Int) - x1)) - 1))+1)):Int).toNat x6.size) x8) else (none)) else (none)) else (none)) else (some (0,5))) else (none)) else (none))) else (rf07_Parse.j3 k x1 x6 x7 x8)
def rf07_Parse.j3:Nat→Int→ByteArray→ByteArray→ByteArray→Option (Int×Int)
 | 0,_,_,_,_=>none
 | k+1,x1,x6,x7,x8=>(rf01_Digits.f k x6).bind fun t402=>(if t402=true then (if (x6.size:Int) > 1 then (if 0 < (x6.size:Int) then (if (bt x6 0)=48 then (rf07_Parse.j4 k x6 x7 x8 true) else (if x1 > 0 then ((rf01_Digits.f k x7).bind fun t403=>(rf07_Parse.j4 k x6 x7 x8 (!t403))) else (rf07_Parse.j4 k x6 x7 x8 false))) else (none)) else (if x1 > 0 then ((rf01_Digits.f k x7).bind fun t404=>(rf07_Parse.j4 k x6 x7 x8 (!t404))) else (rf07_Parse.j4 k x6 x7 x8 false))) else (rf07_Parse.j4 k x6 x7 x8 true))
def rf07_Parse.j4:Nat→ByteArray→ByteArray→ByteArray→Bool→Option (Int×Int)
 | 0,_,_,_,_=>none
 | k+1,x6,x7,x8,x72=>if x72=true then (some (0,5)) else (if x6.size+x7.size≤9223372036854775807 then (rf07_Parse.l0 k x8 (x6++x7)) else (none))
def rf07_Parse.j6:Nat→ByteArray→ByteArray→Option (Int×Int)
 | 0,_,_=>none
 | k+1,x8,x10=>if x8.toList=([45]:List UInt8) then (rf07_Parse.j7 k x8 x10 (x10.toList == ([48]:List UInt8))) else (rf07_Parse.j7 k x8 x10 false)
def rf07_Parse.j7:Nat→ByteArray→ByteArray→Bool→Option (Int×Int)
 | 0,_,_,_=>none
 | k+1,x8,x10,x91=>if x91=true then (some (0,5)) else (if x8.size+x10.size≤9223372036854775807 then ((rf01_Parse.f k (x8++x10) (-1000000000000000) 1000000000000000).bind fun bt405=>(if bt405.2=0 then (some (bt405.1,0)) else (some (0,4)))) else (none))
def rf07_Parse.l0:Nat→ByteArray→ByteArray→Option (Int×Int)
 | 0,_,_=>none
 | k+1,x8,x10=>if (x10.size:Int) > 1 then (if 0 < (x10.size:Int) then (if (bt x10 0)=48 then (if 1≤(x10.size:Int) then (rf07_Parse.l0 k x8 (x10.extract 1 x10.size)) else (none)) else (rf07_Parse.j6 k x8 x10)) else (none)) else (rf07_Parse.j6 k x8 x10)
end
def rf07_Parse.f (k:Nat) (a0:ByteArray) (a1:Int):Option (Int×Int):=if a1 < 0 then (rf07_Parse.j0 k a0 a1 true) else (rf07_Parse.j0 k a0 a1 (decide (a1 > 4)))
end Go.Proofs.YtmlcdpfcafmmcaaDoor.A
namespace Go.Proofs.YtmlcdpfcafmmcaaDoor.A
open Go.RowKit B WW WL WM
theorem zq56 {P:Prop} (h:P:=by have:=HJ3.out;have:=HJ7.out;first | omega | exact Nat.le_refl _):P:=h
theorem zq57 {P:Prop} (h:P:=by have:=HJ2.out;have:=HJ5.out;have:=HJ9.out;have:=HJ12.out;first | omega | exact Nat.le_refl _):P:=h
end Go.Proofs.YtmlcdpfcafmmcaaDoor.A
namespace Go.Proofs.YtmlcdpfcafmmcaaDoor.A
open Go.RowKit B WW WL WM
attribute [local go_sem] max2_int min2_int max_two min_two max_three min_three max_four min_four
set_option maxHeartbeats 8000000
set_option maxRecDepth 100000
theorem rf01_Parse.calls (k:Nat) (a0:ByteArray) (a1 a2 r1 r2:Int) (w:World) (h:rf01_Parse.f k a0 a1 a2=some (r1,r2)) :
  Calls Tryd.prog 96 #[.string a0,.int .i64 a1,.int .i64 a2] w fun e w'=>e=.returned (.tuple #[.int .i64 r1,.int .i64 r2])∧Drawn0 w w':=by
 have H:=h;clear h;unfold rf01_Parse.f at H;have HC4:=sd H;clear H;go_enter Tryd.func96,Tryd.ntmps96
 go_upto_region 2 with (fail)
 go_cut [9] (fun v9 wc=>∃ (kq:Nat) (x9_3:Bool),v9=.bool x9_3∧Aside0 (rf01_Parse.j0 kq a0 a1 a2 a0 x9_3=some (r1,r2))∧Aside0 (kq≤k)∧Drawn0 w wc)
 case first =>
  have H:=HC4.out;clear HC4;replace H:=ifI H;rcases H with ⟨c5,H⟩ | ⟨c5,H⟩
  ·obtain ⟨c5b0,c5b1⟩:=eqI c5;clear c5;(first | rw [c5b0] | (simp only [i64_w,i32_w];rw [c5b0]) | skip)
   have H':=sd H;clear H;go_wp2
   go_meet
   case rel=>exact ⟨_,(false),zq1,H',⟨by first | omega | exact Nat.le_refl _⟩,zq2⟩
  obtain ⟨c5b0,c5b1⟩:=neI c5;(first | rw [c5b0] | (simp only [i64_w,i32_w];rw [c5b0]) | skip)
  replace H:=ifI H;rcases H with ⟨c6,H⟩ | ⟨c6,H⟩
  ·have c6b0:decide (0 < (a0.size:Int))=true:=decide_eq_true c6;have c6b1:decide (0 < a0.size)=true:=decide_eq_true (by omega);clear c6;have H':=sd H;clear H;have p7:0≤(0:Int):=(by omega)
   have q7:0 < a0.size:=(by have:(0:Int) < (a0.size:Int):=od;omega)
   have hx7:∀ h:0 < a0.size,((a0[0]'h).toNat:Int)=bt a0 0:=bt_at a0 0;clear p7;have qi7:(0 < (a0.size:Int))=True:=eq_true (od);replace q7:=eq_true q7;go_wp2
   go_meet
   case rel=>exact ⟨_,(((bt a0 0) == 45)),zq1,H',⟨by first | omega | exact Nat.le_refl _⟩,zq2⟩
  exact absurd H (by simp)
 case rest =>
  clear HC4;try clear p2
  try clear c5
  try clear c5b0
  try clear c5b1
  try clear c6
  try clear c6b0
  try clear c6b1
  try clear p7
  try clear q7
  try clear hx7
  try clear qi7
  try clear p7
  try clear q7
  obtain ⟨kq,x9_3,rfl,HA,HJ3,⟨mc3,rfl⟩⟩:=hcut
  cases kq with
  | zero=>exact absurd HA.out (by simp [rf01_Parse.j0])
  | succ kj3 =>
   have H:=HA.out;clear HA;simp only [rf01_Parse.j0] at H
   have HC8:=sd H;clear H;go_upto_if 23 with (fail)
   go_cut [8] (fun v8 wc=>∃ (kq:Nat) (x8_7:ByteArray),v8=.string x8_7∧Aside0 (rf01_Parse.j1 kq a1 a2 x8_7 x9_3=some (r1,r2))∧Aside0 (kq≤kj3)∧Drawn0 w wc)
   case first =>
    have H:=HC8.out;clear HC8;by_cases c9:x9_3=true
    ·subst c9;rw [if_pos rfl] at H;replace H:=ifI H;rcases H with ⟨c10,H⟩ | ⟨c10,H⟩
     ·have c10b0:=eq_true c10;have c10b1:decide (1≤(a0.size:Int))=true:=decide_eq_true c10;clear c10;have H':=sd H;clear H;go_wp2
      go_meet
      case rel=>exact ⟨_,(a0.extract 1 a0.size),zq1,H',⟨zq55⟩,zq2⟩
     exact absurd H (by simp)
    replace c9:=Bool.eq_false_iff.mpr c9;subst c9;rw [if_neg Bool.false_ne_true] at H;have H':=sd H;clear H;go_wp2
    go_meet
    case rel=>exact ⟨_,(a0),zq1,H',⟨zq55⟩,zq2⟩
   case rest =>
    clear HC8;try clear c1
    try clear p2
    try clear c3
    try clear c5
    try clear c5b0
    try clear c5b1
    try clear c6
    try clear c6b0
    try clear c6b1
    try clear p7
    try clear q7
    try clear hx7
    try clear qi7
    try clear c9
    try clear c10
    try clear c10b0
    try clear c10b1
    try clear p2
    try clear p7
    try clear q7
    obtain ⟨kq,x8_7,rfl,HA,HJ7,⟨mc7,rfl⟩⟩:=hcut
    cases kq with
    | zero=>exact absurd HA.out (by simp [rf01_Parse.j1])
    | succ kj7 =>
     have H:=HA.out;clear HA;simp only [rf01_Parse.j1] at H
     have HC11:=sd H;clear H;go_upto_region 5 with (fail)
     go_cut [41] (fun v41 wc=>∃ (kq:Nat) (x41_10:Bool),v41=.bool x41_10∧Aside0 (rf01_Parse.j2 kq a1 a2 x8_7 x9_3 x41_10=some (r1,r2))∧Aside0 (kq≤kj7)∧Drawn0 w wc)
     case first =>
      have H:=HC11.out;clear HC11;replace H:=bdI H;obtain ⟨t395,A12,H⟩:=H;(try dsimp only at H)
      by_cases c13:t395=true
      ·subst c13;rw [if_pos rfl] at H;replace H:=ifI H;rcases H with ⟨c14,H⟩ | ⟨c14,H⟩
       ·have c14b0:decide (0 < (x8_7.size:Int))=true:=decide_eq_true c14;have c14b1:decide (0 < x8_7.size)=true:=decide_eq_true (by omega);clear c14;(first | rw [c14b0] | (simp only [i64_w,i32_w];rw [c14b0]) | skip)
        replace H:=ifI H;rcases H with ⟨c16,H⟩ | ⟨c16,H⟩
        ·obtain ⟨c16b0,c16b1⟩:=eqI c16;clear c16;replace H:=ifI H;rcases H with ⟨c17,H⟩ | ⟨c17,H⟩
         ·have c17b0:decide (1 < (x8_7.size:Int))=true:=decide_eq_true c17;have c17b1:decide (1 < x8_7.size)=true:=decide_eq_true (by omega);clear c17;have H':=sd H;clear H;go_wp2_with (first | ((with_reducible refine gate_callee (f:=97) rfl ?_);refine gL 27 Tryd.func97 #[.string x8_7] ?_;(with_reducible refine (rf01_Digits.calls kj7 x8_7 true _ A12.out).mono ?_);rintro e w' ⟨rfl,⟨nd,rfl⟩⟩;refine ⟨_,rfl,?_⟩;have p15:0≤(0:Int):=(by omega);have q15:0 < x8_7.size:=(by have:(0:Int) < (x8_7.size:Int):=od;omega);have hx15:∀ h:0 < x8_7.size,((x8_7[0]'h).toNat:Int)=bt x8_7 0:=bt_at x8_7 0;clear p15;have qi15:(0 < (x8_7.size:Int))=True:=eq_true (od);replace q15:=eq_true q15))
          go_meet
          case rel=>exact ⟨_,(true),zq1,H',⟨zq56⟩,zq2⟩
         have c17b0:decide (1 < (x8_7.size:Int))=false:=decide_eq_false c17;have c17b1:decide (1 < x8_7.size)=false:=decide_eq_false (by omega);clear c17;have H':=sd H;clear H;go_wp2_with (first | ((with_reducible refine gate_callee (f:=97) rfl ?_);refine gL 27 Tryd.func97 #[.string x8_7] ?_;(with_reducible refine (rf01_Digits.calls kj7 x8_7 true _ A12.out).mono ?_);rintro e w' ⟨rfl,⟨nd,rfl⟩⟩;refine ⟨_,rfl,?_⟩;have p15:0≤(0:Int):=(by omega);have q15:0 < x8_7.size:=(by have:(0:Int) < (x8_7.size:Int):=od;omega);have hx15:∀ h:0 < x8_7.size,((x8_7[0]'h).toNat:Int)=bt x8_7 0:=bt_at x8_7 0;clear p15;have qi15:(0 < (x8_7.size:Int))=True:=eq_true (od);replace q15:=eq_true q15))
         go_meet
         case rel=>exact ⟨_,(x9_3),zq1,H',⟨zq56⟩,zq2⟩
        obtain ⟨c16b0,c16b1⟩:=neI c16;have H':=sd H;clear H;go_wp2_with (first | ((with_reducible refine gate_callee (f:=97) rfl ?_);refine gL 27 Tryd.func97 #[.string x8_7] ?_;(with_reducible refine (rf01_Digits.calls kj7 x8_7 true _ A12.out).mono ?_);rintro e w' ⟨rfl,⟨nd,rfl⟩⟩;refine ⟨_,rfl,?_⟩;have p15:0≤(0:Int):=(by omega);have q15:0 < x8_7.size:=(by have:(0:Int) < (x8_7.size:Int):=od;omega);have hx15:∀ h:0 < x8_7.size,((x8_7[0]'h).toNat:Int)=bt x8_7 0:=bt_at x8_7 0;clear p15;have qi15:(0 < (x8_7.size:Int))=True:=eq_true (od);replace q15:=eq_true q15))
        go_meet
        case rel=>exact ⟨_,(false),zq1,H',⟨zq56⟩,zq2⟩
       exact absurd H (by simp)
      replace c13:=Bool.eq_false_iff.mpr c13;subst c13;rw [if_neg Bool.false_ne_true] at H;have H':=sd H;clear H;go_wp2_with (first | ((with_reducible refine gate_callee (f:=97) rfl ?_);refine gL 27 Tryd.func97 #[.string x8_7] ?_;(with_reducible refine (rf01_Digits.calls kj7 x8_7 false _ A12.out).mono ?_);rintro e w' ⟨rfl,⟨nd,rfl⟩⟩;refine ⟨_,rfl,?_⟩))
      go_meet
      case rel=>exact ⟨_,(true),zq1,H',⟨zq56⟩,zq2⟩
     case rest =>
      clear HC11;try clear c1
      try clear p1
      try clear q1
      try clear hx1
      try clear qi1
      try clear p2
      try clear c3
      try clear c5
      try clear c5b0
      try clear c5b1
      try clear c6
      try clear c6b0
      try clear c6b1
      try clear c7
      try clear p7
      try clear q7
      try clear hx7
      try clear qi7
      try clear c9
      try clear c10
      try clear c10b0
      try clear c10b1
      try clear c13
      try clear c14
      try clear c14b0
      try clear c14b1
      try clear p15
      try clear q15
      try clear hx15
      try clear qi15
      try clear c16
      try clear c16b0
      try clear c16b1
      try clear c17
      try clear c17b0
      try clear c17b1
      try clear p15
      try clear p2
      try clear p7
      try clear q15
      try clear q7
      obtain ⟨kq,x41_10,rfl,HA,HJ10,⟨mc10,rfl⟩⟩:=hcut
      cases kq with
      | zero=>exact absurd HA.out (by simp [rf01_Parse.j2])
      | succ kj10 =>
       have H:=HA.out;clear HA;simp only [rf01_Parse.j2] at H
       by_cases c18:x41_10=true
       ·subst c18;rw [if_pos rfl] at H;simp only [Option.some.injEq,Prod.mk.injEq] at H
        obtain ⟨rfl,rfl⟩:=H;go_wp2
        go_ret2
        exact ⟨zq1,zq2⟩
       replace c18:=Bool.eq_false_iff.mpr c18;subst c18;rw [if_neg Bool.false_ne_true] at H;have H':=sd H;clear H;go_wp2
       go_loopg [10,11] kj10 (fun kq v10 v11 w'=>∃ (x10_4:Int) (x11_4:Int),v10=.int .i64 x10_4∧v11=.int .i64 x11_4∧Aside0 (rf01_Parse.l0 kq a1 a2 x8_7 x9_3 x10_4 x11_4=some (r1,r2))∧Aside0 (kq≤kj10)∧Drawn0 w w')
       case atStart=>exact ⟨(0),(0),zq1,zq1,H',⟨Nat.le_refl _⟩,zq2⟩
       case round =>
        clear H';try clear c1
        try clear p1
        try clear q1
        try clear hx1
        try clear qi1
        try clear p2
        try clear c3
        try clear c5
        try clear c5b0
        try clear c5b1
        try clear c6
        try clear c6b0
        try clear c6b1
        try clear c7
        try clear p7
        try clear q7
        try clear hx7
        try clear qi7
        try clear c9
        try clear c10
        try clear c10b0
        try clear c10b1
        try clear c13
        try clear c14
        try clear c14b0
        try clear c14b1
        try clear p15
        try clear q15
        try clear hx15
        try clear qi15
        try clear c16
        try clear c16b0
        try clear c16b1
        try clear c17
        try clear c17b0
        try clear c17b1
        try clear c18
        try clear p1
        try clear p15
        try clear p2
        try clear p7
        try clear q1
        try clear q15
        try clear q7
        obtain ⟨x10_4,x11_4,rfl,rfl,HA,HK4,⟨m4,rfl⟩⟩:=hrel
        cases gk with
        | zero=>exact absurd HA.out (by simp [rf01_Parse.l0])
        | succ k4 =>
         have H:=HA.out;clear HA;simp only [rf01_Parse.l0] at H
         replace H:=ifI H;rcases H with ⟨c19,H⟩ | ⟨c19,H⟩
         ·have c19b0:decide (x11_4 < (x8_7.size:Int))=true:=decide_eq_true c19;clear c19;replace H:=bdI H;obtain ⟨⟨t396,t397⟩,A20,H⟩:=H;(try dsimp only at H)
          by_cases c21:t397=true
          ·subst c21;rw [if_pos rfl] at H;replace H:=ifI H;rcases H with ⟨c22,H⟩ | ⟨c22,H⟩
           ·have c22b0:decide (0≤x11_4)=true:=decide_eq_true c22;clear c22;by_cases c24:x9_3=true
            ·subst c24;rw [if_pos rfl] at H;replace H:=bdI H;obtain ⟨⟨t398,t399⟩,A25,H⟩:=H;(try dsimp only at H)
             by_cases c26:t399=true
             ·subst c26;rw [if_pos rfl] at H;have H':=sd H;clear H;go_wp2_with (first | ((with_reducible refine gate_callee (f:=109) rfl ?_);refine gL 50 Tryd.func109 #[.int .i64 x10_4,.int .i64 10] ?_;(with_reducible refine (rf01_Mul.calls k4 x10_4 10 t396 true _ A20.out).mono ?_);rintro e w' ⟨rfl,⟨nd,rfl⟩⟩;refine ⟨_,rfl,?_⟩;have p23:0≤(x11_4:Int):=od;have q23:x11_4 < (x8_7.size:Int):=od;have hx23:=bt_at x8_7 x11_4;replace p23:=eq_true p23;replace q23:=eq_true q23) | ((with_reducible refine gate_callee (f:=110) rfl ?_);refine gL 66 Tryd.func110 #[.int .i64 t396,.int .i64 (-(((bt x8_7 x11_4) - 48) % 256))] ?_;(with_reducible refine (rf01_Add.calls t396 (-(((bt x8_7 x11_4) - 48) % 256)) t398 true _ A25.out).mono ?_);rintro e w' ⟨rfl,⟨nd,rfl⟩⟩;refine ⟨_,rfl,?_⟩))
              go_roundg k4
              case measure=>have:=HJ3.out;have:=HJ7.out;have:=HJ10.out;have:=HK4.out;omega
              case rel=>exact ⟨(t398),(wrap64 (x11_4+1)),zq1,zq1,H',⟨by have:=HJ3.out;have:=HJ7.out;have:=HJ10.out;have:=HK4.out;omega⟩,zq2⟩
             replace c26:=Bool.eq_false_iff.mpr c26;subst c26;rw [if_neg Bool.false_ne_true] at H;simp only [Option.some.injEq,Prod.mk.injEq] at H
             obtain ⟨rfl,rfl⟩:=H;go_wp2_with (first | ((with_reducible refine gate_callee (f:=109) rfl ?_);refine gL 50 Tryd.func109 #[.int .i64 x10_4,.int .i64 10] ?_;(with_reducible refine (rf01_Mul.calls k4 x10_4 10 t396 true _ A20.out).mono ?_);rintro e w' ⟨rfl,⟨nd,rfl⟩⟩;refine ⟨_,rfl,?_⟩;have p23:0≤(x11_4:Int):=od;have q23:x11_4 < (x8_7.size:Int):=od;have hx23:=bt_at x8_7 x11_4;replace p23:=eq_true p23;replace q23:=eq_true q23) | ((with_reducible refine gate_callee (f:=110) rfl ?_);refine gL 66 Tryd.func110 #[.int .i64 t396,.int .i64 (-(((bt x8_7 x11_4) - 48) % 256))] ?_;(with_reducible refine (rf01_Add.calls t396 (-(((bt x8_7 x11_4) - 48) % 256)) t398 false _ A25.out).mono ?_);rintro e w' ⟨rfl,⟨nd,rfl⟩⟩;refine ⟨_,rfl,?_⟩))
             go_ret2
             exact ⟨zq1,zq2⟩
            replace c24:=Bool.eq_false_iff.mpr c24;subst c24;rw [if_neg Bool.false_ne_true] at H;replace H:=bdI H;obtain ⟨⟨t400,t401⟩,A27,H⟩:=H;(try dsimp only at H)
            by_cases c28:t401=true
            ·subst c28;rw [if_pos rfl] at H;have H':=sd H;clear H;go_wp2_with (first | ((with_reducible refine gate_callee (f:=109) rfl ?_);refine gL 50 Tryd.func109 #[.int .i64 x10_4,.int .i64 10] ?_;(with_reducible refine (rf01_Mul.calls k4 x10_4 10 t396 true _ A20.out).mono ?_);rintro e w' ⟨rfl,⟨nd,rfl⟩⟩;refine ⟨_,rfl,?_⟩;have p23:0≤(x11_4:Int):=od;have q23:x11_4 < (x8_7.size:Int):=od;have hx23:=bt_at x8_7 x11_4;replace p23:=eq_true p23;replace q23:=eq_true q23) | ((with_reducible refine gate_callee (f:=110) rfl ?_);refine gL 66 Tryd.func110 #[.int .i64 t396,.int .i64 (((bt x8_7 x11_4) - 48) % 256)] ?_;(with_reducible refine (rf01_Add.calls t396 (((bt x8_7 x11_4) - 48) % 256) t400 true _ A27.out).mono ?_);rintro e w' ⟨rfl,⟨nd,rfl⟩⟩;refine ⟨_,rfl,?_⟩))
             go_roundg k4
             case measure=>have:=HJ3.out;have:=HJ7.out;have:=HJ10.out;have:=HK4.out;omega
             case rel=>exact ⟨(t400),(wrap64 (x11_4+1)),zq1,zq1,H',⟨by have:=HJ3.out;have:=HJ7.out;have:=HJ10.out;have:=HK4.out;omega⟩,zq2⟩
            replace c28:=Bool.eq_false_iff.mpr c28;subst c28;rw [if_neg Bool.false_ne_true] at H;simp only [Option.some.injEq,Prod.mk.injEq] at H
            obtain ⟨rfl,rfl⟩:=H;go_wp2_with (first | ((with_reducible refine gate_callee (f:=109) rfl ?_);refine gL 50 Tryd.func109 #[.int .i64 x10_4,.int .i64 10] ?_;(with_reducible refine (rf01_Mul.calls k4 x10_4 10 t396 true _ A20.out).mono ?_);rintro e w' ⟨rfl,⟨nd,rfl⟩⟩;refine ⟨_,rfl,?_⟩;have p23:0≤(x11_4:Int):=od;have q23:x11_4 < (x8_7.size:Int):=od;have hx23:=bt_at x8_7 x11_4;replace p23:=eq_true p23;replace q23:=eq_true q23) | ((with_reducible refine gate_callee (f:=110) rfl ?_);refine gL 66 Tryd.func110 #[.int .i64 t396,.int .i64 (((bt x8_7 x11_4) - 48) % 256)] ?_;(with_reducible refine (rf01_Add.calls t396 (((bt x8_7 x11_4) - 48) % 256) t400 false _ A27.out).mono ?_);rintro e w' ⟨rfl,⟨nd,rfl⟩⟩;refine ⟨_,rfl,?_⟩))
            go_ret2
            exact ⟨zq1,zq2⟩
           exact absurd H (by simp)
          replace c21:=Bool.eq_false_iff.mpr c21;subst c21;rw [if_neg Bool.false_ne_true] at H;simp only [Option.some.injEq,Prod.mk.injEq] at H
          obtain ⟨rfl,rfl⟩:=H;go_wp2_with (first | ((with_reducible refine gate_callee (f:=109) rfl ?_);refine gL 50 Tryd.func109 #[.int .i64 x10_4,.int .i64 10] ?_;(with_reducible refine (rf01_Mul.calls k4 x10_4 10 t396 false _ A20.out).mono ?_);rintro e w' ⟨rfl,⟨nd,rfl⟩⟩;refine ⟨_,rfl,?_⟩))
          go_ret2
          exact ⟨zq1,zq2⟩
         have c19b0:decide (x11_4 < (x8_7.size:Int))=false:=decide_eq_false c19;clear c19;replace H:=ifI H;rcases H with ⟨c29,H⟩ | ⟨c29,H⟩
         ·have c29b0:decide (x10_4 < a1)=true:=decide_eq_true c29;clear c29;simp only [Option.some.injEq,Prod.mk.injEq] at H
          obtain ⟨rfl,rfl⟩:=H;go_wp2
          go_ret2
          exact ⟨zq1,zq2⟩
         have c29b0:decide (x10_4 < a1)=false:=decide_eq_false c29;clear c29;replace H:=ifI H;rcases H with ⟨c30,H⟩ | ⟨c30,H⟩
         ·have c30b0:decide (a2 < x10_4)=true:=decide_eq_true c30;clear c30;simp only [Option.some.injEq,Prod.mk.injEq] at H
          obtain ⟨rfl,rfl⟩:=H;go_wp2
          go_ret2
          exact ⟨zq1,zq2⟩
         have c30b0:decide (a2 < x10_4)=false:=decide_eq_false c30;clear c30;simp only [Option.some.injEq,Prod.mk.injEq] at H
         obtain ⟨rfl,rfl⟩:=H;go_wp2
         go_ret2
         exact ⟨zq1,zq2⟩
end Go.Proofs.YtmlcdpfcafmmcaaDoor.A
