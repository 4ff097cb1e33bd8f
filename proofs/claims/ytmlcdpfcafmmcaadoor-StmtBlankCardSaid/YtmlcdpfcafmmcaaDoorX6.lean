-- By pack.py, a program of this session's.
import Derived.Test.YtmlcdpfcafmmcaaDoorX2
import Derived.Test.YtmlcdpfcafmmcaaDoorX3
set_option linter.unusedVariables false
set_option linter.unusedSimpArgs false
namespace Go.Proofs.YtmlcdpfcafmmcaaDoor.A
open Go.RowKit B WW WL WM
attribute [local go_sem] max2_int min2_int max_two min_two max_three min_three max_four min_four
set_option maxHeartbeats 8000000
set_option maxRecDepth 100000
def words_digit.f (a0:Int):Option (Bool):=if a0 ≥ 48 then (some (decide (a0≤57))) else (some false)
theorem words_digit.calls (a0:Int) (r:Bool) (w:World) (h:words_digit.f a0=some r) :
  Calls Tryd.prog 53 #[.int .u8 a0] w fun e w'=>e=.returned (.bool r)∧Drawn0 w w':=by
 have H:=h;clear h;unfold words_digit.f at H;replace H:=ifI H;rcases H with ⟨c2,H⟩ | ⟨c2,H⟩
 ·have c2b0:decide (48≤a0)=true:=decide_eq_true c2;clear c2;obtain rfl:=Option.some.inj H;go_enter Tryd.func53,Tryd.ntmps53
  go_wp2
  go_ret
  exact ⟨zq1,zq2⟩
 have c2b0:decide (48≤a0)=false:=decide_eq_false c2;clear c2;obtain rfl:=Option.some.inj H;go_enter Tryd.func53,Tryd.ntmps53
 go_wp2
 go_ret
 exact ⟨zq1,zq2⟩
def words_letter.f (a0:Int):Option (Bool):=if a0 ≥ 97 then (if a0≤122 then (some true) else (if a0 ≥ 65 then (if a0≤90 then (some true) else (some (a0 == 95))) else (some (a0 == 95)))) else (if a0 ≥ 65 then (if a0≤90 then (some true) else (some (a0 == 95))) else (some (a0 == 95)))
theorem words_letter.calls (a0:Int) (r:Bool) (w:World) (h:words_letter.f a0=some r) :
  Calls Tryd.prog 52 #[.int .u8 a0] w fun e w'=>e=.returned (.bool r)∧Drawn0 w w':=by
 have H:=h;clear h;unfold words_letter.f at H;replace H:=ifI H;rcases H with ⟨c2,H⟩ | ⟨c2,H⟩
 ·have c2b0:decide (97≤a0)=true:=decide_eq_true c2;clear c2;replace H:=ifI H;rcases H with ⟨c3,H⟩ | ⟨c3,H⟩
  ·have c3b0:decide (a0≤122)=true:=decide_eq_true c3;clear c3;obtain rfl:=Option.some.inj H;go_enter Tryd.func52,Tryd.ntmps52
   go_wp2
   go_ret
   exact ⟨zq1,zq2⟩
  have c3b0:decide (a0≤122)=false:=decide_eq_false c3;clear c3;replace H:=ifI H;rcases H with ⟨c4,H⟩ | ⟨c4,H⟩
  ·have c4b0:decide (65≤a0)=true:=decide_eq_true c4;clear c4;replace H:=ifI H;rcases H with ⟨c5,H⟩ | ⟨c5,H⟩
   ·have c5b0:decide (a0≤90)=true:=decide_eq_true c5;clear c5;obtain rfl:=Option.some.inj H;go_enter Tryd.func52,Tryd.ntmps52
    go_wp2
    go_ret
    exact ⟨zq1,zq2⟩
   have c5b0:decide (a0≤90)=false:=decide_eq_false c5;clear c5;obtain rfl:=Option.some.inj H;go_enter Tryd.func52,Tryd.ntmps52
   go_wp2
   go_ret
   exact ⟨zq1,zq2⟩
  have c4b0:decide (65≤a0)=false:=decide_eq_false c4;clear c4;obtain rfl:=Option.some.inj H;go_enter Tryd.func52,Tryd.ntmps52
  go_wp2
  go_ret
  exact ⟨zq1,zq2⟩
 have c2b0:decide (97≤a0)=false:=decide_eq_false c2;clear c2;replace H:=ifI H;rcases H with ⟨c6,H⟩ | ⟨c6,H⟩
 ·have c6b0:decide (65≤a0)=true:=decide_eq_true c6;clear c6;replace H:=ifI H;rcases H with ⟨c7,H⟩ | ⟨c7,H⟩
  ·have c7b0:decide (a0≤90)=true:=decide_eq_true c7;clear c7;obtain rfl:=Option.some.inj H;go_enter Tryd.func52,Tryd.ntmps52
   go_wp2
   go_ret
   exact ⟨zq1,zq2⟩
  have c7b0:decide (a0≤90)=false:=decide_eq_false c7;clear c7;obtain rfl:=Option.some.inj H;go_enter Tryd.func52,Tryd.ntmps52
  go_wp2
  go_ret
  exact ⟨zq1,zq2⟩
 have c6b0:decide (65≤a0)=false:=decide_eq_false c6;clear c6;obtain rfl:=Option.some.inj H;go_enter Tryd.func52,Tryd.ntmps52
 go_wp2
 go_ret
 exact ⟨zq1,zq2⟩
theorem letter_wd:∀ n:Nat,n < 256→words_letter.f (n:Int)=some ((decide (97≤n) && decide (n≤122)) || ((decide (65≤n) && decide (n≤90)) || decide (n=95))):=by decide +kernel
theorem digit_wd:∀ n:Nat,n < 256→words_digit.f (n:Int)=some (decide (48≤n) && decide (n≤57)):=by decide +kernel
theorem money_Right.bits6:waitsOk money_Right.T6.2 money_Right.B6=true:=by kernel_rfl
def num_size.f (a0:Int):Option (Int):=if I64 a0 then some (a0.natAbs:Int) else none
theorem num_size.same (a0:Int) (hb:I64 a0) (w:World) :
  Calls Tryd.prog 61 #[.int .i64 a0] w fun e w'=>e=.returned (.int .u64 (a0.natAbs:Int))∧w=w':=by
 obtain ⟨h0,h1⟩:=hb;by_cases h:a0 < 0
 ·go_enter Tryd.func61,Tryd.ntmps61
  go_wp2
  go_ret
  exact ⟨ret_int (by rw [wu64,wu64];omega),rfl⟩
 go_enter Tryd.func61,Tryd.ntmps61
 go_wp2
 go_ret
 exact ⟨ret_int (by omega),rfl⟩
theorem num_size.calls (a0 r:Int) (w:World) (h:num_size.f a0=some r) :
  Calls Tryd.prog 61 #[.int .i64 a0] w fun e w'=>e=.returned (.int .u64 r)∧Drawn0 w w':=by
 unfold num_size.f at h;split at h <;> simp only [Option.some.injEq,reduceCtorEq] at h
 rename_i hb
 subst h;refine (num_size.same a0 hb w).mono ?_;rintro e w' ⟨rfl,rfl⟩;exact ⟨rfl,Drawn0.refl _⟩
def words_nameEnd.l0:Nat→ByteArray→Int→Option (Int)
 | 0,_,_=>none
 | k+1,x0,x1=>if x1 < (x0.size:Int) then (if 0≤x1 then ((words_letter.f (bt x0 x1)).bind fun t171=>(if t171=true then (words_nameEnd.l0 k x0 (wrap64 (x1+1))) else ((words_digit.f (bt x0 x1)).bind fun t172=>(if t172=true then (words_nameEnd.l0 k x0 (wrap64 (x1+1))) else (some x1))))) else (none)) else (some x1)
def words_nameEnd.f (k:Nat) (a0:ByteArray) (a1:Int):Option (Int):=words_nameEnd.l0 k a0 a1
theorem words_nameEnd.calls (k:Nat) (a0:ByteArray) (a1 r:Int) (w:World) (h:words_nameEnd.f k a0 a1=some r) :
  Calls Tryd.prog 82 #[.string a0,.int .i64 a1] w fun e w'=>e=.returned (.int .i64 r)∧Drawn0 w w':=by
 have H:=h;clear h;unfold words_nameEnd.f at H;have H':=sd H;clear H;go_enter Tryd.func82,Tryd.ntmps82
 go_wp2
 go_loopg [1] k (fun kq v1 w'=>∃ (x1_1:Int),v1=.int .i64 x1_1∧Aside0 (words_nameEnd.l0 kq a0 x1_1=some r)∧Aside0 (kq≤k)∧Drawn0 w w')
 case atStart=>exact ⟨(a1),zq1,H',⟨Nat.le_refl _⟩,zq2⟩
 case round =>
  clear H';try clear p2
  obtain ⟨x1_1,rfl,HA,HK1,⟨m1,rfl⟩⟩:=hrel
  cases gk with
  | zero=>exact absurd HA.out (by simp [words_nameEnd.l0])
  | succ k1 =>
   have H:=HA.out;clear HA;simp only [words_nameEnd.l0] at H
   replace H:=ifI H;rcases H with ⟨c3,H⟩ | ⟨c3,H⟩
   ·have c3b0:decide (x1_1 < (a0.size:Int))=true:=decide_eq_true c3;clear c3;replace H:=ifI H;rcases H with ⟨c4,H⟩ | ⟨c4,H⟩
    ·have c4b0:decide (0≤x1_1)=true:=decide_eq_true c4;clear c4;replace H:=bdI H;obtain ⟨t171,A6,H⟩:=H;(try dsimp only at H)
     by_cases c7:t171=true
     ·subst c7;rw [if_pos rfl] at H;have H':=sd H;clear H;have p5:0≤(x1_1:Int):=od;have q5:x1_1 < (a0.size:Int):=od;have hx5:=bt_at a0 x1_1;replace p5:=eq_true p5;replace q5:=eq_true q5;go_wp2_with (first | (go_at_call 52;(with_reducible refine (words_letter.calls (bt a0 x1_1) true _ A6.out).mono ?_);rintro e w' ⟨rfl,⟨nd,rfl⟩⟩))
      go_roundg k1
      case measure=>have:=HK1.out;omega
      case rel=>exact ⟨(wrap64 (x1_1+1)),zq1,H',⟨by have:=HK1.out;omega⟩,zq2⟩
     replace c7:=Bool.eq_false_iff.mpr c7;subst c7;rw [if_neg Bool.false_ne_true] at H;replace H:=bdI H;obtain ⟨t172,A9,H⟩:=H;(try dsimp only at H)
     by_cases c10:t172=true
     ·subst c10;rw [if_pos rfl] at H;have H':=sd H;clear H;have p5:0≤(x1_1:Int):=od;have q5:x1_1 < (a0.size:Int):=od;have hx5:=bt_at a0 x1_1;replace p5:=eq_true p5;replace q5:=eq_true q5;go_wp2_with (first | (go_at_call 52;(with_reducible refine (words_letter.calls (bt a0 x1_1) false _ A6.out).mono ?_);rintro e w' ⟨rfl,⟨nd,rfl⟩⟩;have p8:0≤(x1_1:Int):=od;have q8:x1_1 < (a0.size:Int):=od;have hx8:=bt_at a0 x1_1;replace p8:=eq_true p8;replace q8:=eq_true q8) | (go_at_call 53;(with_reducible refine (words_digit.calls (bt a0 x1_1) true _ A9.out).mono ?_);rintro e w' ⟨rfl,⟨nd,rfl⟩⟩))
      go_roundg k1
      case measure=>have:=HK1.out;omega
      case rel=>exact ⟨(wrap64 (x1_1+1)),zq1,H',⟨by have:=HK1.out;omega⟩,zq2⟩
     replace c10:=Bool.eq_false_iff.mpr c10;subst c10;rw [if_neg Bool.false_ne_true] at H;obtain rfl:=Option.some.inj H;have p5:0≤(x1_1:Int):=od;have q5:x1_1 < (a0.size:Int):=od;have hx5:=bt_at a0 x1_1;replace p5:=eq_true p5;replace q5:=eq_true q5;go_wp2_with (first | (go_at_call 52;(with_reducible refine (words_letter.calls (bt a0 x1_1) false _ A6.out).mono ?_);rintro e w' ⟨rfl,⟨nd,rfl⟩⟩;have p8:0≤(x1_1:Int):=od;have q8:x1_1 < (a0.size:Int):=od;have hx8:=bt_at a0 x1_1;replace p8:=eq_true p8;replace q8:=eq_true q8) | (go_at_call 53;(with_reducible refine (words_digit.calls (bt a0 x1_1) false _ A9.out).mono ?_);rintro e w' ⟨rfl,⟨nd,rfl⟩⟩))
     go_ret
     exact ⟨zq1,zq2⟩
    exact absurd H (by simp)
   have c3b0:decide (x1_1 < (a0.size:Int))=false:=decide_eq_false c3;clear c3;obtain rfl:=Option.some.inj H;go_wp2
   go_ret
   exact ⟨zq1,zq2⟩
def words_digitAt.f (a0:ByteArray) (a1:Int):Option (Bool):=if a1 < (a0.size:Int) then (if 0≤a1 then ((words_digit.f (bt a0 a1)).bind fun t173=>(some t173)) else (none)) else (some false)
theorem words_digitAt.calls (a0:ByteArray) (a1:Int) (r:Bool) (w:World) (h:words_digitAt.f a0 a1=some r) :
  Calls Tryd.prog 83 #[.string a0,.int .i64 a1] w fun e w'=>e=.returned (.bool r)∧Drawn0 w w':=by
 have H:=h;clear h;unfold words_digitAt.f at H;replace H:=ifI H;rcases H with ⟨c3,H⟩ | ⟨c3,H⟩
 ·have c3b0:decide (a1 < (a0.size:Int))=true:=decide_eq_true c3;clear c3;replace H:=ifI H;rcases H with ⟨c4,H⟩ | ⟨c4,H⟩
  ·have c4b0:decide (0≤a1)=true:=decide_eq_true c4;clear c4;replace H:=bdI H;obtain ⟨t173,A6,H⟩:=H;(try dsimp only at H)
   obtain rfl:=Option.some.inj H;have p5:0≤(a1:Int):=od;have q5:a1 < (a0.size:Int):=od;have hx5:=bt_at a0 a1;replace p5:=eq_true p5;replace q5:=eq_true q5;go_enter Tryd.func83,Tryd.ntmps83
   go_wp2_with (first | (go_at_call 53;(with_reducible refine (words_digit.calls (bt a0 a1) t173 _ A6.out).mono ?_);rintro e w' ⟨rfl,⟨nd,rfl⟩⟩))
   go_ret
   exact ⟨zq1,zq2⟩
  exact absurd H (by simp)
 have c3b0:decide (a1 < (a0.size:Int))=false:=decide_eq_false c3;clear c3;obtain rfl:=Option.some.inj H;go_enter Tryd.func83,Tryd.ntmps83
 go_wp2
 go_ret
 exact ⟨zq1,zq2⟩
def words_numberEnd.l0:Nat→ByteArray→Int→Option Int
  | 0,_,_=>none
  | k+1,s,i=>if i < (s.size:Int) then
      (if bt s i=46∨bt s i=47∨bt s i=45 then (words_digitAt.f s (i+1)).bind fun b=>if b=true then words_numberEnd.l0 k s (i+1) else some i
       else (words_letter.f (bt s i)).bind fun b=>if b=true then words_numberEnd.l0 k s (i+1) else (words_digit.f (bt s i)).bind fun d=>if d=true then words_numberEnd.l0 k s (i+1) else some i)
      else some i
def words_numberEnd.f (k:Nat) (s:ByteArray) (i:Int):Option Int:=if 0≤i∧i≤140737488351232∧s.size≤140737488351232 then words_numberEnd.l0 k s (i+1) else none
theorem words_signEnd.calls (k:Nat) (a0:ByteArray) (a1 r:Int) (w:World) (h:words_signEnd.f k a0 a1=some r) :
  Calls Tryd.prog 86 #[.string a0,.int .i64 a1] w fun e w'=>e=.returned (.int .i64 r)∧Drawn0 w w':=by
 have H:=h;clear h;unfold words_signEnd.f at H;have HC3:=sd H;clear H;go_enter Tryd.func86,Tryd.ntmps86
 go_upto_if 9 with (fail)
 go_cut [] (fun wc=>∃ (kq:Nat),Aside0 (words_signEnd.j0 kq a0 a1=some r)∧Aside0 (kq≤k)∧Drawn0 w wc)
 case first =>
  have H:=HC3.out;clear HC3;replace H:=ifI H;rcases H with ⟨c4,H⟩ | ⟨c4,H⟩
  ·have c4b0:decide ((wrap64 (a1+2))≤(a0.size:Int))=true:=decide_eq_true c4;clear c4;(first | rw [c4b0] | (simp only [i64_w,i32_w];rw [c4b0]) | skip)
   replace H:=ifI H;rcases H with ⟨c5,H⟩ | ⟨c5,H⟩
   ·have c5b0:=eq_true c5;have c5b1:decide (0≤a1)=true:=decide_eq_true c5;clear c5;replace H:=ifI H;rcases H with ⟨c6,H⟩ | ⟨c6,H⟩
    ·have c6b0:=eq_true c6;have c6b1:decide (a1≤(wrap64 (a1+2)))=true:=decide_eq_true c6;have c7b0:=eq_true (od:(wrap64 (a1+2))≤(a0.size:Int));replace H:=ifI H;rcases H with ⟨c8,H⟩ | ⟨c8,H⟩
     ·obtain ⟨c8b0,c8b1⟩:=eqI c8;clear c8;obtain rfl:=Option.some.inj H;go_wp2
      go_ret
      exact ⟨zq1,zq2⟩
     obtain ⟨c8b0,c8b1⟩:=neI c8;replace H:=ifI H;rcases H with ⟨c9,H⟩ | ⟨c9,H⟩
     ·obtain ⟨c9b0,c9b1⟩:=eqI c9;clear c9;obtain rfl:=Option.some.inj H;go_wp2
      go_ret
      exact ⟨zq1,zq2⟩
     obtain ⟨c9b0,c9b1⟩:=neI c9;replace H:=ifI H;rcases H with ⟨c10,H⟩ | ⟨c10,H⟩
     ·obtain ⟨c10b0,c10b1⟩:=eqI c10;clear c10;obtain rfl:=Option.some.inj H;go_wp2
      go_ret
      exact ⟨zq1,zq2⟩
     obtain ⟨c10b0,c10b1⟩:=neI c10;replace H:=ifI H;rcases H with ⟨c11,H⟩ | ⟨c11,H⟩
     ·obtain ⟨c11b0,c11b1⟩:=eqI c11;clear c11;obtain rfl:=Option.some.inj H;go_wp2
      go_ret
      exact ⟨zq1,zq2⟩
     obtain ⟨c11b0,c11b1⟩:=neI c11;have H':=sd H;clear H;go_wp2
     go_meet
     case rel=>exact ⟨_,H',⟨by first | omega | exact Nat.le_refl _⟩,zq2⟩
    exact absurd H (by simp)
   exact absurd H (by simp)
  have c4b0:decide ((wrap64 (a1+2))≤(a0.size:Int))=false:=decide_eq_false c4;clear c4;(first | rw [c4b0] | (simp only [i64_w,i32_w];rw [c4b0]) | skip)
  have H':=sd H;clear H;go_wp2
  go_meet
  case rel=>exact ⟨_,H',⟨by first | omega | exact Nat.le_refl _⟩,zq2⟩
 case rest =>
  clear HC3;try clear c1
  try clear p2
  try clear c4
  try clear c4b0
  try clear c5
  try clear c5b0
  try clear c5b1
  try clear c6
  try clear c6b0
  try clear c6b1
  try clear p6
  try clear c7
  try clear c7b0
  try clear c8
  try clear c8b0
  try clear c8b1
  try clear c9
  try clear c9b0
  try clear c9b1
  try clear c10
  try clear c10b0
  try clear c10b1
  try clear c11
  try clear c11b0
  try clear c11b1
  obtain ⟨kq,HA,HJ2,⟨mc2,rfl⟩⟩:=hcut
  cases kq with
  | zero=>exact absurd HA.out (by simp [words_signEnd.j0])
  | succ kj2 =>
   have H:=HA.out;clear HA;simp only [words_signEnd.j0] at H
   replace H:=ifI H;rcases H with ⟨c12,H⟩ | ⟨c12,H⟩
   ·have c12b0:decide (0≤a1)=true:=decide_eq_true c12;clear c12;replace H:=ifI H;rcases H with ⟨c13,H⟩ | ⟨c13,H⟩
    ·have c13b0:decide (a1 < (a0.size:Int))=true:=decide_eq_true c13;clear c13;replace H:=ifI H;rcases H with ⟨c15,H⟩ | ⟨c15,H⟩
     ·obtain ⟨c15b0,c15b1⟩:=eqI c15;clear c15;obtain rfl:=Option.some.inj H;have p14:0≤(a1:Int):=od;have q14:a1 < (a0.size:Int):=od;have hx14:=bt_at a0 a1;replace p14:=eq_true p14;replace q14:=eq_true q14;go_wp2
      go_ret
      exact ⟨zq1,zq2⟩
     obtain ⟨c15b0,c15b1⟩:=neI c15;replace H:=ifI H;rcases H with ⟨c16,H⟩ | ⟨c16,H⟩
     ·obtain ⟨c16b0,c16b1⟩:=eqI c16;clear c16;obtain rfl:=Option.some.inj H;have p14:0≤(a1:Int):=od;have q14:a1 < (a0.size:Int):=od;have hx14:=bt_at a0 a1;replace p14:=eq_true p14;replace q14:=eq_true q14;go_wp2
      go_ret
      exact ⟨zq1,zq2⟩
     obtain ⟨c16b0,c16b1⟩:=neI c16;replace H:=ifI H;rcases H with ⟨c17,H⟩ | ⟨c17,H⟩
     ·obtain ⟨c17b0,c17b1⟩:=eqI c17;clear c17;obtain rfl:=Option.some.inj H;have p14:0≤(a1:Int):=od;have q14:a1 < (a0.size:Int):=od;have hx14:=bt_at a0 a1;replace p14:=eq_true p14;replace q14:=eq_true q14;go_wp2
      go_ret
      exact ⟨zq1,zq2⟩
     obtain ⟨c17b0,c17b1⟩:=neI c17;replace H:=ifI H;rcases H with ⟨c18,H⟩ | ⟨c18,H⟩
     ·obtain ⟨c18b0,c18b1⟩:=eqI c18;clear c18;obtain rfl:=Option.some.inj H;have p14:0≤(a1:Int):=od;have q14:a1 < (a0.size:Int):=od;have hx14:=bt_at a0 a1;replace p14:=eq_true p14;replace q14:=eq_true q14;go_wp2
      go_ret
      exact ⟨zq1,zq2⟩
     obtain ⟨c18b0,c18b1⟩:=neI c18;replace H:=ifI H;rcases H with ⟨c19,H⟩ | ⟨c19,H⟩
     ·obtain ⟨c19b0,c19b1⟩:=eqI c19;clear c19;obtain rfl:=Option.some.inj H;have p14:0≤(a1:Int):=od;have q14:a1 < (a0.size:Int):=od;have hx14:=bt_at a0 a1;replace p14:=eq_true p14;replace q14:=eq_true q14;go_wp2
      go_ret
      exact ⟨zq1,zq2⟩
     obtain ⟨c19b0,c19b1⟩:=neI c19;replace H:=ifI H;rcases H with ⟨c20,H⟩ | ⟨c20,H⟩
     ·obtain ⟨c20b0,c20b1⟩:=eqI c20;clear c20;obtain rfl:=Option.some.inj H;have p14:0≤(a1:Int):=od;have q14:a1 < (a0.size:Int):=od;have hx14:=bt_at a0 a1;replace p14:=eq_true p14;replace q14:=eq_true q14;go_wp2
      go_ret
      exact ⟨zq1,zq2⟩
     obtain ⟨c20b0,c20b1⟩:=neI c20;replace H:=ifI H;rcases H with ⟨c21,H⟩ | ⟨c21,H⟩
     ·obtain ⟨c21b0,c21b1⟩:=eqI c21;clear c21;obtain rfl:=Option.some.inj H;have p14:0≤(a1:Int):=od;have q14:a1 < (a0.size:Int):=od;have hx14:=bt_at a0 a1;replace p14:=eq_true p14;replace q14:=eq_true q14;go_wp2
      go_ret
      exact ⟨zq1,zq2⟩
     obtain ⟨c21b0,c21b1⟩:=neI c21;replace H:=ifI H;rcases H with ⟨c22,H⟩ | ⟨c22,H⟩
     ·obtain ⟨c22b0,c22b1⟩:=eqI c22;clear c22;obtain rfl:=Option.some.inj H;have p14:0≤(a1:Int):=od;have q14:a1 < (a0.size:Int):=od;have hx14:=bt_at a0 a1;replace p14:=eq_true p14;replace q14:=eq_true q14;go_wp2
      go_ret
      exact ⟨zq1,zq2⟩
     obtain ⟨c22b0,c22b1⟩:=neI c22;replace H:=ifI H;rcases H with ⟨c23,H⟩ | ⟨c23,H⟩
     ·obtain ⟨c23b0,c23b1⟩:=eqI c23;clear c23;obtain rfl:=Option.some.inj H;have p14:0≤(a1:Int):=od;have q14:a1 < (a0.size:Int):=od;have hx14:=bt_at a0 a1;replace p14:=eq_true p14;replace q14:=eq_true q14;go_wp2
      go_ret
      exact ⟨zq1,zq2⟩
     obtain ⟨c23b0,c23b1⟩:=neI c23;replace H:=ifI H;rcases H with ⟨c24,H⟩ | ⟨c24,H⟩
     ·obtain ⟨c24b0,c24b1⟩:=eqI c24;clear c24;obtain rfl:=Option.some.inj H;have p14:0≤(a1:Int):=od;have q14:a1 < (a0.size:Int):=od;have hx14:=bt_at a0 a1;replace p14:=eq_true p14;replace q14:=eq_true q14;go_wp2
      go_ret
      exact ⟨zq1,zq2⟩
     obtain ⟨c24b0,c24b1⟩:=neI c24;replace H:=ifI H;rcases H with ⟨c25,H⟩ | ⟨c25,H⟩
     ·obtain ⟨c25b0,c25b1⟩:=eqI c25;clear c25;obtain rfl:=Option.some.inj H;have p14:0≤(a1:Int):=od;have q14:a1 < (a0.size:Int):=od;have hx14:=bt_at a0 a1;replace p14:=eq_true p14;replace q14:=eq_true q14;go_wp2
      go_ret
      exact ⟨zq1,zq2⟩
     obtain ⟨c25b0,c25b1⟩:=neI c25;replace H:=ifI H;rcases H with ⟨c26,H⟩ | ⟨c26,H⟩
     ·obtain ⟨c26b0,c26b1⟩:=eqI c26;clear c26;obtain rfl:=Option.some.inj H;have p14:0≤(a1:Int):=od;have q14:a1 < (a0.size:Int):=od;have hx14:=bt_at a0 a1;replace p14:=eq_true p14;replace q14:=eq_true q14;go_wp2
      go_ret
      exact ⟨zq1,zq2⟩
     obtain ⟨c26b0,c26b1⟩:=neI c26;replace H:=ifI H;rcases H with ⟨c27,H⟩ | ⟨c27,H⟩
     ·obtain ⟨c27b0,c27b1⟩:=eqI c27;clear c27;obtain rfl:=Option.some.inj H;have p14:0≤(a1:Int):=od;have q14:a1 < (a0.size:Int):=od;have hx14:=bt_at a0 a1;replace p14:=eq_true p14;replace q14:=eq_true q14;go_wp2
      go_ret
      exact ⟨zq1,zq2⟩
     obtain ⟨c27b0,c27b1⟩:=neI c27;replace H:=ifI H;rcases H with ⟨c28,H⟩ | ⟨c28,H⟩
     ·obtain ⟨c28b0,c28b1⟩:=eqI c28;clear c28;obtain rfl:=Option.some.inj H;have p14:0≤(a1:Int):=od;have q14:a1 < (a0.size:Int):=od;have hx14:=bt_at a0 a1;replace p14:=eq_true p14;replace q14:=eq_true q14;go_wp2
      go_ret
      exact ⟨zq1,zq2⟩
     obtain ⟨c28b0,c28b1⟩:=neI c28;replace H:=ifI H;rcases H with ⟨c29,H⟩ | ⟨c29,H⟩
     ·obtain ⟨c29b0,c29b1⟩:=eqI c29;clear c29;obtain rfl:=Option.some.inj H;have p14:0≤(a1:Int):=od;have q14:a1 < (a0.size:Int):=od;have hx14:=bt_at a0 a1;replace p14:=eq_true p14;replace q14:=eq_true q14;go_wp2
      go_ret
      exact ⟨zq1,zq2⟩
     obtain ⟨c29b0,c29b1⟩:=neI c29;replace H:=ifI H;rcases H with ⟨c30,H⟩ | ⟨c30,H⟩
     ·obtain ⟨c30b0,c30b1⟩:=eqI c30;clear c30;obtain rfl:=Option.some.inj H;have p14:0≤(a1:Int):=od;have q14:a1 < (a0.size:Int):=od;have hx14:=bt_at a0 a1;replace p14:=eq_true p14;replace q14:=eq_true q14;go_wp2
      go_ret
      exact ⟨zq1,zq2⟩
     obtain ⟨c30b0,c30b1⟩:=neI c30;replace H:=ifI H;rcases H with ⟨c31,H⟩ | ⟨c31,H⟩
     ·obtain ⟨c31b0,c31b1⟩:=eqI c31;clear c31;obtain rfl:=Option.some.inj H;have p14:0≤(a1:Int):=od;have q14:a1 < (a0.size:Int):=od;have hx14:=bt_at a0 a1;replace p14:=eq_true p14;replace q14:=eq_true q14;go_wp2
      go_ret
      exact ⟨zq1,zq2⟩
     obtain ⟨c31b0,c31b1⟩:=neI c31;replace H:=ifI H;rcases H with ⟨c32,H⟩ | ⟨c32,H⟩
     ·obtain ⟨c32b0,c32b1⟩:=eqI c32;clear c32;obtain rfl:=Option.some.inj H;have p14:0≤(a1:Int):=od;have q14:a1 < (a0.size:Int):=od;have hx14:=bt_at a0 a1;replace p14:=eq_true p14;replace q14:=eq_true q14;go_wp2
      go_ret
      exact ⟨zq1,zq2⟩
     obtain ⟨c32b0,c32b1⟩:=neI c32;replace H:=ifI H;rcases H with ⟨c33,H⟩ | ⟨c33,H⟩
     ·obtain ⟨c33b0,c33b1⟩:=eqI c33;clear c33;obtain rfl:=Option.some.inj H;have p14:0≤(a1:Int):=od;have q14:a1 < (a0.size:Int):=od;have hx14:=bt_at a0 a1;replace p14:=eq_true p14;replace q14:=eq_true q14;go_wp2
      go_ret
      exact ⟨zq1,zq2⟩
     obtain ⟨c33b0,c33b1⟩:=neI c33;replace H:=ifI H;rcases H with ⟨c34,H⟩ | ⟨c34,H⟩
     ·obtain ⟨c34b0,c34b1⟩:=eqI c34;clear c34;obtain rfl:=Option.some.inj H;have p14:0≤(a1:Int):=od;have q14:a1 < (a0.size:Int):=od;have hx14:=bt_at a0 a1;replace p14:=eq_true p14;replace q14:=eq_true q14;go_wp2
      go_ret
      exact ⟨zq1,zq2⟩
     obtain ⟨c34b0,c34b1⟩:=neI c34;replace H:=ifI H;rcases H with ⟨c35,H⟩ | ⟨c35,H⟩
     ·obtain ⟨c35b0,c35b1⟩:=eqI c35;clear c35;obtain rfl:=Option.some.inj H;have p14:0≤(a1:Int):=od;have q14:a1 < (a0.size:Int):=od;have hx14:=bt_at a0 a1;replace p14:=eq_true p14;replace q14:=eq_true q14;go_wp2
      go_ret
      exact ⟨zq1,zq2⟩
     obtain ⟨c35b0,c35b1⟩:=neI c35;obtain rfl:=Option.some.inj H;have p14:0≤(a1:Int):=od;have q14:a1 < (a0.size:Int):=od;have hx14:=bt_at a0 a1;replace p14:=eq_true p14;replace q14:=eq_true q14;go_wp2
     go_ret
     exact ⟨zq1,zq2⟩
    exact absurd H (by simp)
   exact absurd H (by simp)
theorem formed_l0 (s:ByteArray) (hs:s.size≤140737488351232) (d:Nat):∀ i:Nat,i+d=s.size→Ev (fun k=>num_formed.l0 k s (s.size:Int) (i:Int)) ((s.data.toList.drop i).all isDig):=by
 induction d with
 | zero =>
  intro i hi;refine Ev.step (fun k=>by rw [num_formed.l0]) ?_;refine Ev.no (by omega) (Ev.is ?_);rw [List.drop_eq_nil_of_le (by rw [← size_eq'];omega)];rfl
 | succ d ih =>
  intro i hi;have hl:i < s.data.toList.length:=by rw [← size_eq'];omega
  have hd:s.data.toList.drop i=s.data.toList[i] :: s.data.toList.drop (i+1):=List.drop_eq_getElem_cons hl;have hb:bt s (i:Int)=(s.data.toList[i].toNat:Int):=by rw [bt_eq,Int.toNat_natCast,List.getD_eq_getElem?_getD,List.getElem?_eq_getElem hl];rfl
  have hc:=isDig_iff s.data.toList[i];rw [← hb] at hc;refine Ev.step (fun k=>by rw [num_formed.l0]) ?_;refine Ev.yes (by omega) (Ev.yes (by omega) (Ev.yes (by omega) (Ev.both (fun h=>Ev.is ?_) (fun h=>Ev.both (fun h2=>Ev.is ?_) (fun h2=>?_)))))
  ·rw [hd,List.all_cons];have:isDig s.data.toList[i]=false:=by rw [← Bool.not_eq_true,hc];omega
   rw [this];rfl
  ·rw [hd,List.all_cons];have:isDig s.data.toList[i]=false:=by rw [← Bool.not_eq_true,hc];omega
   rw [this];rfl
  ·rw [hd,List.all_cons,hc.mpr ⟨by omega,by omega⟩,Bool.true_and,show wrap64 ((i:Int)+1)=((i+1:Nat):Int) by unfold wrap64;omega];exact ih (i+1) (by omega)
theorem formed_j2 (s:ByteArray) (hs:s.size≤140737488351232) (b:Bool):Ev (fun k=>num_formed.j2 k s b) (!b && s.data.toList.all isDig):=by
 refine Ev.step (fun k=>by rw [num_formed.j2]) ?_;refine Ev.both (fun h=>Ev.is (by rw [h];rfl)) (fun h=>?_);have:=formed_l0 s hs s.size 0 (by omega);rw [Bool.not_eq_true] at h;rw [h];exact this
theorem formed_j1 (s:ByteArray) (hs:s.size≤140737488351232) (b:Bool):Ev (fun k=>num_formed.j1 k s b) (formedM s.data.toList b):=by
 refine Ev.step (fun k=>by rw [num_formed.j1]) ?_;have hsz:=size_eq' s;have hb:bt s 0=((s.data.toList.getD 0 0).toNat:Int):=bt_eq s 0;rw [ByteArray.toList_eq];generalize hl:s.data.toList=l at *
 cases l with
 | nil =>
  refine Ev.yes rfl ?_;have:=formed_j2 s hs true;rw [hl] at this;exact this
 | cons c r =>
  have e:formedM (c :: r) b=(!(c == 48 && (b || decide (1 < (c :: r).length))) && (c :: r).all isDig):=by simp [formedM]
  rw [e]
  have h48:bt s 0=48 ↔ (c == 48)=true:=by
   rw [hb,beq_iff_eq];exact byte_is c 48
  refine Ev.no (by simp) (Ev.yes (by simp only [List.length_cons] at hsz;omega) (Ev.both (fun h=>?_) (fun h=>?_)))
  ·rw [h48.mp h];refine Ev.both (fun hb=>?_) (fun hb=>?_)
   ·have:=formed_j2 s hs true;rw [hl] at this;rw [hb];exact this
   ·have:=formed_j2 s hs (decide ((s.size:Int) > 1));rw [hl] at this;rw [Bool.not_eq_true] at hb;rw [hb];rw [show decide ((s.size:Int) > 1)=decide (1 < (c :: r).length) by rw [hsz,decide_eq_decide,List.length_cons];omega] at this ⊢;exact this
  ·rw [h48] at h;rw [Bool.not_eq_true _ |>.mp h];have:=formed_j2 s hs false;rw [hl] at this;exact this
theorem formed_ev (s:ByteArray) (hs:s.size≤140737488351232):Ev (fun k=>num_formed.f k s) (formedL s.data.toList):=by
 unfold num_formed.f;have hsz:=size_eq' s;have hb:bt s 0=((s.data.toList.getD 0 0).toNat:Int):=bt_eq s 0;have hx:=Lib.extract_to_end s 1;have hxs:(s.extract 1 s.size).size≤140737488351232:=by rw [size_eq',hx,List.length_drop];omega
 have key:Ev (fun k=>num_formed.j0 k s (negOf s.data.toList)) (formedL s.data.toList):=by
  refine Ev.step (fun k=>by rw [num_formed.j0]) ?_;refine Ev.both (fun h=>?_) (fun h=>?_)
  ·have hp:1≤s.size:=by
    rw [hsz];cases hl:s.data.toList with
    | nil=>rw [hl] at h;simp [negOf] at h
    | cons c r=>simp
   refine Ev.yes (by omega) ?_;have:=formed_j1 (s.extract 1 s.size) hxs (negOf s.data.toList);rw [hx] at this;have e:formedL s.data.toList=formedM (s.data.toList.drop 1) (negOf s.data.toList):=by simp [formedL,formedM,magOf,h]
   rw [e];exact this
  ·have:=formed_j1 s hs (negOf s.data.toList);have e:formedL s.data.toList=formedM s.data.toList (negOf s.data.toList):=by simp [formedL,formedM,magOf,h]
   rw [e];exact this
 have hn:s.size > 0→(bt s 0 == 45)=negOf s.data.toList:=by
  intro h;rw [hb]
  cases hl:s.data.toList with
  | nil=>rw [hl,List.length_nil] at hsz;omega
  | cons c r =>
   simp only [negOf,List.getD_cons_zero,List.head?_cons]
   rw [Bool.eq_iff_iff,beq_iff_eq,beq_iff_eq,Option.some_inj];exact byte_is c 45
 refine Ev.both (fun h=>Ev.yes h ?_) (fun h=>?_)
 ·rw [hn (by omega)];exact key
 ·have e:negOf s.data.toList=false:=by
   cases hl:s.data.toList with
   | nil=>rfl
   | cons c r=>rw [hl] at hsz;simp at hsz;omega
  rw [e] at key;exact key
def bits_Mul64.f (a0:Int) (a1:Int):Option (Int×Int):=if 0≤a0∧a0 < 18446744073709551616∧0≤a1∧a1 < 18446744073709551616 then some (a0 * a1 / 18446744073709551616,a0 * a1 % 18446744073709551616) else none
def num_Mul.f (a0:Int) (a1:Int):Option (Int×Bool):=if I64 a0∧I64 a1 then some (fit (a0 * a1)) else none
end Go.Proofs.YtmlcdpfcafmmcaaDoor.A
namespace Go.Proofs.YtmlcdpfcafmmcaaDoor.B
open Go.RowKit WW WL WM
section
variable {P:Program} {md:Region.Mode} {ops:Array Oper} {Q:Exit→Act→World→Prop} {S:World→Prop} {ds:List Nat} {T:Bool×List (List Nat×List Nat)} {BB:List Nat} {oi:Oper} {v:Value} {fuel:Nat} {l l':Array Bool} {a a':Act} {w:World}
theorem oA (i N:Nat) (hT:rtab md ops=T) (h:wpAnyLast P md ops Q S ds fuel l' a' w)
    (hi:ops[i]?=some oi:=by rfl) (hN:oi.dst=some N:=by rfl) (hl:l.setIfInBounds i true=l':=by (simp only [List.setIfInBounds_toArray,List.set_cons_zero,List.set_cons_succ];rfl))
    (hc:anyT T l.toList l'.toList i=true:=by kernel_rfl) (hQ:∀ c a w,Q (.panic c) (a.put oi.dst undef) w→Q (.panic c) a w:=by exact (fun _ _ _ h=>h)) (hg:Region.wanted oi (yielded ops a.tmps)=false:=by rfl)
    (ha:a.put (some N) undef=a':=by (simp only [Act.put,List.setIfInBounds_toArray,List.set_cons_zero,List.set_cons_succ,i64_w,i32_w];rfl)):wpAnyLast P md ops Q S ds (fuel+1) l a w :=
  pure_ l' hi hN (any_of hT hc) hQ (.inr ⟨hg,rfl⟩) ha h
theorem nA (N:Nat) (h:wpAnyLast P md ops Q S ds fuel l a' w) (ha:a.put (some N) v=a':=by (simp only [Act.put,List.setIfInBounds_toArray,List.set_cons_zero,List.set_cons_succ,i64_w,i32_w];rfl)):wpAnyLast P md ops Q S ds fuel l (a.put (some N) v) w:=norm_ ha h
end
end Go.Proofs.YtmlcdpfcafmmcaaDoor.B
namespace Go.Proofs.YtmlcdpfcafmmcaaDoor.B
open Go.RowKit
theorem WordW.a {W:World} {g:Nat} {kind:Int} {S:ByteArray} {i pa pe:Int} (h:WordW W g kind S i pa pe) (x:Int):WordW (W.setCell ⟨g+1,0,none⟩ (.int .i64 x)) g kind S i x pe :=
  ⟨has_other (by simp) h.k0,has_other (by simp) h.k1,has_other (by simp) h.k2,has_same ⟨_,h.k3⟩,has_other (by simp) h.k4,by rw [World.frozen?_setCell];exact h.f0,by rw [World.frozen?_setCell];exact h.f1,by rw [World.frozen?_setCell];exact h.f2,by rw [World.frozen?_setCell];exact h.f3,by rw [World.frozen?_setCell];exact h.f4⟩
end Go.Proofs.YtmlcdpfcafmmcaaDoor.B
namespace Go.Proofs.YtmlcdpfcafmmcaaDoor.A
open Go.RowKit B WW WL WM
attribute [local go_sem] max2_int min2_int max_two min_two max_three min_three max_four min_four
set_option maxHeartbeats 8000000
set_option maxRecDepth 100000
theorem m64_maskN (a:Nat) (ha:a < 18446744073709551616):bits .and .u64 (a:Int) 4294967295=((a % 4294967296:Nat):Int):=by
 have h:=bits_and_u64_nat a 4294967295 ha (by omega);have e:a &&& 4294967295=a % 4294967296:=Nat.and_two_pow_sub_one_eq_mod a 32;rw [e] at h;exact h
theorem m64_divN (a:Nat):(a:Int) / 4294967296=((a / 4294967296:Nat):Int):=by omega
theorem m64_mulN (a b:Nat):(a:Int) * (b:Int)=((a * b:Nat):Int):=(Int.natCast_mul a b).symm
theorem m64_addN (a b:Nat):(a:Int)+(b:Int)=((a+b:Nat):Int):=(Int.natCast_add a b).symm
theorem m64_wrapN (a:Nat) (ha:a < 18446744073709551616):IntKind.u64.wrap (a:Int)=(a:Int):=by rw [IntKind.wrap_u64];omega
theorem m64_wrapM (a:Nat):IntKind.u64.wrap (a:Int)=((a % 18446744073709551616:Nat):Int):=by rw [IntKind.wrap_u64];omega
theorem bits_Mul64.nat (x y:Nat) (hx:x < 18446744073709551616) (hy:y < 18446744073709551616) (w:World) :
  Calls Tryd.prog 113 #[.int .u64 x,.int .u64 y] w fun e w'=>e=.returned (.tuple #[.int .u64 ((x * y / 18446744073709551616:Nat):Int),.int .u64 ((x * y % 18446744073709551616:Nat):Int)])∧w'=w:=by
 obtain ⟨bd,bt,bw,hhi⟩:=Lib.mul64_hi x y hx hy;have ba:=Lib.half_mul_le (a:=x / 4294967296) (b:=y / 4294967296) (by omega) (by omega);have bb:=Lib.half_mul_le (a:=x / 4294967296) (b:=y % 4294967296) (by omega) (by omega);have bc:=Lib.half_mul_le (a:=x % 4294967296) (b:=y / 4294967296) (by omega) (by omega);have ba':x / 4294967296 * (y / 4294967296) < 18446744073709551616:=by omega
 have bb':x / 4294967296 * (y % 4294967296) < 18446744073709551616:=by omega
 have bc':x % 4294967296 * (y / 4294967296) < 18446744073709551616:=by omega
 have bh1:x / 4294967296 * (y / 4294967296)+(x / 4294967296 * (y % 4294967296)+x % 4294967296 * (y % 4294967296) / 4294967296) / 4294967296 < 18446744073709551616:=by omega
 have bh:x / 4294967296 * (y / 4294967296)+(x / 4294967296 * (y % 4294967296)+x % 4294967296 * (y % 4294967296) / 4294967296) / 4294967296+((x / 4294967296 * (y % 4294967296)+x % 4294967296 * (y % 4294967296) / 4294967296) % 4294967296+x % 4294967296 * (y / 4294967296)) / 4294967296 < 18446744073709551616:=by omega
 go_enter Tryd.func113,Tryd.ntmps113
 go_wp2
 simp only [m64_maskN x hx,m64_maskN y hy,m64_divN,m64_mulN,m64_addN,m64_wrapN _ bd,m64_wrapN _ bb',m64_wrapN _ bt,m64_maskN _ bt,m64_wrapN _ bc',m64_wrapN _ bw,m64_wrapN _ ba',m64_wrapN _ bh1,m64_wrapN _ bh,m64_wrapM (x * y)]
 rw [hhi];go_ret2
 exact ⟨rfl,rfl⟩
theorem bits_Mul64.calls (a0 a1 r1 r2:Int) (w:World) (h:bits_Mul64.f a0 a1=some (r1,r2)) :
  Calls Tryd.prog 113 #[.int .u64 a0,.int .u64 a1] w fun e w'=>e=.returned (.tuple #[.int .u64 r1,.int .u64 r2])∧Drawn0 w w':=by
 unfold bits_Mul64.f at h;split at h <;> simp only [Option.some.injEq,Prod.mk.injEq,reduceCtorEq] at h
 rename_i hb
 obtain ⟨rfl,rfl⟩:=h;obtain ⟨x,rfl⟩:=Int.eq_ofNat_of_zero_le hb.1;obtain ⟨y,rfl⟩:=Int.eq_ofNat_of_zero_le hb.2.2.1;refine (bits_Mul64.nat x y (by omega) (by omega) w).mono ?_;rintro e w' ⟨rfl,rfl⟩;exact ⟨by rw [m64_mulN];rfl,Drawn0.refl _⟩
theorem num_Mul.calls (a0 a1 r1:Int) (r2:Bool) (w:World) (h:num_Mul.f a0 a1=some (r1,r2)) :
  Calls Tryd.prog 104 #[.int .i64 a0,.int .i64 a1] w fun e w'=>e=.returned (.tuple #[.int .i64 r1,.bool r2])∧Drawn0 w w':=by
 unfold num_Mul.f at h;split at h <;> simp only [Option.some.injEq,reduceCtorEq] at h
 rename_i hb
 have h0:num_size.f a0=some (a0.natAbs:Int):=by unfold num_size.f;rw [if_pos hb.1]
 have h1:num_size.f a1=some (a1.natAbs:Int):=by unfold num_size.f;rw [if_pos hb.2]
 have h2:bits_Mul64.f (a0.natAbs:Int) (a1.natAbs:Int)=some (((a0.natAbs * a1.natAbs:Nat):Int) / 18446744073709551616,((a0.natAbs * a1.natAbs:Nat):Int) % 18446744073709551616):=by
  have:=hb.1;have:=hb.2;unfold I64 at *;unfold bits_Mul64.f;rw [if_pos (by omega)];simp
 obtain ⟨x,hx⟩:∃ x,x=((a0.natAbs * a1.natAbs:Nat):Int) / 18446744073709551616:=⟨_,rfl⟩
 obtain ⟨y,hy⟩:∃ y,y=((a0.natAbs * a1.natAbs:Nat):Int) % 18446744073709551616:=⟨_,rfl⟩
 rw [← hx,← hy] at h2;have key:=mul_ways h.symm hx hy;clear hx hy h;have H0:=sd h0;have H1:=sd h1;have H2:=sd h2;clear h0 h1 h2 hb;obtain ⟨s,hs⟩:∃ s,s=(decide (a0 < 0) != decide (a1 < 0)):=⟨_,rfl⟩
 replace key:=key s hs.symm
 by_cases ha:a0 < 0 <;> by_cases hb:a1 < 0 <;> (have hs':s=_:=hs.trans (by simp only [ha,hb,decide_true,decide_false,bne_self_eq_false,Bool.true_bne,Bool.false_bne,Bool.not_false];rfl)) <;> subst hs' <;>
  simp only [Bool.false_eq_true,if_false,if_true] at key <;> clear hs <;> (rcases key with ⟨hm,hw,b1,b2⟩ | ⟨hm,b1⟩ | ⟨hm,b1,b2⟩) <;> simp only [Prod.mk.injEq] at hm <;> (obtain ⟨rfl,rfl⟩:=hm)
 all_goals
  (try (have HW:=sd hw;clear hw))
  (first | have da:=decide_eq_true ha | have da:=decide_eq_false ha)
  (first | have db:=decide_eq_true hb | have db:=decide_eq_false hb)
  (try have e0:(!decide (a0 < 0))=true:=by rw [da];rfl)
  (try have e1:(!decide (a1 < 0))=true:=by rw [db];rfl)
  (try have e2:(!decide (a0 < 0) == decide (a1 < 0))=false:=by rw [da,db];rfl)
  clear ha hb;(first | have d1:=decide_eq_true (show 0 < x by omega) | have d1:=decide_eq_false (show ¬ 0 < x by omega))
  (try (first | have d2:=decide_eq_true (show 9223372036854775808 < y by omega) | have d2:=decide_eq_false (show ¬ 9223372036854775808 < y by omega)))
  (try (first | have d3:=decide_eq_true (show 9223372036854775807 < y by omega) | have d3:=decide_eq_false (show ¬ 9223372036854775807 < y by omega)))
  clear b1;(try clear b2)
 all_goals
  go_enter Tryd.func104,Tryd.ntmps104
  go_wp2_with fail
  refine (num_size.calls a0 _ _ H0.out).mono ?_;rintro e w1 ⟨rfl,hd1⟩;obtain ⟨⟨n1,rfl⟩⟩:=hd1;go_wp2_with fail
  refine (num_size.calls a1 _ _ H1.out).mono ?_;rintro e w2 ⟨rfl,hd2⟩;obtain ⟨⟨n2,rfl⟩⟩:=hd2;go_wp2_with fail
  refine (bits_Mul64.calls _ _ _ _ _ H2.out).mono ?_;rintro e w3 ⟨rfl,hd3⟩;obtain ⟨⟨n3,rfl⟩⟩:=hd3;go_wp2_with fail
  all_goals (try (exfalso;(simp at *) <;> omega))
  go_ret2
  refine ⟨?_,⟨⟨_,rfl⟩⟩⟩;first | rfl | exact ret_tup HW.out
end Go.Proofs.YtmlcdpfcafmmcaaDoor.A
namespace Go.Proofs.YtmlcdpfcafmmcaaDoor.A
open Go.RowKit B WW WL WM
attribute [local go_sem] max2_int min2_int max_two min_two max_three min_three max_four min_four
def k77:Kd S77:=Kd.iso (Kd.pair Kd.string (Kd.int .i64)) (fun x:S77=>(x.f0,x.f1))
theorem k77_open {w:World} {x:S77} {cs:List Value} (h:k77.K w x cs):cs=[.string x.f0,.int .i64 x.f1]:=by
  obtain ⟨_,_,rfl,rfl,rfl⟩:=h;exact rfl
theorem at_T77 {w:World} {A:Option Addr} {n:Nat} {xs:List S77} (h:Kd.C k77 w A n xs) (i:Int) (h0:0≤i) (h1:i < n):∃ ad ,A=some ad∧w.cell? (ad.add (i.toNat * 2))=some (.string (rd_T77 xs i).f0)∧w.cell? ⟨(ad.add (i.toNat * 2)).block,(ad.add (i.toNat * 2)).off+1,none⟩=some (.int .i64 (rd_T77 xs i).f1):=by
  obtain ⟨ad,c,e,_,hK,hc0⟩:=Kd.C_get h z77 i h0 h1;have hc:∀ j u,c[j]?=some u→w.cell? (ad.add (i.toNat * 2+j))=some u:=hc0;obtain rfl:=k77_open hK;exact ⟨ad,e,hc 0 _ rfl,by rw [← add_field _ _ 1 (by omega)];exact hc 1 _ rfl⟩
end Go.Proofs.YtmlcdpfcafmmcaaDoor.A
namespace Go.Proofs.YtmlcdpfcafmmcaaDoor.A
open Go.RowKit B WW WL WM
theorem zq118 {P:Prop} (h:P:=by repeat (first | exact HD.out | apply Drawn0.step)):P:=h
end Go.Proofs.YtmlcdpfcafmmcaaDoor.A
namespace Go.Proofs.YtmlcdpfcafmmcaaDoor.A
open Go.RowKit B WW WL WM
attribute [local go_sem] max2_int min2_int max_two min_two max_three min_three max_four min_four
set_option maxHeartbeats 8000000
set_option maxRecDepth 100000
theorem words_numberEnd.calls (k:Nat) (a0:ByteArray) (a1 r:Int) (w:World) (h:words_numberEnd.f k a0 a1=some r) :
    Calls Tryd.prog 84 #[.string a0,.int .i64 a1] w fun e w'=>e=.returned (.int .i64 r)∧Drawn0 w w':=by
  have HPost:∀ W,Drawn0 w W→(fun (e:Ending) (w':World)=>e=.returned (.int .i64 r)∧Drawn0 w w') (.returned (.int .i64 r)) W:=fun W hW=>⟨rfl,hW⟩
  generalize (fun (e:Ending) (w':World)=>e=.returned (.int .i64 r)∧Drawn0 w w')=Post at HPost ⊢;have HP:=sd HPost;clear HPost;unfold words_numberEnd.f at h;split at h
  case isFalse=>cases h
  rename_i hb
  obtain ⟨hb0,hb1,hs⟩:=hb;obtain ⟨n,rfl⟩:=Int.eq_ofNat_of_zero_le hb0;have hn:n≤140737488351232:=by omega
  clear hb0 hb1;have H:=sd h;clear h;go_enter Tryd.func84,Tryd.ntmps84
  go_wp2_with fail
  go_step3
  go_wp2_with fail
  go_step3
  go_wp2_with fail
  go_loopg [1] k (fun kq v1 wr=>∃ (i:Nat),v1=.int .i64 (i:Int)∧i≤281474976710656∧Aside0 (words_numberEnd.l0 kq a0 (i:Int)=some r)∧Aside0 (Drawn0 w wr))
  case atStart=>exact ⟨n+1,by go_num,by omega,⟨by rw [show ((n+1:Nat):Int)=(n:Int)+1 by omega];exact H.out⟩,⟨Drawn0.refl _⟩⟩
  case round =>
    clear H;obtain ⟨i,rfl,hi,HA,HD⟩:=hrel
    cases gk with
    | zero=>exact absurd HA.out (by simp [words_numberEnd.l0])
    | succ k1 =>
      have H:=HA.out;clear HA;rw [words_numberEnd.l0] at H;by_cases hlt:i < a0.size
      · rw [if_pos (by omega)] at H
        have hbt:bt a0 (i:Int)=(a0[i].toNat:Int):=(bt_at a0 i hlt).symm;rw [hbt,show (i:Int)+1=((i+1:Nat):Int) by omega] at H;obtain ⟨c,hc⟩:∃ c,a0[i]=c:=⟨_,rfl⟩
        rw [hc] at H;clear hbt;have hib:decide ((i:Int) < (a0.size:Int))=true:=decide_eq_true (by omega);by_cases hsep:(c.toNat:Int)=46∨(c.toNat:Int)=47∨(c.toNat:Int)=45
        · rw [if_pos hsep] at H
          replace H:=Option.bind_eq_some_iff.mp H;obtain ⟨b,hb,H⟩:=H;have CA:=sd (fun W=>words_digitAt.calls a0 ((i+1:Nat):Int) b W hb);rw [show ((i+1:Nat):Int)=(i:Int)+1 by omega] at CA;clear hb
          have sep:(((c.toNat:Int) == 46)=true)∨((((c.toNat:Int) == 46)=false)∧((c.toNat:Int) == 47)=true)∨((((c.toNat:Int) == 46)=false)∧(((c.toNat:Int) == 47)=false)∧((c.toNat:Int) == 45)=true):=by
            simp only [beq_iff_eq,beq_eq_false_iff_ne];omega
          clear hsep
          cases b
          · rw [if_neg (by decide)] at H
            rcases sep with s1 | ⟨s1,s2⟩ | ⟨s1,s2,s3⟩
            · obtain rfl:=Option.some.inj H
              go_wp2_with (first | (go_at_call 52;(with_reducible refine (CL.out _).mono ?_);rintro e w' ⟨rfl,nd,rfl⟩) | (go_at_call 53;(with_reducible refine (CD.out _).mono ?_);rintro e w' ⟨rfl,nd,rfl⟩) | (go_at_call 83;(with_reducible refine (CA.out _).mono ?_);rintro e w' ⟨rfl,nd,rfl⟩))
              (try go_ret)
              exact HP.out _ zq118
            · obtain rfl:=Option.some.inj H
              go_wp2_with (first | (go_at_call 52;(with_reducible refine (CL.out _).mono ?_);rintro e w' ⟨rfl,nd,rfl⟩) | (go_at_call 53;(with_reducible refine (CD.out _).mono ?_);rintro e w' ⟨rfl,nd,rfl⟩) | (go_at_call 83;(with_reducible refine (CA.out _).mono ?_);rintro e w' ⟨rfl,nd,rfl⟩))
              (try go_ret)
              exact HP.out _ zq118
            · obtain rfl:=Option.some.inj H
              go_wp2_with (first | (go_at_call 52;(with_reducible refine (CL.out _).mono ?_);rintro e w' ⟨rfl,nd,rfl⟩) | (go_at_call 53;(with_reducible refine (CD.out _).mono ?_);rintro e w' ⟨rfl,nd,rfl⟩) | (go_at_call 83;(with_reducible refine (CA.out _).mono ?_);rintro e w' ⟨rfl,nd,rfl⟩))
              (try go_ret)
              exact HP.out _ zq118
          · rw [if_pos rfl] at H
            rcases sep with s1 | ⟨s1,s2⟩ | ⟨s1,s2,s3⟩
            · have HA:=sd H
              clear H;go_wp2_with (first | (go_at_call 52;(with_reducible refine (CL.out _).mono ?_);rintro e w' ⟨rfl,nd,rfl⟩) | (go_at_call 53;(with_reducible refine (CD.out _).mono ?_);rintro e w' ⟨rfl,nd,rfl⟩) | (go_at_call 83;(with_reducible refine (CA.out _).mono ?_);rintro e w' ⟨rfl,nd,rfl⟩))
              go_roundg k1
              case measure=>omega
              case rel=>exact ⟨i+1,by go_num,by omega,HA,⟨zq118⟩⟩
            · have HA:=sd H
              clear H;go_wp2_with (first | (go_at_call 52;(with_reducible refine (CL.out _).mono ?_);rintro e w' ⟨rfl,nd,rfl⟩) | (go_at_call 53;(with_reducible refine (CD.out _).mono ?_);rintro e w' ⟨rfl,nd,rfl⟩) | (go_at_call 83;(with_reducible refine (CA.out _).mono ?_);rintro e w' ⟨rfl,nd,rfl⟩))
              go_roundg k1
              case measure=>omega
              case rel=>exact ⟨i+1,by go_num,by omega,HA,⟨zq118⟩⟩
            · have HA:=sd H
              clear H;go_wp2_with (first | (go_at_call 52;(with_reducible refine (CL.out _).mono ?_);rintro e w' ⟨rfl,nd,rfl⟩) | (go_at_call 53;(with_reducible refine (CD.out _).mono ?_);rintro e w' ⟨rfl,nd,rfl⟩) | (go_at_call 83;(with_reducible refine (CA.out _).mono ?_);rintro e w' ⟨rfl,nd,rfl⟩))
              go_roundg k1
              case measure=>omega
              case rel=>exact ⟨i+1,by go_num,by omega,HA,⟨zq118⟩⟩
        rw [if_neg hsep] at H;have s1:((c.toNat:Int) == 46)=false:=beq_eq_false_iff_ne.mpr (fun h=>hsep (.inl h));have s2:((c.toNat:Int) == 47)=false:=beq_eq_false_iff_ne.mpr (fun h=>hsep (.inr (.inl h)));have s3:((c.toNat:Int) == 45)=false:=beq_eq_false_iff_ne.mpr (fun h=>hsep (.inr (.inr h)));clear hsep;replace H:=Option.bind_eq_some_iff.mp H;obtain ⟨b,hb,H⟩:=H;have CL:=sd (fun W=>words_letter.calls (c.toNat:Int) b W hb);clear hb
        cases b
        · rw [if_neg (by decide)] at H
          replace H:=Option.bind_eq_some_iff.mp H;obtain ⟨d,hd,H⟩:=H;have CD:=sd (fun W=>words_digit.calls (c.toNat:Int) d W hd);clear hd
          cases d
          · rw [if_neg (by decide)] at H
            obtain rfl:=Option.some.inj H;go_wp2_with (first | (go_at_call 52;(with_reducible refine (CL.out _).mono ?_);rintro e w' ⟨rfl,nd,rfl⟩) | (go_at_call 53;(with_reducible refine (CD.out _).mono ?_);rintro e w' ⟨rfl,nd,rfl⟩) | (go_at_call 83;(with_reducible refine (CA.out _).mono ?_);rintro e w' ⟨rfl,nd,rfl⟩))
            (try go_ret)
            exact HP.out _ zq118
          · rw [if_pos rfl] at H
            have HA:=sd H;clear H;go_wp2_with (first | (go_at_call 52;(with_reducible refine (CL.out _).mono ?_);rintro e w' ⟨rfl,nd,rfl⟩) | (go_at_call 53;(with_reducible refine (CD.out _).mono ?_);rintro e w' ⟨rfl,nd,rfl⟩) | (go_at_call 83;(with_reducible refine (CA.out _).mono ?_);rintro e w' ⟨rfl,nd,rfl⟩))
            go_roundg k1
            case measure=>omega
            case rel=>exact ⟨i+1,by go_num,by omega,HA,⟨zq118⟩⟩
        · rw [if_pos rfl] at H
          have HA:=sd H;clear H;go_wp2_with (first | (go_at_call 52;(with_reducible refine (CL.out _).mono ?_);rintro e w' ⟨rfl,nd,rfl⟩) | (go_at_call 53;(with_reducible refine (CD.out _).mono ?_);rintro e w' ⟨rfl,nd,rfl⟩) | (go_at_call 83;(with_reducible refine (CA.out _).mono ?_);rintro e w' ⟨rfl,nd,rfl⟩))
          go_roundg k1
          case measure=>omega
          case rel=>exact ⟨i+1,by go_num,by omega,HA,⟨zq118⟩⟩
      rw [if_neg (by omega)] at H;obtain rfl:=Option.some.inj H;go_wp2_with fail
      (try go_ret)
      exact HP.out _ zq118
end Go.Proofs.YtmlcdpfcafmmcaaDoor.A
