-- By pack.py, a program of this session's.
import Derived.Test.YtkbgkekegjfkfaaGreatDoorY2
import Derived.Test.YtkbgkekegjfkfaaGreatDoorY3
set_option linter.unusedVariables false
set_option linter.unusedSimpArgs false
namespace Go.Proofs.YtkbgkekegjfkfaaGreatDoor.A
open Go.RowKit B WW WL WM
attribute [local go_sem] max2_int min2_int max_two min_two max_three min_three max_four min_four
set_option maxHeartbeats 8000000
set_option maxRecDepth 100000
def words_letter.f (a0:Int):Option (Bool):=if a0 ≥ 97 then (if a0≤122 then (some true) else (if a0 ≥ 65 then (if a0≤90 then (some true) else (some (a0 == 95))) else (some (a0 == 95)))) else (if a0 ≥ 65 then (if a0≤90 then (some true) else (some (a0 == 95))) else (some (a0 == 95)))
theorem words_letter.calls (a0:Int) (r:Bool) (w:World) (h:words_letter.f a0=some r) :
  Calls Tryz.prog 49 #[.int .u8 a0] w fun e w'=>e=.returned (.bool r)∧Drawn0 w w':=by
 have H:=h;clear h;unfold words_letter.f at H;replace H:=ifI H;rcases H with ⟨c2,H⟩ | ⟨c2,H⟩
 ·have c2b0:decide (97≤a0)=true:=decide_eq_true c2;clear c2;replace H:=ifI H;rcases H with ⟨c3,H⟩ | ⟨c3,H⟩
  ·have c3b0:decide (a0≤122)=true:=decide_eq_true c3;clear c3;obtain rfl:=Option.some.inj H;go_enter Tryz.func49,Tryz.ntmps49
   go_wp2
   go_ret
   exact ⟨zq7,zq16⟩
  have c3b0:decide (a0≤122)=false:=decide_eq_false c3;clear c3;replace H:=ifI H;rcases H with ⟨c4,H⟩ | ⟨c4,H⟩
  ·have c4b0:decide (65≤a0)=true:=decide_eq_true c4;clear c4;replace H:=ifI H;rcases H with ⟨c5,H⟩ | ⟨c5,H⟩
   ·have c5b0:decide (a0≤90)=true:=decide_eq_true c5;clear c5;obtain rfl:=Option.some.inj H;go_enter Tryz.func49,Tryz.ntmps49
    go_wp2
    go_ret
    exact ⟨zq7,zq16⟩
   have c5b0:decide (a0≤90)=false:=decide_eq_false c5;clear c5;obtain rfl:=Option.some.inj H;go_enter Tryz.func49,Tryz.ntmps49
   go_wp2
   go_ret
   exact ⟨zq7,zq16⟩
  have c4b0:decide (65≤a0)=false:=decide_eq_false c4;clear c4;obtain rfl:=Option.some.inj H;go_enter Tryz.func49,Tryz.ntmps49
  go_wp2
  go_ret
  exact ⟨zq7,zq16⟩
 have c2b0:decide (97≤a0)=false:=decide_eq_false c2;clear c2;replace H:=ifI H;rcases H with ⟨c6,H⟩ | ⟨c6,H⟩
 ·have c6b0:decide (65≤a0)=true:=decide_eq_true c6;clear c6;replace H:=ifI H;rcases H with ⟨c7,H⟩ | ⟨c7,H⟩
  ·have c7b0:decide (a0≤90)=true:=decide_eq_true c7;clear c7;obtain rfl:=Option.some.inj H;go_enter Tryz.func49,Tryz.ntmps49
   go_wp2
   go_ret
   exact ⟨zq7,zq16⟩
  have c7b0:decide (a0≤90)=false:=decide_eq_false c7;clear c7;obtain rfl:=Option.some.inj H;go_enter Tryz.func49,Tryz.ntmps49
  go_wp2
  go_ret
  exact ⟨zq7,zq16⟩
 have c6b0:decide (65≤a0)=false:=decide_eq_false c6;clear c6;obtain rfl:=Option.some.inj H;go_enter Tryz.func49,Tryz.ntmps49
 go_wp2
 go_ret
 exact ⟨zq7,zq16⟩
def words_printable.f (a0:Int):Option (Bool):=if a0 ≥ 32 then (some (decide (a0≤126))) else (some false)
theorem words_printable.calls (a0:Int) (r:Bool) (w:World) (h:words_printable.f a0=some r) :
  Calls Tryz.prog 95 #[.int .u8 a0] w fun e w'=>e=.returned (.bool r)∧Drawn0 w w':=by
 have H:=h;clear h;unfold words_printable.f at H;replace H:=ifI H;rcases H with ⟨c2,H⟩ | ⟨c2,H⟩
 ·have c2b0:decide (32≤a0)=true:=decide_eq_true c2;clear c2;obtain rfl:=Option.some.inj H;go_enter Tryz.func95,Tryz.ntmps95
  go_wp2
  go_ret
  exact ⟨zq7,zq16⟩
 have c2b0:decide (32≤a0)=false:=decide_eq_false c2;clear c2;obtain rfl:=Option.some.inj H;go_enter Tryz.func95,Tryz.ntmps95
 go_wp2
 go_ret
 exact ⟨zq7,zq16⟩
theorem all_bad {p:UInt8→Bool} {l:List UInt8} {i:Nat} (h:i < l.length) (hu:p l[i]=false):l.all p=false:=by
 rw [Bool.eq_false_iff];intro hh;have:=List.all_eq_true.mp hh l[i] (List.getElem_mem h);rw [hu] at this;cases this
theorem letter_wd:∀ n:Nat,n < 256→words_letter.f (n:Int)=some ((decide (97≤n) && decide (n≤122)) || ((decide (65≤n) && decide (n≤90)) || decide (n=95))):=by decide +kernel
theorem print_wd:∀ n:Nat,n < 256→words_printable.f (n:Int)=some (decide (32≤n) && decide (n≤126)):=by decide +kernel
def isLetB (c:UInt8):Bool:=(decide (97≤c.toNat) && decide (c.toNat≤122)) || ((decide (65≤c.toNat) && decide (c.toNat≤90)) || decide (c.toNat=95))
def isDigB (c:UInt8):Bool:=decide (48≤c.toNat) && decide (c.toNat≤57)
def isWdB (c:UInt8):Bool:=isLetB c || isDigB c
def words_quoted.l0:Nat→ByteArray→Int→List Int→Int→Int→Int→Option (ByteArray×Int×Int×Int)
 | 0,_,_,_,_,_,_=>none
 | k+1,x0,x1,x7,x8,x212000,x212001=>if x8 < (x0.size:Int) then (if 0≤x8 then (if (bt x0 x8)=34 then (some (strOfNums x7,wrap64 (x8+1),x212000,x212001)) else (if (bt x0 x8)=92 then (if (wrap64 (x8+1)) ≥ (x0.size:Int) then (some ((⟨#[]⟩:ByteArray),0,wrap64 ((wrap64 (x8+1)) - 1),5)) else (if 0≤(wrap64 (x8+1)) then (if (wrap64 (x8+1)) < (x0.size:Int) then (if (bt x0 (wrap64 (x8+1)))=34 then (if x7.length < 140737488355328 then (words_quoted.l0 k x0 x1 (x7++[bt x0 (wrap64 (x8+1))]) (wrap64 ((wrap64 (x8+1))+1)) x212000 x212001) else (none)) else (if (bt x0 (wrap64 (x8+1)))=92 then (if x7.length < 140737488355328 then (words_quoted.l0 k x0 x1 (x7++[bt x0 (wrap64 (x8+1))]) (wrap64 ((wrap64 (x8+1))+1)) x212000 x212001) else (none)) else (some ((⟨#[]⟩:ByteArray),0,wrap64 ((wrap64 (x8+1)) - 1),5)))) else (none)) else (none))) else ((words_printable.f (bt x0 x8)).bind fun t218=>(if t218=true then (if x7.length < 140737488355328 then (words_quoted.l0 k x0 x1 (x7++[bt x0 x8]) (wrap64 (x8+1)) x212000 x212001) else (none)) else (some ((⟨#[]⟩:ByteArray),0,x8,5)))))) else (none)) else (some ((⟨#[]⟩:ByteArray),0,x1,6))
def words_quoted.f (k:Nat) (a0:ByteArray) (a1:Int):Option (ByteArray×Int×Int×Int):=words_quoted.l0 k a0 a1 ([]:List Int) (wrap64 (a1+1)) 0 0
def words_quoted.T8:Bool×List (List Nat×List Nat):=(true,[([],[]),([0],[0]),([],[]),([2],[2]),([],[]),([1,0,1],[1]),([3,5,0,1,2,3,5],[3]),([4,6,0,1,2,3,4,5,6],[4])])
def words_quoted.B8:List Nat:=[0,1,0,4,0,3,47,127]
theorem words_quoted.bits8:waitsOk words_quoted.T8.2 words_quoted.B8=true:=by kernel_rfl
mutual
def rf01_Text.l0:Nat→Int→ByteArray→Int→Option (ByteArray)
 | 0,_,_,_=>none
 | k+1,x0,x3,x4=>if x4=0 then (rf01_Text.j1 k x0 x3 x4 (x3.toList == ([]:List UInt8))) else (rf01_Text.j1 k x0 x3 x4 true)
def rf01_Text.j1:Nat→Int→ByteArray→Int→Bool→Option (ByteArray)
 | 0,_,_,_,_=>none
 | k+1,x0,x3,x4,x12=>if x12=true then (if (Int.tmod x4 10) < 0 then (if 0≤(wrap64 (-(Int.tmod x4 10))) then (if (wrap64 (-(Int.tmod x4 10)))≤(wrap64 ((wrap64 (-(Int.tmod x4 10)))+1)) then (if (wrap64 ((wrap64 (-(Int.tmod x4 10)))+1))≤10 then (if ((⟨#[48,49,50,51,52,53,54,55,56,57]⟩:ByteArray).extract ((wrap64 (-(Int.tmod x4 10))):Int).toNat ((wrap64 ((wrap64 (-(Int.tmod x4 10)))+1)):Int).toNat).size+x3.size≤9223372036854775807 then (rf01_Text.l0 k x0 (((⟨#[48,49,50,51,52,53,54,55,56,57]⟩:ByteArray).extract ((wrap64 (-(Int.tmod x4 10))):Int).toNat ((wrap64 ((wrap64 (-(Int.tmod x4 10)))+1)):Int).toNat)++x3) (wrap64 (Int.tdiv x4 10))) else (none)) else (none)) else (none)) else (none)) else (if 0≤(Int.tmod x4 10) then (if (Int.tmod x4 10)≤(wrap64 ((Int.tmod x4 10)+1)) then (if (wrap64 ((Int.tmod x4 10)+1))≤10 then (if ((⟨#[48,49,50,51,52,53,54,55,56,57]⟩:ByteArray).extract ((Int.tmod x4 10):Int).toNat ((wrap64 ((Int.tmod x4 10)+1)):Int).toNat).size+x3.size≤9223372036854775807 then (rf01_Text.l0 k x0 (((⟨#[48,49,50,51,52,53,54,55,56,57]⟩:ByteArray).extract ((Int.tmod x4 10):Int).toNat ((wrap64 ((Int.tmod x4 10)+1)):Int).toNat)++x3) (wrap64 (Int.tdiv x4 10))) else (none)) else (none)) else (none)) else (none))) else (if x0 < 0 then (if 1+x3.size≤9223372036854775807 then (some ((⟨#[45]⟩:ByteArray)++x3)) else (none)) else (some x3))
end
def rf01_Text.f (k:Nat) (a0:Int):Option (ByteArray):=rf01_Text.l0 k a0 (⟨#[]⟩:ByteArray) a0
theorem rf01_Text.calls (k:Nat) (a0:Int) (r:ByteArray) (w:World) (h:rf01_Text.f k a0=some r) :
  Calls Tryz.prog 33 #[.int .i64 a0] w fun e w'=>e=.returned (.string r)∧Drawn0 w w':=by
 have H:=h;clear h;unfold rf01_Text.f at H;have H':=sd H;clear H;go_enter Tryz.func33,Tryz.ntmps33
 go_wp2
 go_loopg [3,4] k (fun kq v3 v4 w'=>∃ (x3_1:ByteArray) (x4_1:Int),v3=.string x3_1∧v4=.int .i64 x4_1∧Aside0 (rf01_Text.l0 kq a0 x3_1 x4_1=some r)∧Aside0 (kq≤k)∧Drawn0 w w')
 case atStart=>exact ⟨((⟨#[]⟩:ByteArray)),(a0),zq7,zq7,H',⟨Nat.le_refl _⟩,zq16⟩
 case round =>
  clear H';obtain ⟨x3_1,x4_1,rfl,rfl,HA,HK1,⟨m1,rfl⟩⟩:=hrel
  cases gk with
  | zero=>exact absurd HA.out (by simp [rf01_Text.l0])
  | succ k1 =>
   have H:=HA.out;clear HA;simp only [rf01_Text.l0] at H
   have HC2:=sd H;clear H;go_upto_region 3 with (fail)
   go_cut [12] (fun v12 wc=>∃ (kq:Nat) (x12_1:Bool),v12=.bool x12_1∧Aside0 (rf01_Text.j1 kq a0 x3_1 x4_1 x12_1=some r)∧Aside0 (kq≤k1)∧Drawn0 w wc)
   case first =>
    have H:=HC2.out;clear HC2;replace H:=ifI H;rcases H with ⟨c3,H⟩ | ⟨c3,H⟩
    ·obtain ⟨c3b0,c3b1⟩:=eqI c3;clear c3;(first | rw [c3b0] | (simp only [i64_w,i32_w];rw [c3b0]) | skip)
     have H':=sd H;clear H;go_wp2
     go_meet
     case rel=>exact ⟨_,((x3_1.toList == ([]:List UInt8))),zq7,H',⟨zq8⟩,zq16⟩
    obtain ⟨c3b0,c3b1⟩:=neI c3;(first | rw [c3b0] | (simp only [i64_w,i32_w];rw [c3b0]) | skip)
    have H':=sd H;clear H;go_wp2
    go_meet
    case rel=>exact ⟨_,(true),zq7,H',⟨zq8⟩,zq16⟩
   case rest =>
    clear HC2;try clear p2
    try clear c3
    try clear c3b0
    try clear c3b1
    obtain ⟨kq,x12_1,rfl,HA,HJ1,⟨mc1,rfl⟩⟩:=hcut
    cases kq with
    | zero=>exact absurd HA.out (by simp [rf01_Text.j1])
    | succ kj1 =>
     have H:=HA.out;clear HA;simp only [rf01_Text.j1] at H
     by_cases c4:x12_1=true
     ·subst c4;rw [if_pos rfl] at H;replace H:=ifI H;rcases H with ⟨c5,H⟩ | ⟨c5,H⟩
      ·have c5b0:decide ((Int.tmod x4_1 10) < 0)=true:=decide_eq_true c5;clear c5;obtain ⟨ji6,hji6⟩:∃ j_:Int,(wrap64 (-(Int.tmod x4_1 10)))=j_:=⟨_,rfl⟩
       replace H:(if 0≤(ji6) then (if (ji6)≤(wrap64 ((ji6)+1)) then (if (wrap64 ((ji6)+1))≤10 then (if ((⟨#[48,49,50,51,52,53,54,55,56,57]⟩:ByteArray).extract ((ji6):Int).toNat ((wrap64 ((ji6)+1)):Int).toNat).size+x3_1.size≤9223372036854775807 then (rf01_Text.l0 kj1 a0 (((⟨#[48,49,50,51,52,53,54,55,56,57]⟩:ByteArray).extract ((ji6):Int).toNat ((wrap64 ((ji6)+1)):Int).toNat)++x3_1) (wrap64 (Int.tdiv x4_1 10))) else (none)) else (none)) else (none)) else (none))=some r:=by first | (rw [hji6] at H;exact H) | (simp only [hji6] at H ⊢;exact H)
       have hji6w:(IntKind.i64.wrap (-(Int.tmod x4_1 10)))=ji6:=(i64_w _).trans hji6;replace H:=ifI H;rcases H with ⟨c7,H⟩ | ⟨c7,H⟩
       ·have c7b0:=eq_true c7;have c7b1:decide (0≤(ji6))=true:=decide_eq_true c7;clear c7;replace H:=ifI H;rcases H with ⟨c8,H⟩ | ⟨c8,H⟩
        ·have c8b0:=eq_true c8;have c8b1:decide ((ji6)≤(wrap64 ((ji6)+1)))=true:=decide_eq_true c8;replace H:=ifI H;rcases H with ⟨c9,H⟩ | ⟨c9,H⟩
         ·have c9b0:=eq_true c9;have c9b1:decide ((wrap64 ((ji6)+1))≤10)=true:=decide_eq_true c9;replace H:=ifI H;rcases H with ⟨c10,H⟩ | ⟨c10,H⟩
          ·have c10b0:=eq_true c10;have c10b1:decide (((⟨#[48,49,50,51,52,53,54,55,56,57]⟩:ByteArray).extract ((ji6):Int).toNat ((wrap64 ((ji6)+1)):Int).toNat).size+x3_1.size≤9223372036854775807)=true:=decide_eq_true c10;try have c10b2:(9223372036854775807 < ((⟨#[48,49,50,51,52,53,54,55,56,57]⟩:ByteArray).extract ((ji6):Int).toNat ((wrap64 ((ji6)+1)):Int).toNat).size+x3_1.size)=False:=eq_false (Nat.not_lt.2 c10)
           try (have c10z:=c10;simp [*] at c10z;have c10z1:=eq_false (Nat.not_lt.2 c10z))
           have H':=sd H;clear H;go_wp2
           go_roundg kj1
           case measure=>have:=HK1.out;have:=HJ1.out;omega
           case rel=>exact ⟨(((⟨#[48,49,50,51,52,53,54,55,56,57]⟩:ByteArray).extract ((ji6):Int).toNat ((wrap64 ((ji6)+1)):Int).toNat)++x3_1),(wrap64 (Int.tdiv x4_1 10)),(by first | rfl | (simp;done) | (simp only [← hji6] <;> (first | rfl | simp)) | (simp [*];done)),zq7,H',⟨by have:=HK1.out;have:=HJ1.out;omega⟩,zq16⟩
          exact absurd H (by simp)
         exact absurd H (by simp)
        exact absurd H (by simp)
       exact absurd H (by simp)
      have c5b0:decide ((Int.tmod x4_1 10) < 0)=false:=decide_eq_false c5;clear c5;obtain ⟨ji11,hji11⟩:∃ j_:Int,(Int.tmod x4_1 10)=j_:=⟨_,rfl⟩
      replace H:(if 0≤(ji11) then (if (ji11)≤(wrap64 ((ji11)+1)) then (if (wrap64 ((ji11)+1))≤10 then (if ((⟨#[48,49,50,51,52,53,54,55,56,57]⟩:ByteArray).extract ((ji11):Int).toNat ((wrap64 ((ji11)+1)):Int).toNat).size+x3_1.size≤9223372036854775807 then (rf01_Text.l0 kj1 a0 (((⟨#[48,49,50,51,52,53,54,55,56,57]⟩:ByteArray).extract ((ji11):Int).toNat ((wrap64 ((ji11)+1)):Int).toNat)++x3_1) (wrap64 (Int.tdiv x4_1 10))) else (none)) else (none)) else (none)) else (none))=some r:=by first | (rw [hji11] at H;exact H) | (simp only [hji11] at H ⊢;exact H)
      (try rw [hji11] at c5b0)
      replace H:=ifI H;rcases H with ⟨c12,H⟩ | ⟨c12,H⟩
      ·have c12b0:=eq_true c12;have c12b1:decide (0≤(ji11))=true:=decide_eq_true c12;clear c12;replace H:=ifI H;rcases H with ⟨c13,H⟩ | ⟨c13,H⟩
       ·have c13b0:=eq_true c13;have c13b1:decide ((ji11)≤(wrap64 ((ji11)+1)))=true:=decide_eq_true c13;replace H:=ifI H;rcases H with ⟨c14,H⟩ | ⟨c14,H⟩
        ·have c14b0:=eq_true c14;have c14b1:decide ((wrap64 ((ji11)+1))≤10)=true:=decide_eq_true c14;replace H:=ifI H;rcases H with ⟨c15,H⟩ | ⟨c15,H⟩
         ·have c15b0:=eq_true c15;have c15b1:decide (((⟨#[48,49,50,51,52,53,54,55,56,57]⟩:ByteArray).extract ((ji11):Int).toNat ((wrap64 ((ji11)+1)):Int).toNat).size+x3_1.size≤9223372036854775807)=true:=decide_eq_true c15;try have c15b2:(9223372036854775807 < ((⟨#[48,49,50,51,52,53,54,55,56,57]⟩:ByteArray).extract ((ji11):Int).toNat ((wrap64 ((ji11)+1)):Int).toNat).size+x3_1.size)=False:=eq_false (Nat.not_lt.2 c15)
          try (have c15z:=c15;simp [*] at c15z;have c15z1:=eq_false (Nat.not_lt.2 c15z))
          have H':=sd H;clear H;go_wp2
          go_roundg kj1
          case measure=>have:=HK1.out;have:=HJ1.out;omega
          case rel=>exact ⟨(((⟨#[48,49,50,51,52,53,54,55,56,57]⟩:ByteArray).extract ((ji11):Int).toNat ((wrap64 ((ji11)+1)):Int).toNat)++x3_1),(wrap64 (Int.tdiv x4_1 10)),(by first | rfl | (simp;done) | (simp only [← hji11] <;> (first | rfl | simp)) | (simp [*];done)),zq7,H',⟨by have:=HK1.out;have:=HJ1.out;omega⟩,zq16⟩
         exact absurd H (by simp)
        exact absurd H (by simp)
       exact absurd H (by simp)
      exact absurd H (by simp)
     replace c4:=Bool.eq_false_iff.mpr c4;subst c4;rw [if_neg Bool.false_ne_true] at H;replace H:=ifI H;rcases H with ⟨c16,H⟩ | ⟨c16,H⟩
     ·have c16b0:decide (a0 < 0)=true:=decide_eq_true c16;clear c16;replace H:=ifI H;rcases H with ⟨c17,H⟩ | ⟨c17,H⟩
      ·have c17b0:=eq_true c17;have c17b1:decide (1+x3_1.size≤9223372036854775807)=true:=decide_eq_true c17;try have c17b2:(9223372036854775807 < 1+x3_1.size)=False:=eq_false (Nat.not_lt.2 c17)
       obtain rfl:=Option.some.inj H;go_wp2
       go_ret
       exact ⟨zq7,zq16⟩
      exact absurd H (by simp)
     have c16b0:decide (a0 < 0)=false:=decide_eq_false c16;clear c16;obtain rfl:=Option.some.inj H;go_wp2
     go_ret
     exact ⟨zq7,zq16⟩
def rf04_Leap.f (a0:Int):Option (Bool):=if (Int.tmod a0 4)=0 then (if (Int.tmod a0 100)=0 then (some ((Int.tmod a0 400) == 0)) else (some true)) else (some ((Int.tmod a0 400) == 0))
theorem rf04_Leap.calls (a0:Int) (r:Bool) (w:World) (h:rf04_Leap.f a0=some r) :
  Calls Tryz.prog 137 #[.int .i64 a0] w fun e w'=>e=.returned (.bool r)∧Drawn0 w w':=by
 have H:=h;clear h;unfold rf04_Leap.f at H;replace H:=ifI H;rcases H with ⟨c2,H⟩ | ⟨c2,H⟩
 ·obtain ⟨c2b0,c2b1⟩:=eqI c2;clear c2;replace H:=ifI H;rcases H with ⟨c3,H⟩ | ⟨c3,H⟩
  ·obtain ⟨c3b0,c3b1⟩:=eqI c3;clear c3;obtain rfl:=Option.some.inj H;go_enter Tryz.func137,Tryz.ntmps137
   go_wp2
   go_ret
   exact ⟨zq7,zq16⟩
  obtain ⟨c3b0,c3b1⟩:=neI c3;obtain rfl:=Option.some.inj H;go_enter Tryz.func137,Tryz.ntmps137
  go_wp2
  go_ret
  exact ⟨zq7,zq16⟩
 obtain ⟨c2b0,c2b1⟩:=neI c2;obtain rfl:=Option.some.inj H;go_enter Tryz.func137,Tryz.ntmps137
 go_wp2
 go_ret
 exact ⟨zq7,zq16⟩
def rf04_Length.j0:Nat→Int→Int→Bool→Option (Int)
 | 0,_,_,_=>none
 | k+1,x0,x1,x10=>if x10=true then (some 0) else (if x1=2 then ((rf04_Leap.f x0).bind fun t288=>(if t288=true then (some 29) else ((some (([31,28,31,30,31,30,31,31,30,31,30,31]:List Int):List Int)).bind fun y289=>(if 0≤(wrap64 (x1 - 1)) then (if (wrap64 (x1 - 1)) < (y289.length:Int) then (some (rd y289 (wrap64 (x1 - 1)))) else (none)) else (none))))) else ((some (([31,28,31,30,31,30,31,31,30,31,30,31]:List Int):List Int)).bind fun y293=>(if 0≤(wrap64 (x1 - 1)) then (if (wrap64 (x1 - 1)) < (y293.length:Int) then (some (rd y293 (wrap64 (x1 - 1)))) else (none)) else (none))))
def rf04_Length.f (k:Nat) (a0:Int) (a1:Int):Option (Int):=if a1 < 1 then (rf04_Length.j0 k a0 a1 true) else (rf04_Length.j0 k a0 a1 (decide (a1 > 12)))
theorem rf04_Length.calls (k:Nat) (a0 a1 r:Int) (w:World) (h:rf04_Length.f k a0 a1=some r) :
  Calls Tryz.prog 105 #[.int .i64 a0,.int .i64 a1] w fun e w'=>e=.returned (.int .i64 r)∧Below w.heap.size w w':=by
 have HB:=sd (Below.refl w.heap.size w);have H:=h;clear h;unfold rf04_Length.f at H;have HC3:=sd H;clear H;go_enter Tryz.func105,Tryz.ntmps105
 go_upto_region 1 with (fail)
 go_cut [10] (fun v10 wc=>∃ (kq:Nat) (x10_2:Bool),v10=.bool x10_2∧Aside0 (rf04_Length.j0 kq a0 a1 x10_2=some r)∧Aside0 (kq≤k)∧Aside0 (Below w.heap.size w wc))
 case first =>
  have H:=HC3.out;clear HC3;replace H:=ifI H;rcases H with ⟨c4,H⟩ | ⟨c4,H⟩
  ·have c4b0:decide (a1 < 1)=true:=decide_eq_true c4;clear c4;(first | rw [c4b0] | (simp only [i64_w,i32_w];rw [c4b0]) | skip)
   have H':=sd H;clear H;go_wp2
   go_meet
   case rel=>exact ⟨_,(true),zq7,H',⟨by first | omega | exact Nat.le_refl _⟩,⟨zq6⟩⟩
  have c4b0:decide (a1 < 1)=false:=decide_eq_false c4;clear c4;(first | rw [c4b0] | (simp only [i64_w,i32_w];rw [c4b0]) | skip)
  have H':=sd H;clear H;go_wp2
  go_meet
  case rel=>exact ⟨_,(decide (a1 > 12)),zq7,H',⟨by first | omega | exact Nat.le_refl _⟩,⟨zq6⟩⟩
 case rest =>
  clear HC3;try clear c1
  try clear p2
  try clear c4
  try clear c4b0
  obtain ⟨kq,x10_2,rfl,HA,HJ2,HB⟩:=hcut
  cases kq with
  | zero=>exact absurd HA.out (by simp [rf04_Length.j0])
  | succ kj2 =>
   have H:=HA.out;clear HA;simp only [rf04_Length.j0] at H
   by_cases c5:x10_2=true
   ·subst c5;rw [if_pos rfl] at H;obtain rfl:=Option.some.inj H;go_wp2
    go_ret
    exact ⟨zq4,zq6⟩
   replace c5:=Bool.eq_false_iff.mpr c5;subst c5;rw [if_neg Bool.false_ne_true] at H;replace H:=ifI H;rcases H with ⟨c6,H⟩ | ⟨c6,H⟩
   ·obtain ⟨c6b0,c6b1⟩:=eqI c6;clear c6;replace H:=bdI H;obtain ⟨t288,A7,H⟩:=H;(try dsimp only at H)
    by_cases c8:t288=true
    ·subst c8;rw [if_pos rfl] at H;obtain rfl:=Option.some.inj H;go_wp2_with (first | (go_at_call 137;(with_reducible refine (rf04_Leap.calls a0 true _ A7.out).mono ?_);rintro e w' ⟨rfl,⟨nd,rfl⟩⟩))
     go_ret
     exact ⟨zq4,zq6⟩
    replace c8:=Bool.eq_false_iff.mpr c8;subst c8;rw [if_neg Bool.false_ne_true] at H;obtain ⟨y289,hy289⟩:∃ y_:List Int,y_=(([31,28,31,30,31,30,31,31,30,31,30,31]:List Int)):=⟨_,rfl⟩
    replace H:(if 0≤(wrap64 (a1 - 1)) then (if (wrap64 (a1 - 1)) < (y289.length:Int) then (some (rd y289 (wrap64 (a1 - 1)))) else (none)) else (none))=some r:=by first | (rw [hy289];with_reducible exact H) | (have H2_:=(Option.bind_some _ _).symm.trans H;rw [hy289];with_reducible exact H2_) | (have H2_:=(Option.bind_some _ _).symm.trans H;with_reducible exact H2_) | with_reducible exact H | (rw [hy289];exact H) | exact H
    have Ny289:=sd hy289;clear hy289;obtain ⟨ji9,hji9⟩:∃ j_:Int,(wrap64 (a1 - 1))=j_:=⟨_,rfl⟩
    replace H:(if 0≤(ji9) then (if (ji9) < (y289.length:Int) then (some (rd y289 (ji9))) else (none)) else (none))=some r:=by first | (rw [hji9] at H;exact H) | (simp only [hji9] at H ⊢;exact H)
    (try rw [hji9] at A7)
    have hji9w:(IntKind.i64.wrap (a1 - 1))=ji9:=(i64_w _).trans hji9;replace H:=ifI H;rcases H with ⟨c10,H⟩ | ⟨c10,H⟩
    ·have c10b0:decide (0≤(ji9))=true:=decide_eq_true c10;clear c10;replace H:=ifI H;rcases H with ⟨c11,H⟩ | ⟨c11,H⟩
     ·have c11b0:decide ((ji9) < (y289.length:Int))=true:=decide_eq_true c11;clear c11;obtain rfl:=Option.some.inj H;go_wp2_with (first | (go_at_call 137;(with_reducible refine (rf04_Leap.calls a0 false _ A7.out).mono ?_);rintro e w' ⟨rfl,⟨nd,rfl⟩⟩) | ((with_reducible refine gate_dst (N:=17) rfl ?_);refine Kd.R_lit (Kd.int .i64) _ 3 ?hg (N:=17) ?hd (xs:=([31,28,31,30,31,30,31,31,30,31,30,31]:List Int)) (inner:=[.int .i64 31,.int .i64 28,.int .i64 31,.int .i64 30,.int .i64 31,.int .i64 30,.int .i64 31,.int .i64 31,.int .i64 30,.int .i64 31,.int .i64 30,.int .i64 31]) (ok:=fun _=>True) (okp:=fun _=>True) ?hr ?hp (fun _ hk=>hk) trivial (Below.refl _ _) (Nat.le_refl _) (by simp) ?_;(case hd=>rfl);(case hg=>rfl);(case hr=>first | (go_simp;done) | (go_simp;rfl));(case hp=>exact (Reps.one (show Kd.M (Kd.int .i64) _ _ _ 31 [.int .i64 31] from rfl) (Reps.one (show Kd.M (Kd.int .i64) _ _ _ 28 [.int .i64 28] from rfl) (Reps.one (show Kd.M (Kd.int .i64) _ _ _ 31 [.int .i64 31] from rfl) (Reps.one (show Kd.M (Kd.int .i64) _ _ _ 30 [.int .i64 30] from rfl) (Reps.one (show Kd.M (Kd.int .i64) _ _ _ 31 [.int .i64 31] from rfl) (Reps.one (show Kd.M (Kd.int .i64) _ _ _ 30 [.int .i64 30] from rfl) (Reps.one (show Kd.M (Kd.int .i64) _ _ _ 31 [.int .i64 31] from rfl) (Reps.one (show Kd.M (Kd.int .i64) _ _ _ 31 [.int .i64 31] from rfl) (Reps.one (show Kd.M (Kd.int .i64) _ _ _ 30 [.int .i64 30] from rfl) (Reps.one (show Kd.M (Kd.int .i64) _ _ _ 31 [.int .i64 31] from rfl) (Reps.one (show Kd.M (Kd.int .i64) _ _ _ 30 [.int .i64 30] from rfl) (Reps.one (show Kd.M (Kd.int .i64) _ _ _ 31 [.int .i64 31] from rfl) (Reps.none _ _))))))))))))));intro v290 w12 ho13 hb hg_ hnew_;clear hg_ hnew_;(first | rw [← Ny289.out] at ho13 | (simp only [Int.reduceToNat] at ho13;rw [← Ny289.out] at ho13));have HO291:=sd (Kd.R_lower ho13 (below_size zq6));replace HB:=hbm HB hb;clear hb ho13;obtain ⟨Ao14,co14,eo14⟩:=Kd.R_slice HO291.out;subst eo14;have p292:0≤((ji9):Int):=od;have q292:(ji9) < (y289.length:Int):=od;obtain ⟨ad292,e292,hx292_0⟩:=Kd.at_int (Kd.R_reads' HO291.out).2.2 (ji9) p292 q292;cases e292;replace p292:=eq_true p292;replace q292:=eq_true q292))
      go_ret
      exact ⟨by first | rfl | (simp [errW_none,errW_some] <;> rfl) | (simp only [← hji9];first | rfl | (simp [errW_none,errW_some] <;> rfl)) | (simp [*,errW_none,errW_some] <;> rfl),zq6⟩
     exact absurd H (by simp)
    exact absurd H (by simp)
   obtain ⟨c6b0,c6b1⟩:=neI c6;obtain ⟨y293,hy293⟩:∃ y_:List Int,y_=(([31,28,31,30,31,30,31,31,30,31,30,31]:List Int)):=⟨_,rfl⟩
   replace H:(if 0≤(wrap64 (a1 - 1)) then (if (wrap64 (a1 - 1)) < (y293.length:Int) then (some (rd y293 (wrap64 (a1 - 1)))) else (none)) else (none))=some r:=by first | (rw [hy293];with_reducible exact H) | (have H2_:=(Option.bind_some _ _).symm.trans H;rw [hy293];with_reducible exact H2_) | (have H2_:=(Option.bind_some _ _).symm.trans H;with_reducible exact H2_) | with_reducible exact H | (rw [hy293];exact H) | exact H
   have Ny293:=sd hy293;clear hy293;obtain ⟨ji15,hji15⟩:∃ j_:Int,(wrap64 (a1 - 1))=j_:=⟨_,rfl⟩
   replace H:(if 0≤(ji15) then (if (ji15) < (y293.length:Int) then (some (rd y293 (ji15))) else (none)) else (none))=some r:=by first | (rw [hji15] at H;exact H) | (simp only [hji15] at H ⊢;exact H)
   have hji15w:(IntKind.i64.wrap (a1 - 1))=ji15:=(i64_w _).trans hji15;replace H:=ifI H;rcases H with ⟨c16,H⟩ | ⟨c16,H⟩
   ·have c16b0:decide (0≤(ji15))=true:=decide_eq_true c16;clear c16;replace H:=ifI H;rcases H with ⟨c17,H⟩ | ⟨c17,H⟩
    ·have c17b0:decide ((ji15) < (y293.length:Int))=true:=decide_eq_true c17;clear c17;obtain rfl:=Option.some.inj H;go_wp2_with (first | ((with_reducible refine gate_dst (N:=17) rfl ?_);refine Kd.R_lit (Kd.int .i64) _ 3 ?hg (N:=17) ?hd (xs:=([31,28,31,30,31,30,31,31,30,31,30,31]:List Int)) (inner:=[.int .i64 31,.int .i64 28,.int .i64 31,.int .i64 30,.int .i64 31,.int .i64 30,.int .i64 31,.int .i64 31,.int .i64 30,.int .i64 31,.int .i64 30,.int .i64 31]) (ok:=fun _=>True) (okp:=fun _=>True) ?hr ?hp (fun _ hk=>hk) trivial (Below.refl _ _) (Nat.le_refl _) (by simp) ?_;(case hd=>rfl);(case hg=>rfl);(case hr=>first | (go_simp;done) | (go_simp;rfl));(case hp=>exact (Reps.one (show Kd.M (Kd.int .i64) _ _ _ 31 [.int .i64 31] from rfl) (Reps.one (show Kd.M (Kd.int .i64) _ _ _ 28 [.int .i64 28] from rfl) (Reps.one (show Kd.M (Kd.int .i64) _ _ _ 31 [.int .i64 31] from rfl) (Reps.one (show Kd.M (Kd.int .i64) _ _ _ 30 [.int .i64 30] from rfl) (Reps.one (show Kd.M (Kd.int .i64) _ _ _ 31 [.int .i64 31] from rfl) (Reps.one (show Kd.M (Kd.int .i64) _ _ _ 30 [.int .i64 30] from rfl) (Reps.one (show Kd.M (Kd.int .i64) _ _ _ 31 [.int .i64 31] from rfl) (Reps.one (show Kd.M (Kd.int .i64) _ _ _ 31 [.int .i64 31] from rfl) (Reps.one (show Kd.M (Kd.int .i64) _ _ _ 30 [.int .i64 30] from rfl) (Reps.one (show Kd.M (Kd.int .i64) _ _ _ 31 [.int .i64 31] from rfl) (Reps.one (show Kd.M (Kd.int .i64) _ _ _ 30 [.int .i64 30] from rfl) (Reps.one (show Kd.M (Kd.int .i64) _ _ _ 31 [.int .i64 31] from rfl) (Reps.none _ _))))))))))))));intro v294 w18 ho19 hb hg_ hnew_;clear hg_ hnew_;(first | rw [← Ny293.out] at ho19 | (simp only [Int.reduceToNat] at ho19;rw [← Ny293.out] at ho19));have HO295:=sd (Kd.R_lower ho19 (below_size zq6));replace HB:=hbm HB hb;clear hb ho19;obtain ⟨Ao20,co20,eo20⟩:=Kd.R_slice HO295.out;subst eo20;have p296:0≤((ji15):Int):=od;have q296:(ji15) < (y293.length:Int):=od;obtain ⟨ad296,e296,hx296_0⟩:=Kd.at_int (Kd.R_reads' HO295.out).2.2 (ji15) p296 q296;cases e296;replace p296:=eq_true p296;replace q296:=eq_true q296))
     go_ret
     exact ⟨by first | rfl | (simp [errW_none,errW_some] <;> rfl) | (simp only [← hji15];first | rfl | (simp [errW_none,errW_some] <;> rfl)) | (simp [*,errW_none,errW_some] <;> rfl),zq6⟩
    exact absurd H (by simp)
   exact absurd H (by simp)
def rf04_Date.l0:Nat→Int→Int→Option (Int×Int×Int×Int)
 | 0,_,_=>none
 | k+1,x4,x5=>(rf04_Length.f k (wrap64 (1900+(wrap64 (Int.tdiv x4 12)))) (wrap64 ((Int.tmod x4 12)+1))).bind fun t299=>(if x5 ≥ t299 then ((rf04_Length.f k (wrap64 (1900+(wrap64 (Int.tdiv x4 12)))) (wrap64 ((Int.tmod x4 12)+1))).bind fun t300=>(rf04_Date.l0 k (wrap64 (x4+1)) (wrap64 (x5 - t300)))) else (some (wrap64 (1900+(wrap64 (Int.tdiv x4 12))),wrap64 ((Int.tmod x4 12)+1),wrap64 (x5+1),0)))
def rf04_Date.f (k:Nat) (a0:Int):Option (Int×Int×Int×Int):=(rf04_Is.f a0).bind fun t298=>(if t298=true then (rf04_Date.l0 k 0 a0) else (some (0,0,0,11)))
def rf04_two.f (k:Nat) (a0:Int):Option (ByteArray):=(rf01_Text.f k (wrap64 (Int.tdiv a0 10))).bind fun t301=>((rf01_Text.f k (Int.tmod a0 10)).bind fun t302=>(if t301.size+t302.size≤9223372036854775807 then (some (t301++t302)) else (none)))
theorem rf04_two.calls (k:Nat) (a0:Int) (r:ByteArray) (w:World) (h:rf04_two.f k a0=some r) :
  Calls Tryz.prog 79 #[.int .i64 a0] w fun e w'=>e=.returned (.string r)∧Drawn0 w w':=by
 have H:=h;clear h;unfold rf04_two.f at H;replace H:=bdI H;obtain ⟨t301,A2,H⟩:=H;(try dsimp only at H)
 replace H:=bdI H;obtain ⟨t302,A3,H⟩:=H;(try dsimp only at H)
 replace H:=ifI H;rcases H with ⟨c4,H⟩ | ⟨c4,H⟩
 ·have c4b0:=eq_true c4;have c4b1:decide (t301.size+t302.size≤9223372036854775807)=true:=decide_eq_true c4;try have c4b2:(9223372036854775807 < t301.size+t302.size)=False:=eq_false (Nat.not_lt.2 c4)
  obtain rfl:=Option.some.inj H;go_enter Tryz.func79,Tryz.ntmps79
  go_wp2_with (first | ((with_reducible refine gate_callee (f:=33) rfl ?_);refine gL 5 Tryz.func33 #[.int .i64 (wrap64 (Int.tdiv a0 10))] ?_;(with_reducible refine (rf01_Text.calls k (wrap64 (Int.tdiv a0 10)) t301 _ A2.out).mono ?_);rintro e w' ⟨rfl,⟨nd,rfl⟩⟩;refine ⟨_,rfl,?_⟩) | ((with_reducible refine gate_callee (f:=33) rfl ?_);refine gL 8 Tryz.func33 #[.int .i64 (Int.tmod a0 10)] ?_;(with_reducible refine (rf01_Text.calls k (Int.tmod a0 10) t302 _ A3.out).mono ?_);rintro e w' ⟨rfl,⟨nd,rfl⟩⟩;refine ⟨_,rfl,?_⟩))
  go_ret
  exact ⟨zq7,zq16⟩
 exact absurd H (by simp)
def rf04_Text.f (k:Nat) (a0:Int):Option (ByteArray×Int):=(rf04_Date.f k a0).bind fun bt303=>(if bt303.2.2.2=0 then ((rf01_Text.f k bt303.1).bind fun t308=>(if t308.size+1≤9223372036854775807 then ((rf04_two.f k bt303.2.1).bind fun t309=>(if (t308++(⟨#[45]⟩:ByteArray)).size+t309.size≤9223372036854775807 then (if ((t308++(⟨#[45]⟩:ByteArray))++t309).size+1≤9223372036854775807 then ((rf04_two.f k bt303.2.2.1).bind fun t310=>(if (((t308++(⟨#[45]⟩:ByteArray))++t309)++(⟨#[45]⟩:ByteArray)).size+t310.size≤9223372036854775807 then (some ((((t308++(⟨#[45]⟩:ByteArray))++t309)++(⟨#[45]⟩:ByteArray))++t310,0)) else (none))) else (none)) else (none))) else (none))) else (some ((⟨#[]⟩:ByteArray),bt303.2.2.2)))
end Go.Proofs.YtkbgkekegjfkfaaGreatDoor.A
namespace Go.Proofs.YtkbgkekegjfkfaaGreatDoor.A
open Go.RowKit B WW WL WM
attribute [local go_sem] max2_int min2_int max_two min_two max_three min_three max_four min_four
theorem info5:(Tryz.prog.info? 5).map (fun i=>(i.zero,i.size,i.bytes))=some (some (.int .u8 0),1,1):=by kernel_rfl
def z48:S48:=⟨(0:Int),(0:Int),(⟨#[]⟩:ByteArray),(0:Int)⟩
def k48:Kd S48:=Kd.iso (Kd.pair (Kd.int .i64) (Kd.pair (Kd.int .i64) (Kd.pair Kd.string (Kd.int .i64)))) (fun x:S48=>(x.f0,x.f1,x.f2,x.f3))
theorem k48_open {w:World} {x:S48} {cs:List Value} (h:k48.K w x cs):cs=[.int .i64 x.f0,.int .i64 x.f1,.string x.f2,.int .i64 x.f3]:=by
  obtain ⟨_,_,rfl,rfl,⟨_,_,rfl,rfl,⟨_,_,rfl,rfl,rfl⟩⟩⟩:=h;exact rfl
def rd_T48 (xs:List S48) (i:Int):S48:=xs.getD i.toNat z48
theorem at_T48 {w:World} {A:Option Addr} {n:Nat} {xs:List S48} (h:Kd.C k48 w A n xs) (i:Int) (h0:0≤i) (h1:i < n):∃ ad ,A=some ad∧w.cell? (ad.add (i.toNat * 4))=some (.int .i64 (rd_T48 xs i).f0)∧w.cell? ⟨(ad.add (i.toNat * 4)).block,(ad.add (i.toNat * 4)).off+1,none⟩=some (.int .i64 (rd_T48 xs i).f1)∧w.cell? ⟨(ad.add (i.toNat * 4)).block,(ad.add (i.toNat * 4)).off+2,none⟩=some (.string (rd_T48 xs i).f2)∧w.cell? ⟨(ad.add (i.toNat * 4)).block,(ad.add (i.toNat * 4)).off+3,none⟩=some (.int .i64 (rd_T48 xs i).f3):=by
  obtain ⟨ad,c,e,_,hK,hc0⟩:=Kd.C_get h z48 i h0 h1;have hc:∀ j u,c[j]?=some u→w.cell? (ad.add (i.toNat * 4+j))=some u:=hc0;obtain rfl:=k48_open hK;exact ⟨ad,e,hc 0 _ rfl,by rw [← add_field _ _ 1 (by omega)];exact hc 1 _ rfl,by rw [← add_field _ _ 2 (by omega)];exact hc 2 _ rfl,by rw [← add_field _ _ 3 (by omega)];exact hc 3 _ rfl⟩
end Go.Proofs.YtkbgkekegjfkfaaGreatDoor.A
namespace Go.Proofs.YtkbgkekegjfkfaaGreatDoor.B
open Go.RowKit WW WL WM
section
variable {P:Program} {ops:Array Oper} {rest:List Oper} {o:Oper} {Q:Exit→Act→World→Prop} {a:Act} {w V W w1:World} {g g':Nat}
theorem bk5 {w:World} {g t:Nat} {v0 v1 v2 v3 v4:Value} (B:Aside0 (w.heap[g]?=some (.cells #[v0,v1,v2,v3,v4] t (0,0)))):w.cell? ⟨g,0,none⟩=some v0∧w.cell? ⟨g,1,none⟩=some v1∧w.cell? ⟨g,2,none⟩=some v2∧w.cell? ⟨g,3,none⟩=some v3∧w.cell? ⟨g,4,none⟩=some v4∧w.frozen? ⟨g,0,none⟩=false∧w.frozen? ⟨g,1,none⟩=false∧w.frozen? ⟨g,2,none⟩=false∧w.frozen? ⟨g,3,none⟩=false∧w.frozen? ⟨g,4,none⟩=false:=⟨(blk_cell B.out 0).trans rfl,(blk_cell B.out 1).trans rfl,(blk_cell B.out 2).trans rfl,(blk_cell B.out 3).trans rfl,(blk_cell B.out 4).trans rfl,blk_frozen B.out 0,blk_frozen B.out 1,blk_frozen B.out 2,blk_frozen B.out 3,blk_frozen B.out 4⟩
theorem bkm {ob:Obj} (B:Aside0 (V.heap[g]?=some ob)) (hb:Below W.heap.size W w1) (hs:V.heap[g]?=some ob→W.heap[g]?=some ob:=by (intro h;(with_reducible repeat (first | refine blk_drewN ?_ _ | refine blk_drew ?_ | refine blk_alloc ?_ _));exact h)):Aside0 (w1.heap[g]?=some ob):=⟨blk_below (hs B.out) hb⟩
end
end Go.Proofs.YtkbgkekegjfkfaaGreatDoor.B
namespace Go.Proofs.YtkbgkekegjfkfaaGreatDoor.WW
open Go.RowKit
namespace Kd
section
variable {α β:Type} {d:Kd α} {e base n n' cc g N:Nat} {ok ok' okp S:Nat→Prop} {w w0 w1 W W1:World} {A A':Option Addr} {u v v1:Value} {xs:List α} {xs':List β} {d':Kd β} {x:α} {c:List Value}
theorem F_nil (d:Kd α) (W:World) (ok:Nat→Prop):F d W ok none ([]:List α).length []:=fun W' _=>C_nil d W'
theorem FK_of_M (h:d.M W base ok x c):FK d W ok x c:=fun _ hW=>d.K_of_M (M_step h hW)
end
end Kd
end Go.Proofs.YtkbgkekegjfkfaaGreatDoor.WW
namespace Go.Proofs.YtkbgkekegjfkfaaGreatDoor.B
open Go.RowKit
theorem WordW.s {W:World} {g:Nat} {kind:Int} {S:ByteArray} {i pa pe:Int} (h:WordW W g kind S i pa pe) (S':ByteArray):WordW (W.setCell ⟨g,1,none⟩ (.string S')) g kind S' i pa pe :=
  ⟨has_other (by simp) h.k0,has_same ⟨_,h.k1⟩,has_other (by simp) h.k2,has_other (by simp) h.k3,has_other (by simp) h.k4,by rw [World.frozen?_setCell];exact h.f0,by rw [World.frozen?_setCell];exact h.f1,by rw [World.frozen?_setCell];exact h.f2,by rw [World.frozen?_setCell];exact h.f3,by rw [World.frozen?_setCell];exact h.f4⟩
theorem WordW.a {W:World} {g:Nat} {kind:Int} {S:ByteArray} {i pa pe:Int} (h:WordW W g kind S i pa pe) (x:Int):WordW (W.setCell ⟨g+1,0,none⟩ (.int .i64 x)) g kind S i x pe :=
  ⟨has_other (by simp) h.k0,has_other (by simp) h.k1,has_other (by simp) h.k2,has_same ⟨_,h.k3⟩,has_other (by simp) h.k4,by rw [World.frozen?_setCell];exact h.f0,by rw [World.frozen?_setCell];exact h.f1,by rw [World.frozen?_setCell];exact h.f2,by rw [World.frozen?_setCell];exact h.f3,by rw [World.frozen?_setCell];exact h.f4⟩
theorem isE_t {s:ByteArray} (h:s.toList=[]):s.toList.isEmpty=true∧(!s.toList.isEmpty)=false:=by rw [h];exact ⟨rfl,rfl⟩
theorem isE_f {s:ByteArray} (h:¬ s.toList=[]):s.toList.isEmpty=false∧(!s.toList.isEmpty)=true:=by cases hl:s.toList with | nil=>exact absurd hl h | cons _ _=>exact ⟨rfl,rfl⟩
end Go.Proofs.YtkbgkekegjfkfaaGreatDoor.B
namespace Go.Proofs.YtkbgkekegjfkfaaGreatDoor.WW
open Go.RowKit
section
variable {P:Program} {d:Nat} {xs ys:Array Value} {f:Field} {fs:List Field} {a b:Value} {r s:Bool} {w:World}
theorem eqf_last (hn : (f.name == "_") = false) (ha : (part f.type xs f.offset).run P w = .ok a w) (hb : (part f.type ys f.offset).run P w = .ok b w) (he : (Op.equalIn d f.type a b).run P w = .ok r w) : (Op.eqFields d xs ys [f]).run P w = .ok r w := by
  have hn' : f.name ≠ "_" := by simpa using hn
  simp only [Op.eqFields,if_pos hn',Sem.run_bind,ha,hb,he,Result.andThen_ok]
  cases r <;> simp
theorem eqf_cons (hn : (f.name == "_") = false) (ha : (part f.type xs f.offset).run P w = .ok a w) (hb : (part f.type ys f.offset).run P w = .ok b w) (he : (Op.equalIn d f.type a b).run P w = .ok r w) (hr : (Op.eqFields d xs ys fs).run P w = .ok s w) : (Op.eqFields d xs ys (f :: fs)).run P w = .ok (r && s) w := by
  have hn' : f.name ≠ "_" := by simpa using hn
  rw [Op.eqFields];simp only [if_pos hn',Sem.run_bind,ha,hb,he,Result.andThen_ok]
  cases r
  · simp
  · simpa using hr
theorem eqA_of {t:TypeId} {fs:Array Field} (hu:P.underlying t=some (.struct fs)) (hp:P.stoodInHeld t=false) (h:(Op.eqFields d xs ys fs.toList).run P w=.ok r w):(Op.equalIn (d+1) t (.agg xs) (.agg ys)).run P w=.ok r w:=by
  have hf:P.fieldsOf t=fs:=by simp [Program.fieldsOf,hu]
  rw [run_equalIn_struct (P:=P) w d t xs ys (by rw [hf];exact hu) hp,hf];exact h
end
end Go.Proofs.YtkbgkekegjfkfaaGreatDoor.WW
namespace Go.Proofs.YtkbgkekegjfkfaaGreatDoor.A
open Go.RowKit B WW WL WM
attribute [local go_sem] max2_int min2_int max_two min_two max_three min_three max_four min_four
set_option maxHeartbeats 8000000
set_option maxRecDepth 100000
theorem ba_nil {s:ByteArray} (h:s.size=0):s=⟨#[]⟩:=by
 cases s with | mk d=>congr 1;exact Array.eq_empty_of_size_eq_zero h
theorem every_wd (hF:∀ (c:UInt8) (w:World),Calls Tryz.prog 48 #[.int .u8 (c.toNat:Int)] w fun e w'=>e=.returned (.bool (isWdB c))∧Drawn0 w w') (s:ByteArray) (hs:s.size≤140737488351232) (w:World) :
  Calls Tryz.prog 47 #[.string s,.func (.func 48) #[] #[]] w fun e w'=>e=.returned (.bool (s.data.toList.all isWdB))∧Drawn0 w w':=by
 have HSZ:=sd (size_eq' s);have HF:=sd hF;clear hF;generalize hP:(fun e w'=>e=Ending.returned (.bool (s.data.toList.all isWdB))∧Drawn0 w w')=Post;have HP:=sd hP;clear hP;go_enter Tryz.func47,Tryz.ntmps47
 go_wp2_with fail
 go_loopw [8] (fun n_ wr=>∃ (i:Nat),i≤s.size∧n_=.int .i64 (i:Int)∧Aside0 (∀ j,(h:j < i)→(h':j < s.size)→isWdB s[j]=true)∧Drawn0 w wr) (fun n_ _=>(s.size - (RowKit.intOf n_).toNat))
 case atStart=>exact ⟨0,by omega,rfl,⟨fun j h=>by omega⟩,Drawn0.refl _⟩
 case round =>
  obtain ⟨i,hi,rfl,HU,HDr⟩:=hrel;rename World=>wr
  by_cases hlt:i < s.size
  ·have hlt':(i:Int) < (s.size:Int):=by omega
   go_wp2_with fail
   have HC:=HF.out s[i] wr
   cases hp:isWdB s[i]
   ·rw [hp] at HC;have HB:=sd (show s.data.toList.all isWdB=false from all_bad (by rw [← HSZ.out];exact hlt) (by rw [list_at s i hlt];exact hp));refine HC.mono ?_;rintro e w1 ⟨rfl,hd1⟩;obtain ⟨⟨n1,rfl⟩⟩:=hd1;clear HC;go_wp2_with fail
    rw [← HP.out];exact ⟨by rw [HB.out];(try rfl),HDr.step _⟩
   ·rw [hp] at HC
    have HU2:=sd (show ∀ j,(h:j < i+1)→(h':j < s.size)→isWdB s[j]=true from fun j h h'=>by
     rcases Nat.lt_or_ge j i with h1 | h1
     ·exact HU.out j h1 h'
     ·obtain rfl:j=i:=by omega
      exact hp)
    refine HC.mono ?_;rintro e w1 ⟨rfl,hd1⟩;obtain ⟨⟨n1,rfl⟩⟩:=hd1;clear HC HU;go_wp2_with fail
    go_roundw
    case rel=>exact ⟨i+1,by omega,by go_num,HU2,HDr.step _⟩
    case measure=>simp [RowKit.intOf];omega
  have hlt':¬ (i:Int) < (s.size:Int):=by omega
  obtain rfl:i=s.size:=by omega
  have hall:s.data.toList.all isWdB=true:=by
   rw [List.all_eq_true];intro x hx;obtain ⟨j,hj,rfl⟩:=List.getElem_of_mem hx;have hj2:j < s.size:=by rw [HSZ.out];exact hj
   rw [list_at s j hj2];exact HU.out j hj2 hj2
  have HL:=sd hall;clear hall;go_wp2_with fail
  rw [← HP.out];exact ⟨by rw [HL.out];(try rfl),HDr⟩
def words_word.g (s:ByteArray) (i kind e most:Int):Option (Int×ByteArray×Int×Int×Int×Int) :=
 if i≤e∧e≤(s.size:Int) then some (kind,s.extract i.toNat e.toNat,i,e,if most < e - i then i else 0,if most < e - i then 9 else 0) else none
end Go.Proofs.YtkbgkekegjfkfaaGreatDoor.A
namespace Go.Proofs.YtkbgkekegjfkfaaGreatDoor.A
open Go.RowKit B WW WL WM
theorem zq38 {P:Prop} (h:P:=by (with_reducible repeat (first | refine blk_drewN ?_ _ | refine blk_drew ?_ | refine blk_alloc ?_ _));exact BK149.out):P:=h
theorem zq132 {P:Prop} (h:P:=by (with_reducible repeat (first | refine blk_drewN ?_ _ | refine blk_drew ?_ | refine blk_alloc ?_ _));exact BK211.out):P:=h
end Go.Proofs.YtkbgkekegjfkfaaGreatDoor.A
namespace Go.Proofs.YtkbgkekegjfkfaaGreatDoor.WW
open Go.RowKit
namespace Kd
theorem R_appended {α:Type} {d:Kd α} {e base:Nat} {ok okp:Nat→Prop} {W w1:World} {v v1:Value} {xs:List α} {p:α} {inner cs:List Value} (h0:∀ k,v.ownBlock=some k→ok k) (hr:Reps (d.M W base (fun k=>ok k∧some k≠v.ownBlock)) d.sz xs inner) (hp:d.M W base okp p cs) (hokp:∀ k,okp k→ok k∧some k≠v.ownBlock) (hfresh:∀ k,W.heap.size≤k→ok k)
    (hown:w1.ownsRow base e d.sz v1 (xs.length+1) (inner++cs)) (hg:W.grownBy w1 v.ownBlock) (hat:v1.ownBlock=v.ownBlock∨∃ b,v1.ownBlock=some b∧W.heap.size≤b):d.R e w1 base ok v1 (xs++[p]):=by
  have hne:∀ k,some k≠v.ownBlock→k < W.heap.size→some k≠v1.ownBlock:=by
    intro k hk hlt;rcases hat with hat | ⟨b,hb,hle⟩
    · rw [hat];exact hk
    · rw [hb]
      intro he;injection he with he
      omega
  have step:∀ {q:α} {c:List Value} {o:Nat→Prop},d.M W base o q c→(∀ k,o k→ok k∧some k≠v.ownBlock)→d.M w1 base (fun k=>ok k∧some k≠v1.ownBlock) q c:=by
    intro q c o hq ho;have h1:=d.M_move (w1:=w1) (fun k hk=>hg.block k hk.2.2.1 (ho k hk.1).2) (d.M_bound hq);exact d.M_mono (fun k hk=>⟨(ho k hk.1).1,hne k (ho k hk.1).2 hk.2.2.1⟩) h1
  refine ⟨fun k hk=>?_,inner++cs,by rw [List.length_append,List.length_singleton];exact hown,?_⟩
  · rcases hat with hat | ⟨b,hb,hle⟩
    · exact h0 k (hat ▸ hk)
    · rw [hb] at hk
      injection hk with hk
      exact hfresh k (by omega)
  · exact (hr.imp_ (fun _ _ hq=>step hq (fun _ hk=>hk))).snoc (step hp hokp) (d.K_len (d.K_of_M hp))
end Kd
end Go.Proofs.YtkbgkekegjfkfaaGreatDoor.WW
namespace Go.Proofs.YtkbgkekegjfkfaaGreatDoor.WW
open Go.RowKit
namespace Kd
section
variable {P:Program} {ops:Array Oper} {rest:List Oper} {o:Oper} {a:Act} {Q:Exit→Act→World→Prop} {α:Type}
theorem R_append (d:Kd α) {w0 W:World} (base:Nat) (hgd:o.guard=none) (s x:Operand) (t e:TypeId) (z:Value) (bytes:Nat)
    (ho:o.op=.call { callee:=.builtin .append,args:=#[s,x],argTypes:=#[t,t] })
    (ht:P.underlying t=some (.slice e)) (hinfo:(P.info? e).map (fun i=>(i.zero,i.size,i.bytes))=some (some z,d.sz,bytes)) (hz:z.cells.size=d.sz) (hs0:0 < d.sz) (hb0:0 < bytes)
    (v:Value) (xs:List α) (p:α) (cs:List Value) (ok okp:Nat→Prop) (hs:a.eval s=v) (hx:a.eval x=.slice (some ⟨W.heap.size,0,none⟩) 1 1) (hp:d.M W base okp p cs) (hokp:∀ k,okp k→ok k∧some k≠v.ownBlock) (hfresh:∀ k,W.heap.size≤k→ok k)
    (HO:d.R e W base ok v xs) (HB:Below base w0 W) (hbase:base≤W.heap.size) (hl:(xs.length+1) * bytes≤140737488355328)
    (h:∀ v1 w1,d.R e w1 base ok v1 (xs++[p])→Below base w0 w1→W.grownBy w1 v.ownBlock→(v1.ownBlock=v.ownBlock∨∃ b,v1.ownBlock=some b∧W.heap.size≤b)→wpList P ops Q rest (a.put o.dst v1) w1) :
    wpList P ops Q (o :: rest) a (W.alloc (.cells cs.toArray e)):=by
  obtain ⟨h0,inner,hown,hr⟩:=HO;refine print_append_cells base hgd s x t e z d.sz bytes ho ht hinfo hz hs0 hb0 v xs.length inner cs hs hx (d.K_len (d.K_of_M hp)) (d.K_one (d.K_of_M hp)) hown HB hbase hl ?_;intro v1 w1 hown1 hb1 hg1 hat1;exact h v1 w1 (R_appended h0 hr hp hokp hfresh hown1 hg1 hat1) hb1 hg1 hat1
end
end Kd
end Go.Proofs.YtkbgkekegjfkfaaGreatDoor.WW
namespace Go.Proofs.YtkbgkekegjfkfaaGreatDoor.WW
open Go.RowKit
namespace Kd
section
variable {α β:Type} {d:Kd α} {e base base' n m c g N' lo hi:Nat} {ok ok' S:Nat→Prop} {w W w1:World} {A:Option Addr} {ad:Addr} {u v v1:Value} {xs:List α}
theorem V_nil (d:Kd α) (e:Nat) (W:World) (base:Nat) (ok:Nat→Prop):V d e W base ok (.slice none 0 0) []:=⟨none,0,rfl,Nat.le_refl _,F_nil d W ok⟩
end
end Kd
end Go.Proofs.YtkbgkekegjfkfaaGreatDoor.WW
namespace Go.Proofs.YtkbgkekegjfkfaaGreatDoor.WW
open Go.RowKit
namespace Kd
section
variable {α:Type} {d:Kd α} {e base n cc g:Nat} {ok ok' okp S:Nat→Prop} {w w1 W W1:World} {A:Option Addr} {u v v1:Value} {xs:List α} {x:α} {c:List Value}
theorem R_N (h:d.R e w base ok v xs):N d e w base ok v xs:=by
  obtain ⟨h0,inner,ho,hr⟩:=h;refine ⟨h0,chunks d.sz xs.length inner,chunks_length _ _ _,⟨fun k hk=>hk.symm,inner,by rw [chunks_length];exact ho,reps_raw hr (fun x c hp=>⟨d.K_len (d.K_of_M hp),d.K_one (d.K_of_M hp)⟩)⟩,fun j x c hx hc=>?_⟩;rw [chunks_get hc];exact FK_of_M (hr.2 j x hx)
theorem N_nil (d:Kd α) (e:Nat) (w:World) (base:Nat) (ok:Nat→Prop):N d e w base ok (.slice none 0 0) []:=R_N (R_nil _ _ _ _ _)
end
end Kd
end Go.Proofs.YtkbgkekegjfkfaaGreatDoor.WW
namespace Go.Proofs.YtkbgkekegjfkfaaGreatDoor.A
open Go.RowKit B WW WL WM
attribute [local go_sem] max2_int min2_int max_two min_two max_three min_three max_four min_four
theorem eqA50 (d:Nat) (w:World) (x0 y0 x1 y1:ByteArray) :
    (Op.equalIn (d+2) 50 (.agg #[.string x0,.string x1]) (.agg #[.string y0,.string y1])).run Tryz.prog w=.ok (x0.toList == y0.toList && (x1.toList == y1.toList)) w:=by
  refine eqA_of Tryz.underlying50 (by kernel_rfl) ?_;refine eqf_cons (by rfl) (by go_simp;rfl) (by go_simp;rfl) (by go_simp) ?_;exact eqf_last (by rfl) (by go_simp;rfl) (by go_simp;rfl) (by go_simp)
end Go.Proofs.YtkbgkekegjfkfaaGreatDoor.A
namespace Go.Proofs.YtkbgkekegjfkfaaGreatDoor.A
open Go.RowKit B WW WL WM
attribute [local go_sem] max2_int min2_int max_two min_two max_three min_three max_four min_four
set_option maxHeartbeats 8000000
set_option maxRecDepth 100000
attribute [local go_sem high] eqA50
mutual
def rf48_Check.j0:Nat→Bool→ByteArray→List (S48)→ByteArray→ByteArray→List (S50)→Option (Int)
 | 0,_,_,_,_,_,_=>none
 | k+1,x25,x150000,x150001,x150002,x150003,x150004=>if x25=true then (some 7) else ((rf09_Right.f k x150004).bind fun t153=>(if t153=true then (if (x150001.length:Int)=0 then (some 2) else (if (x150001.length:Int) > 8 then (some 9) else (rf48_Check.l0 k 0 x150000 x150001 x150002 x150003 x150004))) else (some 14)))
def rf48_Check.l0:Nat→Int→ByteArray→List (S48)→ByteArray→ByteArray→List (S50)→Option (Int)
 | 0,_,_,_,_,_,_=>none
 | k+1,x3,x150000,x150001,x150002,x150003,x150004=>if x3 < (x150001.length:Int) then (if 0≤x3 then ((rf48_condition.f k ((rd_T48 x150001 x3).f0) ((rd_T48 x150001 x3).f1) ((rd_T48 x150001 x3).f2) ((rd_T48 x150001 x3).f3)).bind fun t155=>(if t155=0 then (rf48_Check.l0 k (wrap64 (x3+1)) x150000 x150001 x150002 x150003 x150004) else (some t155))) else (none)) else (some 0)
end
def rf48_Check.f (k:Nat) (a0_0:ByteArray) (l0_1:List (S48)) (a0_2:ByteArray) (a0_3:ByteArray) (l0_4:List (S50)):Option (Int):=(rf06_Code.f k a0_0).bind fun t150=>(if t150=true then ((rf06_Code.f k a0_2).bind fun t151=>(if t151=true then (if a0_3.toList=([]:List UInt8) then (rf48_Check.j0 k false a0_0 l0_1 a0_2 a0_3 l0_4) else ((rf06_Code.f k a0_3).bind fun t152=>(rf48_Check.j0 k (!t152) a0_0 l0_1 a0_2 a0_3 l0_4))) else (rf48_Check.j0 k true a0_0 l0_1 a0_2 a0_3 l0_4))) else (rf48_Check.j0 k true a0_0 l0_1 a0_2 a0_3 l0_4))
end Go.Proofs.YtkbgkekegjfkfaaGreatDoor.A
namespace Go.Proofs.YtkbgkekegjfkfaaGreatDoor.A
open Go.RowKit B WW WL WM
theorem zq5 {P:Prop} (h:P:=by first | exact Kd.R_nil _ _ _ _ _ | exact Kd.N_nil _ _ _ _ _ | exact Kd.V_nil _ _ _ _ _ | exact Kd.Q_nil _ _ _ _ _ | exact Kd.S_nil _ _ _ _ _):P:=h
end Go.Proofs.YtkbgkekegjfkfaaGreatDoor.A
