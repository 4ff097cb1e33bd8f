-- By pack.py, a program of this session's.
import Derived.Test.YtkbgkekegjfkfaaGreatDoorZ2
import Derived.Test.YtkbgkekegjfkfaaGreatDoorZ3
set_option linter.unusedVariables false
set_option linter.unusedSimpArgs false
namespace Go.Proofs.YtkbgkekegjfkfaaGreatDoor
namespace A
open Go.RowKit B WW WL WM
attribute [local go_sem] max2_int min2_int max_two min_two max_three min_three max_four min_four
set_option maxHeartbeats 8000000
set_option maxRecDepth 100000
def words_digit.f (a0:Int):Option (Bool):=if a0 ≥ 48 then (some (decide (a0≤57))) else (some false)
theorem words_digit.calls (a0:Int) (r:Bool) (w:World) (h:words_digit.f a0=some r) :
  Calls Tryz.prog 50 #[.int .u8 a0] w fun e w'=>e=.returned (.bool r)∧Drawn0 w w':=by
 have H:=h;clear h;unfold words_digit.f at H;replace H:=ifI H;rcases H with ⟨c2,H⟩|⟨c2,H⟩
 ·have c2b0:decide (48≤a0)=true:=decide_eq_true c2;clear c2;obtain rfl:=Option.some.inj H;go_enter Tryz.func50,Tryz.ntmps50
  go_wp2
  go_ret
  exact ⟨zq7,zq16⟩
 have c2b0:decide (48≤a0)=false:=decide_eq_false c2;clear c2;obtain rfl:=Option.some.inj H;go_enter Tryz.func50,Tryz.ntmps50
 go_wp2
 go_ret
 exact ⟨zq7,zq16⟩
def words_letter.f (a0:Int):Option (Bool):=if a0 ≥ 97 then (if a0≤122 then (some true) else (if a0 ≥ 65 then (if a0≤90 then (some true) else (some (a0 == 95))) else (some (a0 == 95)))) else (if a0 ≥ 65 then (if a0≤90 then (some true) else (some (a0 == 95))) else (some (a0 == 95)))
theorem words_letter.calls (a0:Int) (r:Bool) (w:World) (h:words_letter.f a0=some r) :
  Calls Tryz.prog 49 #[.int .u8 a0] w fun e w'=>e=.returned (.bool r)∧Drawn0 w w':=by
 have H:=h;clear h;unfold words_letter.f at H;replace H:=ifI H;rcases H with ⟨c2,H⟩|⟨c2,H⟩
 ·have c2b0:decide (97≤a0)=true:=decide_eq_true c2;clear c2;replace H:=ifI H;rcases H with ⟨c3,H⟩|⟨c3,H⟩
  ·have c3b0:decide (a0≤122)=true:=decide_eq_true c3;clear c3;obtain rfl:=Option.some.inj H;go_enter Tryz.func49,Tryz.ntmps49
   go_wp2
   go_ret
   exact ⟨zq7,zq16⟩
  have c3b0:decide (a0≤122)=false:=decide_eq_false c3;clear c3;replace H:=ifI H;rcases H with ⟨c4,H⟩|⟨c4,H⟩
  ·have c4b0:decide (65≤a0)=true:=decide_eq_true c4;clear c4;replace H:=ifI H;rcases H with ⟨c5,H⟩|⟨c5,H⟩
   ·have c5b0:decide (a0≤90)=true:=decide_eq_true c5;clear c5;obtain rfl:=Option.some.inj H;go_enter Tryz.func49,Tryz.ntmps49
    go_wp2
    go_ret
    exact ⟨zq7,zq16⟩
   have c5b0:decide (a0≤90)=false:=decide_eq_false c5;clear c5;obtain rfl:=Option.some.inj H;go_enter Tryz.func49,Tryz.ntmps49
   go_wp2
   go_ret
   exact ⟨zq7,zq16⟩
  have c4b0:decide (65≤a0)=false:=decide_eq_false c4;clear c4;obtain rfl:=Option.some.inj H;go_enter Tryz.func49,Tryz.ntmps49
  go_wp2
  go_ret
  exact ⟨zq7,zq16⟩
 have c2b0:decide (97≤a0)=false:=decide_eq_false c2;clear c2;replace H:=ifI H;rcases H with ⟨c6,H⟩|⟨c6,H⟩
 ·have c6b0:decide (65≤a0)=true:=decide_eq_true c6;clear c6;replace H:=ifI H;rcases H with ⟨c7,H⟩|⟨c7,H⟩
  ·have c7b0:decide (a0≤90)=true:=decide_eq_true c7;clear c7;obtain rfl:=Option.some.inj H;go_enter Tryz.func49,Tryz.ntmps49
   go_wp2
   go_ret
   exact ⟨zq7,zq16⟩
  have c7b0:decide (a0≤90)=false:=decide_eq_false c7;clear c7;obtain rfl:=Option.some.inj H;go_enter Tryz.func49,Tryz.ntmps49
  go_wp2
  go_ret
  exact ⟨zq7,zq16⟩
 have c6b0:decide (65≤a0)=false:=decide_eq_false c6;clear c6;obtain rfl:=Option.some.inj H;go_enter Tryz.func49,Tryz.ntmps49
 go_wp2
 go_ret
 exact ⟨zq7,zq16⟩
def words_printable.f (a0:Int):Option (Bool):=if a0 ≥ 32 then (some (decide (a0≤126))) else (some false)
theorem words_printable.calls (a0:Int) (r:Bool) (w:World) (h:words_printable.f a0=some r) :
  Calls Tryz.prog 95 #[.int .u8 a0] w fun e w'=>e=.returned (.bool r)∧Drawn0 w w':=by
 have H:=h;clear h;unfold words_printable.f at H;replace H:=ifI H;rcases H with ⟨c2,H⟩|⟨c2,H⟩
 ·have c2b0:decide (32≤a0)=true:=decide_eq_true c2;clear c2;obtain rfl:=Option.some.inj H;go_enter Tryz.func95,Tryz.ntmps95
  go_wp2
  go_ret
  exact ⟨zq7,zq16⟩
 have c2b0:decide (32≤a0)=false:=decide_eq_false c2;clear c2;obtain rfl:=Option.some.inj H;go_enter Tryz.func95,Tryz.ntmps95
 go_wp2
 go_ret
 exact ⟨zq7,zq16⟩
theorem all_bad {p:UInt8→Bool} {l:List UInt8} {i:Nat} (h:i < l.length) (hu:p l[i]=false):l.all p=false:=by
 rw [Bool.eq_false_iff];intro hh;have:=List.all_eq_true.mp hh l[i] (List.getElem_mem h);rw [hu] at this;cases this
theorem letter_wd:∀ n:Nat,n < 256→words_letter.f (n:Int)=some ((decide (97≤n) && decide (n≤122)) || ((decide (65≤n) && decide (n≤90)) || decide (n=95))):=by decide +kernel
theorem digit_wd:∀ n:Nat,n < 256→words_digit.f (n:Int)=some (decide (48≤n) && decide (n≤57)):=by decide +kernel
theorem print_wd:∀ n:Nat,n < 256→words_printable.f (n:Int)=some (decide (32≤n) && decide (n≤126)):=by decide +kernel
def isLetB (c:UInt8):Bool:=(decide (97≤c.toNat) && decide (c.toNat≤122)) || ((decide (65≤c.toNat) && decide (c.toNat≤90)) || decide (c.toNat=95))
def isDigB (c:UInt8):Bool:=decide (48≤c.toNat) && decide (c.toNat≤57)
def isWdB (c:UInt8):Bool:=isLetB c || isDigB c
theorem wd_calls (c:UInt8) (w:World):Calls Tryz.prog 48 #[.int .u8 (c.toNat:Int)] w fun e w'=>e=.returned (.bool (isWdB c))∧Drawn0 w w':=by
 have h1:=letter_wd c.toNat c.toNat_lt;have h2:=digit_wd c.toNat c.toNat_lt;have HC1:=sd (fun w=>words_letter.calls _ (isLetB c) w h1);have HC2:=sd (fun w=>words_digit.calls _ (isDigB c) w h2);clear h1 h2;generalize hP:(fun e w'=>e=Ending.returned (.bool (isWdB c))∧Drawn0 w w')=Post;have HP:=sd hP;clear hP
 cases hL:isLetB c
 ·rw [hL] at HC1;go_enter Tryz.func48,Tryz.ntmps48
  go_wp2_with fail
  refine (HC1.out _).mono ?_;rintro e w1 ⟨rfl,hd1⟩;obtain ⟨⟨n1,rfl⟩⟩:=hd1;go_wp2_with fail
  refine (HC2.out _).mono ?_;rintro e w1 ⟨rfl,hd1⟩;obtain ⟨⟨n2,rfl⟩⟩:=hd1;go_wp2_with fail
  rw [← HP.out];exact ⟨by unfold isWdB;rw [hL];(try rfl),⟨⟨_,rfl⟩⟩⟩
 ·rw [hL] at HC1;go_enter Tryz.func48,Tryz.ntmps48
  go_wp2_with fail
  refine (HC1.out _).mono ?_;rintro e w1 ⟨rfl,hd1⟩;obtain ⟨⟨n1,rfl⟩⟩:=hd1;go_wp2_with fail
  rw [← HP.out];exact ⟨by unfold isWdB;rw [hL];(try rfl),⟨⟨_,rfl⟩⟩⟩
def codeW (l:List UInt8):Bool:=!l.isEmpty && (decide (l.length≤12) && l.all isWdB)
def words_Code.f (a0:ByteArray):Option (Bool):=if a0.size≤140737488351232 then some (codeW a0.data.toList) else none
def dims_codes.f (a0_0:ByteArray) (a0_1:ByteArray):Option (Bool):=(words_Code.f a0_0).bind fun t106=>(if t106=true then ((words_Code.f a0_1).bind fun t107=>(some t107)) else (some false))
def words_digitAt.f (a0:ByteArray) (a1:Int):Option (Bool):=if a1 < (a0.size:Int) then (if 0≤a1 then ((words_digit.f (bt a0 a1)).bind fun t210=>(some t210)) else (none)) else (some false)
theorem words_digitAt.calls (a0:ByteArray) (a1:Int) (r:Bool) (w:World) (h:words_digitAt.f a0 a1=some r) :
  Calls Tryz.prog 107 #[.string a0,.int .i64 a1] w fun e w'=>e=.returned (.bool r)∧Drawn0 w w':=by
 have H:=h;clear h;unfold words_digitAt.f at H;replace H:=ifI H;rcases H with ⟨c3,H⟩|⟨c3,H⟩
 ·have c3b0:decide (a1 < (a0.size:Int))=true:=decide_eq_true c3;clear c3;replace H:=ifI H;rcases H with ⟨c4,H⟩|⟨c4,H⟩
  ·have c4b0:decide (0≤a1)=true:=decide_eq_true c4;clear c4;replace H:=bdI H;obtain ⟨t210,A6,H⟩:=H;(try dsimp only at H)
   obtain rfl:=Option.some.inj H;have p5:0≤(a1:Int):=od;have q5:a1 < (a0.size:Int):=od;have hx5:=bt_at a0 a1;replace p5:=eq_true p5;replace q5:=eq_true q5;go_enter Tryz.func107,Tryz.ntmps107
   go_wp2_with (first|(go_at_call 50;(with_reducible refine (words_digit.calls (bt a0 a1) t210 _ A6.out).mono ?_);rintro e w' ⟨rfl,⟨nd,rfl⟩⟩))
   go_ret
   exact ⟨zq7,zq16⟩
  exact absurd H (by simp)
 have c3b0:decide (a1 < (a0.size:Int))=false:=decide_eq_false c3;clear c3;obtain rfl:=Option.some.inj H;go_enter Tryz.func107,Tryz.ntmps107
 go_wp2
 go_ret
 exact ⟨zq7,zq16⟩
def words_quoted.l0:Nat→ByteArray→Int→List Int→Int→Int→Int→Option (ByteArray×Int×Int×Int)
|0,_,_,_,_,_,_=>none
|k+1,x0,x1,x7,x8,x212000,x212001=>if x8 < (x0.size:Int) then (if 0≤x8 then (if (bt x0 x8)=34 then (some (strOfNums x7,wrap64 (x8+1),x212000,x212001)) else (if (bt x0 x8)=92 then (if (wrap64 (x8+1)) ≥ (x0.size:Int) then (some ((⟨#[]⟩:ByteArray),0,wrap64 ((wrap64 (x8+1)) - 1),5)) else (if 0≤(wrap64 (x8+1)) then (if (wrap64 (x8+1)) < (x0.size:Int) then (if (bt x0 (wrap64 (x8+1)))=34 then (if x7.length < 140737488355328 then (words_quoted.l0 k x0 x1 (x7++[bt x0 (wrap64 (x8+1))]) (wrap64 ((wrap64 (x8+1))+1)) x212000 x212001) else (none)) else (if (bt x0 (wrap64 (x8+1)))=92 then (if x7.length < 140737488355328 then (words_quoted.l0 k x0 x1 (x7++[bt x0 (wrap64 (x8+1))]) (wrap64 ((wrap64 (x8+1))+1)) x212000 x212001) else (none)) else (some ((⟨#[]⟩:ByteArray),0,wrap64 ((wrap64 (x8+1)) - 1),5)))) else (none)) else (none))) else ((words_printable.f (bt x0 x8)).bind fun t218=>(if t218=true then (if x7.length < 140737488355328 then (words_quoted.l0 k x0 x1 (x7++[bt x0 x8]) (wrap64 (x8+1)) x212000 x212001) else (none)) else (some ((⟨#[]⟩:ByteArray),0,x8,5)))))) else (none)) else (some ((⟨#[]⟩:ByteArray),0,x1,6))
def words_quoted.f (k:Nat) (a0:ByteArray) (a1:Int):Option (ByteArray×Int×Int×Int):=words_quoted.l0 k a0 a1 ([]:List Int) (wrap64 (a1+1)) 0 0
def words_quoted.T8:Bool×List (List Nat×List Nat):=(true,[([],[]),([0],[0]),([],[]),([2],[2]),([],[]),([1,0,1],[1]),([3,5,0,1,2,3,5],[3]),([4,6,0,1,2,3,4,5,6],[4])])
def words_quoted.B8:List Nat:=[0,1,0,4,0,3,47,127]
theorem words_quoted.bits8:waitsOk words_quoted.T8.2 words_quoted.B8=true:=by kernel_rfl
mutual
def rf06_text.l0:Nat→ByteArray→Int→List Int→Int→Option (ByteArray×Int×Int×Int)
|0,_,_,_,_=>none
|k+1,x0,x1,x8,x9=>if x9 < (x0.size:Int) then (if 0≤x9 then (if (bt x0 x9)=34 then (if (x8.length:Int) > 60 then (some ((⟨#[]⟩:ByteArray),0,x1,9)) else (some (strOfNums x8,wrap64 (x9+1),0,0))) else (if (bt x0 x9) < 32 then (rf06_text.j1 k x0 x1 x8 x9 (bt x0 x9) true) else (rf06_text.j1 k x0 x1 x8 x9 (bt x0 x9) (decide ((bt x0 x9) > 126))))) else (none)) else (some ((⟨#[]⟩:ByteArray),0,x1,6))
def rf06_text.j1:Nat→ByteArray→Int→List Int→Int→Int→Bool→Option (ByteArray×Int×Int×Int)
|0,_,_,_,_,_,_=>none
|k+1,x0,x1,x8,x9,x10,x37=>if x37=true then (some ((⟨#[]⟩:ByteArray),0,x9,5)) else (if x10=92 then (if (wrap64 (x9+1)) ≥ (x0.size:Int) then (some ((⟨#[]⟩:ByteArray),0,x9,5)) else (if 0≤(wrap64 (x9+1)) then (if (wrap64 (x9+1)) < (x0.size:Int) then (if (bt x0 (wrap64 (x9+1)))=34 then (if x8.length < 140737488355328 then (rf06_text.l0 k x0 x1 (x8++[bt x0 (wrap64 (x9+1))]) (wrap64 ((wrap64 (x9+1))+1))) else (none)) else (if (bt x0 (wrap64 (x9+1)))=92 then (if x8.length < 140737488355328 then (rf06_text.l0 k x0 x1 (x8++[bt x0 (wrap64 (x9+1))]) (wrap64 ((wrap64 (x9+1))+1))) else (none)) else (some ((⟨#[]⟩:ByteArray),0,x9,5)))) else (none)) else (none))) else (if x8.length < 140737488355328 then (rf06_text.l0 k x0 x1 (x8++[x10]) (wrap64 (x9+1))) else (none)))
end
def rf06_text.f (k:Nat) (a0:ByteArray) (a1:Int):Option (ByteArray×Int×Int×Int):=rf06_text.l0 k a0 a1 ([]:List Int) (wrap64 (a1+1))
def rf06_in.l0:Nat→List ByteArray→ByteArray→Int→Option (Bool)
|0,_,_,_=>none
|k+1,x0,x1,x5=>if x5 < (x0.length:Int) then (if 0≤x5 then (if (rdOf ByteArray.empty x0 x5).toList=x1.toList then (some true) else (rf06_in.l0 k x0 x1 (wrap64 (x5+1)))) else (none)) else (some false)
def rf06_in.f (k:Nat) (l0:List ByteArray) (a1:ByteArray):Option (Bool):=rf06_in.l0 k l0 a1 0
theorem rf06_in.calls (k:Nat) (A0:Option Addr) (c0:Nat) (l0:List ByteArray) (a1:ByteArray) (r:Bool) (w:World) (hr0:Kd.C Kd.string w A0 l0.length l0) (hc0:l0.length≤c0) (h:rf06_in.f k l0 a1=some r) :
  Calls Tryz.prog 140 #[.slice A0 l0.length c0,.string a1] w fun e w'=>e=.returned (.bool r)∧Drawn0 w w':=by
 have HR0:=sd hr0;have HC0:=sd hc0;clear hr0 hc0;have H:=h;clear h;unfold rf06_in.f at H;have H':=sd H;clear H;go_enter Tryz.func140,Tryz.ntmps140
 go_wp2
 go_loopg [5] k (fun kq v5 w'=>∃ (x5_1:Int),v5=.int .i64 x5_1∧Aside0 (rf06_in.l0 kq l0 a1 x5_1=some r)∧Aside0 (kq≤k)∧Drawn0 w w')
 case atStart=>exact ⟨(0),zq7,H',⟨Nat.le_refl _⟩,zq16⟩
 case round =>
  clear H';try clear c1
  obtain ⟨x5_1,rfl,HA,HK1,⟨m1,rfl⟩⟩:=hrel
  cases gk with
 |zero=>exact absurd HA.out (by simp [rf06_in.l0])
 |succ k1 =>
   have H:=HA.out;clear HA;simp only [rf06_in.l0] at H
   replace H:=ifI H;rcases H with ⟨c3,H⟩|⟨c3,H⟩
   ·have c3b0:decide (x5_1 < (l0.length:Int))=true:=decide_eq_true c3;clear c3;replace H:=ifI H;rcases H with ⟨c4,H⟩|⟨c4,H⟩
    ·have c4b0:decide (0≤x5_1)=true:=decide_eq_true c4;clear c4;replace H:=ifI H;rcases H with ⟨c5,H⟩|⟨c5,H⟩
     ·obtain ⟨c5b0,c5b1⟩:=eqI c5;clear c5;obtain rfl:=Option.some.inj H;have p394:0≤(x5_1:Int):=od;have q394:x5_1 < (l0.length:Int):=od;obtain ⟨ad394,e394,hx394_0⟩:=Kd.at_string HR0.out x5_1 p394 q394
      cases e394
      replace p394:=eq_true p394;replace q394:=eq_true q394;go_wp2
      go_ret
      exact ⟨zq7,zq16⟩
     obtain ⟨c5b0,c5b1⟩:=neI c5;have H':=sd H;clear H;have p394:0≤(x5_1:Int):=od;have q394:x5_1 < (l0.length:Int):=od;obtain ⟨ad394,e394,hx394_0⟩:=Kd.at_string HR0.out x5_1 p394 q394
     cases e394
     replace p394:=eq_true p394;replace q394:=eq_true q394;go_wp2
     go_roundg k1
     case measure=>have:=HK1.out;omega
     case rel=>exact ⟨(wrap64 (x5_1+1)),zq7,H',⟨by have:=HK1.out;omega⟩,zq16⟩
    exact absurd H (by simp)
   have c3b0:decide (x5_1 < (l0.length:Int))=false:=decide_eq_false c3;clear c3;obtain rfl:=Option.some.inj H;go_wp2
   go_ret
   exact ⟨zq7,zq16⟩
def rf06_sign.j0:Nat→ByteArray→Int→Bool→Option (Int)
|0,_,_,_=>none
|k+1,x0,x1,x18=>if x18=true then (some 2) else (if 0≤x1 then (if x1≤(wrap64 (x1+1)) then (if (wrap64 (x1+1))≤(x0.size:Int) then ((rf06_in.f k (([(⟨#[40]⟩:ByteArray),(⟨#[41]⟩:ByteArray),(⟨#[123]⟩:ByteArray),(⟨#[125]⟩:ByteArray),(⟨#[91]⟩:ByteArray),(⟨#[93]⟩:ByteArray),(⟨#[44]⟩:ByteArray),(⟨#[59]⟩:ByteArray),(⟨#[58]⟩:ByteArray),(⟨#[61]⟩:ByteArray),(⟨#[43]⟩:ByteArray),(⟨#[45]⟩:ByteArray),(⟨#[42]⟩:ByteArray),(⟨#[47]⟩:ByteArray),(⟨#[60]⟩:ByteArray),(⟨#[62]⟩:ByteArray),(⟨#[124]⟩:ByteArray),(⟨#[38]⟩:ByteArray),(⟨#[33]⟩:ByteArray),(⟨#[64]⟩:ByteArray),(⟨#[37]⟩:ByteArray)]:List ByteArray)) (x0.extract (x1:Int).toNat ((wrap64 (x1+1)):Int).toNat)).bind fun t402=>(if t402=true then (some 1) else (some 0))) else (none)) else (none)) else (none))
def rf06_sign.f (k:Nat) (a0:ByteArray) (a1:Int):Option (Int):=if (wrap64 (a1+1)) < (a0.size:Int) then (if 0≤a1 then (if a1≤(wrap64 (a1+2)) then (if (wrap64 (a1+2))≤(a0.size:Int) then ((rf06_in.f k (([(⟨#[60,61]⟩:ByteArray),(⟨#[62,61]⟩:ByteArray),(⟨#[33,61]⟩:ByteArray),(⟨#[46,46]⟩:ByteArray)]:List ByteArray)) (a0.extract (a1:Int).toNat ((wrap64 (a1+2)):Int).toNat)).bind fun t398=>(rf06_sign.j0 k a0 a1 t398)) else (none)) else (none)) else (none)) else (rf06_sign.j0 k a0 a1 false)
end A
namespace B
open Go.RowKit WW WL WM
section
variable {P:Program} {ops:Array Oper} {rest:List Oper} {o:Oper} {Q:Exit→Act→World→Prop} {a:Act} {w V W w1:World} {g g':Nat}
theorem bk2 {w:World} {g t:Nat} {v0 v1:Value} (B:Aside0 (w.heap[g]?=some (.cells #[v0,v1] t (0,0)))):w.cell? ⟨g,0,none⟩=some v0∧w.cell? ⟨g,1,none⟩=some v1∧w.frozen? ⟨g,0,none⟩=false∧w.frozen? ⟨g,1,none⟩=false:=⟨(blk_cell B.out 0).trans rfl,(blk_cell B.out 1).trans rfl,blk_frozen B.out 0,blk_frozen B.out 1⟩
theorem gem (hg:g=W.heap.size) (H:Aside0 (Below w.heap.size w V)) (hs:Below w.heap.size w V→Below w.heap.size w W:=by (intro h;repeat (first|(with_reducible first|exact h|apply below_alloc|apply pw_below_drewN|apply below_drew1|refine below_set ?_ (Aside0.out ‹_›))|exact h))):Aside0 (w.heap.size≤g):=⟨by rw [hg];exact below_size (hs H.out)⟩
end
end B
namespace B
open Go.RowKit WW WL WM
section
variable {P:Program} {md:Region.Mode} {ops:Array Oper} {Q:Exit→Act→World→Prop} {S:World→Prop} {ds:List Nat} {T:Bool×List (List Nat×List Nat)} {BB:List Nat} {oi:Oper} {v:Value} {fuel:Nat} {l l':Array Bool} {a a':Act} {w:World}
theorem pA (i N:Nat) (hT:rtab md ops=T) (h:wpAnyLast P md ops Q S ds fuel l' a' w)
    (hi:ops[i]?=some oi:=by rfl) (hN:oi.dst=some N:=by rfl) (hl:l.setIfInBounds i true=l':=by (simp only [List.setIfInBounds_toArray,List.set_cons_zero,List.set_cons_succ];rfl))
    (hc:anyT T l.toList l'.toList i=true:=by kernel_rfl) (hQ:∀ c a w,Q (.panic c) (a.put oi.dst v) w→Q (.panic c) a w:=by exact (fun _ _ _ h=>h)) (hg:Region.wanted oi (yielded ops a.tmps)=true:=by rfl)
    (hy:∀ w,(execOp a.eval oi).run P w=.ok (.value v) w:=by (intro w';go_simp;with_reducible rfl))
    (ha:a.put (some N) v=a':=by (simp only [Act.put,List.setIfInBounds_toArray,List.set_cons_zero,List.set_cons_succ,i64_w,i32_w];rfl)):wpAnyLast P md ops Q S ds (fuel+1) l a w :=
  pure_ l' hi hN (any_of hT hc) hQ (.inl ⟨hg,hy⟩) ha h
theorem tA (i N:Nat) (hT:rtab md ops=T) (hB:waitsOk T.2 BB=true) (hS:S w) (h:wpAnyLast P md ops Q S ds fuel l' a' w)
    (hi:ops[i]?=some oi:=by rfl) (hN:oi.dst=some N:=by rfl) (hl:l.setIfInBounds i true=l':=by (simp only [List.setIfInBounds_toArray,List.set_cons_zero,List.set_cons_succ];rfl))
    (hc:takeW T BB ds l.toList l'.toList i=true:=by kernel_rfl) (hQ:∀ c a w,Q (.panic c) (a.put oi.dst v) w→Q (.panic c) a w:=by exact (fun _ _ _ h=>h)) (hg:Region.wanted oi (yielded ops a.tmps)=true:=by rfl)
    (hy:∀ w,S w→(execOp a.eval oi).run P w=.ok (.value v) w:=by (intro w' hs_;(try dsimp only at hs_);(try go_split_ands);go_simp;with_reducible rfl))
    (ha:a.put (some N) v=a':=by (simp only [Act.put,List.setIfInBounds_toArray,List.set_cons_zero,List.set_cons_succ,i64_w,i32_w];rfl)):wpAnyLast P md ops Q S ds (fuel+1) l a w :=
  take_ l' hi hN (take_ofW hT hB hc) hQ (.inl ⟨hg,hy⟩) hS ha h
end
end B
namespace WW
open Go.RowKit
namespace Kd
section
variable {α β:Type} {d:Kd α} {e base n n' cc g N:Nat} {ok ok' okp S:Nat→Prop} {w w0 w1 W W1:World} {A A':Option Addr} {u v v1:Value} {xs:List α} {xs':List β} {d':Kd β} {x:α} {c:List Value}
theorem F_nil (d:Kd α) (W:World) (ok:Nat→Prop):F d W ok none ([]:List α).length []:=fun W' _=>C_nil d W'
theorem FK_of_M (h:d.M W base ok x c):FK d W ok x c:=fun _ hW=>d.K_of_M (M_step h hW)
end
end Kd
end WW
namespace B
open Go.RowKit
theorem WordW.s {W:World} {g:Nat} {kind:Int} {S:ByteArray} {i pa pe:Int} (h:WordW W g kind S i pa pe) (S':ByteArray):WordW (W.setCell ⟨g,1,none⟩ (.string S')) g kind S' i pa pe :=
  ⟨has_other (by simp) h.k0,has_same ⟨_,h.k1⟩,has_other (by simp) h.k2,has_other (by simp) h.k3,has_other (by simp) h.k4,by rw [World.frozen?_setCell];exact h.f0,by rw [World.frozen?_setCell];exact h.f1,by rw [World.frozen?_setCell];exact h.f2,by rw [World.frozen?_setCell];exact h.f3,by rw [World.frozen?_setCell];exact h.f4⟩
theorem WordW.a {W:World} {g:Nat} {kind:Int} {S:ByteArray} {i pa pe:Int} (h:WordW W g kind S i pa pe) (x:Int):WordW (W.setCell ⟨g+1,0,none⟩ (.int .i64 x)) g kind S i x pe :=
  ⟨has_other (by simp) h.k0,has_other (by simp) h.k1,has_other (by simp) h.k2,has_same ⟨_,h.k3⟩,has_other (by simp) h.k4,by rw [World.frozen?_setCell];exact h.f0,by rw [World.frozen?_setCell];exact h.f1,by rw [World.frozen?_setCell];exact h.f2,by rw [World.frozen?_setCell];exact h.f3,by rw [World.frozen?_setCell];exact h.f4⟩
end B
namespace A
open Go.RowKit B WW WL WM
attribute [local go_sem] max2_int min2_int max_two min_two max_three min_three max_four min_four
set_option maxHeartbeats 8000000
set_option maxRecDepth 100000
theorem ba_nil {s:ByteArray} (h:s.size=0):s=⟨#[]⟩:=by
 cases s with|mk d=>congr 1;exact Array.eq_empty_of_size_eq_zero h
theorem every_wd (hF:∀ (c:UInt8) (w:World),Calls Tryz.prog 48 #[.int .u8 (c.toNat:Int)] w fun e w'=>e=.returned (.bool (isWdB c))∧Drawn0 w w') (s:ByteArray) (hs:s.size≤140737488351232) (w:World) :
  Calls Tryz.prog 47 #[.string s,.func (.func 48) #[] #[]] w fun e w'=>e=.returned (.bool (s.data.toList.all isWdB))∧Drawn0 w w':=by
 have HSZ:=sd (size_eq' s);have HF:=sd hF;clear hF;generalize hP:(fun e w'=>e=Ending.returned (.bool (s.data.toList.all isWdB))∧Drawn0 w w')=Post;have HP:=sd hP;clear hP;go_enter Tryz.func47,Tryz.ntmps47
 go_wp2_with fail
 go_loopw [8] (fun n_ wr=>∃ (i:Nat),i≤s.size∧n_=.int .i64 (i:Int)∧Aside0 (∀ j,(h:j < i)→(h':j < s.size)→isWdB s[j]=true)∧Drawn0 w wr) (fun n_ _=>(s.size - (RowKit.intOf n_).toNat))
 case atStart=>exact ⟨0,by omega,rfl,⟨fun j h=>by omega⟩,Drawn0.refl _⟩
 case round =>
  obtain ⟨i,hi,rfl,HU,HDr⟩:=hrel;rename World=>wr
  by_cases hlt:i < s.size
  ·have hlt':(i:Int) < (s.size:Int):=by omega
   go_wp2_with fail
   have HC:=HF.out s[i] wr
   cases hp:isWdB s[i]
   ·rw [hp] at HC;have HB:=sd (show s.data.toList.all isWdB=false from all_bad (by rw [← HSZ.out];exact hlt) (by rw [list_at s i hlt];exact hp));refine HC.mono ?_;rintro e w1 ⟨rfl,hd1⟩;obtain ⟨⟨n1,rfl⟩⟩:=hd1;clear HC;go_wp2_with fail
    rw [← HP.out];exact ⟨by rw [HB.out];(try rfl),HDr.step _⟩
   ·rw [hp] at HC
    have HU2:=sd (show ∀ j,(h:j < i+1)→(h':j < s.size)→isWdB s[j]=true from fun j h h'=>by
     rcases Nat.lt_or_ge j i with h1|h1
     ·exact HU.out j h1 h'
     ·obtain rfl:j=i:=by omega
      exact hp)
    refine HC.mono ?_;rintro e w1 ⟨rfl,hd1⟩;obtain ⟨⟨n1,rfl⟩⟩:=hd1;clear HC HU;go_wp2_with fail
    go_roundw
    case rel=>exact ⟨i+1,by omega,by go_num,HU2,HDr.step _⟩
    case measure=>simp [RowKit.intOf];omega
  have hlt':¬ (i:Int) < (s.size:Int):=by omega
  obtain rfl:i=s.size:=by omega
  have hall:s.data.toList.all isWdB=true:=by
   rw [List.all_eq_true];intro x hx;obtain ⟨j,hj,rfl⟩:=List.getElem_of_mem hx;have hj2:j < s.size:=by rw [HSZ.out];exact hj
   rw [list_at s j hj2];exact HU.out j hj2 hj2
  have HL:=sd hall;clear hall;go_wp2_with fail
  rw [← HP.out];exact ⟨by rw [HL.out];(try rfl),HDr⟩
theorem code_w (s:ByteArray) (hs:s.size≤140737488351232) (w:World):Calls Tryz.prog 21 #[.string s] w fun e w'=>e=.returned (.bool (codeW s.data.toList))∧Drawn0 w w':=by
 have HE:=sd (fun w=>every_wd wd_calls s hs w);have hsz:=size_eq' s;generalize hP:(fun e w'=>e=Ending.returned (.bool (codeW s.data.toList))∧Drawn0 w w')=Post;have HP:=sd hP;clear hP;by_cases h0:s.size=0
 ·have h1:codeW s.data.toList=false:=by unfold codeW;rw [List.isEmpty_iff_length_eq_zero.mpr (by omega)];rfl
  have HB:=sd h1;obtain rfl:s=⟨#[]⟩:=ba_nil h0;clear h1 hsz h0 HE;go_enter Tryz.func21,Tryz.ntmps21
  go_wp2_with fail
  rw [← HP.out];exact ⟨by rw [HB.out];(try rfl),Drawn0.refl _⟩
 have hne:(s.toList=[])=False:=eq_false (fun h=>h0 (by rw [ByteArray.toList_eq] at h;rw [hsz,h];rfl));by_cases h1:s.size≤12
 ·have h1':(s.size:Int)≤12:=by omega
  have hB:codeW s.data.toList=s.data.toList.all isWdB:=by unfold codeW;rw [decide_eq_true (by omega),Bool.true_and,show s.data.toList.isEmpty=false by rw [Bool.eq_false_iff,Ne,List.isEmpty_iff_length_eq_zero];omega];rfl
  have HB:=sd hB;clear hB hsz;generalize s.data.toList.all isWdB=ab at HE HB;go_enter Tryz.func21,Tryz.ntmps21
  go_wp2_with fail
  refine (HE.out _).mono ?_;rintro e w1 ⟨rfl,hd1⟩;obtain ⟨⟨n1,rfl⟩⟩:=hd1;go_wp2_with fail
  rw [← HP.out];exact ⟨by rw [HB.out];show Ending.returned (Value.bool (!s.toList.isEmpty && ab))=_;rw [show s.toList.isEmpty=false by rw [Bool.eq_false_iff,Ne,List.isEmpty_iff];exact of_eq_false hne];rfl,⟨⟨_,rfl⟩⟩⟩
 have h1':¬ (s.size:Int)≤12:=by omega
 have hB:codeW s.data.toList=false:=by unfold codeW;rw [decide_eq_false (by omega),Bool.false_and,Bool.and_false]
 have HB:=sd hB;clear hB hsz;go_enter Tryz.func21,Tryz.ntmps21
 go_wp2_with fail
 rw [← HP.out];exact ⟨by rw [HB.out];(try rfl),Drawn0.refl _⟩
theorem words_Code.calls (a0:ByteArray) (r:Bool) (w:World) (h:words_Code.f a0=some r) :
  Calls Tryz.prog 21 #[.string a0] w fun e w'=>e=.returned (.bool r)∧Drawn0 w w':=by
 unfold words_Code.f at h;split at h
 ·rename_i hs
  obtain rfl:=Option.some.inj h;exact code_w a0 hs w
 ·cases h
def words_numberEnd.l0:Nat→ByteArray→Int→Option Int
 |0,_,_=>none
 |k+1,s,i=>if i < (s.size:Int) then
      (if bt s i=46∨bt s i=47∨bt s i=45 then (words_digitAt.f s (i+1)).bind fun b=>if b=true then words_numberEnd.l0 k s (i+1) else some i
       else (words_letter.f (bt s i)).bind fun b=>if b=true then words_numberEnd.l0 k s (i+1) else (words_digit.f (bt s i)).bind fun d=>if d=true then words_numberEnd.l0 k s (i+1) else some i)
      else some i
def words_numberEnd.f (k:Nat) (s:ByteArray) (i:Int):Option Int:=if 0≤i∧i≤140737488351232∧s.size≤140737488351232 then words_numberEnd.l0 k s (i+1) else none
theorem words_numberEnd.calls (k:Nat) (a0:ByteArray) (a1 r:Int) (w:World) (h:words_numberEnd.f k a0 a1=some r) :
    Calls Tryz.prog 108 #[.string a0,.int .i64 a1] w fun e w'=>e=.returned (.int .i64 r)∧Drawn0 w w':=by
  have HPost:∀ W,Drawn0 w W→(fun (e:Ending) (w':World)=>e=.returned (.int .i64 r)∧Drawn0 w w') (.returned (.int .i64 r)) W:=fun W hW=>⟨rfl,hW⟩
  generalize (fun (e:Ending) (w':World)=>e=.returned (.int .i64 r)∧Drawn0 w w')=Post at HPost ⊢;have HP:=sd HPost;clear HPost;unfold words_numberEnd.f at h;split at h
  case isFalse=>cases h
  rename_i hb
  obtain ⟨hb0,hb1,hs⟩:=hb;obtain ⟨n,rfl⟩:=Int.eq_ofNat_of_zero_le hb0;have hn:n≤140737488351232:=by omega
  clear hb0 hb1;have H:=sd h;clear h;go_enter Tryz.func108,Tryz.ntmps108
  go_wp2_with fail
  go_step3
  go_wp2_with fail
  go_step3
  go_wp2_with fail
  go_loopg [1] k (fun kq v1 wr=>∃ (i:Nat),v1=.int .i64 (i:Int)∧i≤281474976710656∧Aside0 (words_numberEnd.l0 kq a0 (i:Int)=some r)∧Aside0 (Drawn0 w wr))
  case atStart=>exact ⟨n+1,by go_num,by omega,⟨by rw [show ((n+1:Nat):Int)=(n:Int)+1 by omega];exact H.out⟩,⟨Drawn0.refl _⟩⟩
  case round =>
    clear H;obtain ⟨i,rfl,hi,HA,HD⟩:=hrel
    cases gk with
   |zero=>exact absurd HA.out (by simp [words_numberEnd.l0])
   |succ k1 =>
      have H:=HA.out;clear HA;rw [words_numberEnd.l0] at H;by_cases hlt:i < a0.size
      · rw [if_pos (by omega)] at H
        have hbt:bt a0 (i:Int)=(a0[i].toNat:Int):=(bt_at a0 i hlt).symm;rw [hbt,show (i:Int)+1=((i+1:Nat):Int) by omega] at H;obtain ⟨c,hc⟩:∃ c,a0[i]=c:=⟨_,rfl⟩
        rw [hc] at H;clear hbt;have hib:decide ((i:Int) < (a0.size:Int))=true:=decide_eq_true (by omega);by_cases hsep:(c.toNat:Int)=46∨(c.toNat:Int)=47∨(c.toNat:Int)=45
        · rw [if_pos hsep] at H
          replace H:=Option.bind_eq_some_iff.mp H;obtain ⟨b,hb,H⟩:=H;have CA:=sd (fun W=>words_digitAt.calls a0 ((i+1:Nat):Int) b W hb);rw [show ((i+1:Nat):Int)=(i:Int)+1 by omega] at CA;clear hb
          have sep:(((c.toNat:Int) == 46)=true)∨((((c.toNat:Int) == 46)=false)∧((c.toNat:Int) == 47)=true)∨((((c.toNat:Int) == 46)=false)∧(((c.toNat:Int) == 47)=false)∧((c.toNat:Int) == 45)=true):=by
            simp only [beq_iff_eq,beq_eq_false_iff_ne];omega
          clear hsep
          cases b
          · rw [if_neg (by decide)] at H
            rcases sep with s1|⟨s1,s2⟩|⟨s1,s2,s3⟩
            · obtain rfl:=Option.some.inj H
              go_wp2_with (first|(go_at_call 49;(with_reducible refine (CL.out _).mono ?_);rintro e w' ⟨rfl,nd,rfl⟩)|(go_at_call 50;(with_reducible refine (CD.out _).mono ?_);rintro e w' ⟨rfl,nd,rfl⟩)|(go_at_call 107;(with_reducible refine (CA.out _).mono ?_);rintro e w' ⟨rfl,nd,rfl⟩))
              (try go_ret)
              exact HP.out _ zq131
            · obtain rfl:=Option.some.inj H
              go_wp2_with (first|(go_at_call 49;(with_reducible refine (CL.out _).mono ?_);rintro e w' ⟨rfl,nd,rfl⟩)|(go_at_call 50;(with_reducible refine (CD.out _).mono ?_);rintro e w' ⟨rfl,nd,rfl⟩)|(go_at_call 107;(with_reducible refine (CA.out _).mono ?_);rintro e w' ⟨rfl,nd,rfl⟩))
              (try go_ret)
              exact HP.out _ zq131
            · obtain rfl:=Option.some.inj H
              go_wp2_with (first|(go_at_call 49;(with_reducible refine (CL.out _).mono ?_);rintro e w' ⟨rfl,nd,rfl⟩)|(go_at_call 50;(with_reducible refine (CD.out _).mono ?_);rintro e w' ⟨rfl,nd,rfl⟩)|(go_at_call 107;(with_reducible refine (CA.out _).mono ?_);rintro e w' ⟨rfl,nd,rfl⟩))
              (try go_ret)
              exact HP.out _ zq131
          · rw [if_pos rfl] at H
            rcases sep with s1|⟨s1,s2⟩|⟨s1,s2,s3⟩
            · have HA:=sd H
              clear H;go_wp2_with (first|(go_at_call 49;(with_reducible refine (CL.out _).mono ?_);rintro e w' ⟨rfl,nd,rfl⟩)|(go_at_call 50;(with_reducible refine (CD.out _).mono ?_);rintro e w' ⟨rfl,nd,rfl⟩)|(go_at_call 107;(with_reducible refine (CA.out _).mono ?_);rintro e w' ⟨rfl,nd,rfl⟩))
              go_roundg k1
              case measure=>omega
              case rel=>exact ⟨i+1,by go_num,by omega,HA,⟨zq131⟩⟩
            · have HA:=sd H
              clear H;go_wp2_with (first|(go_at_call 49;(with_reducible refine (CL.out _).mono ?_);rintro e w' ⟨rfl,nd,rfl⟩)|(go_at_call 50;(with_reducible refine (CD.out _).mono ?_);rintro e w' ⟨rfl,nd,rfl⟩)|(go_at_call 107;(with_reducible refine (CA.out _).mono ?_);rintro e w' ⟨rfl,nd,rfl⟩))
              go_roundg k1
              case measure=>omega
              case rel=>exact ⟨i+1,by go_num,by omega,HA,⟨zq131⟩⟩
            · have HA:=sd H
              clear H;go_wp2_with (first|(go_at_call 49;(with_reducible refine (CL.out _).mono ?_);rintro e w' ⟨rfl,nd,rfl⟩)|(go_at_call 50;(with_reducible refine (CD.out _).mono ?_);rintro e w' ⟨rfl,nd,rfl⟩)|(go_at_call 107;(with_reducible refine (CA.out _).mono ?_);rintro e w' ⟨rfl,nd,rfl⟩))
              go_roundg k1
              case measure=>omega
              case rel=>exact ⟨i+1,by go_num,by omega,HA,⟨zq131⟩⟩
        rw [if_neg hsep] at H;have s1:((c.toNat:Int) == 46)=false:=beq_eq_false_iff_ne.mpr (fun h=>hsep (.inl h));have s2:((c.toNat:Int) == 47)=false:=beq_eq_false_iff_ne.mpr (fun h=>hsep (.inr (.inl h)));have s3:((c.toNat:Int) == 45)=false:=beq_eq_false_iff_ne.mpr (fun h=>hsep (.inr (.inr h)));clear hsep;replace H:=Option.bind_eq_some_iff.mp H;obtain ⟨b,hb,H⟩:=H;have CL:=sd (fun W=>words_letter.calls (c.toNat:Int) b W hb);clear hb
        cases b
        · rw [if_neg (by decide)] at H
          replace H:=Option.bind_eq_some_iff.mp H;obtain ⟨d,hd,H⟩:=H;have CD:=sd (fun W=>words_digit.calls (c.toNat:Int) d W hd);clear hd
          cases d
          · rw [if_neg (by decide)] at H
            obtain rfl:=Option.some.inj H;go_wp2_with (first|(go_at_call 49;(with_reducible refine (CL.out _).mono ?_);rintro e w' ⟨rfl,nd,rfl⟩)|(go_at_call 50;(with_reducible refine (CD.out _).mono ?_);rintro e w' ⟨rfl,nd,rfl⟩)|(go_at_call 107;(with_reducible refine (CA.out _).mono ?_);rintro e w' ⟨rfl,nd,rfl⟩))
            (try go_ret)
            exact HP.out _ zq131
          · rw [if_pos rfl] at H
            have HA:=sd H;clear H;go_wp2_with (first|(go_at_call 49;(with_reducible refine (CL.out _).mono ?_);rintro e w' ⟨rfl,nd,rfl⟩)|(go_at_call 50;(with_reducible refine (CD.out _).mono ?_);rintro e w' ⟨rfl,nd,rfl⟩)|(go_at_call 107;(with_reducible refine (CA.out _).mono ?_);rintro e w' ⟨rfl,nd,rfl⟩))
            go_roundg k1
            case measure=>omega
            case rel=>exact ⟨i+1,by go_num,by omega,HA,⟨zq131⟩⟩
        · rw [if_pos rfl] at H
          have HA:=sd H;clear H;go_wp2_with (first|(go_at_call 49;(with_reducible refine (CL.out _).mono ?_);rintro e w' ⟨rfl,nd,rfl⟩)|(go_at_call 50;(with_reducible refine (CD.out _).mono ?_);rintro e w' ⟨rfl,nd,rfl⟩)|(go_at_call 107;(with_reducible refine (CA.out _).mono ?_);rintro e w' ⟨rfl,nd,rfl⟩))
          go_roundg k1
          case measure=>omega
          case rel=>exact ⟨i+1,by go_num,by omega,HA,⟨zq131⟩⟩
      rw [if_neg (by omega)] at H;obtain rfl:=Option.some.inj H;go_wp2_with fail
      (try go_ret)
      exact HP.out _ zq131
def words_word.g (s:ByteArray) (i kind e most:Int):Option (Int×ByteArray×Int×Int×Int×Int) :=
 if i≤e∧e≤(s.size:Int) then some (kind,s.extract i.toNat e.toNat,i,e,if most < e - i then i else 0,if most < e - i then 9 else 0) else none
end A
namespace WW
open Go.RowKit
section
variable {P:Program} {ops:Array Oper} {rest:List Oper} {o:Oper} {a:Act} {Q:Exit→Act→World→Prop} {W:World}
theorem gate_guard (hw:Region.wanted o (yielded ops a.tmps)=true) (h:wpList P ops Q ({ o with guard:=none } :: rest) a W):wpList P ops Q (o :: rest) a W:=by
  have h1:Region.wanted { o with guard:=none } (yielded ops a.tmps)=true:=rfl;unfold wpList at h ⊢;rw [if_pos h1] at h;rw [if_pos hw];exact h
end
end WW
namespace WW
open Go.RowKit
namespace Kd
section
variable {α β:Type} {d:Kd α} {e base base' n m c g N' lo hi:Nat} {ok ok' S:Nat→Prop} {w W w1:World} {A:Option Addr} {ad:Addr} {u v v1:Value} {xs:List α}
theorem V_nil (d:Kd α) (e:Nat) (W:World) (base:Nat) (ok:Nat→Prop):V d e W base ok (.slice none 0 0) []:=⟨none,0,rfl,Nat.le_refl _,F_nil d W ok⟩
end
end Kd
end WW
namespace WW
open Go.RowKit
namespace Kd
section
variable {α:Type} {d:Kd α} {e base n cc g:Nat} {ok ok' okp S:Nat→Prop} {w w1 W W1:World} {A:Option Addr} {u v v1:Value} {xs:List α} {x:α} {c:List Value}
theorem R_N (h:d.R e w base ok v xs):N d e w base ok v xs:=by
  obtain ⟨h0,inner,ho,hr⟩:=h;refine ⟨h0,chunks d.sz xs.length inner,chunks_length _ _ _,⟨fun k hk=>hk.symm,inner,by rw [chunks_length];exact ho,reps_raw hr (fun x c hp=>⟨d.K_len (d.K_of_M hp),d.K_one (d.K_of_M hp)⟩)⟩,fun j x c hx hc=>?_⟩;rw [chunks_get hc];exact FK_of_M (hr.2 j x hx)
theorem N_nil (d:Kd α) (e:Nat) (w:World) (base:Nat) (ok:Nat→Prop):N d e w base ok (.slice none 0 0) []:=R_N (R_nil _ _ _ _ _)
end
end Kd
end WW
namespace WL
open WW (Aside0)
def opsOf (f:Func) (k:Nat):Array Oper:=((f.body.bind fun c=>opsIn c k)).getD #[]
end WL
namespace A
open Go.RowKit B WW WL WM
attribute [local go_sem] max2_int min2_int max_two min_two max_three min_three max_four min_four
set_option maxHeartbeats 8000000
set_option maxRecDepth 100000
theorem words_quoted.tab8:rtab .any (opsOf Tryz.f109 8)=words_quoted.T8:=by kernel_rfl
end A
namespace A
open Go.RowKit B WW WL WM
attribute [local go_sem] max2_int min2_int max_two min_two max_three min_three max_four min_four
theorem info5:(Tryz.prog.info? 5).map (fun i=>(i.zero,i.size,i.bytes))=some (some (.int .u8 0),1,1):=by kernel_rfl
end A
namespace A
open Go.RowKit B WW WL WM
theorem zq5 {P:Prop} (h:P:=by first|exact Kd.R_nil _ _ _ _ _|exact Kd.N_nil _ _ _ _ _|exact Kd.V_nil _ _ _ _ _|exact Kd.Q_nil _ _ _ _ _|exact Kd.S_nil _ _ _ _ _):P:=h
end A
namespace A
open Go.RowKit B WW WL WM
attribute [local go_sem] max2_int min2_int max_two min_two max_three min_three max_four min_four
set_option maxHeartbeats 8000000
set_option maxRecDepth 100000
theorem rf06_text.calls (k:Nat) (a0:ByteArray) (a1:Int) (r1:ByteArray) (r2 r3 r4:Int) (w:World) (h:rf06_text.f k a0 a1=some (r1,r2,r3,r4)) :
  Calls Tryz.prog 122 #[.string a0,.int .i64 a1] w fun e w'=>e=.returned (.tuple #[.string r1,.int .i64 r2,.int .i64 r3,.int .i64 r4])∧Below w.heap.size w w':=by
 have HB:=sd (Below.refl w.heap.size w);have H:=h;clear h;unfold rf06_text.f at H;have H':=sd H;clear H;go_enter Tryz.func122,Tryz.ntmps122
 go_wp2
 go_loopg [8,9] k (fun kq v8 v9 w'=>∃ (x8_1:List Int) (x9_1:Int),v9=.int .i64 x9_1∧Aside0 (rf06_text.l0 kq a0 a1 x8_1 x9_1=some (r1,r2,r3,r4))∧Aside0 (kq≤k)∧Aside0 (Kd.R (Kd.int .u8) 5 w' w.heap.size (fun _=>True) v8 x8_1)∧Aside0 (Below w.heap.size w w'))
 case atStart=>exact ⟨(([]:List Int)),(wrap64 (a1+1)),zq7,H',⟨Nat.le_refl _⟩,⟨zq5⟩,⟨zq6⟩⟩
 case round =>
  clear H';try clear c1
  obtain ⟨x8_1,x9_1,rfl,HA,HK1,HO_8,HB⟩:=hrel
  cases gk with
 |zero=>exact absurd HA.out (by simp [rf06_text.l0])
 |succ k1 =>
   have H:=HA.out;clear HA;simp only [rf06_text.l0] at H
   replace H:=ifI H;rcases H with ⟨c3,H⟩|⟨c3,H⟩
   ·have c3b0:decide (x9_1 < (a0.size:Int))=true:=decide_eq_true c3;clear c3;replace H:=ifI H;rcases H with ⟨c4,H⟩|⟨c4,H⟩
    ·have c4b0:decide (0≤x9_1)=true:=decide_eq_true c4;clear c4;replace H:=ifI H;rcases H with ⟨c6,H⟩|⟨c6,H⟩
     ·obtain ⟨c6b0,c6b1⟩:=eqI c6;clear c6;replace H:=ifI H;rcases H with ⟨c7,H⟩|⟨c7,H⟩
      ·have c7b0:decide (60 < (x8_1.length:Int))=true:=decide_eq_true c7;have c7b1:decide (60 < x8_1.length)=true:=decide_eq_true (by omega);clear c7;simp only [Option.some.injEq,Prod.mk.injEq] at H
       obtain ⟨rfl,rfl,rfl,rfl⟩:=H;have p5:0≤(x9_1:Int):=od;have q5:x9_1 < (a0.size:Int):=od;have hx5:=bt_at a0 x9_1;replace p5:=eq_true p5;replace q5:=eq_true q5;obtain ⟨Ao8,co8,eo8⟩:=Kd.R_slice HO_8.out;subst eo8;go_wp2
       refine bodyPost_ret (results_list (rs:=[.tmp 4,.tmp 5,.tmp 6,.tmp 7]) rfl (by simp) (.tmp (.tmp (.tmp (.tmp .nil))))) rfl ?_;exact ⟨zq4,zq6⟩
      have c7b0:decide (60 < (x8_1.length:Int))=false:=decide_eq_false c7;have c7b1:decide (60 < x8_1.length)=false:=decide_eq_false (by omega);clear c7;simp only [Option.some.injEq,Prod.mk.injEq] at H
      obtain ⟨rfl,rfl,rfl,rfl⟩:=H;have p5:0≤(x9_1:Int):=od;have q5:x9_1 < (a0.size:Int):=od;have hx5:=bt_at a0 x9_1;replace p5:=eq_true p5;replace q5:=eq_true q5;obtain ⟨Ao9,co9,eo9⟩:=Kd.R_slice HO_8.out;subst eo9;have hcv10:=own_string (P:=Tryz.prog) Tryz.underlying102 Tryz.underlying5 Tryz.underlying9 (Kd.own_of_R HO_8.out);go_wp2
      refine bodyPost_ret (results_list (rs:=[.tmp 4,.tmp 5,.tmp 6,.tmp 7]) rfl (by simp) (.tmp (.tmp (.tmp (.tmp .nil))))) rfl ?_;exact ⟨zq4,zq6⟩
     obtain ⟨c6b0,c6b1⟩:=neI c6;have HC11:=sd H;clear H;have p5:0≤(x9_1:Int):=od;have q5:x9_1 < (a0.size:Int):=od;have hx5:=bt_at a0 x9_1;replace p5:=eq_true p5;replace q5:=eq_true q5;go_upto_region 10 with (fail)
     go_cut [37] (fun v37 wc=>∃ (kq:Nat) (x37_10:Bool),v37=.bool x37_10∧Aside0 (rf06_text.j1 kq a0 a1 x8_1 x9_1 (bt a0 x9_1) x37_10=some (r1,r2,r3,r4))∧Aside0 (kq≤k1)∧Aside0 (Kd.R (Kd.int .u8) 5 wc w.heap.size (fun _=>True) u8 x8_1)∧Aside0 (Below w.heap.size w wc))
     case first =>
      have H:=HC11.out;clear HC11;replace H:=ifI H;rcases H with ⟨c12,H⟩|⟨c12,H⟩
      ·have c12b0:decide ((bt a0 x9_1) < 32)=true:=decide_eq_true c12;clear c12;(first|rw [c12b0]|(simp only [i64_w,i32_w];rw [c12b0])|skip)
       have H':=sd H;clear H;go_wp2
       go_meet
       case rel=>exact ⟨_,(true),zq7,H',⟨zq8⟩,⟨zq58⟩,⟨zq6⟩⟩
      have c12b0:decide ((bt a0 x9_1) < 32)=false:=decide_eq_false c12;clear c12;(first|rw [c12b0]|(simp only [i64_w,i32_w];rw [c12b0])|skip)
      have H':=sd H;clear H;go_wp2
      go_meet
      case rel=>exact ⟨_,(decide ((bt a0 x9_1) > 126)),zq7,H',⟨zq8⟩,⟨zq58⟩,⟨zq6⟩⟩
     case rest =>
      clear HC11;try clear c1
      obtain ⟨kq,x37_10,rfl,HA,HJ10,HO_8,HB⟩:=hcut
      cases kq with
     |zero=>exact absurd HA.out (by simp [rf06_text.j1])
     |succ kj10 =>
       have H:=HA.out;clear HA;simp only [rf06_text.j1] at H
       by_cases c13:x37_10=true
       ·subst c13;rw [if_pos rfl] at H;simp only [Option.some.injEq,Prod.mk.injEq] at H
        obtain ⟨rfl,rfl,rfl,rfl⟩:=H;go_wp2
        refine bodyPost_ret (results_list (rs:=[.tmp 4,.tmp 5,.tmp 6,.tmp 7]) rfl (by simp) (.tmp (.tmp (.tmp (.tmp .nil))))) rfl ?_;exact ⟨zq4,zq6⟩
       replace c13:=Bool.eq_false_iff.mpr c13;subst c13;rw [if_neg Bool.false_ne_true] at H;replace H:=ifI H;rcases H with ⟨c14,H⟩|⟨c14,H⟩
       ·obtain ⟨c14b0,c14b1⟩:=eqI c14;clear c14;replace H:=ifI H;rcases H with ⟨c15,H⟩|⟨c15,H⟩
        ·have c15b0:decide ((a0.size:Int)≤(wrap64 (x9_1+1)))=true:=decide_eq_true c15;clear c15;simp only [Option.some.injEq,Prod.mk.injEq] at H
         obtain ⟨rfl,rfl,rfl,rfl⟩:=H;go_wp2
         refine bodyPost_ret (results_list (rs:=[.tmp 4,.tmp 5,.tmp 6,.tmp 7]) rfl (by simp) (.tmp (.tmp (.tmp (.tmp .nil))))) rfl ?_;exact ⟨zq4,zq6⟩
        have c15b0:decide ((a0.size:Int)≤(wrap64 (x9_1+1)))=false:=decide_eq_false c15;clear c15;obtain ⟨ji16,hji16⟩:∃ j_:Int,(wrap64 (x9_1+1))=j_:=⟨_,rfl⟩
        replace H:(if 0≤(ji16) then (if (ji16) < (a0.size:Int) then (if (bt a0 (ji16))=34 then (if x8_1.length < 140737488355328 then (rf06_text.l0 kj10 a0 a1 (x8_1++[bt a0 (ji16)]) (wrap64 ((ji16)+1))) else (none)) else (if (bt a0 (ji16))=92 then (if x8_1.length < 140737488355328 then (rf06_text.l0 kj10 a0 a1 (x8_1++[bt a0 (ji16)]) (wrap64 ((ji16)+1))) else (none)) else (some ((⟨#[]⟩:ByteArray),0,x9_1,5)))) else (none)) else (none))=some (r1,r2,r3,r4):=by first|(rw [hji16] at H;exact H)|(simp only [hji16] at H ⊢;exact H)
        (try rw [hji16] at c15b0)
        have hji16w:(IntKind.i64.wrap (x9_1+1))=ji16:=(i64_w _).trans hji16;replace H:=ifI H;rcases H with ⟨c17,H⟩|⟨c17,H⟩
        ·have c17b0:decide (0≤(ji16))=true:=decide_eq_true c17;clear c17;replace H:=ifI H;rcases H with ⟨c18,H⟩|⟨c18,H⟩
         ·have c18b0:decide ((ji16) < (a0.size:Int))=true:=decide_eq_true c18;clear c18;replace H:=ifI H;rcases H with ⟨c20,H⟩|⟨c20,H⟩
          ·obtain ⟨c20b0,c20b1⟩:=eqI c20;clear c20;replace H:=ifI H;rcases H with ⟨c22,H⟩|⟨c22,H⟩
           ·have LMc22:=sd c22;clear c22;obtain ⟨y377,hy377⟩:∃ y_:List Int,y_=(x8_1++[bt a0 (ji16)]):=⟨_,rfl⟩
            replace H:(rf06_text.l0 kj10 a0 a1 y377 (wrap64 ((ji16)+1)))=some (r1,r2,r3,r4):=by first|(rw [hy377];with_reducible exact H)|(have H2_:=(Option.bind_some _ _).symm.trans H;rw [hy377];with_reducible exact H2_)|(have H2_:=(Option.bind_some _ _).symm.trans H;with_reducible exact H2_)|with_reducible exact H|(rw [hy377];exact H)|exact H
            have Ny377:=sd hy377;clear hy377;have H':=sd H;clear H;have p19:0≤((ji16):Int):=od;have q19:(ji16) < (a0.size:Int):=od;have hx19:=bt_at a0 (ji16);replace p19:=eq_true p19;replace q19:=eq_true q19;have p21:0≤((ji16):Int):=od;have q21:(ji16) < (a0.size:Int):=od;have hx21:=bt_at a0 (ji16);replace p21:=eq_true p21;replace q21:=eq_true q21;go_wp2_with (first|((with_reducible refine gate_builtin (b:=.append) (xs:=#[.tmp 66,.tmp 68]) rfl ?_);at_builtin;refine Kd.R_append (Kd.int .u8) (w0:=w) w.heap.size rfl (.tmp 66) (.tmp 68) 102 5 (.int .u8 0) 1 rfl Tryz.underlying102 info5 rfl (by decide) (by omega) u8 x8_1 (bt a0 (ji16)) [.int .u8 (bt a0 (ji16))] (fun _=>True) (fun _=>False) rfl rfl ?aP (fun _ hk=>hk.elim) ?aF ?aO ?aB ?aS ?aL ?_;(case aP=>exact rfl);(case aB=>exact zq6);(case aF=>exact (fun _ _=>trivial));(case aO=>exact zq58);(case aS=>exact (below_size zq6));(case aL=>have:=LMc22.out;omega);intro v378 w23 ho hb hg hat;rw [← Ny377.out] at ho;have HO379:=sd (ho);replace HB:=sd (hb);clear HO_8;clear ho hb hg hat))
            go_roundg kj10
            case measure=>have:=HK1.out;have:=HJ10.out;omega
            case rel=>exact ⟨(y377),(wrap64 ((ji16)+1)),(by first|rfl|(simp;done)|(simp only [← hji16] <;> (first|rfl|simp))|(simp [*];done)),H',⟨zq59⟩,⟨by (with_reducible repeat (first|apply Kd.R_alloc|apply Kd.R_drewN|apply Kd.R_drew));exact HO379.out⟩,⟨zq6⟩⟩
           exact absurd H (by simp)
          obtain ⟨c20b0,c20b1⟩:=neI c20;replace H:=ifI H;rcases H with ⟨c25,H⟩|⟨c25,H⟩
          ·obtain ⟨c25b0,c25b1⟩:=eqI c25;clear c25;replace H:=ifI H;rcases H with ⟨c27,H⟩|⟨c27,H⟩
           ·have LMc27:=sd c27;clear c27;obtain ⟨y380,hy380⟩:∃ y_:List Int,y_=(x8_1++[bt a0 (ji16)]):=⟨_,rfl⟩
            replace H:(rf06_text.l0 kj10 a0 a1 y380 (wrap64 ((ji16)+1)))=some (r1,r2,r3,r4):=by first|(rw [hy380];with_reducible exact H)|(have H2_:=(Option.bind_some _ _).symm.trans H;rw [hy380];with_reducible exact H2_)|(have H2_:=(Option.bind_some _ _).symm.trans H;with_reducible exact H2_)|with_reducible exact H|(rw [hy380];exact H)|exact H
            have Ny380:=sd hy380;clear hy380;have H':=sd H;clear H;have p19:0≤((ji16):Int):=od;have q19:(ji16) < (a0.size:Int):=od;have hx19:=bt_at a0 (ji16);replace p19:=eq_true p19;replace q19:=eq_true q19;have p24:0≤((ji16):Int):=od;have q24:(ji16) < (a0.size:Int):=od;have hx24:=bt_at a0 (ji16);replace p24:=eq_true p24;replace q24:=eq_true q24;have p26:0≤((ji16):Int):=od;have q26:(ji16) < (a0.size:Int):=od;have hx26:=bt_at a0 (ji16);replace p26:=eq_true p26;replace q26:=eq_true q26;go_wp2_with (first|((with_reducible refine gate_builtin (b:=.append) (xs:=#[.tmp 66,.tmp 68]) rfl ?_);at_builtin;refine Kd.R_append (Kd.int .u8) (w0:=w) w.heap.size rfl (.tmp 66) (.tmp 68) 102 5 (.int .u8 0) 1 rfl Tryz.underlying102 info5 rfl (by decide) (by omega) u8 x8_1 (bt a0 (ji16)) [.int .u8 (bt a0 (ji16))] (fun _=>True) (fun _=>False) rfl rfl ?aP (fun _ hk=>hk.elim) ?aF ?aO ?aB ?aS ?aL ?_;(case aP=>exact rfl);(case aB=>exact zq6);(case aF=>exact (fun _ _=>trivial));(case aO=>exact zq58);(case aS=>exact (below_size zq6));(case aL=>have:=LMc27.out;omega);intro v381 w28 ho hb hg hat;rw [← Ny380.out] at ho;have HO382:=sd (ho);replace HB:=sd (hb);clear HO_8;clear ho hb hg hat))
            go_roundg kj10
            case measure=>have:=HK1.out;have:=HJ10.out;omega
            case rel=>exact ⟨(y380),(wrap64 ((ji16)+1)),(by first|rfl|(simp;done)|(simp only [← hji16] <;> (first|rfl|simp))|(simp [*];done)),H',⟨zq59⟩,⟨by (with_reducible repeat (first|apply Kd.R_alloc|apply Kd.R_drewN|apply Kd.R_drew));exact HO382.out⟩,⟨zq6⟩⟩
           exact absurd H (by simp)
          obtain ⟨c25b0,c25b1⟩:=neI c25;simp only [Option.some.injEq,Prod.mk.injEq] at H
          obtain ⟨rfl,rfl,rfl,rfl⟩:=H;have p19:0≤((ji16):Int):=od;have q19:(ji16) < (a0.size:Int):=od;have hx19:=bt_at a0 (ji16);replace p19:=eq_true p19;replace q19:=eq_true q19;have p24:0≤((ji16):Int):=od;have q24:(ji16) < (a0.size:Int):=od;have hx24:=bt_at a0 (ji16);replace p24:=eq_true p24;replace q24:=eq_true q24;go_wp2
          refine bodyPost_ret (results_list (rs:=[.tmp 4,.tmp 5,.tmp 6,.tmp 7]) rfl (by simp) (.tmp (.tmp (.tmp (.tmp .nil))))) rfl ?_;exact ⟨by first|rfl|(simp [errW_none,errW_some] <;> rfl)|(simp only [← hji16];first|rfl|(simp [errW_none,errW_some] <;> rfl))|(simp [*,errW_none,errW_some] <;> rfl),zq6⟩
         exact absurd H (by simp)
        exact absurd H (by simp)
       obtain ⟨c14b0,c14b1⟩:=neI c14;replace H:=ifI H;rcases H with ⟨c29,H⟩|⟨c29,H⟩
       ·have LMc29:=sd c29;clear c29;obtain ⟨y383,hy383⟩:∃ y_:List Int,y_=(x8_1++[(bt a0 x9_1)]):=⟨_,rfl⟩
        replace H:(rf06_text.l0 kj10 a0 a1 y383 (wrap64 (x9_1+1)))=some (r1,r2,r3,r4):=by first|(rw [hy383];with_reducible exact H)|(have H2_:=(Option.bind_some _ _).symm.trans H;rw [hy383];with_reducible exact H2_)|(have H2_:=(Option.bind_some _ _).symm.trans H;with_reducible exact H2_)|with_reducible exact H|(rw [hy383];exact H)|exact H
        have Ny383:=sd hy383;clear hy383;have H':=sd H;clear H;go_wp2_with (first|((with_reducible refine gate_builtin (b:=.append) (xs:=#[.tmp 66,.tmp 68]) rfl ?_);at_builtin;refine Kd.R_append (Kd.int .u8) (w0:=w) w.heap.size rfl (.tmp 66) (.tmp 68) 102 5 (.int .u8 0) 1 rfl Tryz.underlying102 info5 rfl (by decide) (by omega) u8 x8_1 (bt a0 x9_1) [.int .u8 (bt a0 x9_1)] (fun _=>True) (fun _=>False) rfl rfl ?aP (fun _ hk=>hk.elim) ?aF ?aO ?aB ?aS ?aL ?_;(case aP=>exact rfl);(case aB=>exact zq6);(case aF=>exact (fun _ _=>trivial));(case aO=>exact zq58);(case aS=>exact (below_size zq6));(case aL=>have:=LMc29.out;omega);intro v384 w30 ho hb hg hat;rw [← Ny383.out] at ho;have HO385:=sd (ho);replace HB:=sd (hb);clear HO_8;clear ho hb hg hat))
        go_roundg kj10
        case measure=>have:=HK1.out;have:=HJ10.out;omega
        case rel=>exact ⟨(y383),(wrap64 (x9_1+1)),zq7,H',⟨zq59⟩,⟨by (with_reducible repeat (first|apply Kd.R_alloc|apply Kd.R_drewN|apply Kd.R_drew));exact HO385.out⟩,⟨zq6⟩⟩
       exact absurd H (by simp)
    exact absurd H (by simp)
   have c3b0:decide (x9_1 < (a0.size:Int))=false:=decide_eq_false c3;clear c3;simp only [Option.some.injEq,Prod.mk.injEq] at H
   obtain ⟨rfl,rfl,rfl,rfl⟩:=H;go_wp2
   refine bodyPost_ret (results_list (rs:=[.tmp 4,.tmp 5,.tmp 6,.tmp 7]) rfl (by simp) (.tmp (.tmp (.tmp (.tmp .nil))))) rfl ?_;exact ⟨zq4,zq6⟩
end A

end Go.Proofs.YtkbgkekegjfkfaaGreatDoor