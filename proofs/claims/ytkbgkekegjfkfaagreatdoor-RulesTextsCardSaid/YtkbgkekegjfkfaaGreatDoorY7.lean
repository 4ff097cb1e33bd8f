-- By pack.py, a program of this session's.
import Derived.Test.YtkbgkekegjfkfaaGreatDoorY2
import Derived.Test.YtkbgkekegjfkfaaGreatDoorY3
set_option linter.unusedVariables false
set_option linter.unusedSimpArgs false
namespace Go.Proofs.YtkbgkekegjfkfaaGreatDoor.A
open Go.RowKit B WW WL WM
attribute [local go_sem] max2_int min2_int max_two min_two max_three min_three max_four min_four
set_option maxHeartbeats 8000000
set_option maxRecDepth 100000
def words_digit.f (a0:Int):Option (Bool):=if a0 ≥ 48 then (some (decide (a0≤57))) else (some false)
theorem words_digit.calls (a0:Int) (r:Bool) (w:World) (h:words_digit.f a0=some r) :
  Calls Tryz.prog 50 #[.int .u8 a0] w fun e w'=>e=.returned (.bool r)∧Drawn0 w w':=by
 have H:=h;clear h;unfold words_digit.f at H;replace H:=ifI H;rcases H with ⟨c2,H⟩ | ⟨c2,H⟩
 ·have c2b0:decide (48≤a0)=true:=decide_eq_true c2;clear c2;obtain rfl:=Option.some.inj H;go_enter Tryz.func50,Tryz.ntmps50
  go_wp2
  go_ret
  exact ⟨zq7,zq16⟩
 have c2b0:decide (48≤a0)=false:=decide_eq_false c2;clear c2;obtain rfl:=Option.some.inj H;go_enter Tryz.func50,Tryz.ntmps50
 go_wp2
 go_ret
 exact ⟨zq7,zq16⟩
def isPrn (c:UInt8):Bool:=decide (32≤c.toNat) && decide (c.toNat≤126)
theorem digit_wd:∀ n:Nat,n < 256→words_digit.f (n:Int)=some (decide (48≤n) && decide (n≤57)):=by decide +kernel
def plainW (l:List UInt8):Bool:=decide (l.length≤60) && l.all isPrn
def dims_Right.T6:Bool×List (List Nat×List Nat):=(true,[([],[]),([0],[0]),([1],[1]),([2,1],[2]),([3],[3]),([4,3],[3,4]),([5,3,3],[3,5]),([6],[6]),([6],[6]),([8,6],[6,8]),([7,9,6],[6,7,9]),([10,6],[6,10]),([11,6],[6,11]),([6],[6]),([13,6],[6,13]),([12,14,6],[6,12,14]),([6,15,3],[3,6,15]),([3,16],[3,16])])
def dims_Right.B6:List Nat:=[0,1,3,7,15,31,63,127,127,383,1023,2047,4095,127,8319,32767,65535,131071]
theorem dims_Right.bits6:waitsOk dims_Right.T6.2 dims_Right.B6=true:=by kernel_rfl
def rules_counts.f (a0:Int):Option (Bool):=if a0=1 then (some true) else (some (a0 == 4))
theorem rules_counts.calls (a0:Int) (r:Bool) (w:World) (h:rules_counts.f a0=some r) :
  Calls Tryz.prog 67 #[.int .i64 a0] w fun e w'=>e=.returned (.bool r)∧Drawn0 w w':=by
 have H:=h;clear h;unfold rules_counts.f at H;replace H:=ifI H;rcases H with ⟨c2,H⟩ | ⟨c2,H⟩
 ·obtain ⟨c2b0,c2b1⟩:=eqI c2;clear c2;obtain rfl:=Option.some.inj H;go_enter Tryz.func67,Tryz.ntmps67
  go_wp2
  go_ret
  exact ⟨zq7,zq16⟩
 obtain ⟨c2b0,c2b1⟩:=neI c2;obtain rfl:=Option.some.inj H;go_enter Tryz.func67,Tryz.ntmps67
 go_wp2
 go_ret
 exact ⟨zq7,zq16⟩
def rules_suits.j0:Nat→Int→Int→Bool→Option (Bool)
 | 0,_,_,_=>none
 | k+1,x0,x1,x5=>if x5=true then (some false) else (if x1=1 then (some true) else ((rules_counts.f x0).bind fun t112=>(if t112=true then (if x1=2 then (some true) else (some (x1 == 3))) else (if x1=4 then (some true) else (some (x1 == 5))))))
def rules_suits.f (k:Nat) (a0:Int) (a1:Int):Option (Bool):=if a0 < 1 then (rules_suits.j0 k a0 a1 true) else (rules_suits.j0 k a0 a1 (decide (a0 > 4)))
theorem rules_suits.calls (k:Nat) (a0 a1:Int) (r:Bool) (w:World) (h:rules_suits.f k a0 a1=some r) :
  Calls Tryz.prog 52 #[.int .i64 a0,.int .i64 a1] w fun e w'=>e=.returned (.bool r)∧Drawn0 w w':=by
 have H:=h;clear h;unfold rules_suits.f at H;have HC3:=sd H;clear H;go_enter Tryz.func52,Tryz.ntmps52
 go_upto_region 1 with (fail)
 go_cut [5] (fun v5 wc=>∃ (kq:Nat) (x5_2:Bool),v5=.bool x5_2∧Aside0 (rules_suits.j0 kq a0 a1 x5_2=some r)∧Aside0 (kq≤k)∧Drawn0 w wc)
 case first =>
  have H:=HC3.out;clear HC3;replace H:=ifI H;rcases H with ⟨c4,H⟩ | ⟨c4,H⟩
  ·have c4b0:decide (a0 < 1)=true:=decide_eq_true c4;clear c4;(first | rw [c4b0] | (simp only [i64_w,i32_w];rw [c4b0]) | skip)
   have H':=sd H;clear H;go_wp2
   go_meet
   case rel=>exact ⟨_,(true),zq7,H',⟨by first | omega | exact Nat.le_refl _⟩,zq16⟩
  have c4b0:decide (a0 < 1)=false:=decide_eq_false c4;clear c4;(first | rw [c4b0] | (simp only [i64_w,i32_w];rw [c4b0]) | skip)
  have H':=sd H;clear H;go_wp2
  go_meet
  case rel=>exact ⟨_,(decide (a0 > 4)),zq7,H',⟨by first | omega | exact Nat.le_refl _⟩,zq16⟩
 case rest =>
  clear HC3;try clear p2
  try clear c4
  try clear c4b0
  obtain ⟨kq,x5_2,rfl,HA,HJ2,⟨mc2,rfl⟩⟩:=hcut
  cases kq with
  | zero=>exact absurd HA.out (by simp [rules_suits.j0])
  | succ kj2 =>
   have H:=HA.out;clear HA;simp only [rules_suits.j0] at H
   by_cases c5:x5_2=true
   ·subst c5;rw [if_pos rfl] at H;obtain rfl:=Option.some.inj H;go_wp2
    go_ret
    exact ⟨zq7,zq16⟩
   replace c5:=Bool.eq_false_iff.mpr c5;subst c5;rw [if_neg Bool.false_ne_true] at H;replace H:=ifI H;rcases H with ⟨c6,H⟩ | ⟨c6,H⟩
   ·obtain ⟨c6b0,c6b1⟩:=eqI c6;clear c6;obtain rfl:=Option.some.inj H;go_wp2
    go_ret
    exact ⟨zq7,zq16⟩
   obtain ⟨c6b0,c6b1⟩:=neI c6;replace H:=bdI H;obtain ⟨t112,A7,H⟩:=H;(try dsimp only at H)
   by_cases c8:t112=true
   ·subst c8;rw [if_pos rfl] at H;replace H:=ifI H;rcases H with ⟨c9,H⟩ | ⟨c9,H⟩
    ·obtain ⟨c9b0,c9b1⟩:=eqI c9;clear c9;obtain rfl:=Option.some.inj H;go_wp2_with (first | ((with_reducible refine gate_callee (f:=67) rfl ?_);refine gL 17 Tryz.func67 #[.int .i64 a0] ?_;(with_reducible refine (rules_counts.calls a0 true _ A7.out).mono ?_);rintro e w' ⟨rfl,⟨nd,rfl⟩⟩;refine ⟨_,rfl,?_⟩))
     go_ret
     exact ⟨zq7,zq16⟩
    obtain ⟨c9b0,c9b1⟩:=neI c9;obtain rfl:=Option.some.inj H;go_wp2_with (first | ((with_reducible refine gate_callee (f:=67) rfl ?_);refine gL 17 Tryz.func67 #[.int .i64 a0] ?_;(with_reducible refine (rules_counts.calls a0 true _ A7.out).mono ?_);rintro e w' ⟨rfl,⟨nd,rfl⟩⟩;refine ⟨_,rfl,?_⟩))
    go_ret
    exact ⟨zq7,zq16⟩
   replace c8:=Bool.eq_false_iff.mpr c8;subst c8;rw [if_neg Bool.false_ne_true] at H;replace H:=ifI H;rcases H with ⟨c10,H⟩ | ⟨c10,H⟩
   ·obtain ⟨c10b0,c10b1⟩:=eqI c10;clear c10;obtain rfl:=Option.some.inj H;go_wp2_with (first | ((with_reducible refine gate_callee (f:=67) rfl ?_);refine gL 17 Tryz.func67 #[.int .i64 a0] ?_;(with_reducible refine (rules_counts.calls a0 false _ A7.out).mono ?_);rintro e w' ⟨rfl,⟨nd,rfl⟩⟩;refine ⟨_,rfl,?_⟩))
    go_ret
    exact ⟨zq7,zq16⟩
   obtain ⟨c10b0,c10b1⟩:=neI c10;obtain rfl:=Option.some.inj H;go_wp2_with (first | ((with_reducible refine gate_callee (f:=67) rfl ?_);refine gL 17 Tryz.func67 #[.int .i64 a0] ?_;(with_reducible refine (rules_counts.calls a0 false _ A7.out).mono ?_);rintro e w' ⟨rfl,⟨nd,rfl⟩⟩;refine ⟨_,rfl,?_⟩))
   go_ret
   exact ⟨zq7,zq16⟩
def words_Plain.f (a0:ByteArray):Option (Bool):=if a0.size≤140737488351232 then some (plainW a0.data.toList) else none
def rules_cond.j0:Nat→Bool→Bool→Option (Int)
 | 0,_,_=>none
 | k+1,x3,x4=>if x3=true then (if x4=true then (some 0) else (some 5)) else (some 3)
def rules_cond.f (k:Nat) (a0_0:Int) (a0_1:Int) (a0_2:ByteArray) (a0_3:Int):Option (Int):=(rules_suits.f k a0_0 a0_1).bind fun t114=>(if t114=true then (if a0_0=1 then (if a0_3≤1000000000000 then (rules_cond.j0 k (decide (a0_3 ≥ (-1000000000000))) (a0_2.toList == ([]:List UInt8))) else (rules_cond.j0 k false (a0_2.toList == ([]:List UInt8)))) else (if a0_0=4 then (if a0_3 ≥ 0 then (rules_cond.j0 k (decide (a0_3≤109572)) (a0_2.toList == ([]:List UInt8))) else (rules_cond.j0 k false (a0_2.toList == ([]:List UInt8)))) else (if a0_0=2 then ((words_Plain.f a0_2).bind fun t115=>(rules_cond.j0 k (a0_3 == 0) t115)) else (if a0_0=3 then ((words_Plain.f a0_2).bind fun t116=>(rules_cond.j0 k (a0_3 == 0) t116)) else (rules_cond.j0 k (a0_3 == 0) (a0_2.toList == ([]:List UInt8))))))) else (some 10))
def days_before.f (a0:Int):Option (Int):=some (wrap64 ((wrap64 (365 * (wrap64 (a0 - 1900))))+(wrap64 ((wrap64 ((wrap64 ((wrap64 ((wrap64 ((wrap64 (Int.tdiv (wrap64 (a0 - 1)) 4)) - (wrap64 (Int.tdiv (wrap64 (a0 - 1)) 100))))+(wrap64 (Int.tdiv (wrap64 (a0 - 1)) 400)))) - 474))+18)) - 4))))
theorem days_before.calls (a0 r:Int) (w:World) (h:days_before.f a0=some r) :
  Calls Tryz.prog 133 #[.int .i64 a0] w fun e w'=>e=.returned (.int .i64 r)∧Drawn0 w w':=by
 have H:=h;clear h;unfold days_before.f at H;obtain rfl:=Option.some.inj H;go_enter Tryz.func133,Tryz.ntmps133
 go_wp2
 go_ret
 exact ⟨zq7,zq16⟩
def days_Leap.f (a0:Int):Option (Bool):=if (Int.tmod a0 4)=0 then (if (Int.tmod a0 100)=0 then (some ((Int.tmod a0 400) == 0)) else (some true)) else (some ((Int.tmod a0 400) == 0))
theorem days_Leap.calls (a0:Int) (r:Bool) (w:World) (h:days_Leap.f a0=some r) :
  Calls Tryz.prog 147 #[.int .i64 a0] w fun e w'=>e=.returned (.bool r)∧Drawn0 w w':=by
 have H:=h;clear h;unfold days_Leap.f at H;replace H:=ifI H;rcases H with ⟨c2,H⟩ | ⟨c2,H⟩
 ·obtain ⟨c2b0,c2b1⟩:=eqI c2;clear c2;replace H:=ifI H;rcases H with ⟨c3,H⟩ | ⟨c3,H⟩
  ·obtain ⟨c3b0,c3b1⟩:=eqI c3;clear c3;obtain rfl:=Option.some.inj H;go_enter Tryz.func147,Tryz.ntmps147
   go_wp2
   go_ret
   exact ⟨zq7,zq16⟩
  obtain ⟨c3b0,c3b1⟩:=neI c3;obtain rfl:=Option.some.inj H;go_enter Tryz.func147,Tryz.ntmps147
  go_wp2
  go_ret
  exact ⟨zq7,zq16⟩
 obtain ⟨c2b0,c2b1⟩:=neI c2;obtain rfl:=Option.some.inj H;go_enter Tryz.func147,Tryz.ntmps147
 go_wp2
 go_ret
 exact ⟨zq7,zq16⟩
def days_Length.f (a0 a1:Int):Option Int:=if a1 < 1∨12 < a1 then some 0 else if a1=2 then (days_Leap.f a0).bind fun b=>some (if b=true then 29 else 28) else some (monLen (a1 - 1).toNat)
theorem days_Length.calls (a0 a1 r:Int) (w:World) (h:days_Length.f a0 a1=some r) (hG:Gl w) :
  Calls Tryz.prog 134 #[.int .i64 a0,.int .i64 a1] w fun e w'=>e=.returned (.int .i64 r)∧Drawn0 w w':=by
 have HPost:∀ W,Drawn0 w W→(fun (e:Ending) (w':World)=>e=.returned (.int .i64 r)∧Drawn0 w w') (.returned (.int .i64 r)) W:=fun W hW=>⟨rfl,hW⟩
 generalize (fun (e:Ending) (w':World)=>e=.returned (.int .i64 r)∧Drawn0 w w')=Post at HPost ⊢;have HP:=sd HPost;have HG:=sd hG;clear HPost hG;unfold days_Length.f at h;by_cases h1:a1 < 1
 ·rw [if_pos (.inl h1)] at h;obtain rfl:=Option.some.inj h;go_enter Tryz.func134,Tryz.ntmps134
  go_wp2_with fail
  (try go_ret)
  exact HP.out _ (Drawn0.refl _)
 by_cases h2:12 < a1
 ·rw [if_pos (.inr h2)] at h;obtain rfl:=Option.some.inj h;go_enter Tryz.func134,Tryz.ntmps134
  go_wp2_with fail
  (try go_ret)
  exact HP.out _ (Drawn0.refl _)
 rw [if_neg (by omega)] at h;have h1b:decide (a1 < 1)=false:=decide_eq_false h1;have h2b:decide (12 < a1)=false:=decide_eq_false h2;by_cases h3:a1=2
 ·subst h3;rw [if_pos rfl] at h;replace h:=Option.bind_eq_some_iff.mp h;obtain ⟨b,hb,h⟩:=h;have HL:=sd (fun W=>days_Leap.calls a0 b W hb);clear hb h1 h2 h1b h2b
  cases b
  ·rw [if_neg (by decide)] at h;obtain rfl:=Option.some.inj h;have hc:=HG.out.mon 1 (by decide);rw [show monLen 1=28 from rfl] at hc;go_enter Tryz.func134,Tryz.ntmps134
   go_wp2_with (first | (go_at_call 147;(with_reducible refine (HL.out _).mono ?_);rintro e w' ⟨rfl,nd,rfl⟩))
   (try go_ret)
   exact HP.out _ zq16
  ·rw [if_pos rfl] at h;obtain rfl:=Option.some.inj h;go_enter Tryz.func134,Tryz.ntmps134
   go_wp2_with (first | (go_at_call 147;(with_reducible refine (HL.out _).mono ?_);rintro e w' ⟨rfl,nd,rfl⟩))
   (try go_ret)
   exact HP.out _ zq16
 rw [if_neg h3] at h;have h3b:(a1 == 2)=false:=beq_eq_false_iff_ne.mpr h3;obtain ⟨k,rfl⟩:∃ k:Nat,a1=(k:Int)+1:=⟨(a1 - 1).toNat,by omega⟩
 rw [show ((k:Int)+1 - 1).toNat=k by omega] at h;obtain rfl:=Option.some.inj h;have hk:k < 12:=by omega
 have hc:=HG.out.mon k hk;have e1:(k:Int)+1 - 1=(k:Int):=by omega
 have i0:(0:Int)≤(k:Int):=by omega
 have i1:(k:Int) < 12:=by omega
 clear h1 h2 h3 HG;go_enter Tryz.func134,Tryz.ntmps134
 go_wp2_with fail
 (try go_ret)
 exact HP.out _ (Drawn0.refl _)
mutual
def days_Date.j1:Nat→Int→Int→Int→Int→Option (Int×Int×Int×Int)
 | 0,_,_,_,_=>none
 | k+1,x0,x164000,x164001,x164002=>(days_before.f x164000).bind fun t166=>(days_Date.l1 k (wrap64 (x0 - t166)) x164000 1 x164002)
def days_Date.l1:Nat→Int→Int→Int→Int→Option (Int×Int×Int×Int)
 | 0,_,_,_,_=>none
 | k+1,x0,x164000,x164001,x164002=>(days_Length.f x164000 x164001).bind fun t167=>(if x0 ≥ t167 then ((days_Length.f x164000 x164001).bind fun t168=>(days_Date.l1 k (wrap64 (x0 - t168)) x164000 (wrap64 (x164001+1)) x164002)) else (some (x164000,x164001,wrap64 (x0+1),0)))
def days_Date.l0:Nat→Int→Int→Int→Int→Option (Int×Int×Int×Int)
 | 0,_,_,_,_=>none
 | k+1,x0,x164000,x164001,x164002=>if x164000 < 2199 then ((days_before.f (wrap64 (x164000+1))).bind fun t165=>(if t165≤x0 then (days_Date.l0 k x0 (wrap64 (x164000+1)) x164001 x164002) else (days_Date.j1 k x0 x164000 x164001 x164002))) else (days_Date.j1 k x0 x164000 x164001 x164002)
end
def words_digitAt.f (a0:ByteArray) (a1:Int):Option (Bool):=if a1 < (a0.size:Int) then (if 0≤a1 then ((words_digit.f (bt a0 a1)).bind fun t210=>(some t210)) else (none)) else (some false)
theorem words_digitAt.calls (a0:ByteArray) (a1:Int) (r:Bool) (w:World) (h:words_digitAt.f a0 a1=some r) :
  Calls Tryz.prog 107 #[.string a0,.int .i64 a1] w fun e w'=>e=.returned (.bool r)∧Drawn0 w w':=by
 have H:=h;clear h;unfold words_digitAt.f at H;replace H:=ifI H;rcases H with ⟨c3,H⟩ | ⟨c3,H⟩
 ·have c3b0:decide (a1 < (a0.size:Int))=true:=decide_eq_true c3;clear c3;replace H:=ifI H;rcases H with ⟨c4,H⟩ | ⟨c4,H⟩
  ·have c4b0:decide (0≤a1)=true:=decide_eq_true c4;clear c4;replace H:=bdI H;obtain ⟨t210,A6,H⟩:=H;(try dsimp only at H)
   obtain rfl:=Option.some.inj H;have p5:0≤(a1:Int):=od;have q5:a1 < (a0.size:Int):=od;have hx5:=bt_at a0 a1;replace p5:=eq_true p5;replace q5:=eq_true q5;go_enter Tryz.func107,Tryz.ntmps107
   go_wp2_with (first | (go_at_call 50;(with_reducible refine (words_digit.calls (bt a0 a1) t210 _ A6.out).mono ?_);rintro e w' ⟨rfl,⟨nd,rfl⟩⟩))
   go_ret
   exact ⟨zq7,zq16⟩
  exact absurd H (by simp)
 have c3b0:decide (a1 < (a0.size:Int))=false:=decide_eq_false c3;clear c3;obtain rfl:=Option.some.inj H;go_enter Tryz.func107,Tryz.ntmps107
 go_wp2
 go_ret
 exact ⟨zq7,zq16⟩
def words_signEnd.j0:Nat→ByteArray→Int→Option (Int)
 | 0,_,_=>none
 | k+1,x0,x1=>if 0≤x1 then (if x1 < (x0.size:Int) then (if (bt x0 x1)=40 then (some (wrap64 (x1+1))) else (if (bt x0 x1)=41 then (some (wrap64 (x1+1))) else (if (bt x0 x1)=123 then (some (wrap64 (x1+1))) else (if (bt x0 x1)=125 then (some (wrap64 (x1+1))) else (if (bt x0 x1)=91 then (some (wrap64 (x1+1))) else (if (bt x0 x1)=93 then (some (wrap64 (x1+1))) else (if (bt x0 x1)=44 then (some (wrap64 (x1+1))) else (if (bt x0 x1)=59 then (some (wrap64 (x1+1))) else (if (bt x0 x1)=58 then (some (wrap64 (x1+1))) else (if (bt x0 x1)=61 then (some (wrap64 (x1+1))) else (if (bt x0 x1)=43 then (some (wrap64 (x1+1))) else (if (bt x0 x1)=45 then (some (wrap64 (x1+1))) else (if (bt x0 x1)=42 then (some (wrap64 (x1+1))) else (if (bt x0 x1)=47 then (some (wrap64 (x1+1))) else (if (bt x0 x1)=60 then (some (wrap64 (x1+1))) else (if (bt x0 x1)=62 then (some (wrap64 (x1+1))) else (if (bt x0 x1)=124 then (some (wrap64 (x1+1))) else (if (bt x0 x1)=38 then (some (wrap64 (x1+1))) else (if (bt x0 x1)=33 then (some (wrap64 (x1+1))) else (if (bt x0 x1)=64 then (some (wrap64 (x1+1))) else (if (bt x0 x1)=37 then (some (wrap64 (x1+1))) else (some x1)))))))))))))))))))))) else (none)) else (none)
def words_signEnd.f (k:Nat) (a0:ByteArray) (a1:Int):Option (Int):=if (wrap64 (a1+2))≤(a0.size:Int) then (if 0≤a1 then (if a1≤(wrap64 (a1+2)) then (if (a0.extract (a1:Int).toNat ((wrap64 (a1+2)):Int).toNat).toList=([60,61]:List UInt8) then (some (wrap64 (a1+2))) else (if (a0.extract (a1:Int).toNat ((wrap64 (a1+2)):Int).toNat).toList=([62,61]:List UInt8) then (some (wrap64 (a1+2))) else (if (a0.extract (a1:Int).toNat ((wrap64 (a1+2)):Int).toNat).toList=([33,61]:List UInt8) then (some (wrap64 (a1+2))) else (if (a0.extract (a1:Int).toNat ((wrap64 (a1+2)):Int).toNat).toList=([46,46]:List UInt8) then (some (wrap64 (a1+2))) else (words_signEnd.j0 k a0 a1))))) else (none)) else (none)) else (words_signEnd.j0 k a0 a1)
theorem words_signEnd.calls (k:Nat) (a0:ByteArray) (a1 r:Int) (w:World) (h:words_signEnd.f k a0 a1=some r) :
  Calls Tryz.prog 110 #[.string a0,.int .i64 a1] w fun e w'=>e=.returned (.int .i64 r)∧Drawn0 w w':=by
 have H:=h;clear h;unfold words_signEnd.f at H;have HC3:=sd H;clear H;go_enter Tryz.func110,Tryz.ntmps110
 go_upto_if 9 with (fail)
 go_cut [] (fun wc=>∃ (kq:Nat),Aside0 (words_signEnd.j0 kq a0 a1=some r)∧Aside0 (kq≤k)∧Drawn0 w wc)
 case first =>
  have H:=HC3.out;clear HC3;replace H:=ifI H;rcases H with ⟨c4,H⟩ | ⟨c4,H⟩
  ·have c4b0:decide ((wrap64 (a1+2))≤(a0.size:Int))=true:=decide_eq_true c4;clear c4;(first | rw [c4b0] | (simp only [i64_w,i32_w];rw [c4b0]) | skip)
   replace H:=ifI H;rcases H with ⟨c5,H⟩ | ⟨c5,H⟩
   ·have c5b0:=eq_true c5;have c5b1:decide (0≤a1)=true:=decide_eq_true c5;clear c5;replace H:=ifI H;rcases H with ⟨c6,H⟩ | ⟨c6,H⟩
    ·have c6b0:=eq_true c6;have c6b1:decide (a1≤(wrap64 (a1+2)))=true:=decide_eq_true c6;have c7b0:=eq_true (od:(wrap64 (a1+2))≤(a0.size:Int));replace H:=ifI H;rcases H with ⟨c8,H⟩ | ⟨c8,H⟩
     ·obtain ⟨c8b0,c8b1⟩:=eqI c8;clear c8;obtain rfl:=Option.some.inj H;go_wp2
      go_ret
      exact ⟨zq7,zq16⟩
     obtain ⟨c8b0,c8b1⟩:=neI c8;replace H:=ifI H;rcases H with ⟨c9,H⟩ | ⟨c9,H⟩
     ·obtain ⟨c9b0,c9b1⟩:=eqI c9;clear c9;obtain rfl:=Option.some.inj H;go_wp2
      go_ret
      exact ⟨zq7,zq16⟩
     obtain ⟨c9b0,c9b1⟩:=neI c9;replace H:=ifI H;rcases H with ⟨c10,H⟩ | ⟨c10,H⟩
     ·obtain ⟨c10b0,c10b1⟩:=eqI c10;clear c10;obtain rfl:=Option.some.inj H;go_wp2
      go_ret
      exact ⟨zq7,zq16⟩
     obtain ⟨c10b0,c10b1⟩:=neI c10;replace H:=ifI H;rcases H with ⟨c11,H⟩ | ⟨c11,H⟩
     ·obtain ⟨c11b0,c11b1⟩:=eqI c11;clear c11;obtain rfl:=Option.some.inj H;go_wp2
      go_ret
      exact ⟨zq7,zq16⟩
     obtain ⟨c11b0,c11b1⟩:=neI c11;have H':=sd H;clear H;go_wp2
     go_meet
     case rel=>exact ⟨_,H',⟨by first | omega | exact Nat.le_refl _⟩,zq16⟩
    exact absurd H (by simp)
   exact absurd H (by simp)
  have c4b0:decide ((wrap64 (a1+2))≤(a0.size:Int))=false:=decide_eq_false c4;clear c4;(first | rw [c4b0] | (simp only [i64_w,i32_w];rw [c4b0]) | skip)
  have H':=sd H;clear H;go_wp2
  go_meet
  case rel=>exact ⟨_,H',⟨by first | omega | exact Nat.le_refl _⟩,zq16⟩
 case rest =>
  clear HC3;try clear c1
  try clear p2
  try clear c4
  try clear c4b0
  try clear c5
  try clear c5b0
  try clear c5b1
  try clear c6
  try clear c6b0
  try clear c6b1
  try clear p6
  try clear c7
  try clear c7b0
  try clear c8
  try clear c8b0
  try clear c8b1
  try clear c9
  try clear c9b0
  try clear c9b1
  try clear c10
  try clear c10b0
  try clear c10b1
  try clear c11
  try clear c11b0
  try clear c11b1
  obtain ⟨kq,HA,HJ2,⟨mc2,rfl⟩⟩:=hcut
  cases kq with
  | zero=>exact absurd HA.out (by simp [words_signEnd.j0])
  | succ kj2 =>
   have H:=HA.out;clear HA;simp only [words_signEnd.j0] at H
   replace H:=ifI H;rcases H with ⟨c12,H⟩ | ⟨c12,H⟩
   ·have c12b0:decide (0≤a1)=true:=decide_eq_true c12;clear c12;replace H:=ifI H;rcases H with ⟨c13,H⟩ | ⟨c13,H⟩
    ·have c13b0:decide (a1 < (a0.size:Int))=true:=decide_eq_true c13;clear c13;replace H:=ifI H;rcases H with ⟨c15,H⟩ | ⟨c15,H⟩
     ·obtain ⟨c15b0,c15b1⟩:=eqI c15;clear c15;obtain rfl:=Option.some.inj H;have p14:0≤(a1:Int):=od;have q14:a1 < (a0.size:Int):=od;have hx14:=bt_at a0 a1;replace p14:=eq_true p14;replace q14:=eq_true q14;go_wp2
      go_ret
      exact ⟨zq7,zq16⟩
     obtain ⟨c15b0,c15b1⟩:=neI c15;replace H:=ifI H;rcases H with ⟨c16,H⟩ | ⟨c16,H⟩
     ·obtain ⟨c16b0,c16b1⟩:=eqI c16;clear c16;obtain rfl:=Option.some.inj H;have p14:0≤(a1:Int):=od;have q14:a1 < (a0.size:Int):=od;have hx14:=bt_at a0 a1;replace p14:=eq_true p14;replace q14:=eq_true q14;go_wp2
      go_ret
      exact ⟨zq7,zq16⟩
     obtain ⟨c16b0,c16b1⟩:=neI c16;replace H:=ifI H;rcases H with ⟨c17,H⟩ | ⟨c17,H⟩
     ·obtain ⟨c17b0,c17b1⟩:=eqI c17;clear c17;obtain rfl:=Option.some.inj H;have p14:0≤(a1:Int):=od;have q14:a1 < (a0.size:Int):=od;have hx14:=bt_at a0 a1;replace p14:=eq_true p14;replace q14:=eq_true q14;go_wp2
      go_ret
      exact ⟨zq7,zq16⟩
     obtain ⟨c17b0,c17b1⟩:=neI c17;replace H:=ifI H;rcases H with ⟨c18,H⟩ | ⟨c18,H⟩
     ·obtain ⟨c18b0,c18b1⟩:=eqI c18;clear c18;obtain rfl:=Option.some.inj H;have p14:0≤(a1:Int):=od;have q14:a1 < (a0.size:Int):=od;have hx14:=bt_at a0 a1;replace p14:=eq_true p14;replace q14:=eq_true q14;go_wp2
      go_ret
      exact ⟨zq7,zq16⟩
     obtain ⟨c18b0,c18b1⟩:=neI c18;replace H:=ifI H;rcases H with ⟨c19,H⟩ | ⟨c19,H⟩
     ·obtain ⟨c19b0,c19b1⟩:=eqI c19;clear c19;obtain rfl:=Option.some.inj H;have p14:0≤(a1:Int):=od;have q14:a1 < (a0.size:Int):=od;have hx14:=bt_at a0 a1;replace p14:=eq_true p14;replace q14:=eq_true q14;go_wp2
      go_ret
      exact ⟨zq7,zq16⟩
     obtain ⟨c19b0,c19b1⟩:=neI c19;replace H:=ifI H;rcases H with ⟨c20,H⟩ | ⟨c20,H⟩
     ·obtain ⟨c20b0,c20b1⟩:=eqI c20;clear c20;obtain rfl:=Option.some.inj H;have p14:0≤(a1:Int):=od;have q14:a1 < (a0.size:Int):=od;have hx14:=bt_at a0 a1;replace p14:=eq_true p14;replace q14:=eq_true q14;go_wp2
      go_ret
      exact ⟨zq7,zq16⟩
     obtain ⟨c20b0,c20b1⟩:=neI c20;replace H:=ifI H;rcases H with ⟨c21,H⟩ | ⟨c21,H⟩
     ·obtain ⟨c21b0,c21b1⟩:=eqI c21;clear c21;obtain rfl:=Option.some.inj H;have p14:0≤(a1:Int):=od;have q14:a1 < (a0.size:Int):=od;have hx14:=bt_at a0 a1;replace p14:=eq_true p14;replace q14:=eq_true q14;go_wp2
      go_ret
      exact ⟨zq7,zq16⟩
     obtain ⟨c21b0,c21b1⟩:=neI c21;replace H:=ifI H;rcases H with ⟨c22,H⟩ | ⟨c22,H⟩
     ·obtain ⟨c22b0,c22b1⟩:=eqI c22;clear c22;obtain rfl:=Option.some.inj H;have p14:0≤(a1:Int):=od;have q14:a1 < (a0.size:Int):=od;have hx14:=bt_at a0 a1;replace p14:=eq_true p14;replace q14:=eq_true q14;go_wp2
      go_ret
      exact ⟨zq7,zq16⟩
     obtain ⟨c22b0,c22b1⟩:=neI c22;replace H:=ifI H;rcases H with ⟨c23,H⟩ | ⟨c23,H⟩
     ·obtain ⟨c23b0,c23b1⟩:=eqI c23;clear c23;obtain rfl:=Option.some.inj H;have p14:0≤(a1:Int):=od;have q14:a1 < (a0.size:Int):=od;have hx14:=bt_at a0 a1;replace p14:=eq_true p14;replace q14:=eq_true q14;go_wp2
      go_ret
      exact ⟨zq7,zq16⟩
     obtain ⟨c23b0,c23b1⟩:=neI c23;replace H:=ifI H;rcases H with ⟨c24,H⟩ | ⟨c24,H⟩
     ·obtain ⟨c24b0,c24b1⟩:=eqI c24;clear c24;obtain rfl:=Option.some.inj H;have p14:0≤(a1:Int):=od;have q14:a1 < (a0.size:Int):=od;have hx14:=bt_at a0 a1;replace p14:=eq_true p14;replace q14:=eq_true q14;go_wp2
      go_ret
      exact ⟨zq7,zq16⟩
     obtain ⟨c24b0,c24b1⟩:=neI c24;replace H:=ifI H;rcases H with ⟨c25,H⟩ | ⟨c25,H⟩
     ·obtain ⟨c25b0,c25b1⟩:=eqI c25;clear c25;obtain rfl:=Option.some.inj H;have p14:0≤(a1:Int):=od;have q14:a1 < (a0.size:Int):=od;have hx14:=bt_at a0 a1;replace p14:=eq_true p14;replace q14:=eq_true q14;go_wp2
      go_ret
      exact ⟨zq7,zq16⟩
     obtain ⟨c25b0,c25b1⟩:=neI c25;replace H:=ifI H;rcases H with ⟨c26,H⟩ | ⟨c26,H⟩
     ·obtain ⟨c26b0,c26b1⟩:=eqI c26;clear c26;obtain rfl:=Option.some.inj H;have p14:0≤(a1:Int):=od;have q14:a1 < (a0.size:Int):=od;have hx14:=bt_at a0 a1;replace p14:=eq_true p14;replace q14:=eq_true q14;go_wp2
      go_ret
      exact ⟨zq7,zq16⟩
     obtain ⟨c26b0,c26b1⟩:=neI c26;replace H:=ifI H;rcases H with ⟨c27,H⟩ | ⟨c27,H⟩
     ·obtain ⟨c27b0,c27b1⟩:=eqI c27;clear c27;obtain rfl:=Option.some.inj H;have p14:0≤(a1:Int):=od;have q14:a1 < (a0.size:Int):=od;have hx14:=bt_at a0 a1;replace p14:=eq_true p14;replace q14:=eq_true q14;go_wp2
      go_ret
      exact ⟨zq7,zq16⟩
     obtain ⟨c27b0,c27b1⟩:=neI c27;replace H:=ifI H;rcases H with ⟨c28,H⟩ | ⟨c28,H⟩
     ·obtain ⟨c28b0,c28b1⟩:=eqI c28;clear c28;obtain rfl:=Option.some.inj H;have p14:0≤(a1:Int):=od;have q14:a1 < (a0.size:Int):=od;have hx14:=bt_at a0 a1;replace p14:=eq_true p14;replace q14:=eq_true q14;go_wp2
      go_ret
      exact ⟨zq7,zq16⟩
     obtain ⟨c28b0,c28b1⟩:=neI c28;replace H:=ifI H;rcases H with ⟨c29,H⟩ | ⟨c29,H⟩
     ·obtain ⟨c29b0,c29b1⟩:=eqI c29;clear c29;obtain rfl:=Option.some.inj H;have p14:0≤(a1:Int):=od;have q14:a1 < (a0.size:Int):=od;have hx14:=bt_at a0 a1;replace p14:=eq_true p14;replace q14:=eq_true q14;go_wp2
      go_ret
      exact ⟨zq7,zq16⟩
     obtain ⟨c29b0,c29b1⟩:=neI c29;replace H:=ifI H;rcases H with ⟨c30,H⟩ | ⟨c30,H⟩
     ·obtain ⟨c30b0,c30b1⟩:=eqI c30;clear c30;obtain rfl:=Option.some.inj H;have p14:0≤(a1:Int):=od;have q14:a1 < (a0.size:Int):=od;have hx14:=bt_at a0 a1;replace p14:=eq_true p14;replace q14:=eq_true q14;go_wp2
      go_ret
      exact ⟨zq7,zq16⟩
     obtain ⟨c30b0,c30b1⟩:=neI c30;replace H:=ifI H;rcases H with ⟨c31,H⟩ | ⟨c31,H⟩
     ·obtain ⟨c31b0,c31b1⟩:=eqI c31;clear c31;obtain rfl:=Option.some.inj H;have p14:0≤(a1:Int):=od;have q14:a1 < (a0.size:Int):=od;have hx14:=bt_at a0 a1;replace p14:=eq_true p14;replace q14:=eq_true q14;go_wp2
      go_ret
      exact ⟨zq7,zq16⟩
     obtain ⟨c31b0,c31b1⟩:=neI c31;replace H:=ifI H;rcases H with ⟨c32,H⟩ | ⟨c32,H⟩
     ·obtain ⟨c32b0,c32b1⟩:=eqI c32;clear c32;obtain rfl:=Option.some.inj H;have p14:0≤(a1:Int):=od;have q14:a1 < (a0.size:Int):=od;have hx14:=bt_at a0 a1;replace p14:=eq_true p14;replace q14:=eq_true q14;go_wp2
      go_ret
      exact ⟨zq7,zq16⟩
     obtain ⟨c32b0,c32b1⟩:=neI c32;replace H:=ifI H;rcases H with ⟨c33,H⟩ | ⟨c33,H⟩
     ·obtain ⟨c33b0,c33b1⟩:=eqI c33;clear c33;obtain rfl:=Option.some.inj H;have p14:0≤(a1:Int):=od;have q14:a1 < (a0.size:Int):=od;have hx14:=bt_at a0 a1;replace p14:=eq_true p14;replace q14:=eq_true q14;go_wp2
      go_ret
      exact ⟨zq7,zq16⟩
     obtain ⟨c33b0,c33b1⟩:=neI c33;replace H:=ifI H;rcases H with ⟨c34,H⟩ | ⟨c34,H⟩
     ·obtain ⟨c34b0,c34b1⟩:=eqI c34;clear c34;obtain rfl:=Option.some.inj H;have p14:0≤(a1:Int):=od;have q14:a1 < (a0.size:Int):=od;have hx14:=bt_at a0 a1;replace p14:=eq_true p14;replace q14:=eq_true q14;go_wp2
      go_ret
      exact ⟨zq7,zq16⟩
     obtain ⟨c34b0,c34b1⟩:=neI c34;replace H:=ifI H;rcases H with ⟨c35,H⟩ | ⟨c35,H⟩
     ·obtain ⟨c35b0,c35b1⟩:=eqI c35;clear c35;obtain rfl:=Option.some.inj H;have p14:0≤(a1:Int):=od;have q14:a1 < (a0.size:Int):=od;have hx14:=bt_at a0 a1;replace p14:=eq_true p14;replace q14:=eq_true q14;go_wp2
      go_ret
      exact ⟨zq7,zq16⟩
     obtain ⟨c35b0,c35b1⟩:=neI c35;obtain rfl:=Option.some.inj H;have p14:0≤(a1:Int):=od;have q14:a1 < (a0.size:Int):=od;have hx14:=bt_at a0 a1;replace p14:=eq_true p14;replace q14:=eq_true q14;go_wp2
     go_ret
     exact ⟨zq7,zq16⟩
    exact absurd H (by simp)
   exact absurd H (by simp)
theorem word_ret (Post:Ending→World→Prop) (T:Array Value) (W:World) (g:Nat) (kind:Int) (S:ByteArray) (i e pa pe:Int) (t4:T.getD 4 undef=.pointer (some ⟨g,0,none⟩)) (t5:T.getD 5 undef=.int .i64 e) (t6:T.getD 6 undef=.pointer (some ⟨g+1,0,none⟩))
  (k0:W.cell? ⟨g,0,none⟩=some (.int .i64 kind)) (k1:W.cell? ⟨g,1,none⟩=some (.string S)) (k2:W.cell? ⟨g,2,none⟩=some (.int .i64 i)) (k3:W.cell? ⟨g+1,0,none⟩=some (.int .i64 pa)) (k4:W.cell? ⟨g+1,1,none⟩=some (.int .i64 pe))
  (hp:Post (.returned (.tuple #[.agg #[.int .i64 kind,.string S,.int .i64 i],.int .i64 e,.agg #[.int .i64 pa,.int .i64 pe]])) W):bodyPost Tryz.prog Tryz.f80 Post .ret { tmps:=T,defers:=[] } W:=by
 rw [Array.getD_eq_getD_getElem?] at t4 t5 t6;exact bodyPost_ret (v:=.tuple #[.agg #[.int .i64 kind,.string S,.int .i64 i],.int .i64 e,.agg #[.int .i64 pa,.int .i64 pe]]) (by simp [results,Tryz.results80,go_sem,t4,t5,t6,k0,k1,k2,k3,k4]) rfl hp
def rf06_Quote.l0:Nat→ByteArray→List Int→Int→Option (ByteArray×Int)
 | 0,_,_,_=>none
 | k+1,x0,x4,x5=>if x5 < (x0.size:Int) then (if 0≤x5 then (if (bt x0 x5)=34 then (if x4.length < 140737488355328 then ((some (x4++[92]:List Int)).bind fun y315=>(if y315.length < 140737488355328 then (rf06_Quote.l0 k x0 (y315++[bt x0 x5]) (wrap64 (x5+1))) else (none))) else (none)) else (if (bt x0 x5)=92 then (if x4.length < 140737488355328 then ((some (x4++[92]:List Int)).bind fun y321=>(if y321.length < 140737488355328 then (rf06_Quote.l0 k x0 (y321++[bt x0 x5]) (wrap64 (x5+1))) else (none))) else (none)) else (if x4.length < 140737488355328 then (rf06_Quote.l0 k x0 (x4++[bt x0 x5]) (wrap64 (x5+1))) else (none)))) else (none)) else (if x4.length < 140737488355328 then (some (strOfNums (x4++[34]),0)) else (none))
def rf06_Quote.f (k:Nat) (a0:ByteArray):Option (ByteArray×Int):=(rf06_Plain.f k a0).bind fun t311=>(if t311=true then (rf06_Quote.l0 k a0 (([34]:List Int)) 0) else (some ((⟨#[]⟩:ByteArray),5)))
def rf48_field.f (a0:Int):Option (ByteArray):=(some (([(⟨#[]⟩:ByteArray),(⟨#[97,109,111,117,110,116]⟩:ByteArray),(⟨#[114,101,102]⟩:ByteArray),(⟨#[116,101,120,116]⟩:ByteArray),(⟨#[100,97,121]⟩:ByteArray)]:List ByteArray):List ByteArray)).bind fun y333=>(if 0≤a0 then (if a0 < (y333.length:Int) then (some (rdOf ByteArray.empty y333 a0)) else (none)) else (none))
theorem rf48_field.calls (a0:Int) (r:ByteArray) (w:World) (h:rf48_field.f a0=some r) :
  Calls Tryz.prog 37 #[.int .i64 a0] w fun e w'=>e=.returned (.string r)∧Below w.heap.size w w':=by
 have HB:=sd (Below.refl w.heap.size w);have H:=h;clear h;unfold rf48_field.f at H;obtain ⟨y333,hy333⟩:∃ y_:List ByteArray,y_=(([(⟨#[]⟩:ByteArray),(⟨#[97,109,111,117,110,116]⟩:ByteArray),(⟨#[114,101,102]⟩:ByteArray),(⟨#[116,101,120,116]⟩:ByteArray),(⟨#[100,97,121]⟩:ByteArray)]:List ByteArray)):=⟨_,rfl⟩
 replace H:(if 0≤a0 then (if a0 < (y333.length:Int) then (some (rdOf ByteArray.empty y333 a0)) else (none)) else (none))=some r:=by first | (rw [hy333];with_reducible exact H) | (have H2_:=(Option.bind_some _ _).symm.trans H;rw [hy333];with_reducible exact H2_) | (have H2_:=(Option.bind_some _ _).symm.trans H;with_reducible exact H2_) | with_reducible exact H | (rw [hy333];exact H) | exact H
 have Ny333:=sd hy333;clear hy333;replace H:=ifI H;rcases H with ⟨c2,H⟩ | ⟨c2,H⟩
 ·have c2b0:decide (0≤a0)=true:=decide_eq_true c2;clear c2;replace H:=ifI H;rcases H with ⟨c3,H⟩ | ⟨c3,H⟩
  ·have c3b0:decide (a0 < (y333.length:Int))=true:=decide_eq_true c3;clear c3;obtain rfl:=Option.some.inj H;go_enter Tryz.func37,Tryz.ntmps37
   go_wp2_with (first | ((with_reducible refine gate_dst (N:=3) rfl ?_);refine Kd.R_lit Kd.string _ 9 ?hg (N:=3) ?hd (xs:=([(⟨#[]⟩:ByteArray),(⟨#[97,109,111,117,110,116]⟩:ByteArray),(⟨#[114,101,102]⟩:ByteArray),(⟨#[116,101,120,116]⟩:ByteArray),(⟨#[100,97,121]⟩:ByteArray)]:List ByteArray)) (inner:=[.string (⟨#[]⟩:ByteArray),.string (⟨#[97,109,111,117,110,116]⟩:ByteArray),.string (⟨#[114,101,102]⟩:ByteArray),.string (⟨#[116,101,120,116]⟩:ByteArray),.string (⟨#[100,97,121]⟩:ByteArray)]) (ok:=fun _=>True) (okp:=fun _=>True) ?hr ?hp (fun _ hk=>hk) trivial (Below.refl _ _) (Nat.le_refl _) (by simp) ?_;(case hd=>rfl);(case hg=>rfl);(case hr=>first | (go_simp;done) | (go_simp;rfl));(case hp=>exact (Reps.one (show Kd.M Kd.string _ _ _ (⟨#[]⟩:ByteArray) [.string (⟨#[]⟩:ByteArray)] from rfl) (Reps.one (show Kd.M Kd.string _ _ _ (⟨#[97,109,111,117,110,116]⟩:ByteArray) [.string (⟨#[97,109,111,117,110,116]⟩:ByteArray)] from rfl) (Reps.one (show Kd.M Kd.string _ _ _ (⟨#[114,101,102]⟩:ByteArray) [.string (⟨#[114,101,102]⟩:ByteArray)] from rfl) (Reps.one (show Kd.M Kd.string _ _ _ (⟨#[116,101,120,116]⟩:ByteArray) [.string (⟨#[116,101,120,116]⟩:ByteArray)] from rfl) (Reps.one (show Kd.M Kd.string _ _ _ (⟨#[100,97,121]⟩:ByteArray) [.string (⟨#[100,97,121]⟩:ByteArray)] from rfl) (Reps.none _ _)))))));intro v334 w4 ho5 hb hg_ hnew_;clear hg_ hnew_;(first | rw [← Ny333.out] at ho5 | (simp only [Int.reduceToNat] at ho5;rw [← Ny333.out] at ho5));have HO335:=sd (Kd.R_lower ho5 (below_size zq6));replace HB:=hbm HB hb;clear hb ho5;obtain ⟨Ao6,co6,eo6⟩:=Kd.R_slice HO335.out;subst eo6;have p336:0≤(a0:Int):=od;have q336:a0 < (y333.length:Int):=od;obtain ⟨ad336,e336,hx336_0⟩:=Kd.at_string (Kd.R_reads' HO335.out).2.2 a0 p336 q336;cases e336;replace p336:=eq_true p336;replace q336:=eq_true q336))
   go_ret
   exact ⟨zq4,zq6⟩
  exact absurd H (by simp)
 exact absurd H (by simp)
def rf48_operator.f (a0:Int):Option (ByteArray):=(some (([(⟨#[]⟩:ByteArray),(⟨#[105,115]⟩:ByteArray),(⟨#[108,101,97,115,116]⟩:ByteArray),(⟨#[109,111,115,116]⟩:ByteArray),(⟨#[104,97,115]⟩:ByteArray),(⟨#[98,101,103,105,110,115]⟩:ByteArray)]:List ByteArray):List ByteArray)).bind fun y337=>(if 0≤a0 then (if a0 < (y337.length:Int) then (some (rdOf ByteArray.empty y337 a0)) else (none)) else (none))
theorem rf48_operator.calls (a0:Int) (r:ByteArray) (w:World) (h:rf48_operator.f a0=some r) :
  Calls Tryz.prog 38 #[.int .i64 a0] w fun e w'=>e=.returned (.string r)∧Below w.heap.size w w':=by
 have HB:=sd (Below.refl w.heap.size w);have H:=h;clear h;unfold rf48_operator.f at H;obtain ⟨y337,hy337⟩:∃ y_:List ByteArray,y_=(([(⟨#[]⟩:ByteArray),(⟨#[105,115]⟩:ByteArray),(⟨#[108,101,97,115,116]⟩:ByteArray),(⟨#[109,111,115,116]⟩:ByteArray),(⟨#[104,97,115]⟩:ByteArray),(⟨#[98,101,103,105,110,115]⟩:ByteArray)]:List ByteArray)):=⟨_,rfl⟩
 replace H:(if 0≤a0 then (if a0 < (y337.length:Int) then (some (rdOf ByteArray.empty y337 a0)) else (none)) else (none))=some r:=by first | (rw [hy337];with_reducible exact H) | (have H2_:=(Option.bind_some _ _).symm.trans H;rw [hy337];with_reducible exact H2_) | (have H2_:=(Option.bind_some _ _).symm.trans H;with_reducible exact H2_) | with_reducible exact H | (rw [hy337];exact H) | exact H
 have Ny337:=sd hy337;clear hy337;replace H:=ifI H;rcases H with ⟨c2,H⟩ | ⟨c2,H⟩
 ·have c2b0:decide (0≤a0)=true:=decide_eq_true c2;clear c2;replace H:=ifI H;rcases H with ⟨c3,H⟩ | ⟨c3,H⟩
  ·have c3b0:decide (a0 < (y337.length:Int))=true:=decide_eq_true c3;clear c3;obtain rfl:=Option.some.inj H;go_enter Tryz.func38,Tryz.ntmps38
   go_wp2_with (first | ((with_reducible refine gate_dst (N:=3) rfl ?_);refine Kd.R_lit Kd.string _ 9 ?hg (N:=3) ?hd (xs:=([(⟨#[]⟩:ByteArray),(⟨#[105,115]⟩:ByteArray),(⟨#[108,101,97,115,116]⟩:ByteArray),(⟨#[109,111,115,116]⟩:ByteArray),(⟨#[104,97,115]⟩:ByteArray),(⟨#[98,101,103,105,110,115]⟩:ByteArray)]:List ByteArray)) (inner:=[.string (⟨#[]⟩:ByteArray),.string (⟨#[105,115]⟩:ByteArray),.string (⟨#[108,101,97,115,116]⟩:ByteArray),.string (⟨#[109,111,115,116]⟩:ByteArray),.string (⟨#[104,97,115]⟩:ByteArray),.string (⟨#[98,101,103,105,110,115]⟩:ByteArray)]) (ok:=fun _=>True) (okp:=fun _=>True) ?hr ?hp (fun _ hk=>hk) trivial (Below.refl _ _) (Nat.le_refl _) (by simp) ?_;(case hd=>rfl);(case hg=>rfl);(case hr=>first | (go_simp;done) | (go_simp;rfl));(case hp=>exact (Reps.one (show Kd.M Kd.string _ _ _ (⟨#[]⟩:ByteArray) [.string (⟨#[]⟩:ByteArray)] from rfl) (Reps.one (show Kd.M Kd.string _ _ _ (⟨#[105,115]⟩:ByteArray) [.string (⟨#[105,115]⟩:ByteArray)] from rfl) (Reps.one (show Kd.M Kd.string _ _ _ (⟨#[108,101,97,115,116]⟩:ByteArray) [.string (⟨#[108,101,97,115,116]⟩:ByteArray)] from rfl) (Reps.one (show Kd.M Kd.string _ _ _ (⟨#[109,111,115,116]⟩:ByteArray) [.string (⟨#[109,111,115,116]⟩:ByteArray)] from rfl) (Reps.one (show Kd.M Kd.string _ _ _ (⟨#[104,97,115]⟩:ByteArray) [.string (⟨#[104,97,115]⟩:ByteArray)] from rfl) (Reps.one (show Kd.M Kd.string _ _ _ (⟨#[98,101,103,105,110,115]⟩:ByteArray) [.string (⟨#[98,101,103,105,110,115]⟩:ByteArray)] from rfl) (Reps.none _ _))))))));intro v338 w4 ho5 hb hg_ hnew_;clear hg_ hnew_;(first | rw [← Ny337.out] at ho5 | (simp only [Int.reduceToNat] at ho5;rw [← Ny337.out] at ho5));have HO339:=sd (Kd.R_lower ho5 (below_size zq6));replace HB:=hbm HB hb;clear hb ho5;obtain ⟨Ao6,co6,eo6⟩:=Kd.R_slice HO339.out;subst eo6;have p340:0≤(a0:Int):=od;have q340:a0 < (y337.length:Int):=od;obtain ⟨ad340,e340,hx340_0⟩:=Kd.at_string (Kd.R_reads' HO339.out).2.2 a0 p340 q340;cases e340;replace p340:=eq_true p340;replace q340:=eq_true q340))
   go_ret
   exact ⟨zq4,zq6⟩
  exact absurd H (by simp)
 exact absurd H (by simp)
def rf48_Text.T16:Bool×List (List Nat×List Nat):=(true,[([],[]),([0],[0]),([],[]),([2],[2]),([3],[3]),([1,4],[1,4]),([5],[5]),([],[]),([7],[7]),([8,4],[8]),([6,9],[6,9]),([10],[10]),([],[]),([11,12],[11,12]),([13,9,0,1,2,3,4,5,6,7,8,9,10,11,12,13],[0,13])])
def rf48_Text.B16:List Nat:=[0,1,0,4,12,31,63,0,128,412,1023,2047,0,8191,16383]
theorem rf48_Text.bits16:waitsOk rf48_Text.T16.2 rf48_Text.B16=true:=by kernel_rfl
def rf48_Text.T23:Bool×List (List Nat×List Nat):=(true,[([],[]),([0],[0]),([],[]),([2],[2]),([],[]),([3,4],[3,4]),([5],[5]),([6],[6]),([1,7],[1,7]),([8],[8]),([],[]),([10],[10]),([],[]),([11,12],[11,12]),([13],[13]),([14],[14]),([9,15],[9,15]),([16,0,1,2,3,4,5,6,7,8,9,10,11,12,13,14,15,16],[0,16])])
def rf48_Text.B23:List Nat:=[0,1,0,4,0,28,60,124,255,511,0,1024,0,7168,15360,31744,65535,131071]
theorem rf48_Text.bits23:waitsOk rf48_Text.T23.2 rf48_Text.B23=true:=by kernel_rfl
end Go.Proofs.YtkbgkekegjfkfaaGreatDoor.A
namespace Go.Proofs.YtkbgkekegjfkfaaGreatDoor.A
open Go.RowKit B WW WL WM
theorem zq51 {P:Prop} (h:P:=by (with_reducible repeat (first | refine blk_drewN ?_ _ | refine blk_drew ?_ | refine blk_alloc ?_ _));exact BK297.out):P:=h
theorem zq54 {P:Prop} (h:P:=by (with_reducible repeat (first | refine blk_drewN ?_ _ | refine blk_drew ?_ | refine blk_alloc ?_ _));exact BK341.out):P:=h
theorem zq57 {P:Prop} (h:P:=by (with_reducible repeat (first | refine blk_drewN ?_ _ | refine blk_drew ?_ | refine blk_alloc ?_ _));exact BK344.out):P:=h
theorem zq116 {P:Prop} (h:P:=by (with_reducible repeat (first | refine blk_drewN ?_ _ | refine blk_drew ?_ | refine blk_alloc ?_ _));refine blk_put (cs:=#[.string ((rd_T50 l0 x10_1).f0),.string (⟨#[]⟩:ByteArray)]) ?_ 1 _ rfl;(with_reducible repeat (first | refine blk_drewN ?_ _ | refine blk_drew ?_ | refine blk_alloc ?_ _));refine blk_put (cs:=#[.string (⟨#[]⟩:ByteArray),.string (⟨#[]⟩:ByteArray)]) ?_ 0 _ rfl;(with_reducible repeat (first | refine blk_drewN ?_ _ | refine blk_drew ?_ | refine blk_alloc ?_ _));exact BK109.out):P:=h
theorem zq118 {P:Prop} (h:P:=by (with_reducible repeat (first | refine blk_drewN ?_ _ | refine blk_drew ?_ | refine blk_alloc ?_ _));exact BK113.out):P:=h
theorem zq131 {P:Prop} (h:P:=by repeat (first | exact HD.out | apply Drawn0.step)):P:=h
end Go.Proofs.YtkbgkekegjfkfaaGreatDoor.A
namespace Go.Proofs.YtkbgkekegjfkfaaGreatDoor.B
open Go.RowKit WW WL WM
section
variable {P:Program} {ops:Array Oper} {rest:List Oper} {o:Oper} {Q:Exit→Act→World→Prop} {a:Act} {w V W w1:World} {g g':Nat}
theorem bk3 {w:World} {g t:Nat} {v0 v1 v2:Value} (B:Aside0 (w.heap[g]?=some (.cells #[v0,v1,v2] t (0,0)))):w.cell? ⟨g,0,none⟩=some v0∧w.cell? ⟨g,1,none⟩=some v1∧w.cell? ⟨g,2,none⟩=some v2∧w.frozen? ⟨g,0,none⟩=false∧w.frozen? ⟨g,1,none⟩=false∧w.frozen? ⟨g,2,none⟩=false:=⟨(blk_cell B.out 0).trans rfl,(blk_cell B.out 1).trans rfl,(blk_cell B.out 2).trans rfl,blk_frozen B.out 0,blk_frozen B.out 1,blk_frozen B.out 2⟩
theorem nlm {ob:Obj} (hg:g'=W.heap.size) (B:Aside0 (V.heap[g]?=some ob)) (hs:V.heap[g]?=some ob→W.heap[g]?=some ob:=by (intro h;(with_reducible repeat (first | refine blk_drewN ?_ _ | refine blk_drew ?_ | refine blk_alloc ?_ _));exact h)):Aside0 (g≠g'):=⟨by rw [hg];exact Nat.ne_of_lt (blk_lt (hs B.out))⟩
theorem ngm {ob:Obj} (hg:g'=W.heap.size) (B:Aside0 (V.heap[g]?=some ob)) (hs:V.heap[g]?=some ob→W.heap[g]?=some ob:=by (intro h;(with_reducible repeat (first | refine blk_drewN ?_ _ | refine blk_drew ?_ | refine blk_alloc ?_ _));exact h)):Aside0 (g'≠g):=⟨by rw [hg];exact Nat.ne_of_gt (blk_lt (hs B.out))⟩
end
end Go.Proofs.YtkbgkekegjfkfaaGreatDoor.B
namespace Go.Proofs.YtkbgkekegjfkfaaGreatDoor.A
open Go.RowKit B WW WL WM
attribute [local go_sem] max2_int min2_int max_two min_two max_three min_three max_four min_four
def k73:Kd S73:=Kd.iso (Kd.pair (Kd.int .i64) (Kd.pair Kd.string (Kd.int .i64))) (fun x:S73=>(x.f0,x.f1,x.f2))
end Go.Proofs.YtkbgkekegjfkfaaGreatDoor.A
namespace Go.Proofs.YtkbgkekegjfkfaaGreatDoor.A
open Go.RowKit B WW WL WM
attribute [local go_sem] max2_int min2_int max_two min_two max_three min_three max_four min_four
set_option maxHeartbeats 8000000
set_option maxRecDepth 100000
def IsS82 (w0 W:World) (g:Nat) (f0:List (S73)) (f1:Int) (f2:Bool):Prop:=∃ A0 c0,W.heap[g]?=some (.cells #[.slice A0 f0.length c0,.int .i64 f1,.bool f2] 82 (0,0))∧w0.heap.size≤g∧Kd.C k73 w0 A0 f0.length f0
theorem IsS82.drewN {w0 W:World} {g:Nat} {f0:List (S73)} {f1:Int} {f2:Bool} (h:IsS82 w0 W g f0 f1 f2) (m:Nat):IsS82 w0 (W.drewN m) g f0 f1 f2:=h
theorem IsS82.drew {w0 W:World} {g:Nat} {f0:List (S73)} {f1:Int} {f2:Bool} (h:IsS82 w0 W g f0 f1 f2):IsS82 w0 W.drew g f0 f1 f2:=h
end Go.Proofs.YtkbgkekegjfkfaaGreatDoor.A
