-- By pack.py, a program of this session's.
import Derived.Test.YtkbgkekegjfkfaaGreatDoorZ2
import Derived.Test.YtkbgkekegjfkfaaGreatDoorZ3
import Derived.Test.YtkbgkekegjfkfaaGreatDoorZ4
set_option linter.unusedVariables false
set_option linter.unusedSimpArgs false
namespace Go.Proofs.YtkbgkekegjfkfaaGreatDoor
namespace A
open Go.RowKit B WW WL WM
attribute [local go_sem] max2_int min2_int max_two min_two max_three min_three max_four min_four
set_option maxHeartbeats 8000000
set_option maxRecDepth 100000
theorem sl20 (W:World) (b m:Nat) (z:Int) (hz:z=(m:Int)) (h:m < 20) :
  (Instr.sliceAt 136 (.pointer (some ⟨b,0,none⟩)) (some (.int .i64 z)) none none).run Tryz.prog W=.ok (.slice (some ⟨b,m,none⟩) (20 - m) (20 - m)) W:=by
 subst hz;have e1:Tryz.prog.arrayLen 136=20:=by kernel_rfl
 have e2:Tryz.prog.elem 136=5:=by kernel_rfl
 rw [run_sliceAt_array_l W 136 ⟨b,0,none⟩ (by rw [e1,e2];exact Tryz.underlying136) .i64 (m:Int) (by omega) (by rw [e1];omega),e1,e2];have e3:(Go.sizeOf 5).run Tryz.prog W=.ok 1 W:=by kernel_rfl
 rw [e3];simp only [Result.andThen,slicedAt,Int.toNat_natCast,if_neg (show ¬ 20=m by omega),Nat.mul_one,add_plain']
def days_is.f (a0:Int):Option (Bool):=if a0 ≥ 0 then (some (decide (a0≤109572))) else (some false)
theorem days_is.calls (a0:Int) (r:Bool) (w:World) (h:days_is.f a0=some r) :
  Calls Tryz.prog 132 #[.int .i64 a0] w fun e w'=>e=.returned (.bool r)∧Drawn0 w w':=by
 have H:=h;clear h;unfold days_is.f at H;replace H:=ifI H;rcases H with ⟨c2,H⟩|⟨c2,H⟩
 ·have c2b0:decide (0≤a0)=true:=decide_eq_true c2;clear c2;obtain rfl:=Option.some.inj H;go_enter Tryz.func132,Tryz.ntmps132
  go_wp2
  go_ret
  exact ⟨zq7,zq16⟩
 have c2b0:decide (0≤a0)=false:=decide_eq_false c2;clear c2;obtain rfl:=Option.some.inj H;go_enter Tryz.func132,Tryz.ntmps132
 go_wp2
 go_ret
 exact ⟨zq7,zq16⟩
def days_before.f (a0:Int):Option (Int):=some (wrap64 ((wrap64 (365 * (wrap64 (a0 - 1900))))+(wrap64 ((wrap64 ((wrap64 ((wrap64 ((wrap64 ((wrap64 (Int.tdiv (wrap64 (a0 - 1)) 4)) - (wrap64 (Int.tdiv (wrap64 (a0 - 1)) 100))))+(wrap64 (Int.tdiv (wrap64 (a0 - 1)) 400)))) - 474))+18)) - 4))))
theorem days_before.calls (a0 r:Int) (w:World) (h:days_before.f a0=some r) :
  Calls Tryz.prog 133 #[.int .i64 a0] w fun e w'=>e=.returned (.int .i64 r)∧Drawn0 w w':=by
 have H:=h;clear h;unfold days_before.f at H;obtain rfl:=Option.some.inj H;go_enter Tryz.func133,Tryz.ntmps133
 go_wp2
 go_ret
 exact ⟨zq7,zq16⟩
def days_Leap.f (a0:Int):Option (Bool):=if (Int.tmod a0 4)=0 then (if (Int.tmod a0 100)=0 then (some ((Int.tmod a0 400) == 0)) else (some true)) else (some ((Int.tmod a0 400) == 0))
theorem days_Leap.calls (a0:Int) (r:Bool) (w:World) (h:days_Leap.f a0=some r) :
  Calls Tryz.prog 147 #[.int .i64 a0] w fun e w'=>e=.returned (.bool r)∧Drawn0 w w':=by
 have H:=h;clear h;unfold days_Leap.f at H;replace H:=ifI H;rcases H with ⟨c2,H⟩|⟨c2,H⟩
 ·obtain ⟨c2b0,c2b1⟩:=eqI c2;clear c2;replace H:=ifI H;rcases H with ⟨c3,H⟩|⟨c3,H⟩
  ·obtain ⟨c3b0,c3b1⟩:=eqI c3;clear c3;obtain rfl:=Option.some.inj H;go_enter Tryz.func147,Tryz.ntmps147
   go_wp2
   go_ret
   exact ⟨zq7,zq16⟩
  obtain ⟨c3b0,c3b1⟩:=neI c3;obtain rfl:=Option.some.inj H;go_enter Tryz.func147,Tryz.ntmps147
  go_wp2
  go_ret
  exact ⟨zq7,zq16⟩
 obtain ⟨c2b0,c2b1⟩:=neI c2;obtain rfl:=Option.some.inj H;go_enter Tryz.func147,Tryz.ntmps147
 go_wp2
 go_ret
 exact ⟨zq7,zq16⟩
def days_Length.f (a0 a1:Int):Option Int:=if a1 < 1∨12 < a1 then some 0 else if a1=2 then (days_Leap.f a0).bind fun b=>some (if b=true then 29 else 28) else some (monLen (a1 - 1).toNat)
theorem days_Length.calls (a0 a1 r:Int) (w:World) (h:days_Length.f a0 a1=some r) (hG:Gl w) :
  Calls Tryz.prog 134 #[.int .i64 a0,.int .i64 a1] w fun e w'=>e=.returned (.int .i64 r)∧Drawn0 w w':=by
 have HPost:∀ W,Drawn0 w W→(fun (e:Ending) (w':World)=>e=.returned (.int .i64 r)∧Drawn0 w w') (.returned (.int .i64 r)) W:=fun W hW=>⟨rfl,hW⟩
 generalize (fun (e:Ending) (w':World)=>e=.returned (.int .i64 r)∧Drawn0 w w')=Post at HPost ⊢;have HP:=sd HPost;have HG:=sd hG;clear HPost hG;unfold days_Length.f at h;by_cases h1:a1 < 1
 ·rw [if_pos (.inl h1)] at h;obtain rfl:=Option.some.inj h;go_enter Tryz.func134,Tryz.ntmps134
  go_wp2_with fail
  (try go_ret)
  exact HP.out _ (Drawn0.refl _)
 by_cases h2:12 < a1
 ·rw [if_pos (.inr h2)] at h;obtain rfl:=Option.some.inj h;go_enter Tryz.func134,Tryz.ntmps134
  go_wp2_with fail
  (try go_ret)
  exact HP.out _ (Drawn0.refl _)
 rw [if_neg (by omega)] at h;have h1b:decide (a1 < 1)=false:=decide_eq_false h1;have h2b:decide (12 < a1)=false:=decide_eq_false h2;by_cases h3:a1=2
 ·subst h3;rw [if_pos rfl] at h;replace h:=Option.bind_eq_some_iff.mp h;obtain ⟨b,hb,h⟩:=h;have HL:=sd (fun W=>days_Leap.calls a0 b W hb);clear hb h1 h2 h1b h2b
  cases b
  ·rw [if_neg (by decide)] at h;obtain rfl:=Option.some.inj h;have hc:=HG.out.mon 1 (by decide);rw [show monLen 1=28 from rfl] at hc;go_enter Tryz.func134,Tryz.ntmps134
   go_wp2_with (first|(go_at_call 147;(with_reducible refine (HL.out _).mono ?_);rintro e w' ⟨rfl,nd,rfl⟩))
   (try go_ret)
   exact HP.out _ zq16
  ·rw [if_pos rfl] at h;obtain rfl:=Option.some.inj h;go_enter Tryz.func134,Tryz.ntmps134
   go_wp2_with (first|(go_at_call 147;(with_reducible refine (HL.out _).mono ?_);rintro e w' ⟨rfl,nd,rfl⟩))
   (try go_ret)
   exact HP.out _ zq16
 rw [if_neg h3] at h;have h3b:(a1 == 2)=false:=beq_eq_false_iff_ne.mpr h3;obtain ⟨k,rfl⟩:∃ k:Nat,a1=(k:Int)+1:=⟨(a1 - 1).toNat,by omega⟩
 rw [show ((k:Int)+1 - 1).toNat=k by omega] at h;obtain rfl:=Option.some.inj h;have hk:k < 12:=by omega
 have hc:=HG.out.mon k hk;have e1:(k:Int)+1 - 1=(k:Int):=by omega
 have i0:(0:Int)≤(k:Int):=by omega
 have i1:(k:Int) < 12:=by omega
 clear h1 h2 h3 HG;go_enter Tryz.func134,Tryz.ntmps134
 go_wp2_with fail
 (try go_ret)
 exact HP.out _ (Drawn0.refl _)
mutual
def days_Date.j1:Nat→Int→Int→Int→Int→Option (Int×Int×Int×Int)
|0,_,_,_,_=>none
|k+1,x0,x164000,x164001,x164002=>(days_before.f x164000).bind fun t166=>(days_Date.l1 k (wrap64 (x0 - t166)) x164000 1 x164002)
def days_Date.l1:Nat→Int→Int→Int→Int→Option (Int×Int×Int×Int)
|0,_,_,_,_=>none
|k+1,x0,x164000,x164001,x164002=>(days_Length.f x164000 x164001).bind fun t167=>(if x0 ≥ t167 then ((days_Length.f x164000 x164001).bind fun t168=>(days_Date.l1 k (wrap64 (x0 - t168)) x164000 (wrap64 (x164001+1)) x164002)) else (some (x164000,x164001,wrap64 (x0+1),0)))
def days_Date.l0:Nat→Int→Int→Int→Int→Option (Int×Int×Int×Int)
|0,_,_,_,_=>none
|k+1,x0,x164000,x164001,x164002=>if x164000 < 2199 then ((days_before.f (wrap64 (x164000+1))).bind fun t165=>(if t165≤x0 then (days_Date.l0 k x0 (wrap64 (x164000+1)) x164001 x164002) else (days_Date.j1 k x0 x164000 x164001 x164002))) else (days_Date.j1 k x0 x164000 x164001 x164002)
end
def days_Date.f (k:Nat) (a0:Int):Option (Int×Int×Int×Int):=(days_is.f a0).bind fun t164=>(if t164=true then (days_Date.l0 k a0 (wrap64 (1900+(wrap64 (Int.tdiv a0 366)))) 0 0) else (some (0,0,0,11)))
def words_Quote.l0:Nat→ByteArray→List Int→Int→Int→Option (ByteArray×Int)
|0,_,_,_,_=>none
|k+1,x0,x4,x11,x12=>if x12 < x11 then (if 0≤x12 then (if x12 < (x0.size:Int) then (if (bt x0 x12)=34 then (if x4.length < 140737488355328 then ((some (x4++[92]:List Int)).bind fun y183=>(if y183.length < 140737488355328 then (words_Quote.l0 k x0 (y183++[bt x0 x12]) x11 (wrap64 (x12+1))) else (none))) else (none)) else (if (bt x0 x12)=92 then (if x4.length < 140737488355328 then ((some (x4++[92]:List Int)).bind fun y189=>(if y189.length < 140737488355328 then (words_Quote.l0 k x0 (y189++[bt x0 x12]) x11 (wrap64 (x12+1))) else (none))) else (none)) else (if x4.length < 140737488355328 then (words_Quote.l0 k x0 (x4++[bt x0 x12]) x11 (wrap64 (x12+1))) else (none)))) else (none)) else (none)) else (if x4.length < 140737488355328 then (some (strOfNums (x4++[34]),0)) else (none))
abbrev ruleB:ByteArray:=⟨#[114,117,108,101]⟩
abbrev ifB:ByteArray:=⟨#[105,102]⟩
abbrev andB:ByteArray:=⟨#[97,110,100]⟩
abbrev thenB:ByteArray:=⟨#[116,104,101,110]⟩
abbrev partyB:ByteArray:=⟨#[112,97,114,116,121]⟩
abbrev tagB:ByteArray:=⟨#[116,97,103]⟩
abbrev eqB:ByteArray:=⟨#[61]⟩
def txT:List S50→List ByteArray→List ByteArray
|[],l=>l
|t :: r,l=>txT r (l++[tagB,t.f0,eqB,t.f1])
theorem word_ret (Post:Ending→World→Prop) (T:Array Value) (W:World) (g:Nat) (kind:Int) (S:ByteArray) (i e pa pe:Int) (t4:T.getD 4 undef=.pointer (some ⟨g,0,none⟩)) (t5:T.getD 5 undef=.int .i64 e) (t6:T.getD 6 undef=.pointer (some ⟨g+1,0,none⟩))
  (k0:W.cell? ⟨g,0,none⟩=some (.int .i64 kind)) (k1:W.cell? ⟨g,1,none⟩=some (.string S)) (k2:W.cell? ⟨g,2,none⟩=some (.int .i64 i)) (k3:W.cell? ⟨g+1,0,none⟩=some (.int .i64 pa)) (k4:W.cell? ⟨g+1,1,none⟩=some (.int .i64 pe))
  (hp:Post (.returned (.tuple #[.agg #[.int .i64 kind,.string S,.int .i64 i],.int .i64 e,.agg #[.int .i64 pa,.int .i64 pe]])) W):bodyPost Tryz.prog Tryz.f80 Post .ret { tmps:=T,defers:=[] } W:=by
 rw [Array.getD_eq_getD_getElem?] at t4 t5 t6;exact bodyPost_ret (v:=.tuple #[.agg #[.int .i64 kind,.string S,.int .i64 i],.int .i64 e,.agg #[.int .i64 pa,.int .i64 pe]]) (by simp [results,Tryz.results80,go_sem,t4,t5,t6,k0,k1,k2,k3,k4]) rfl hp
mutual
def num_formed.j0:Nat→ByteArray→Bool→Option (Bool)
|0,_,_=>none
|k+1,x0,x3=>if x3=true then (if 1≤(x0.size:Int) then (num_formed.j1 k (x0.extract 1 x0.size) x3) else (none)) else (num_formed.j1 k x0 x3)
def num_formed.j1:Nat→ByteArray→Bool→Option (Bool)
|0,_,_=>none
|k+1,x0,x3=>if x0.toList=([]:List UInt8) then (num_formed.j2 k x0 true) else (if 0 < (x0.size:Int) then (if (bt x0 0)=48 then (if x3=true then (num_formed.j2 k x0 true) else (num_formed.j2 k x0 (decide ((x0.size:Int) > 1)))) else (num_formed.j2 k x0 false)) else (none))
def num_formed.j2:Nat→ByteArray→Bool→Option (Bool)
|0,_,_=>none
|k+1,x0,x30=>if x30=true then (some false) else (num_formed.l0 k x0 (x0.size:Int) 0)
def num_formed.l0:Nat→ByteArray→Int→Int→Option (Bool)
|0,_,_,_=>none
|k+1,x0,x32,x33=>if x33 < x32 then (if 0≤x33 then (if x33 < (x0.size:Int) then (if (bt x0 x33) < 48 then (some false) else (if (bt x0 x33) > 57 then (some false) else (num_formed.l0 k x0 x32 (wrap64 (x33+1))))) else (none)) else (none)) else (some true)
end
def num_formed.f (k:Nat) (a0:ByteArray):Option (Bool):=if (a0.size:Int) > 0 then (if 0 < (a0.size:Int) then (num_formed.j0 k a0 ((bt a0 0) == 45)) else (none)) else (num_formed.j0 k a0 false)
theorem num_formed.calls (k:Nat) (a0:ByteArray) (r:Bool) (w:World) (h:num_formed.f k a0=some r) :
  Calls Tryz.prog 116 #[.string a0] w fun e w'=>e=.returned (.bool r)∧Drawn0 w w':=by
 have H:=h;clear h;unfold num_formed.f at H;have HC2:=sd H;clear H;go_enter Tryz.func116,Tryz.ntmps116
 go_upto_region 1 with (fail)
 go_cut [3] (fun v3 wc=>∃ (kq:Nat) (x3_1:Bool),v3=.bool x3_1∧Aside0 (num_formed.j0 kq a0 x3_1=some r)∧Aside0 (kq≤k)∧Drawn0 w wc)
 case first =>
  have H:=HC2.out;clear HC2;replace H:=ifI H;rcases H with ⟨c3,H⟩|⟨c3,H⟩
  ·have c3b0:decide (0 < (a0.size:Int))=true:=decide_eq_true c3;have c3b1:decide (0 < a0.size)=true:=decide_eq_true (by omega);clear c3;(first|rw [c3b0]|(simp only [i64_w,i32_w];rw [c3b0])|skip)
   replace H:=ifI H;rcases H with ⟨c4,H⟩|⟨c4,H⟩
   ·have c4b0:decide (0 < (a0.size:Int))=true:=decide_eq_true c4;have c4b1:decide (0 < a0.size)=true:=decide_eq_true (by omega);clear c4;have H':=sd H;clear H;have p5:0≤(0:Int):=(by omega)
    have q5:0 < a0.size:=(by have:(0:Int) < (a0.size:Int):=od;omega)
    have hx5:∀ h:0 < a0.size,((a0[0]'h).toNat:Int)=bt a0 0:=bt_at a0 0;clear p5;have qi5:(0 < (a0.size:Int))=True:=eq_true (od);replace q5:=eq_true q5;go_wp2
    go_meet
    case rel=>exact ⟨_,(((bt a0 0) == 45)),zq7,H',⟨by first|omega|exact Nat.le_refl _⟩,zq16⟩
   exact absurd H (by simp)
  have c3b0:decide (0 < (a0.size:Int))=false:=decide_eq_false c3;have c3b1:decide (0 < a0.size)=false:=decide_eq_false (by omega);clear c3;(first|rw [c3b0]|(simp only [i64_w,i32_w];rw [c3b0])|skip)
  have H':=sd H;clear H;go_wp2
  go_meet
  case rel=>exact ⟨_,(false),zq7,H',⟨by first|omega|exact Nat.le_refl _⟩,zq16⟩
 case rest =>
  clear HC2;try clear c1
  obtain ⟨kq,x3_1,rfl,HA,HJ1,⟨mc1,rfl⟩⟩:=hcut
  cases kq with
 |zero=>exact absurd HA.out (by simp [num_formed.j0])
 |succ kj1 =>
   have H:=HA.out;clear HA;simp only [num_formed.j0] at H
   have HC6:=sd H;clear H;go_upto_if 13 with (fail)
   go_cut [0] (fun v0 wc=>∃ (kq:Nat) (x0_5:ByteArray),v0=.string x0_5∧Aside0 (num_formed.j1 kq x0_5 x3_1=some r)∧Aside0 (kq≤kj1)∧Drawn0 w wc)
   case first =>
    have H:=HC6.out;clear HC6;by_cases c7:x3_1=true
    ·subst c7;rw [if_pos rfl] at H;replace H:=ifI H;rcases H with ⟨c8,H⟩|⟨c8,H⟩
     ·have c8b0:=eq_true c8;have c8b1:decide (1≤(a0.size:Int))=true:=decide_eq_true c8;clear c8;have H':=sd H;clear H;go_wp2
      go_meet
      case rel=>exact ⟨_,(a0.extract 1 a0.size),zq7,H',⟨zq17⟩,zq16⟩
     exact absurd H (by simp)
    replace c7:=Bool.eq_false_iff.mpr c7;subst c7;rw [if_neg Bool.false_ne_true] at H;have H':=sd H;clear H;go_wp2
    go_meet
    case rel=>exact ⟨_,(a0),zq7,H',⟨zq17⟩,zq16⟩
   case rest =>
    clear HC6;try clear c1
    obtain ⟨kq,x0_5,rfl,HA,HJ5,⟨mc5,rfl⟩⟩:=hcut
    cases kq with
   |zero=>exact absurd HA.out (by simp [num_formed.j1])
   |succ kj5 =>
     have H:=HA.out;clear HA;simp only [num_formed.j1] at H
     have HC9:=sd H;clear H;go_upto_region 4 with (fail)
     go_cut [30] (fun v30 wc=>∃ (kq:Nat) (x30_8:Bool),v30=.bool x30_8∧Aside0 (num_formed.j2 kq x0_5 x30_8=some r)∧Aside0 (kq≤kj5)∧Drawn0 w wc)
     case first =>
      have H:=HC9.out;clear HC9;replace H:=ifI H;rcases H with ⟨c10,H⟩|⟨c10,H⟩
      ·obtain ⟨c10b0,c10b1⟩:=eqI c10;clear c10;(first|rw [c10b0]|(simp only [i64_w,i32_w];rw [c10b0])|skip)
       have H':=sd H;clear H;go_wp2
       go_meet
       case rel=>exact ⟨_,(true),zq7,H',⟨zq18⟩,zq16⟩
      obtain ⟨c10b0,c10b1⟩:=neI c10;(first|rw [c10b0]|(simp only [i64_w,i32_w];rw [c10b0])|skip)
      replace H:=ifI H;rcases H with ⟨c11,H⟩|⟨c11,H⟩
      ·have c11b0:decide (0 < (x0_5.size:Int))=true:=decide_eq_true c11;have c11b1:decide (0 < x0_5.size)=true:=decide_eq_true (by omega);clear c11;replace H:=ifI H;rcases H with ⟨c13,H⟩|⟨c13,H⟩
       ·obtain ⟨c13b0,c13b1⟩:=eqI c13;clear c13;by_cases c14:x3_1=true
        ·subst c14;rw [if_pos rfl] at H;have H':=sd H;clear H;have p12:0≤(0:Int):=(by omega)
         have q12:0 < x0_5.size:=(by have:(0:Int) < (x0_5.size:Int):=od;omega)
         have hx12:∀ h:0 < x0_5.size,((x0_5[0]'h).toNat:Int)=bt x0_5 0:=bt_at x0_5 0;clear p12;have qi12:(0 < (x0_5.size:Int))=True:=eq_true (od);replace q12:=eq_true q12;go_wp2
         go_meet
         case rel=>exact ⟨_,(true),zq7,H',⟨zq18⟩,zq16⟩
        replace c14:=Bool.eq_false_iff.mpr c14;subst c14;rw [if_neg Bool.false_ne_true] at H;have H':=sd H;clear H;have p12:0≤(0:Int):=(by omega)
        have q12:0 < x0_5.size:=(by have:(0:Int) < (x0_5.size:Int):=od;omega)
        have hx12:∀ h:0 < x0_5.size,((x0_5[0]'h).toNat:Int)=bt x0_5 0:=bt_at x0_5 0;clear p12;have qi12:(0 < (x0_5.size:Int))=True:=eq_true (od);replace q12:=eq_true q12;go_wp2
        go_meet
        case rel=>exact ⟨_,(decide ((x0_5.size:Int) > 1)),zq7,H',⟨zq18⟩,zq16⟩
       obtain ⟨c13b0,c13b1⟩:=neI c13;have H':=sd H;clear H;have p12:0≤(0:Int):=(by omega)
       have q12:0 < x0_5.size:=(by have:(0:Int) < (x0_5.size:Int):=od;omega)
       have hx12:∀ h:0 < x0_5.size,((x0_5[0]'h).toNat:Int)=bt x0_5 0:=bt_at x0_5 0;clear p12;have qi12:(0 < (x0_5.size:Int))=True:=eq_true (od);replace q12:=eq_true q12;go_wp2
       go_meet
       case rel=>exact ⟨_,(false),zq7,H',⟨zq18⟩,zq16⟩
      exact absurd H (by simp)
     case rest =>
      clear HC9;try clear c1
      obtain ⟨kq,x30_8,rfl,HA,HJ8,⟨mc8,rfl⟩⟩:=hcut
      cases kq with
     |zero=>exact absurd HA.out (by simp [num_formed.j2])
     |succ kj8 =>
       have H:=HA.out;clear HA;simp only [num_formed.j2] at H
       by_cases c15:x30_8=true
       ·subst c15;rw [if_pos rfl] at H;obtain rfl:=Option.some.inj H;go_wp2
        go_ret
        exact ⟨zq7,zq16⟩
       replace c15:=Bool.eq_false_iff.mpr c15;subst c15;rw [if_neg Bool.false_ne_true] at H;have H':=sd H;clear H;go_wp2
       go_loopg [33] kj8 (fun kq v33 w'=>∃ (x33_4:Int),v33=.int .i64 x33_4∧Aside0 (num_formed.l0 kq x0_5 (x0_5.size:Int) x33_4=some r)∧Aside0 (kq≤kj8)∧Drawn0 w w')
       case atStart=>exact ⟨(0),zq7,H',⟨Nat.le_refl _⟩,zq16⟩
       case round =>
        clear H';try clear c1
        obtain ⟨x33_4,rfl,HA,HK4,⟨m4,rfl⟩⟩:=hrel
        cases gk with
       |zero=>exact absurd HA.out (by simp [num_formed.l0])
       |succ k4 =>
         have H:=HA.out;clear HA;simp only [num_formed.l0] at H
         replace H:=ifI H;rcases H with ⟨c16,H⟩|⟨c16,H⟩
         ·have c16b0:decide (x33_4 < (x0_5.size:Int))=true:=decide_eq_true c16;clear c16;replace H:=ifI H;rcases H with ⟨c17,H⟩|⟨c17,H⟩
          ·have c17b0:decide (0≤x33_4)=true:=decide_eq_true c17;clear c17;replace H:=ifI H;rcases H with ⟨c18,H⟩|⟨c18,H⟩
           ·have c18b0:decide (x33_4 < (x0_5.size:Int))=true:=decide_eq_true c18;clear c18;replace H:=ifI H;rcases H with ⟨c20,H⟩|⟨c20,H⟩
            ·have c20b0:decide ((bt x0_5 x33_4) < 48)=true:=decide_eq_true c20;clear c20;obtain rfl:=Option.some.inj H;have p19:0≤(x33_4:Int):=od;have q19:x33_4 < (x0_5.size:Int):=od;have hx19:=bt_at x0_5 x33_4;replace p19:=eq_true p19;replace q19:=eq_true q19;go_wp2
             go_ret
             exact ⟨zq7,zq16⟩
            have c20b0:decide ((bt x0_5 x33_4) < 48)=false:=decide_eq_false c20;clear c20;replace H:=ifI H;rcases H with ⟨c22,H⟩|⟨c22,H⟩
            ·have c22b0:decide (57 < (bt x0_5 x33_4))=true:=decide_eq_true c22;clear c22;obtain rfl:=Option.some.inj H;have p19:0≤(x33_4:Int):=od;have q19:x33_4 < (x0_5.size:Int):=od;have hx19:=bt_at x0_5 x33_4;replace p19:=eq_true p19;replace q19:=eq_true q19;have p21:0≤(x33_4:Int):=od;have q21:x33_4 < (x0_5.size:Int):=od;have hx21:=bt_at x0_5 x33_4;replace p21:=eq_true p21;replace q21:=eq_true q21;go_wp2
             go_ret
             exact ⟨zq7,zq16⟩
            have c22b0:decide (57 < (bt x0_5 x33_4))=false:=decide_eq_false c22;clear c22;have H':=sd H;clear H;have p19:0≤(x33_4:Int):=od;have q19:x33_4 < (x0_5.size:Int):=od;have hx19:=bt_at x0_5 x33_4;replace p19:=eq_true p19;replace q19:=eq_true q19;have p21:0≤(x33_4:Int):=od;have q21:x33_4 < (x0_5.size:Int):=od;have hx21:=bt_at x0_5 x33_4;replace p21:=eq_true p21;replace q21:=eq_true q21;go_wp2
            go_roundg k4
            case measure=>have:=HJ1.out;have:=HJ5.out;have:=HJ8.out;have:=HK4.out;omega
            case rel=>exact ⟨(wrap64 (x33_4+1)),zq7,H',⟨by have:=HJ1.out;have:=HJ5.out;have:=HJ8.out;have:=HK4.out;omega⟩,zq16⟩
           exact absurd H (by simp)
          exact absurd H (by simp)
         have c16b0:decide (x33_4 < (x0_5.size:Int))=false:=decide_eq_false c16;clear c16;obtain rfl:=Option.some.inj H;go_wp2
         go_ret
         exact ⟨zq7,zq16⟩
mutual
def days_Of.j0:Nat→Bool→Int→Int→Int→Option (Int×Int)
|0,_,_,_,_=>none
|k+1,x27,x237000,x237001,x237002=>if x27=true then (some (0,11)) else ((days_before.f x237000).bind fun t238=>(days_Of.l0 k (wrap64 ((wrap64 (t238+x237002)) - 1)) 1 x237000 x237001 x237002))
def days_Of.l0:Nat→Int→Int→Int→Int→Int→Option (Int×Int)
|0,_,_,_,_,_=>none
|k+1,x2,x4,x237000,x237001,x237002=>if x4 < x237001 then ((days_Length.f x237000 x4).bind fun t239=>(days_Of.l0 k (wrap64 (x2+t239)) (wrap64 (x4+1)) x237000 x237001 x237002)) else (some (x2,0))
end
def days_Of.f (k:Nat) (a0_0:Int) (a0_1:Int) (a0_2:Int):Option (Int×Int):=if a0_0 < 1900 then (days_Of.j0 k true a0_0 a0_1 a0_2) else (if a0_0 > 2199 then (days_Of.j0 k true a0_0 a0_1 a0_2) else (if a0_2 < 1 then (days_Of.j0 k true a0_0 a0_1 a0_2) else ((days_Length.f a0_0 a0_1).bind fun t237=>(days_Of.j0 k (decide (a0_2 > t237)) a0_0 a0_1 a0_2))))
structure Arr3 (W:World) (g:Nat) (x y z:Int):Prop where
 k0:W.cell? ⟨g,0,none⟩=some (.int .i64 x)
 k1:W.cell? ⟨g,1,none⟩=some (.int .i64 y)
 k2:W.cell? ⟨g,2,none⟩=some (.int .i64 z)
 f0:W.frozen? ⟨g,0,none⟩=false
 f1:W.frozen? ⟨g,1,none⟩=false
 f2:W.frozen? ⟨g,2,none⟩=false
theorem Arr3.s0 {W:World} {g:Nat} {x y z:Int} (h:Arr3 W g x y z) (v:Int):Arr3 (W.setCell ⟨g,0,none⟩ (.int .i64 v)) g v y z :=
 ⟨has_same ⟨_,h.k0⟩,has_other (by simp) h.k1,has_other (by simp) h.k2,zq24,zq25,zq26⟩
theorem Arr3.s1 {W:World} {g:Nat} {x y z:Int} (h:Arr3 W g x y z) (v:Int):Arr3 (W.setCell ⟨g,1,none⟩ (.int .i64 v)) g x v z :=
 ⟨has_other (by simp) h.k0,has_same ⟨_,h.k1⟩,has_other (by simp) h.k2,zq24,zq25,zq26⟩
theorem Arr3.s2 {W:World} {g:Nat} {x y z:Int} (h:Arr3 W g x y z) (v:Int):Arr3 (W.setCell ⟨g,2,none⟩ (.int .i64 v)) g x y v :=
 ⟨has_other (by simp) h.k0,has_other (by simp) h.k1,has_same ⟨_,h.k2⟩,zq24,zq25,zq26⟩
theorem Arr3.drawn {W:World} {g:Nat} {x y z:Int} (h:Arr3 W g x y z) (n:Nat):Arr3 (W.drewN n) g x y z:=⟨h.k0,h.k1,h.k2,h.f0,h.f1,h.f2⟩
theorem n48:∀ q,q∈(48:Nat) :: k48.E→q≠71:=by decide
theorem n50:∀ q,q∈(50:Nat) :: k50.E→q≠71:=by decide
theorem n73:∀ q,q∈(73:Nat) :: k73.E→q≠71:=by decide
def rf09_Right.T4:Bool×List (List Nat×List Nat):=(true,[([],[]),([],[]),([0,1],[0,1]),([2],[2]),([3],[3]),([4],[4]),([5,4],[5]),([6],[6]),([7,6],[6,7]),([8,6,6],[6,8]),([9],[9]),([9],[9]),([10,11,9],[9,10,11]),([12,9],[9,12]),([13,9],[9,13]),([9],[9]),([9],[9]),([16,9],[9,16]),([15,17,9],[9,15,17]),([18,9],[9,18]),([19,9],[9,19]),([14,20,9],[9,14,20]),([9,21,6],[6,9,21]),([6,22],[6,22])])
def rf09_Right.B4:List Nat:=[0,0,3,7,15,31,63,127,255,511,1023,1023,4095,8191,16383,1023,1023,66559,230399,492543,1016831,2097151,4194303,8388607]
theorem rf09_Right.bits4:waitsOk rf09_Right.T4.2 rf09_Right.B4=true:=by kernel_rfl
theorem IsS82.fresh {w0 W:World} {g:Nat} {f0:List (S73)} {f1:Int} {f2:Bool} (h:IsS82 w0 W g f0 f1 f2):∀ k,W.heap.size≤k→k≠g:=by
 obtain ⟨A0,c0,hb,hg,hr0⟩:=h;exact Kd.freshB hb
theorem IsS82.at_ {w0 W:World} {g:Nat} {f0:List (S73)} {f1:Int} {f2:Bool} {w':World} {m:Nat} (hq:W.drewN m=w') (h:IsS82 w0 W g f0 f1 f2):IsS82 w0 w' g f0 f1 f2:=by subst hq;exact IsS82.drewN h m
theorem IsS82.apart {w0 W:World} {g:Nat} {f0:List (S73)} {f1:Int} {f2:Bool} {α:Type} {d:Kd α} {e:Nat} {base:Nat} {ok:Nat→Prop} {v:Value} {xs:List α} (h:IsS82 w0 W g f0 f1 f2) (ho:d.R e W base ok v xs) (ht:∀ q,q∈e :: d.E→q≠82):d.R e W base (fun k=>ok k∧k≠g) v xs:=by
 obtain ⟨A0,c0,hb,hg,hr0⟩:=h;exact Kd.R_types ho hb ht
theorem IsS82.own_ne {w0 W:World} {g:Nat} {f0:List (S73)} {f1:Int} {f2:Bool} {α:Type} {d:Kd α} {e:Nat} {base:Nat} {ok:Nat→Prop} {v:Value} {xs:List α} (h:IsS82 w0 W g f0 f1 f2) (ho:d.R e W base ok v xs) (ht:e≠82):some g≠v.ownBlock:=by
 obtain ⟨A0,c0,hb,hg,hr0⟩:=h;exact Kd.R_ne ho hb ht
def rf48_Reader_must.f (s0_0:List (S73)) (s0_1:Int) (s0_2:Bool) (a1:ByteArray):Option (Int×Bool):=(rf48_Reader_is.f s0_0 s0_1 s0_2 a1).bind fun bt427=>(if bt427.1=true then (some (bt427.2.1,bt427.2.2)) else (some (bt427.2.1,true)))
def rf48_Reader_code.f (s0_0:List (S73)) (s0_1:Int) (s0_2:Bool):Option (ByteArray×Int×Bool):=(rf48_Reader_next.f s0_0 s0_1 s0_2 1 2).bind fun bt434=>(some (bt434.1,bt434.2.1,bt434.2.2))
def rf48_Reader_sign.f (s0_0:List (S73)) (s0_1:Int) (s0_2:Bool) (a1:ByteArray):Option (Int×Bool):=(rf48_Reader_next.f s0_0 s0_1 s0_2 4 4).bind fun bt462=>(if bt462.1.toList=a1.toList then (some (bt462.2.1,bt462.2.2)) else (if bt462.2.2=true then (some (bt462.2.1,bt462.2.2)) else (some (wrap64 (bt462.2.1 - 1),true))))
theorem info87:(Tryz.prog.info? 87).map (fun i=>(i.zero,i.size,i.bytes))=some (some (.agg #[(.int .i64 0),(.string ⟨#[]⟩),(.int .i64 0)]),3,32):=by kernel_rfl
structure S87 where
  f0:Int
  f1:ByteArray
  f2:Int
def k87:Kd S87:=Kd.iso (Kd.pair (Kd.int .i64) (Kd.pair Kd.string (Kd.int .i64))) (fun x:S87=>(x.f0,x.f1,x.f2))
theorem k87_mkM (w:World) (base:Nat) (ok:Nat→Prop) (x:S87):k87.M w base ok x [.int .i64 x.f0,.string x.f1,.int .i64 x.f2]:=⟨[.int .i64 x.f0],[.string x.f1,.int .i64 x.f2],rfl,rfl,⟨[.string x.f1],[.int .i64 x.f2],rfl,rfl,rfl⟩⟩
def rule_cs (L:List S73):Nat→Int→Bool→List S48→List S87→Option (List S48×List S87×Int×Bool)
 |0,_,_,_,_=>none
 |k+1,at_,fl,cs,vs=>if fl=true then some (cs,vs,at_,fl) else (rf48_Reader_cond.f k L at_ fl).bind fun q =>
      if cs.length≤1000000 then (rf48_Reader_is.f L q.2.2.2.2.2.2.2.1 q.2.2.2.2.2.2.2.2 andB).bind fun b =>
        if b.1=true then rule_cs L k b.2.1 b.2.2 (cs++[⟨q.1,q.2.1,q.2.2.1,q.2.2.2.1⟩]) (vs++[⟨(cs.length:Int),q.2.2.2.2.2.1,q.2.2.2.2.2.2.1⟩])
        else some (cs++[⟨q.1,q.2.1,q.2.2.1,q.2.2.2.1⟩],vs++[⟨(cs.length:Int),q.2.2.2.2.2.1,q.2.2.2.2.2.2.1⟩],b.2.1,b.2.2) else none
def rule_pa (L:List S73) (p:Bool×Int×Bool):Option (ByteArray×Int×Bool):=if p.1=true then rf48_Reader_code.f L p.2.1 p.2.2 else some (⟨#[]⟩,p.2.1,p.2.2)
abbrev cells25Z:Array Value:=#[.string ⟨#[]⟩,.slice none 0 0,.string ⟨#[]⟩,.string ⟨#[]⟩,.slice none 0 0]
structure RL (ok:Nat→Prop) (w0 w wr:World) (g g2 g4:Nat) (L:List S73) (at_:Int) (fl:Bool) (nm:ByteArray) (cs:List S48) (acc par:ByteArray) (tg:List S50) (vs:List S87) (vC vT vV:Value):Prop where
  hI:IsS82 w0 wr g L at_ fl
  hB:Below w0.heap.size w0 wr
  hK:KeepBut w wr g none
  b4:wr.heap[g4]?=some (.cells #[.string nm,vC,.string acc,.string par,vT] 25 (0,0))
  b2:wr.heap[g2]?=some (.cells cells25Z 25 (0,0))
  rC:Kd.R k48 48 wr w.heap.size ok vC cs
  rT:Kd.R k50 50 wr w.heap.size ok vT tg
  rV:Kd.R k87 87 wr w.heap.size ok vV vs
  e2:w.heap.size≤g2
  e4:w.heap.size≤g4
  ne:g2≠g4
  hw0:w0.heap.size≤w.heap.size
theorem sretR (Post:Ending→World→Prop) (T:Array Value) (W:World) (g:Nat) (cs:Array Value) (v:Value) (t2:T.getD 2 undef=.pointer (some ⟨g,0,none⟩)) (t3:T.getD 3 undef=v)
    (hg:W.heap[g]?=some (.cells cs 25 (0,0))) (hs:cs.size=5) (hp:Post (.returned (.tuple #[.agg cs,v])) W):bodyPost Tryz.prog Tryz.f44 Post .ret { tmps:=T,defers:=[] } W:=by
  refine bodyPost_ret (v:=.tuple #[.agg cs,v]) ?_ rfl hp;have:=results_list (P:=Tryz.prog) (fn:=Tryz.f44) (tmps:=T) (w:=W) (rs:=[.cell 2 25,.tmp 3]) rfl (by simp) (.cell g 25 cs (0,0) _ t2 hg Tryz.underlying25 rfl (by rw [hs];kernel_rfl) (.tmp .nil));rw [t3] at this;exact this
def rf01_size.f (a0:Int):Option (Int):=if a0 < 0 then (some (IntKind.u64.wrap ((IntKind.u64.wrap (18446744073709551615 - (IntKind.u64.wrap (a0))))+1))) else (some (IntKind.u64.wrap (a0)))
theorem rf01_size.calls (a0 r:Int) (w:World) (h:rf01_size.f a0=some r) :
  Calls Tryz.prog 128 #[.int .i64 a0] w fun e w'=>e=.returned (.int .u64 r)∧Drawn0 w w':=by
 have H:=h;clear h;unfold rf01_size.f at H;replace H:=ifI H;rcases H with ⟨c2,H⟩|⟨c2,H⟩
 ·have c2b0:decide (a0 < 0)=true:=decide_eq_true c2;clear c2;obtain rfl:=Option.some.inj H;go_enter Tryz.func128,Tryz.ntmps128
  go_wp2
  go_ret
  exact ⟨zq7,zq16⟩
 have c2b0:decide (a0 < 0)=false:=decide_eq_false c2;clear c2;obtain rfl:=Option.some.inj H;go_enter Tryz.func128,Tryz.ntmps128
 go_wp2
 go_ret
 exact ⟨zq7,zq16⟩
mutual
def rf01_Mul.j0:Nat→Int→Int→Bool→Option (Int×Bool)
|0,_,_,_=>none
|k+1,x6,x7,x8=>if x8=true then (rf01_Mul.j1 k x6 x7 x8 9223372036854775808) else (rf01_Mul.j1 k x6 x7 x8 9223372036854775807)
def rf01_Mul.j1:Nat→Int→Int→Bool→Int→Option (Int×Bool)
|0,_,_,_,_=>none
|k+1,x6,x7,x8,x9=>if x7 > 0 then (if x7=0 then (none) else (rf01_Mul.j2 k x6 x7 x8 (decide (x6 > (IntKind.u64.wrap (Int.tdiv x9 x7)))))) else (rf01_Mul.j2 k x6 x7 x8 false)
def rf01_Mul.j2:Nat→Int→Int→Bool→Bool→Option (Int×Bool)
|0,_,_,_,_=>none
|k+1,x6,x7,x8,x37=>if x37=true then (some (0,false)) else (if x8=true then (some (wrap64 (-(wrap64 (IntKind.u64.wrap (x6 * x7)))),true)) else (some (wrap64 (IntKind.u64.wrap (x6 * x7)),true)))
end
def rf01_Mul.f (k:Nat) (a0:Int) (a1:Int):Option (Int×Bool):=(rf01_size.f a0).bind fun t465=>((rf01_size.f a1).bind fun t466=>(if a0 < 0 then (if a1 > 0 then (rf01_Mul.j0 k t465 t466 true) else (if a0 > 0 then (rf01_Mul.j0 k t465 t466 (decide (a1 < 0))) else (rf01_Mul.j0 k t465 t466 false))) else (if a0 > 0 then (rf01_Mul.j0 k t465 t466 (decide (a1 < 0))) else (rf01_Mul.j0 k t465 t466 false))))
def rf04_Of.T1:Bool×List (List Nat×List Nat):=(true,[([],[]),([0],[0]),([1],[1]),([2],[2]),([3],[3]),([4,3],[3,4]),([5,3],[3,5]),([3,6],[3,6]),([7,3],[7]),([8],[8]),([9,8],[8,9]),([10,8],[8,10]),([8,11],[8,11]),([12,8],[12]),([13],[13]),([14,13],[13,14]),([13],[13]),([16,13],[13,16]),([13],[13]),([18,13],[13,18]),([17,19,13,13],[13,17,19]),([15,20,13],[13,15,20]),([13,21],[13,21])])
def rf04_Of.B1:List Nat:=[0,1,3,7,15,31,63,127,255,511,1023,2047,4095,8191,16383,32767,16383,81919,16383,278527,999423,2097151,4194303]
theorem rf04_Of.bits1:waitsOk rf04_Of.T1.2 rf04_Of.B1=true:=by kernel_rfl
def rf04_Of.T3:Bool×List (List Nat×List Nat):=(true,[([],[]),([0],[0]),([1],[1]),([2],[2]),([],[]),([4],[4]),([3,5],[3,5]),([6],[6]),([7],[7]),([],[]),([9],[9]),([8,10],[8,10]),([11],[11]),([12,8,0,1,2,3,4,5,6,7,8,9,10,11,12],[12]),([13,0,1,2,3,4,5,6,7,8,9,10,11,12,13],[])])
def rf04_Of.B3:List Nat:=[0,1,3,7,0,16,63,127,255,0,512,2047,4095,8191,16383]
theorem rf04_Of.bits3:waitsOk rf04_Of.T3.2 rf04_Of.B3=true:=by kernel_rfl
end A
namespace A
open Go.RowKit B WW WL WM
attribute [local go_sem] max2_int min2_int max_two min_two max_three min_three max_four min_four
set_option maxHeartbeats 8000000
set_option maxRecDepth 100000
section
variable {ok:Nat→Prop} {w0 w wr w1:World} {g g2 g4:Nat} {L:List S73} {at_:Int} {fl:Bool} {nm:ByteArray} {cs:List S48} {acc par:ByteArray} {tg:List S50} {vs:List S87} {vC vT vV:Value}
theorem q48_25:∀ q,q∈(48:Nat) :: k48.E→q≠25:=by decide
theorem q50_25:∀ q,q∈(50:Nat) :: k50.E→q≠25:=by decide
theorem q87_25:∀ q,q∈(87:Nat) :: k87.E→q≠25:=by decide
theorem kb_grown {α:Type} {d:Kd α} {e:Nat} {v:Value} {xs:List α} (hk:KeepBut w wr g none) (hR:d.R e wr w.heap.size ok v xs) (hg:wr.grownBy w1 v.ownBlock):KeepBut w w1 g none :=
  hk.trans (KeepBut.of_grown hg g) (by rcases Kd.R_base2 hR with e|⟨k,e,hk⟩;exact Or.inl e;exact Or.inr ⟨k,e,hk⟩)
theorem RL.mono (h:RL ok w0 w wr g g2 g4 L at_ fl nm cs acc par tg vs vC vT vV) {ok':Nat→Prop} (hm:∀ k,ok k→ok' k):RL ok' w0 w wr g g2 g4 L at_ fl nm cs acc par tg vs vC vT vV :=
  ⟨h.hI,h.hB,h.hK,h.b4,h.b2,Kd.R_mono h.rC hm,Kd.R_mono h.rT hm,Kd.R_mono h.rV hm,h.e2,h.e4,h.ne,h.hw0⟩
theorem RL.fresh (h:RL ok w0 w wr g g2 g4 L at_ fl nm cs acc par tg vs vC vT vV):RL (fun k=>k≠wr.heap.size) w0 w wr g g2 g4 L at_ fl nm cs acc par tg vs vC vT vV :=
  ⟨h.hI,h.hB,h.hK,h.b4,h.b2,Kd.R_mono (Kd.R_bound h.rC) (fun k hk=>Nat.ne_of_lt hk.2.2.1),Kd.R_mono (Kd.R_bound h.rT) (fun k hk=>Nat.ne_of_lt hk.2.2.1),Kd.R_mono (Kd.R_bound h.rV) (fun k hk=>Nat.ne_of_lt hk.2.2.1),h.e2,h.e4,h.ne,h.hw0⟩
theorem RL.far {gt:Nat} (h:RL (fun k=>k≠gt) w0 w wr g g2 g4 L at_ fl nm cs acc par tg vs vC vT vV) (hg:g≠gt) (h2:g2≠gt) (h4:g4≠gt) (hge:w.heap.size≤gt) (j:Nat) (u:Value):RL (fun k=>k≠gt) w0 w (wr.setCell ⟨gt,j,none⟩ u) g g2 g4 L at_ fl nm cs acc par tg vs vC vT vV :=
  ⟨h.hI.far (p:=⟨gt,j,none⟩) hg u,below_setN h.hB (Nat.le_trans h.hw0 hge) u,keep_far h.hK (p:=⟨gt,j,none⟩) hge u,blk_far (p:=⟨gt,j,none⟩) h.b4 h4 u,blk_far (p:=⟨gt,j,none⟩) h.b2 h2 u,
   Kd.R_move h.rC (fun k hk=>Below.heap_setCell _ _ _ k hk),Kd.R_move h.rT (fun k hk=>Below.heap_setCell _ _ _ k hk),Kd.R_move h.rV (fun k hk=>Below.heap_setCell _ _ _ k hk),h.e2,h.e4,h.ne,h.hw0⟩
theorem s82_cells (h:IsS82 w0 wr g L at_ fl):∃ A c,wr.cell? ⟨g,0,none⟩=some (.slice A L.length c)∧wr.cell? ⟨g,1,none⟩=some (.int .i64 at_)∧wr.cell? ⟨g,2,none⟩=some (.bool fl)∧wr.frozen? ⟨g,2,none⟩=false:=by
  obtain ⟨A,c,hb,_,_⟩:=h;exact ⟨A,c,(blk_cell hb 0).trans rfl,(blk_cell hb 1).trans rfl,(blk_cell hb 2).trans rfl,blk_frozen hb 2⟩
end
end A
namespace A
open Go.RowKit B WW WL WM
attribute [local go_sem] max2_int min2_int max_two min_two max_three min_three max_four min_four
theorem info48:(Tryz.prog.info? 48).map (fun i=>(i.zero,i.size,i.bytes))=some (some (.agg #[(.int .i64 0),(.int .i64 0),(.string ⟨#[]⟩),(.int .i64 0)]),4,40):=by kernel_rfl
theorem info50:(Tryz.prog.info? 50).map (fun i=>(i.zero,i.size,i.bytes))=some (some (.agg #[(.string ⟨#[]⟩),(.string ⟨#[]⟩)]),2,32):=by kernel_rfl
def z48:S48:=⟨(0:Int),(0:Int),(⟨#[]⟩:ByteArray),(0:Int)⟩
theorem k48_open {w:World} {x:S48} {cs:List Value} (h:k48.K w x cs):cs=[.int .i64 x.f0,.int .i64 x.f1,.string x.f2,.int .i64 x.f3]:=by
  obtain ⟨_,_,rfl,rfl,⟨_,_,rfl,rfl,⟨_,_,rfl,rfl,rfl⟩⟩⟩:=h;exact rfl
theorem k48_mkM (w:World) (base:Nat) (ok:Nat→Prop) (x:S48):k48.M w base ok x [.int .i64 x.f0,.int .i64 x.f1,.string x.f2,.int .i64 x.f3]:=⟨[.int .i64 x.f0],[.int .i64 x.f1,.string x.f2,.int .i64 x.f3],rfl,rfl,⟨[.int .i64 x.f1],[.string x.f2,.int .i64 x.f3],rfl,rfl,⟨[.string x.f2],[.int .i64 x.f3],rfl,rfl,rfl⟩⟩⟩
def rd_T48 (xs:List S48) (i:Int):S48:=xs.getD i.toNat z48
theorem at_T48 {w:World} {A:Option Addr} {n:Nat} {xs:List S48} (h:Kd.C k48 w A n xs) (i:Int) (h0:0≤i) (h1:i < n):∃ ad ,A=some ad∧w.cell? (ad.add (i.toNat * 4))=some (.int .i64 (rd_T48 xs i).f0)∧w.cell? ⟨(ad.add (i.toNat * 4)).block,(ad.add (i.toNat * 4)).off+1,none⟩=some (.int .i64 (rd_T48 xs i).f1)∧w.cell? ⟨(ad.add (i.toNat * 4)).block,(ad.add (i.toNat * 4)).off+2,none⟩=some (.string (rd_T48 xs i).f2)∧w.cell? ⟨(ad.add (i.toNat * 4)).block,(ad.add (i.toNat * 4)).off+3,none⟩=some (.int .i64 (rd_T48 xs i).f3):=by
  obtain ⟨ad,c,e,_,hK,hc0⟩:=Kd.C_get h z48 i h0 h1;have hc:∀ j u,c[j]?=some u→w.cell? (ad.add (i.toNat * 4+j))=some u:=hc0;obtain rfl:=k48_open hK;exact ⟨ad,e,hc 0 _ rfl,by rw [← add_field _ _ 1 (by omega)];exact hc 1 _ rfl,by rw [← add_field _ _ 2 (by omega)];exact hc 2 _ rfl,by rw [← add_field _ _ 3 (by omega)];exact hc 3 _ rfl⟩
theorem k50_mkM (w:World) (base:Nat) (ok:Nat→Prop) (x:S50):k50.M w base ok x [.string x.f0,.string x.f1]:=⟨[.string x.f0],[.string x.f1],rfl,rfl,rfl⟩
end A
namespace A
open Go.RowKit B WW WL WM
theorem zq20 {P:Prop} (h:P:=by (with_reducible repeat (first|refine blk_drewN ?_ _|refine blk_drew ?_|refine blk_alloc ?_ _));exact BK236.out):P:=h
theorem zq40 {P:Prop} (h:P:=by repeat (first|exact (Kd.C_below HR0_4.out HB.out)|(with_reducible refine Kd.C_alloc ?_ _)|(with_reducible refine Kd.C_drewN ?_ _)|(with_reducible refine Kd.C_drew ?_))):P:=h
theorem zq120 {P:Prop} (h:P:=by (with_reducible repeat (first|refine blk_drewN ?_ _|refine blk_drew ?_|refine blk_alloc ?_ _));exact BK117.out):P:=h
end A
namespace B
open Go.Lib Go.RowKit WW
theorem trow_digits (u m k:Nat) (hmk:m+k=19) (h1:u / 10 ^ (k+1)=0) (h2:k=0∨u / 10 ^ k≠0) :
    (decDigits u).length=20 - m∧∀ i,i < (decDigits u).length→(trow u m)[m+i]?=some (.int .u8 (((decDigits u).getD i 0).toNat:Int)):=by
  have hn:=nDigits_of u k h1 h2;have hl:(decDigits u).length=20 - m:=by rw [decDigits_length,hn];omega
  refine ⟨hl,fun i hi=>?_⟩;rw [trow_at u m (m+i) (by omega),if_pos (by omega)]
  have:(decDigits u).getD i 0=dg u (19 - (m+i)):=by
    rw [decDigits_eq,List.getD_eq_getElem?_getD,List.getElem?_map,List.getElem?_range (by rw [hn];omega),hn];simp only [Option.map_some,Option.getD_some]
    congr 1;omega
  rw [this,dg];simp only [UInt8.toNat_ofNat']
  rw [Nat.mod_eq_of_lt (show 48+u / 10 ^ (19 - (m+i)) % 10 < 2 ^ 8 by omega)]
theorem conv_row {P:Program} (w:World) (T src dst e:TypeId) (hs:P.underlying src=some (.slice e)) (he:P.underlying e=some (.int .u8)) (hd:P.underlying dst=some .string)
    (Y:Array Value) (m len cap:Nat) (l:List UInt8) (hl:l.length=len) (h:∀ i,i < l.length→Y[m+i]?=some (.int .u8 ((l.getD i 0).toNat:Int))) :
    (convert src dst (.slice (some ⟨w.heap.size,m,none⟩) len cap)).run P (w.alloc (.cells Y T))=.ok (.string ⟨l.toArray⟩) (w.alloc (.cells Y T)):=by
  rw [run_convert_bytes_arg (w.alloc (.cells Y T)) src e hs he w.heap.size m len cap (l.map fun b=>(b.toNat:Int)) (by simpa using hl) (fun i hi=>by
    rw [World.cell?_alloc_new,h i (by omega)];congr 2
    simp [List.getD_eq_getElem?_getD,List.getElem?_map]
    rw [List.getElem?_eq_getElem (by omega:i < l.length)];rfl) dst hd]
  congr 3
  simp only [strOfNums,List.map_map]
  congr 2
  conv=>rhs;rw [← List.map_id l]
  refine List.map_congr_left fun b _=>?_
  simp
end B
namespace A
open Go.RowKit B WW WL WM
attribute [local go_sem] max2_int min2_int max_two min_two max_three min_three max_four min_four
set_option maxHeartbeats 8000000
set_option maxRecDepth 100000
theorem rd48_mem (l:List S48) (i:Nat) (h:i < l.length):rd_T48 l (i:Int)∈l:=by
 unfold rd_T48;rw [Int.toNat_natCast,List.getD_eq_getElem?_getD,List.getElem?_eq_getElem h];exact List.getElem_mem h
theorem take48 (l:List S48) (i:Nat) (h:i < l.length):l.take (i+1)=l.take i++[rd_T48 l (i:Int)]:=by
 unfold rd_T48;rw [List.take_add_one,List.getElem?_eq_getElem h,Int.toNat_natCast,List.getD_eq_getElem?_getD,List.getElem?_eq_getElem h];rfl
end A
namespace B
open Go.RowKit WW WL WM
section
variable {P:Program} {ops:Array Oper} {rest:List Oper} {o:Oper} {Q:Exit→Act→World→Prop} {a:Act} {w V W w1:World} {g g':Nat}
theorem bk5 {w:World} {g t:Nat} {v0 v1 v2 v3 v4:Value} (B:Aside0 (w.heap[g]?=some (.cells #[v0,v1,v2,v3,v4] t (0,0)))):w.cell? ⟨g,0,none⟩=some v0∧w.cell? ⟨g,1,none⟩=some v1∧w.cell? ⟨g,2,none⟩=some v2∧w.cell? ⟨g,3,none⟩=some v3∧w.cell? ⟨g,4,none⟩=some v4∧w.frozen? ⟨g,0,none⟩=false∧w.frozen? ⟨g,1,none⟩=false∧w.frozen? ⟨g,2,none⟩=false∧w.frozen? ⟨g,3,none⟩=false∧w.frozen? ⟨g,4,none⟩=false:=⟨(blk_cell B.out 0).trans rfl,(blk_cell B.out 1).trans rfl,(blk_cell B.out 2).trans rfl,(blk_cell B.out 3).trans rfl,(blk_cell B.out 4).trans rfl,blk_frozen B.out 0,blk_frozen B.out 1,blk_frozen B.out 2,blk_frozen B.out 3,blk_frozen B.out 4⟩
end
end B
namespace B
open Go.RowKit WW WL WM
section
variable {P:Program} {md:Region.Mode} {ops:Array Oper} {Q:Exit→Act→World→Prop} {S:World→Prop} {ds:List Nat} {T:Bool×List (List Nat×List Nat)} {BB:List Nat} {oi:Oper} {v:Value} {fuel:Nat} {l l':Array Bool} {a a':Act} {w:World}
theorem pB (i N:Nat) (h:wpAnyLast P md ops Q S ds fuel l' a' w)
    (hi:ops[i]?=some oi:=by rfl) (hN:oi.dst=some N:=by rfl) (hl:l.setIfInBounds i true=l':=by (simp only [List.setIfInBounds_toArray,List.set_cons_zero,List.set_cons_succ];rfl))
    (hc:anyB md ops l l' i=true:=by kernel_rfl) (hQ:∀ c a w,Q (.panic c) (a.put oi.dst v) w→Q (.panic c) a w:=by exact (fun _ _ _ h=>h)) (hg:Region.wanted oi (yielded ops a.tmps)=true:=by rfl)
    (hy:∀ w,(execOp a.eval oi).run P w=.ok (.value v) w:=by (intro w';go_simp;with_reducible rfl))
    (ha:a.put (some N) v=a':=by (simp only [Act.put,List.setIfInBounds_toArray,List.set_cons_zero,List.set_cons_succ,i64_w,i32_w];rfl)):wpAnyLast P md ops Q S ds (fuel+1) l a w :=
  pure_ l' hi hN hc hQ (.inl ⟨hg,hy⟩) ha h
end
end B
namespace B
open Go.RowKit
theorem any_drewN {W:World} {a:Addr} {n:Nat} (h:∃ x,W.cell? a=some x):∃ x,(W.drewN n).cell? a=some x:=h
end B

end Go.Proofs.YtkbgkekegjfkfaaGreatDoor