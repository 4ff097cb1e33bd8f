-- By pack.py, a program of this session's.
import Derived.Test.YtkbgkekegjfkfaaGreatDoorZ13
import Derived.Test.YtkbgkekegjfkfaaGreatDoorZ14
import Derived.Test.YtkbgkekegjfkfaaGreatDoorZ15
import Derived.Test.YtkbgkekegjfkfaaGreatDoorZ16
import Derived.Test.YtkbgkekegjfkfaaGreatDoorZ17
set_option linter.unusedVariables false
set_option linter.unusedSimpArgs false
namespace Go.Proofs.YtkbgkekegjfkfaaGreatDoor
namespace A
open Go.RowKit B WW WL WM
attribute [local go_sem] max2_int min2_int max_two min_two max_three min_three max_four min_four
set_option maxHeartbeats 8000000
set_option maxRecDepth 100000
mutual
def words_Cut.l0:Nat→ByteArray→List (S73)→Int→Option ((List (S73))×Int×Int)
|0,_,_,_=>none
|k+1,x0,x2,x3=>if x3 < (x0.size:Int) then (if 0≤x3 then (words_Cut.j1 k x0 x2 x3 ((bt x0 x3) != 35)) else (none)) else (words_Cut.j1 k x0 x2 x3 false)
def words_Cut.j1:Nat→ByteArray→List (S73)→Int→Bool→Option ((List (S73))×Int×Int)
|0,_,_,_,_=>none
|k+1,x0,x2,x3,x20=>if x20=true then (if 0≤x3 then (if x3 < (x0.size:Int) then (if (bt x0 x3)=32 then (words_Cut.l0 k x0 x2 (wrap64 (x3+1))) else ((words_word.f k x0 x3).bind fun bt222=>(if bt222.2.2.2.2.2=0 then (if x2.length < 4398046511104 then (words_Cut.l0 k x0 (x2++[(⟨bt222.1,bt222.2.1,bt222.2.2.1⟩:S73)]) bt222.2.2.2.1) else (none)) else (some (([]:List (S73)),bt222.2.2.2.2.1,bt222.2.2.2.2.2))))) else (none)) else (none)) else (some (x2,(x0.size:Int),0))
end
def words_Cut.f (k:Nat) (a0:ByteArray):Option ((List (S73))×Int×Int):=if (a0.size:Int) > 400 then (some (([]:List (S73)),0,9)) else (words_Cut.l0 k a0 ([]:List (S73)) 0)
theorem parse_pos (s:ByteArray) (lo hi:Int) (hs:s.size≤140737488351232) (w:World) (hf:formedL s.data.toList=true) (hn:negOf s.data.toList=false) :
  Calls Tryz.prog 82 #[.string s,.int .i64 lo,.int .i64 hi] w fun e w'=>e=.returned (.tuple #[.int .i64 (parseL s.data.toList lo hi).1,.int .i64 (parseL s.data.toList lo hi).2])∧Drawn0 w w':=by
 have hF:=formed_calls s hs;rw [hf] at hF;have hsz:=size_eq' s;have hm:magOf s.data.toList=s.data.toList:=by simp [magOf,hn]
 have hne:=formed_some hf;have hdg:=formed_digits hf;rw [hm] at hne hdg;have h0:0 < s.size:=by rw [hsz];exact List.length_pos_iff.mpr hne
 have hat:∀ j,(h:j < s.size)→(h':j < s.data.toList.length)→s.data.toList[j]=s[j]:=fun j h h'=>by simp;rfl
 have hb:((s[0].toNat:Int) == 45)=false:=by
  rw [beq_eq_false_iff_ne];intro h;have:=(byte_is s[0] 45).mp h;rw [← hat 0 h0 (by omega)] at this;unfold negOf at hn;rw [List.head?_eq_getElem?,List.getElem?_eq_getElem (by omega),this] at hn;simp at hn
 have HS:=fun j n h=>@parse_stop s.data.toList hf j n h lo hi
 have HW:=fun j n h hj=>@parse_whole s.data.toList hf j n h hj lo hi
 have H0:=sd (PInv.start (negOf s.data.toList) s.data.toList);rw [hm] at HS HW;rw [hn] at HS HW H0;have HS:=sd HS;have HW:=sd HW;have HFc:=sd hF
 have HD:∀ j,(h:j < s.size)→isDig s[j]=true:=fun j h=>by
  rw [← hat j h (by omega)];exact List.all_eq_true.mp hdg _ (List.getElem_mem _)
 have HD:=sd HD;have HA:=sd hat;have HZ:=sd hsz;clear hf hn hF hm hne hdg hat hsz;generalize hP:(fun e w'=>e=Ending.returned (.tuple #[.int .i64 (parseL s.data.toList lo hi).1,.int .i64 (parseL s.data.toList lo hi).2])∧Drawn0 w w')=Post;have HP:=sd hP;clear hP;go_enter Tryz.func82,Tryz.ntmps82
 go_wp2_with fail
 refine (HFc.out _).mono ?_;rintro e w1 ⟨rfl,hd1⟩;obtain ⟨⟨n1,rfl⟩⟩:=hd1;go_wp2_with fail
 go_loopw [6,9,10] (fun n_ at_ ok_ wr=>∃ (p:Nat) (n:Int) (ok:Bool),p≤s.size∧n_=.int .i64 n∧at_=.int .i64 p∧ok_=.bool ok∧Aside0 (PInv false s.data.toList p n ok)∧Drawn0 w wr) (fun _ at_ _ _=>(s.size - (RowKit.intOf at_).toNat))
 case atStart=>exact ⟨0,0,true,by omega,rfl,rfl,rfl,H0,(Drawn0.refl _).step _⟩
 case round =>
  obtain ⟨p,n,ok,hp,rfl,rfl,rfl,HI,HDr⟩:=hrel;rename World=>wr
  cases ok
  ·have hr:=HS.out _ _ HI.out;have HR:=sd hr;clear hr;by_cases hlt:p < s.size
   ·go_wp2_with fail
    rw [← HP.out];exact ⟨by rw [HR.out];(try rfl),HDr⟩
   go_wp2_with fail
   rw [← HP.out];exact ⟨by rw [HR.out];(try rfl),HDr⟩
  ·by_cases hlt:p < s.size
   ·have hd:=(isDig_iff _).mp (HD.out p hlt);obtain ⟨hd1,hd2⟩:=hd;have hj:p < s.data.toList.length:=by rw [← HZ.out];exact hlt
    have HJ:=sd hj;clear hj;have hI:=(slot_ok HI.out).2;have hM:num_Mul.f n 10=some (fit (n * 10)):=by unfold num_Mul.f;rw [if_pos ⟨hI,by unfold I64;omega⟩]
    have hIn:-9223372036854775808≤n∧n≤9223372036854775807:=hI;obtain ⟨hIn1,hIn2⟩:=hIn;clear hI;by_cases hm:I64 (n * 10)
    ·rw [fit_yes hm] at hM;have hA:=num_Add_eq (n * 10) ((s[p].toNat:Int) - 48) hm (by unfold I64;omega);have hN:=PInv.next HI.out HJ.out (by rw [HA.out p hlt HJ.out];exact HD.out p hlt) (x:=n * 10+((s[p].toNat:Int) - 48)) (by rw [HA.out p hlt HJ.out];rfl);generalize fit (n * 10+((s[p].toNat:Int) - 48))=q at hA hN;obtain ⟨q1,q2⟩:=q;have HM:=sd hM;have HAd:=sd hA;have HN:=sd hN;have hm':-9223372036854775808≤n * 10∧n * 10≤9223372036854775807:=hm;obtain ⟨hm1,hm2⟩:=hm';clear hM hA hN hm;go_wp2_with fail
     refine (num_Mul.calls _ _ _ _ _ HM.out).mono ?_;rintro e w1 ⟨rfl,hd3⟩;obtain ⟨⟨n3,rfl⟩⟩:=hd3;go_wp2_with fail
     refine (num_Add.calls _ _ _ _ _ HAd.out).mono ?_;rintro e w1 ⟨rfl,hd4⟩;obtain ⟨⟨n4,rfl⟩⟩:=hd4;go_wp2_with fail
     go_roundw
     case rel=>exact ⟨p+1,q1,q2,by omega,rfl,by go_num,rfl,HN,HDr.step _⟩
     case measure=>simp [RowKit.intOf];omega
    rw [fit_no hm] at hM;have hN:=PInv.over HI.out HJ.out hm;have HM:=sd hM;have HN:=sd hN;clear hM hN hm;go_wp2_with fail
    refine (num_Mul.calls _ _ _ _ _ HM.out).mono ?_;rintro e w1 ⟨rfl,hd3⟩;obtain ⟨⟨n3,rfl⟩⟩:=hd3;go_wp2_with fail
    go_roundw
    case rel=>exact ⟨p+1,0,false,by omega,rfl,by go_num,rfl,HN,HDr.step _⟩
    case measure=>simp [RowKit.intOf];omega
   have hr:=HW.out _ _ HI.out (by rw [← HZ.out];omega);have HR:=sd hr;clear hr;by_cases h1:n < lo
   ·go_wp2_with fail
    rw [← HP.out];exact ⟨zq19,HDr⟩
   by_cases h2:hi < n
   ·go_wp2_with fail
    rw [← HP.out];exact ⟨zq19,HDr⟩
   go_wp2_with fail
   rw [← HP.out];exact ⟨by rw [HR.out,if_neg (by omega)];(try rfl),HDr⟩
theorem parse_neg (s:ByteArray) (lo hi:Int) (hs:s.size≤140737488351232) (w:World) (hf:formedL s.data.toList=true) (hn:negOf s.data.toList=true) :
  Calls Tryz.prog 82 #[.string s,.int .i64 lo,.int .i64 hi] w fun e w'=>e=.returned (.tuple #[.int .i64 (parseL s.data.toList lo hi).1,.int .i64 (parseL s.data.toList lo hi).2])∧Drawn0 w w':=by
 have hF:=formed_calls s hs;rw [hf] at hF;have hsz:=size_eq' s;have hm:magOf s.data.toList=s.data.toList.drop 1:=by simp [magOf,hn]
 have hne:=formed_some hf;have hdg:=formed_digits hf;rw [hm] at hne hdg
 have h0:1 < s.size:=by
  rw [hsz];rcases Nat.lt_or_ge 1 s.data.toList.length with h|h
  ·exact h
  ·exact absurd (List.drop_eq_nil_of_le h) hne
 have h00:0 < s.size:=by omega
 have hat:∀ j,(h:j+1 < s.size)→(h':j < (s.data.toList.drop 1).length)→(s.data.toList.drop 1)[j]=s[j+1]:=fun j h h'=>by simp [Nat.add_comm 1 j];rfl
 have hb:((s[0].toNat:Int) == 45)=true:=by
  rw [beq_iff_eq];refine (byte_is s[0] 45).mpr ?_;unfold negOf at hn;rw [List.head?_eq_getElem?,List.getElem?_eq_getElem (by omega),beq_iff_eq,Option.some_inj] at hn;rw [← hn];simp;(try rfl)
 have HS:=fun j n h=>@parse_stop s.data.toList hf j n h lo hi
 have HW:=fun j n h hj=>@parse_whole s.data.toList hf j n h hj lo hi
 have H0:=sd (PInv.start (negOf s.data.toList) (s.data.toList.drop 1));rw [hm] at HS HW;rw [hn] at HS HW H0;have HS:=sd HS;have HW:=sd HW;have HFc:=sd hF
 have HD:∀ j,(h:j+1 < s.size)→isDig s[j+1]=true:=fun j h=>by
  rw [← hat j h (by rw [List.length_drop];omega)];exact List.all_eq_true.mp hdg _ (List.getElem_mem _)
 have HD:=sd HD;have HA:=sd hat;have HZ:=sd hsz;clear hf hn hF hm hne hdg hat hsz;generalize hP:(fun e w'=>e=Ending.returned (.tuple #[.int .i64 (parseL s.data.toList lo hi).1,.int .i64 (parseL s.data.toList lo hi).2])∧Drawn0 w w')=Post;have HP:=sd hP;clear hP;go_enter Tryz.func82,Tryz.ntmps82
 go_wp2_with fail
 refine (HFc.out _).mono ?_;rintro e w1 ⟨rfl,hd1⟩;obtain ⟨⟨n1,rfl⟩⟩:=hd1;go_wp2_with fail
 go_loopw [6,9,10] (fun n_ at_ ok_ wr=>∃ (p:Nat) (n:Int) (ok:Bool),p+1≤s.size∧n_=.int .i64 n∧at_=.int .i64 ((p:Int)+1)∧ok_=.bool ok∧Aside0 (PInv true (s.data.toList.drop 1) p n ok)∧Drawn0 w wr) (fun _ at_ _ _=>(s.size - (RowKit.intOf at_).toNat))
 case atStart=>exact ⟨0,0,true,by omega,rfl,rfl,rfl,H0,(Drawn0.refl _).step _⟩
 case round =>
  obtain ⟨p,n,ok,hp,rfl,rfl,rfl,HI,HDr⟩:=hrel;rename World=>wr
  cases ok
  ·have hr:=HS.out _ _ HI.out;have HR:=sd hr;clear hr;by_cases hlt:p+1 < s.size
   ·go_wp2_with fail
    rw [← HP.out];exact ⟨by rw [HR.out];(try rfl),HDr⟩
   go_wp2_with fail
   rw [← HP.out];exact ⟨by rw [HR.out];(try rfl),HDr⟩
  ·by_cases hlt:p+1 < s.size
   ·have hd:=(isDig_iff _).mp (HD.out p hlt);obtain ⟨hd1,hd2⟩:=hd;have hj:p < (s.data.toList.drop 1).length:=by rw [List.length_drop,← HZ.out];omega
    have HJ:=sd hj;clear hj;have hI:=(slot_ok HI.out).2;have hM:num_Mul.f n 10=some (fit (n * 10)):=by unfold num_Mul.f;rw [if_pos ⟨hI,by unfold I64;omega⟩]
    have hIn:-9223372036854775808≤n∧n≤9223372036854775807:=hI;obtain ⟨hIn1,hIn2⟩:=hIn;clear hI;by_cases hm:I64 (n * 10)
    ·rw [fit_yes hm] at hM;have hA:=num_Sub_eq (n * 10) ((s[p+1].toNat:Int) - 48) hm (by unfold I64;omega);have hN:=PInv.next HI.out HJ.out (by rw [HA.out p hlt HJ.out];exact HD.out p hlt) (x:=n * 10 - ((s[p+1].toNat:Int) - 48)) (by rw [HA.out p hlt HJ.out];rfl);generalize fit (n * 10 - ((s[p+1].toNat:Int) - 48))=q at hA hN;obtain ⟨q1,q2⟩:=q;have HM:=sd hM;have HAd:=sd hA;have HN:=sd hN;have hm':-9223372036854775808≤n * 10∧n * 10≤9223372036854775807:=hm;obtain ⟨hm1,hm2⟩:=hm';clear hM hA hN hm;go_wp2_with fail
     refine (num_Mul.calls _ _ _ _ _ HM.out).mono ?_;rintro e w1 ⟨rfl,hd3⟩;obtain ⟨⟨n3,rfl⟩⟩:=hd3;go_wp2_with fail
     refine (num_Sub.calls _ _ _ _ _ HAd.out).mono ?_;rintro e w1 ⟨rfl,hd4⟩;obtain ⟨⟨n4,rfl⟩⟩:=hd4;go_wp2_with fail
     go_roundw
     case rel=>exact ⟨p+1,q1,q2,by omega,rfl,by go_num,rfl,HN,HDr.step _⟩
     case measure=>simp [RowKit.intOf];omega
    rw [fit_no hm] at hM;have hN:=PInv.over HI.out HJ.out hm;have HM:=sd hM;have HN:=sd hN;clear hM hN hm;go_wp2_with fail
    refine (num_Mul.calls _ _ _ _ _ HM.out).mono ?_;rintro e w1 ⟨rfl,hd3⟩;obtain ⟨⟨n3,rfl⟩⟩:=hd3;go_wp2_with fail
    go_roundw
    case rel=>exact ⟨p+1,0,false,by omega,rfl,by go_num,rfl,HN,HDr.step _⟩
    case measure=>simp [RowKit.intOf];omega
   have hr:=HW.out _ _ HI.out (by rw [List.length_drop,← HZ.out];omega);have HR:=sd hr;clear hr;by_cases h1:n < lo
   ·go_wp2_with fail
    rw [← HP.out];exact ⟨zq19,HDr⟩
   by_cases h2:hi < n
   ·go_wp2_with fail
    rw [← HP.out];exact ⟨zq19,HDr⟩
   go_wp2_with fail
   rw [← HP.out];exact ⟨by rw [HR.out,if_neg (by omega)];(try rfl),HDr⟩
theorem rf01_Parse.calls (k:Nat) (a0:ByteArray) (a1 a2 r1 r2:Int) (w:World) (h:rf01_Parse.f k a0 a1 a2=some (r1,r2)) :
  Calls Tryz.prog 45 #[.string a0,.int .i64 a1,.int .i64 a2] w fun e w'=>e=.returned (.tuple #[.int .i64 r1,.int .i64 r2])∧Drawn0 w w':=by
 have H:=h;clear h;unfold rf01_Parse.f at H;have HC4:=sd H;clear H;go_enter Tryz.func45,Tryz.ntmps45
 go_upto_region 2 with (fail)
 go_cut [9] (fun v9 wc=>∃ (kq:Nat) (x9_3:Bool),v9=.bool x9_3∧Aside0 (rf01_Parse.j0 kq a0 a1 a2 a0 x9_3=some (r1,r2))∧Aside0 (kq≤k)∧Drawn0 w wc)
 case first =>
  have H:=HC4.out;clear HC4;replace H:=ifI H;rcases H with ⟨c5,H⟩|⟨c5,H⟩
  ·obtain ⟨c5b0,c5b1⟩:=eqI c5;clear c5;(first|rw [c5b0]|(simp only [i64_w,i32_w];rw [c5b0])|skip)
   have H':=sd H;clear H;go_wp2
   go_meet
   case rel=>exact ⟨_,(false),zq7,H',⟨by first|omega|exact Nat.le_refl _⟩,zq16⟩
  obtain ⟨c5b0,c5b1⟩:=neI c5;(first|rw [c5b0]|(simp only [i64_w,i32_w];rw [c5b0])|skip)
  replace H:=ifI H;rcases H with ⟨c6,H⟩|⟨c6,H⟩
  ·have c6b0:decide (0 < (a0.size:Int))=true:=decide_eq_true c6;have c6b1:decide (0 < a0.size)=true:=decide_eq_true (by omega);clear c6;have H':=sd H;clear H;have p7:0≤(0:Int):=(by omega)
   have q7:0 < a0.size:=(by have:(0:Int) < (a0.size:Int):=od;omega)
   have hx7:∀ h:0 < a0.size,((a0[0]'h).toNat:Int)=bt a0 0:=bt_at a0 0;clear p7;have qi7:(0 < (a0.size:Int))=True:=eq_true (od);replace q7:=eq_true q7;go_wp2
   go_meet
   case rel=>exact ⟨_,(((bt a0 0) == 45)),zq7,H',⟨by first|omega|exact Nat.le_refl _⟩,zq16⟩
  exact absurd H (by simp)
 case rest =>
  clear HC4;try clear p2
  obtain ⟨kq,x9_3,rfl,HA,HJ3,⟨mc3,rfl⟩⟩:=hcut
  cases kq with
 |zero=>exact absurd HA.out (by simp [rf01_Parse.j0])
 |succ kj3 =>
   have H:=HA.out;clear HA;simp only [rf01_Parse.j0] at H
   have HC8:=sd H;clear H;go_upto_if 23 with (fail)
   go_cut [8] (fun v8 wc=>∃ (kq:Nat) (x8_7:ByteArray),v8=.string x8_7∧Aside0 (rf01_Parse.j1 kq a1 a2 x8_7 x9_3=some (r1,r2))∧Aside0 (kq≤kj3)∧Drawn0 w wc)
   case first =>
    have H:=HC8.out;clear HC8;by_cases c9:x9_3=true
    ·subst c9;rw [if_pos rfl] at H;replace H:=ifI H;rcases H with ⟨c10,H⟩|⟨c10,H⟩
     ·have c10b0:=eq_true c10;have c10b1:decide (1≤(a0.size:Int))=true:=decide_eq_true c10;clear c10;have H':=sd H;clear H;go_wp2
      go_meet
      case rel=>exact ⟨_,(a0.extract 1 a0.size),zq7,H',⟨by have:=HJ3.out;first|omega|exact Nat.le_refl _⟩,zq16⟩
     exact absurd H (by simp)
    replace c9:=Bool.eq_false_iff.mpr c9;subst c9;rw [if_neg Bool.false_ne_true] at H;have H':=sd H;clear H;go_wp2
    go_meet
    case rel=>exact ⟨_,(a0),zq7,H',⟨by have:=HJ3.out;first|omega|exact Nat.le_refl _⟩,zq16⟩
   case rest =>
    clear HC8;try clear c1
    obtain ⟨kq,x8_7,rfl,HA,HJ7,⟨mc7,rfl⟩⟩:=hcut
    cases kq with
   |zero=>exact absurd HA.out (by simp [rf01_Parse.j1])
   |succ kj7 =>
     have H:=HA.out;clear HA;simp only [rf01_Parse.j1] at H
     have HC11:=sd H;clear H;go_upto_region 5 with (fail)
     go_cut [41] (fun v41 wc=>∃ (kq:Nat) (x41_10:Bool),v41=.bool x41_10∧Aside0 (rf01_Parse.j2 kq a1 a2 x8_7 x9_3 x41_10=some (r1,r2))∧Aside0 (kq≤kj7)∧Drawn0 w wc)
     case first =>
      have H:=HC11.out;clear HC11;replace H:=bdI H;obtain ⟨t467,A12,H⟩:=H;(try dsimp only at H)
      by_cases c13:t467=true
      ·subst c13;rw [if_pos rfl] at H;replace H:=ifI H;rcases H with ⟨c14,H⟩|⟨c14,H⟩
       ·have c14b0:decide (0 < (x8_7.size:Int))=true:=decide_eq_true c14;have c14b1:decide (0 < x8_7.size)=true:=decide_eq_true (by omega);clear c14;(first|rw [c14b0]|(simp only [i64_w,i32_w];rw [c14b0])|skip)
        replace H:=ifI H;rcases H with ⟨c16,H⟩|⟨c16,H⟩
        ·obtain ⟨c16b0,c16b1⟩:=eqI c16;clear c16;replace H:=ifI H;rcases H with ⟨c17,H⟩|⟨c17,H⟩
         ·have c17b0:decide (1 < (x8_7.size:Int))=true:=decide_eq_true c17;have c17b1:decide (1 < x8_7.size)=true:=decide_eq_true (by omega);clear c17;have H':=sd H;clear H;go_wp2_with (first|((with_reducible refine gate_callee (f:=90) rfl ?_);refine gL 27 Tryz.func90 #[.string x8_7] ?_;(with_reducible refine (rf01_Digits.calls kj7 x8_7 true _ A12.out).mono ?_);rintro e w' ⟨rfl,⟨nd,rfl⟩⟩;refine ⟨_,rfl,?_⟩;have p15:0≤(0:Int):=(by omega);have q15:0 < x8_7.size:=(by have:(0:Int) < (x8_7.size:Int):=od;omega);have hx15:∀ h:0 < x8_7.size,((x8_7[0]'h).toNat:Int)=bt x8_7 0:=bt_at x8_7 0;clear p15;have qi15:(0 < (x8_7.size:Int))=True:=eq_true (od);replace q15:=eq_true q15))
          go_meet
          case rel=>exact ⟨_,(true),zq7,H',⟨zq91⟩,zq16⟩
         have c17b0:decide (1 < (x8_7.size:Int))=false:=decide_eq_false c17;have c17b1:decide (1 < x8_7.size)=false:=decide_eq_false (by omega);clear c17;have H':=sd H;clear H;go_wp2_with (first|((with_reducible refine gate_callee (f:=90) rfl ?_);refine gL 27 Tryz.func90 #[.string x8_7] ?_;(with_reducible refine (rf01_Digits.calls kj7 x8_7 true _ A12.out).mono ?_);rintro e w' ⟨rfl,⟨nd,rfl⟩⟩;refine ⟨_,rfl,?_⟩;have p15:0≤(0:Int):=(by omega);have q15:0 < x8_7.size:=(by have:(0:Int) < (x8_7.size:Int):=od;omega);have hx15:∀ h:0 < x8_7.size,((x8_7[0]'h).toNat:Int)=bt x8_7 0:=bt_at x8_7 0;clear p15;have qi15:(0 < (x8_7.size:Int))=True:=eq_true (od);replace q15:=eq_true q15))
         go_meet
         case rel=>exact ⟨_,(x9_3),zq7,H',⟨zq91⟩,zq16⟩
        obtain ⟨c16b0,c16b1⟩:=neI c16;have H':=sd H;clear H;go_wp2_with (first|((with_reducible refine gate_callee (f:=90) rfl ?_);refine gL 27 Tryz.func90 #[.string x8_7] ?_;(with_reducible refine (rf01_Digits.calls kj7 x8_7 true _ A12.out).mono ?_);rintro e w' ⟨rfl,⟨nd,rfl⟩⟩;refine ⟨_,rfl,?_⟩;have p15:0≤(0:Int):=(by omega);have q15:0 < x8_7.size:=(by have:(0:Int) < (x8_7.size:Int):=od;omega);have hx15:∀ h:0 < x8_7.size,((x8_7[0]'h).toNat:Int)=bt x8_7 0:=bt_at x8_7 0;clear p15;have qi15:(0 < (x8_7.size:Int))=True:=eq_true (od);replace q15:=eq_true q15))
        go_meet
        case rel=>exact ⟨_,(false),zq7,H',⟨zq91⟩,zq16⟩
       exact absurd H (by simp)
      replace c13:=Bool.eq_false_iff.mpr c13;subst c13;rw [if_neg Bool.false_ne_true] at H;have H':=sd H;clear H;go_wp2_with (first|((with_reducible refine gate_callee (f:=90) rfl ?_);refine gL 27 Tryz.func90 #[.string x8_7] ?_;(with_reducible refine (rf01_Digits.calls kj7 x8_7 false _ A12.out).mono ?_);rintro e w' ⟨rfl,⟨nd,rfl⟩⟩;refine ⟨_,rfl,?_⟩))
      go_meet
      case rel=>exact ⟨_,(true),zq7,H',⟨zq91⟩,zq16⟩
     case rest =>
      clear HC11;try clear c1
      obtain ⟨kq,x41_10,rfl,HA,HJ10,⟨mc10,rfl⟩⟩:=hcut
      cases kq with
     |zero=>exact absurd HA.out (by simp [rf01_Parse.j2])
     |succ kj10 =>
       have H:=HA.out;clear HA;simp only [rf01_Parse.j2] at H
       by_cases c18:x41_10=true
       ·subst c18;rw [if_pos rfl] at H;simp only [Option.some.injEq,Prod.mk.injEq] at H
        obtain ⟨rfl,rfl⟩:=H;go_wp2
        go_ret2
        exact ⟨zq7,zq16⟩
       replace c18:=Bool.eq_false_iff.mpr c18;subst c18;rw [if_neg Bool.false_ne_true] at H;have H':=sd H;clear H;go_wp2
       go_loopg [10,11] kj10 (fun kq v10 v11 w'=>∃ (x10_4:Int) (x11_4:Int),v10=.int .i64 x10_4∧v11=.int .i64 x11_4∧Aside0 (rf01_Parse.l0 kq a1 a2 x8_7 x9_3 x10_4 x11_4=some (r1,r2))∧Aside0 (kq≤kj10)∧Drawn0 w w')
       case atStart=>exact ⟨(0),(0),zq7,zq7,H',⟨Nat.le_refl _⟩,zq16⟩
       case round =>
        clear H';try clear c1
        obtain ⟨x10_4,x11_4,rfl,rfl,HA,HK4,⟨m4,rfl⟩⟩:=hrel
        cases gk with
       |zero=>exact absurd HA.out (by simp [rf01_Parse.l0])
       |succ k4 =>
         have H:=HA.out;clear HA;simp only [rf01_Parse.l0] at H
         replace H:=ifI H;rcases H with ⟨c19,H⟩|⟨c19,H⟩
         ·have c19b0:decide (x11_4 < (x8_7.size:Int))=true:=decide_eq_true c19;clear c19;replace H:=bdI H;obtain ⟨⟨t468,t469⟩,A20,H⟩:=H;(try dsimp only at H)
          by_cases c21:t469=true
          ·subst c21;rw [if_pos rfl] at H;replace H:=ifI H;rcases H with ⟨c22,H⟩|⟨c22,H⟩
           ·have c22b0:decide (0≤x11_4)=true:=decide_eq_true c22;clear c22;by_cases c24:x9_3=true
            ·subst c24;rw [if_pos rfl] at H;replace H:=bdI H;obtain ⟨⟨t470,t471⟩,A25,H⟩:=H;(try dsimp only at H)
             by_cases c26:t471=true
             ·subst c26;rw [if_pos rfl] at H;have H':=sd H;clear H;go_wp2_with (first|((with_reducible refine gate_callee (f:=91) rfl ?_);refine gL 50 Tryz.func91 #[.int .i64 x10_4,.int .i64 10] ?_;(with_reducible refine (rf01_Mul.calls k4 x10_4 10 t468 true _ A20.out).mono ?_);rintro e w' ⟨rfl,⟨nd,rfl⟩⟩;refine ⟨_,rfl,?_⟩;have p23:0≤(x11_4:Int):=od;have q23:x11_4 < (x8_7.size:Int):=od;have hx23:=bt_at x8_7 x11_4;replace p23:=eq_true p23;replace q23:=eq_true q23)|((with_reducible refine gate_callee (f:=92) rfl ?_);refine gL 66 Tryz.func92 #[.int .i64 t468,.int .i64 (-(((bt x8_7 x11_4) - 48) % 256))] ?_;(with_reducible refine (rf01_Add.calls t468 (-(((bt x8_7 x11_4) - 48) % 256)) t470 true _ A25.out).mono ?_);rintro e w' ⟨rfl,⟨nd,rfl⟩⟩;refine ⟨_,rfl,?_⟩))
              go_roundg k4
              case measure=>have:=HJ3.out;have:=HJ7.out;have:=HJ10.out;have:=HK4.out;omega
              case rel=>exact ⟨(t470),(wrap64 (x11_4+1)),zq7,zq7,H',⟨by have:=HJ3.out;have:=HJ7.out;have:=HJ10.out;have:=HK4.out;omega⟩,zq16⟩
             replace c26:=Bool.eq_false_iff.mpr c26;subst c26;rw [if_neg Bool.false_ne_true] at H;simp only [Option.some.injEq,Prod.mk.injEq] at H
             obtain ⟨rfl,rfl⟩:=H;go_wp2_with (first|((with_reducible refine gate_callee (f:=91) rfl ?_);refine gL 50 Tryz.func91 #[.int .i64 x10_4,.int .i64 10] ?_;(with_reducible refine (rf01_Mul.calls k4 x10_4 10 t468 true _ A20.out).mono ?_);rintro e w' ⟨rfl,⟨nd,rfl⟩⟩;refine ⟨_,rfl,?_⟩;have p23:0≤(x11_4:Int):=od;have q23:x11_4 < (x8_7.size:Int):=od;have hx23:=bt_at x8_7 x11_4;replace p23:=eq_true p23;replace q23:=eq_true q23)|((with_reducible refine gate_callee (f:=92) rfl ?_);refine gL 66 Tryz.func92 #[.int .i64 t468,.int .i64 (-(((bt x8_7 x11_4) - 48) % 256))] ?_;(with_reducible refine (rf01_Add.calls t468 (-(((bt x8_7 x11_4) - 48) % 256)) t470 false _ A25.out).mono ?_);rintro e w' ⟨rfl,⟨nd,rfl⟩⟩;refine ⟨_,rfl,?_⟩))
             go_ret2
             exact ⟨zq7,zq16⟩
            replace c24:=Bool.eq_false_iff.mpr c24;subst c24;rw [if_neg Bool.false_ne_true] at H;replace H:=bdI H;obtain ⟨⟨t472,t473⟩,A27,H⟩:=H;(try dsimp only at H)
            by_cases c28:t473=true
            ·subst c28;rw [if_pos rfl] at H;have H':=sd H;clear H;go_wp2_with (first|((with_reducible refine gate_callee (f:=91) rfl ?_);refine gL 50 Tryz.func91 #[.int .i64 x10_4,.int .i64 10] ?_;(with_reducible refine (rf01_Mul.calls k4 x10_4 10 t468 true _ A20.out).mono ?_);rintro e w' ⟨rfl,⟨nd,rfl⟩⟩;refine ⟨_,rfl,?_⟩;have p23:0≤(x11_4:Int):=od;have q23:x11_4 < (x8_7.size:Int):=od;have hx23:=bt_at x8_7 x11_4;replace p23:=eq_true p23;replace q23:=eq_true q23)|((with_reducible refine gate_callee (f:=92) rfl ?_);refine gL 66 Tryz.func92 #[.int .i64 t468,.int .i64 (((bt x8_7 x11_4) - 48) % 256)] ?_;(with_reducible refine (rf01_Add.calls t468 (((bt x8_7 x11_4) - 48) % 256) t472 true _ A27.out).mono ?_);rintro e w' ⟨rfl,⟨nd,rfl⟩⟩;refine ⟨_,rfl,?_⟩))
             go_roundg k4
             case measure=>have:=HJ3.out;have:=HJ7.out;have:=HJ10.out;have:=HK4.out;omega
             case rel=>exact ⟨(t472),(wrap64 (x11_4+1)),zq7,zq7,H',⟨by have:=HJ3.out;have:=HJ7.out;have:=HJ10.out;have:=HK4.out;omega⟩,zq16⟩
            replace c28:=Bool.eq_false_iff.mpr c28;subst c28;rw [if_neg Bool.false_ne_true] at H;simp only [Option.some.injEq,Prod.mk.injEq] at H
            obtain ⟨rfl,rfl⟩:=H;go_wp2_with (first|((with_reducible refine gate_callee (f:=91) rfl ?_);refine gL 50 Tryz.func91 #[.int .i64 x10_4,.int .i64 10] ?_;(with_reducible refine (rf01_Mul.calls k4 x10_4 10 t468 true _ A20.out).mono ?_);rintro e w' ⟨rfl,⟨nd,rfl⟩⟩;refine ⟨_,rfl,?_⟩;have p23:0≤(x11_4:Int):=od;have q23:x11_4 < (x8_7.size:Int):=od;have hx23:=bt_at x8_7 x11_4;replace p23:=eq_true p23;replace q23:=eq_true q23)|((with_reducible refine gate_callee (f:=92) rfl ?_);refine gL 66 Tryz.func92 #[.int .i64 t468,.int .i64 (((bt x8_7 x11_4) - 48) % 256)] ?_;(with_reducible refine (rf01_Add.calls t468 (((bt x8_7 x11_4) - 48) % 256) t472 false _ A27.out).mono ?_);rintro e w' ⟨rfl,⟨nd,rfl⟩⟩;refine ⟨_,rfl,?_⟩))
            go_ret2
            exact ⟨zq7,zq16⟩
           exact absurd H (by simp)
          replace c21:=Bool.eq_false_iff.mpr c21;subst c21;rw [if_neg Bool.false_ne_true] at H;simp only [Option.some.injEq,Prod.mk.injEq] at H
          obtain ⟨rfl,rfl⟩:=H;go_wp2_with (first|((with_reducible refine gate_callee (f:=91) rfl ?_);refine gL 50 Tryz.func91 #[.int .i64 x10_4,.int .i64 10] ?_;(with_reducible refine (rf01_Mul.calls k4 x10_4 10 t468 false _ A20.out).mono ?_);rintro e w' ⟨rfl,⟨nd,rfl⟩⟩;refine ⟨_,rfl,?_⟩))
          go_ret2
          exact ⟨zq7,zq16⟩
         have c19b0:decide (x11_4 < (x8_7.size:Int))=false:=decide_eq_false c19;clear c19;replace H:=ifI H;rcases H with ⟨c29,H⟩|⟨c29,H⟩
         ·have c29b0:decide (x10_4 < a1)=true:=decide_eq_true c29;clear c29;simp only [Option.some.injEq,Prod.mk.injEq] at H
          obtain ⟨rfl,rfl⟩:=H;go_wp2
          go_ret2
          exact ⟨zq7,zq16⟩
         have c29b0:decide (x10_4 < a1)=false:=decide_eq_false c29;clear c29;replace H:=ifI H;rcases H with ⟨c30,H⟩|⟨c30,H⟩
         ·have c30b0:decide (a2 < x10_4)=true:=decide_eq_true c30;clear c30;simp only [Option.some.injEq,Prod.mk.injEq] at H
          obtain ⟨rfl,rfl⟩:=H;go_wp2
          go_ret2
          exact ⟨zq7,zq16⟩
         have c30b0:decide (a2 < x10_4)=false:=decide_eq_false c30;clear c30;simp only [Option.some.injEq,Prod.mk.injEq] at H
         obtain ⟨rfl,rfl⟩:=H;go_wp2
         go_ret2
         exact ⟨zq7,zq16⟩
end A
namespace A
open Go.RowKit B WW WL WM
attribute [local go_sem] max2_int min2_int max_two min_two max_three min_three max_four min_four
set_option maxHeartbeats 8000000
set_option maxRecDepth 100000
attribute [local go_sem high] eqA50
theorem rf48_Check.calls (k:Nat) (a0_0:ByteArray) (A0_1:Option Addr) (c0_1:Nat) (l0_1:List (S48)) (a0_2 a0_3:ByteArray) (A0_4:Option Addr) (c0_4:Nat) (l0_4:List (S50)) (r:Int) (w:World) (hr0_1:Kd.C k48 w A0_1 l0_1.length l0_1) (hc0_1:l0_1.length≤c0_1) (hr0_4:Kd.C k50 w A0_4 l0_4.length l0_4) (hc0_4:l0_4.length≤c0_4) (h:rf48_Check.f k a0_0 l0_1 a0_2 a0_3 l0_4=some r) :
  Calls Tryz.prog 10 #[.agg #[.string a0_0,.slice A0_1 l0_1.length c0_1,.string a0_2,.string a0_3,.slice A0_4 l0_4.length c0_4]] w fun e w'=>e=.returned (.int .i64 r)∧Below w.heap.size w w':=by
 have hu25:=Tryz.underlying25;have hu48:=Tryz.underlying48;have HR0_1:=sd hr0_1;have HC0_1:=sd hc0_1;clear hr0_1 hc0_1;have HR0_4:=sd hr0_4;have HC0_4:=sd hc0_4;clear hr0_4 hc0_4;have HB:=sd (Below.refl w.heap.size w);have H:=h;clear h;unfold rf48_Check.f at H;have HC2:=sd H;clear H;go_enter Tryz.func10,Tryz.ntmps10
 go_upto_region 1 with (first|((with_reducible refine gate_dst (N:=1) rfl ?_);refine bxA 1 #[.string a0_0,.slice A0_1 l0_1.length c0_1,.string a0_2,.string a0_3,.slice A0_4 l0_4.length c0_4] 25 ?_;intro gb149 hg w3 hbox hb;have BK149:=sd (hbox);have GW149:=gem hg HB;have GE149:=GW149;replace HB:=hbm HB hb;clear hb hbox hg))
 (try simp only [Act.put,List.setIfInBounds_toArray,List.set_cons_zero,List.set_cons_succ])
 go_cut [25] (fun v25 wc=>∃ (kq:Nat) (x25_1:Bool),v25=.bool x25_1∧Aside0 (rf48_Check.j0 kq x25_1 a0_0 l0_1 a0_2 a0_3 l0_4=some r)∧Aside0 (kq≤k)∧Aside0 (wc.heap[gb149]?=some (.cells #[.string a0_0,(.slice A0_1 l0_1.length c0_1),.string a0_2,.string a0_3,(.slice A0_4 l0_4.length c0_4)] 25 (0,0)))∧Aside0 (Below w.heap.size w wc))
 case first =>
  have H:=HC2.out;clear HC2;replace H:=bdI H;obtain ⟨t150,A4,H⟩:=H;(try dsimp only at H)
  by_cases c5:t150=true
  ·subst c5;rw [if_pos rfl] at H;replace H:=bdI H;obtain ⟨t151,A6,H⟩:=H;(try dsimp only at H)
   by_cases c7:t151=true
   ·subst c7;rw [if_pos rfl] at H;replace H:=ifI H;rcases H with ⟨c8,H⟩|⟨c8,H⟩
    ·obtain ⟨c8b0,c8b1⟩:=eqI c8;clear c8;(first|rw [c8b0]|(simp only [i64_w,i32_w];rw [c8b0])|skip)
     have H':=sd H;clear H;obtain ⟨_,_,_,_,_,_,_,_,_,_⟩:=bk5 BK149;go_wp2_with (first|((with_reducible refine gate_callee (f:=24) rfl ?_);refine gL 7 Tryz.func24 #[.string a0_0] ?_;(with_reducible refine (rf06_Code.calls k a0_0 true _ A4.out).mono ?_);rintro e w' ⟨rfl,⟨nd,rfl⟩⟩;refine ⟨_,rfl,?_⟩)|(go_at_call 24;(with_reducible refine (rf06_Code.calls k a0_2 true _ A6.out).mono ?_);rintro e w' ⟨rfl,⟨nd,rfl⟩⟩))
     go_meet
     case rel=>exact ⟨_,(false),zq7,H',⟨by first|omega|exact Nat.le_refl _⟩,⟨zq38⟩,⟨zq39⟩⟩
    obtain ⟨c8b0,c8b1⟩:=neI c8;(first|rw [c8b0]|(simp only [i64_w,i32_w];rw [c8b0])|skip)
    replace H:=bdI H;obtain ⟨t152,A10,H⟩:=H;(try dsimp only at H)
    have H':=sd H;clear H;obtain ⟨_,_,_,_,_,_,_,_,_,_⟩:=bk5 BK149;go_wp2_with (first|((with_reducible refine gate_callee (f:=24) rfl ?_);refine gL 7 Tryz.func24 #[.string a0_0] ?_;(with_reducible refine (rf06_Code.calls k a0_0 true _ A4.out).mono ?_);rintro e w' ⟨rfl,⟨nd,rfl⟩⟩;refine ⟨_,rfl,?_⟩)|(go_at_call 24;(with_reducible refine (rf06_Code.calls k a0_2 true _ A6.out).mono ?_);rintro e w' ⟨rfl,⟨nd,rfl⟩⟩)|(go_at_call 24;(with_reducible refine (rf06_Code.calls k a0_3 t152 _ A10.out).mono ?_);rintro e w' ⟨rfl,⟨nd,rfl⟩⟩))
    go_meet
    case rel=>exact ⟨_,(!t152),zq7,H',⟨by first|omega|exact Nat.le_refl _⟩,⟨zq38⟩,⟨zq39⟩⟩
   replace c7:=Bool.eq_false_iff.mpr c7;subst c7;rw [if_neg Bool.false_ne_true] at H;have H':=sd H;clear H;obtain ⟨_,_,_,_,_,_,_,_,_,_⟩:=bk5 BK149;go_wp2_with (first|((with_reducible refine gate_callee (f:=24) rfl ?_);refine gL 7 Tryz.func24 #[.string a0_0] ?_;(with_reducible refine (rf06_Code.calls k a0_0 true _ A4.out).mono ?_);rintro e w' ⟨rfl,⟨nd,rfl⟩⟩;refine ⟨_,rfl,?_⟩)|(go_at_call 24;(with_reducible refine (rf06_Code.calls k a0_2 false _ A6.out).mono ?_);rintro e w' ⟨rfl,⟨nd,rfl⟩⟩))
   go_meet
   case rel=>exact ⟨_,(true),zq7,H',⟨by first|omega|exact Nat.le_refl _⟩,⟨zq38⟩,⟨zq39⟩⟩
  replace c5:=Bool.eq_false_iff.mpr c5;subst c5;rw [if_neg Bool.false_ne_true] at H;have H':=sd H;clear H;obtain ⟨_,_,_,_,_,_,_,_,_,_⟩:=bk5 BK149;go_wp2_with (first|((with_reducible refine gate_callee (f:=24) rfl ?_);refine gL 7 Tryz.func24 #[.string a0_0] ?_;(with_reducible refine (rf06_Code.calls k a0_0 false _ A4.out).mono ?_);rintro e w' ⟨rfl,⟨nd,rfl⟩⟩;refine ⟨_,rfl,?_⟩))
  go_meet
  case rel=>exact ⟨_,(true),zq7,H',⟨by first|omega|exact Nat.le_refl _⟩,⟨zq38⟩,⟨zq39⟩⟩
 case rest =>
  clear HC2;try clear c1
  obtain ⟨kq,x25_1,rfl,HA,HJ1,BK149,HB⟩:=hcut
  cases kq with
 |zero=>exact absurd HA.out (by simp [rf48_Check.j0])
 |succ kj1 =>
   have H:=HA.out;clear HA;simp only [rf48_Check.j0] at H
   by_cases c14:x25_1=true
   ·subst c14;rw [if_pos rfl] at H;obtain rfl:=Option.some.inj H;go_wp2
    go_ret
    exact ⟨zq4,zq39⟩
   replace c14:=Bool.eq_false_iff.mpr c14;subst c14;rw [if_neg Bool.false_ne_true] at H;replace H:=bdI H;obtain ⟨t153,A15,H⟩:=H;(try dsimp only at H)
   by_cases c16:t153=true
   ·subst c16;rw [if_pos rfl] at H;replace H:=ifI H;rcases H with ⟨c17,H⟩|⟨c17,H⟩
    ·obtain ⟨c17b0,c17b1⟩:=eqI c17;clear c17;obtain rfl:=Option.some.inj H;obtain ⟨_,_,_,_,_,_,_,_,_,_⟩:=bk5 BK149;go_wp2_with (first|((with_reducible refine gate_callee (f:=25) rfl ?_);refine gL 28 Tryz.func25 #[.slice A0_4 l0_4.length c0_4] ?_;(with_reducible refine (rf09_Right.calls kj1 _ _ l0_4 true _ ?side1 ?side2 A15.out).mono ?_);(case side1=>exact zq40);(case side2=>exact HC0_4.out);rintro e w19 ⟨rfl,hb⟩;refine ⟨_,rfl,?_⟩;replace BK149:=bkm BK149 hb;replace HB:=hbm HB hb;clear hb;obtain ⟨_,_,_,_,_,_,_,_,_,_⟩:=bk5 BK149))
     go_ret
     exact ⟨zq4,zq39⟩
    obtain ⟨c17b0,c17b1⟩:=neI c17;have c17b2:¬ (l0_1=[]):=fun h_=>c17 (by rw [h_];rfl)
    replace H:=ifI H;rcases H with ⟨c21,H⟩|⟨c21,H⟩
    ·have c21b0:decide (8 < (l0_1.length:Int))=true:=decide_eq_true c21;have c21b1:decide (8 < l0_1.length)=true:=decide_eq_true (by omega);clear c21;obtain rfl:=Option.some.inj H;obtain ⟨_,_,_,_,_,_,_,_,_,_⟩:=bk5 BK149;go_wp2_with (first|((with_reducible refine gate_callee (f:=25) rfl ?_);refine gL 28 Tryz.func25 #[.slice A0_4 l0_4.length c0_4] ?_;(with_reducible refine (rf09_Right.calls kj1 _ _ l0_4 true _ ?side1 ?side2 A15.out).mono ?_);(case side1=>exact zq40);(case side2=>exact HC0_4.out);rintro e w23 ⟨rfl,hb⟩;refine ⟨_,rfl,?_⟩;replace BK149:=bkm BK149 hb;replace HB:=hbm HB hb;clear hb;obtain ⟨_,_,_,_,_,_,_,_,_,_⟩:=bk5 BK149))
     go_ret
     exact ⟨zq4,zq39⟩
    have c21b0:decide (8 < (l0_1.length:Int))=false:=decide_eq_false c21;have c21b1:decide (8 < l0_1.length)=false:=decide_eq_false (by omega);clear c21;have H':=sd H;clear H;obtain ⟨_,_,_,_,_,_,_,_,_,_⟩:=bk5 BK149;go_wp2_with (first|((with_reducible refine gate_callee (f:=25) rfl ?_);refine gL 28 Tryz.func25 #[.slice A0_4 l0_4.length c0_4] ?_;(with_reducible refine (rf09_Right.calls kj1 _ _ l0_4 true _ ?side1 ?side2 A15.out).mono ?_);(case side1=>exact zq40);(case side2=>exact HC0_4.out);rintro e w26 ⟨rfl,hb⟩;refine ⟨_,rfl,?_⟩;replace BK149:=bkm BK149 hb;replace HB:=hbm HB hb;clear hb;obtain ⟨_,_,_,_,_,_,_,_,_,_⟩:=bk5 BK149))
    go_loopg [3] kj1 (fun kq v3 w'=>∃ (x3_2:Int),v3=.int .i64 x3_2∧Aside0 (rf48_Check.l0 kq x3_2 a0_0 l0_1 a0_2 a0_3 l0_4=some r)∧Aside0 (kq≤kj1)∧Aside0 (w'.heap[gb149]?=some (.cells #[.string a0_0,(.slice A0_1 l0_1.length c0_1),.string a0_2,.string a0_3,(.slice A0_4 l0_4.length c0_4)] 25 (0,0)))∧Aside0 (Below w.heap.size w w'))
    case atStart=>exact ⟨(0),zq7,H',⟨Nat.le_refl _⟩,⟨zq38⟩,⟨zq39⟩⟩
    case round =>
     clear H';try clear c1
     obtain ⟨x3_2,rfl,HA,HK2,BK149,HB⟩:=hrel
     cases gk with
    |zero=>exact absurd HA.out (by simp [rf48_Check.l0])
    |succ k2 =>
      have H:=HA.out;clear HA;simp only [rf48_Check.l0] at H
      replace H:=ifI H;rcases H with ⟨c28,H⟩|⟨c28,H⟩
      ·have c28b0:decide (x3_2 < (l0_1.length:Int))=true:=decide_eq_true c28;clear c28;replace H:=ifI H;rcases H with ⟨c29,H⟩|⟨c29,H⟩
       ·have c29b0:decide (0≤x3_2)=true:=decide_eq_true c29;clear c29;replace H:=bdI H;obtain ⟨t155,A30,H⟩:=H;(try dsimp only at H)
        replace H:=ifI H;rcases H with ⟨c31,H⟩|⟨c31,H⟩
        ·obtain ⟨c31b0,c31b1⟩:=eqI c31;clear c31;have H':=sd H;clear H;obtain ⟨_,_,_,_,_,_,_,_,_,_⟩:=bk5 BK149;have p154:0≤(x3_2:Int):=od;have q154:x3_2 < (l0_1.length:Int):=od;obtain ⟨ad154,e154,hx154_0,hx154_1,hx154_2,hx154_3⟩:=at_T48 HR0_1.out x3_2 p154 q154
         cases e154
         replace hx154_0:=(HB.out.cell (World.block_lt_of_cell? w _ hx154_0)).trans hx154_0;replace hx154_1:=(HB.out.cell (World.block_lt_of_cell? w _ hx154_1)).trans hx154_1;replace hx154_2:=(HB.out.cell (World.block_lt_of_cell? w _ hx154_2)).trans hx154_2;replace hx154_3:=(HB.out.cell (World.block_lt_of_cell? w _ hx154_3)).trans hx154_3;replace p154:=eq_true p154;replace q154:=eq_true q154;go_wp2_with (first|((with_reducible refine gate_callee (f:=26) rfl ?_);refine gL 50 Tryz.func26 #[.agg #[.int .i64 ((rd_T48 l0_1 x3_2).f0),.int .i64 ((rd_T48 l0_1 x3_2).f1),.string ((rd_T48 l0_1 x3_2).f2),.int .i64 ((rd_T48 l0_1 x3_2).f3)]] ?_;(with_reducible refine (rf48_condition.calls k2 ((rd_T48 l0_1 x3_2).f0) ((rd_T48 l0_1 x3_2).f1) ((rd_T48 l0_1 x3_2).f2) ((rd_T48 l0_1 x3_2).f3) t155 _ A30.out).mono ?_);rintro e w33 ⟨rfl,hb⟩;refine ⟨_,rfl,?_⟩;replace BK149:=bkm BK149 hb;replace HB:=hbm HB hb;clear hb))
         go_roundg k2
         case measure=>have:=HJ1.out;have:=HK2.out;omega
         case rel=>exact ⟨(wrap64 (x3_2+1)),zq7,H',⟨zq23⟩,⟨zq38⟩,⟨zq39⟩⟩
        obtain ⟨c31b0,c31b1⟩:=neI c31;obtain rfl:=Option.some.inj H;obtain ⟨_,_,_,_,_,_,_,_,_,_⟩:=bk5 BK149;have p154:0≤(x3_2:Int):=od;have q154:x3_2 < (l0_1.length:Int):=od;obtain ⟨ad154,e154,hx154_0,hx154_1,hx154_2,hx154_3⟩:=at_T48 HR0_1.out x3_2 p154 q154
        cases e154
        replace hx154_0:=(HB.out.cell (World.block_lt_of_cell? w _ hx154_0)).trans hx154_0;replace hx154_1:=(HB.out.cell (World.block_lt_of_cell? w _ hx154_1)).trans hx154_1;replace hx154_2:=(HB.out.cell (World.block_lt_of_cell? w _ hx154_2)).trans hx154_2;replace hx154_3:=(HB.out.cell (World.block_lt_of_cell? w _ hx154_3)).trans hx154_3;replace p154:=eq_true p154;replace q154:=eq_true q154;go_wp2_with (first|((with_reducible refine gate_callee (f:=26) rfl ?_);refine gL 50 Tryz.func26 #[.agg #[.int .i64 ((rd_T48 l0_1 x3_2).f0),.int .i64 ((rd_T48 l0_1 x3_2).f1),.string ((rd_T48 l0_1 x3_2).f2),.int .i64 ((rd_T48 l0_1 x3_2).f3)]] ?_;(with_reducible refine (rf48_condition.calls k2 ((rd_T48 l0_1 x3_2).f0) ((rd_T48 l0_1 x3_2).f1) ((rd_T48 l0_1 x3_2).f2) ((rd_T48 l0_1 x3_2).f3) t155 _ A30.out).mono ?_);rintro e w35 ⟨rfl,hb⟩;refine ⟨_,rfl,?_⟩;replace BK149:=bkm BK149 hb;replace HB:=hbm HB hb;clear hb))
        go_ret
        exact ⟨zq4,zq39⟩
       exact absurd H (by simp)
      have c28b0:decide (x3_2 < (l0_1.length:Int))=false:=decide_eq_false c28;clear c28;obtain rfl:=Option.some.inj H;obtain ⟨_,_,_,_,_,_,_,_,_,_⟩:=bk5 BK149;go_wp2
      go_ret
      exact ⟨zq4,zq39⟩
   replace c16:=Bool.eq_false_iff.mpr c16;subst c16;rw [if_neg Bool.false_ne_true] at H;obtain rfl:=Option.some.inj H;obtain ⟨_,_,_,_,_,_,_,_,_,_⟩:=bk5 BK149;go_wp2_with (first|((with_reducible refine gate_callee (f:=25) rfl ?_);refine gL 28 Tryz.func25 #[.slice A0_4 l0_4.length c0_4] ?_;(with_reducible refine (rf09_Right.calls kj1 _ _ l0_4 false _ ?side1 ?side2 A15.out).mono ?_);(case side1=>exact zq40);(case side2=>exact HC0_4.out);rintro e w38 ⟨rfl,hb⟩;refine ⟨_,rfl,?_⟩;replace BK149:=bkm BK149 hb;replace HB:=hbm HB hb;clear hb))
   go_ret
   exact ⟨zq4,zq39⟩
end A

end Go.Proofs.YtkbgkekegjfkfaaGreatDoor