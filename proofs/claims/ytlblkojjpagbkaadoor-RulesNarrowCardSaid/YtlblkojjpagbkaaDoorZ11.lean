-- By pack.py, a program of this session's.
import Derived.Test.YtlblkojjpagbkaaDoorZ5
import Derived.Test.YtlblkojjpagbkaaDoorZ6
import Derived.Test.YtlblkojjpagbkaaDoorZ7
set_option linter.unusedVariables false
set_option linter.unusedSimpArgs false
namespace Go.Proofs.YtlblkojjpagbkaaDoor
namespace A
open Go.RowKit B WW WL WM
attribute [local go_sem] max2_int min2_int max_two min_two max_three min_three max_four min_four
set_option maxHeartbeats 8000000
set_option maxRecDepth 100000
theorem num_size.calls (a0 r:Int) (w:World) (h:num_size.f a0=some r) :
  Calls Tryd.prog 59 #[.int .i64 a0] w fun e w'=>e=.returned (.int .u64 r)∧Drawn0 w w':=by
 unfold num_size.f at h;split at h <;> simp only [Option.some.injEq,reduceCtorEq] at h
 rename_i hb
 subst h;refine (num_size.same a0 hb w).mono ?_;rintro e w' ⟨rfl,rfl⟩;exact ⟨rfl,Drawn0.refl _⟩
theorem num_Text.itoa_calls (n:Int) (h0:-9223372036854775808≤n) (h1:n < 9223372036854775808) (w:World):Calls Tryd.prog 45 #[.int .i64 n] w fun e w'=>e=.returned (.string ⟨(Lib.itoa n).toArray⟩)∧Below w.heap.size w w':=by
 have HP:=Lib.hid (@itoa_pos n);have HM:=Lib.hid (@itoa_neg' n);obtain ⟨u,hu⟩:∃ u:Nat,u=n.natAbs:=⟨_,rfl⟩
 rw [← hu] at HP HM;have hu1:u≤9223372036854775808:=by omega
 have HU:=Lib.hid hu;clear hu;go_enter Tryd.func45,Tryd.ntmps45
 go_wp2_with fail
 refine (num_size.same n ⟨h0,by omega⟩ _).mono ?_;rintro e w' ⟨rfl,rfl⟩;rw [← HU.out];go_wp2_with fail
 go_loopw [4,5,8] (fun at_ left i wr=>∃ m k:Nat,m+k=19∧at_=.int .i64 ((m:Int)+1)∧left=.int .u64 ((u / 10 ^ k:Nat):Int)∧i=.int .i64 (k:Int)∧wr=w.alloc (.cells (trow u (m+1)) 101)∧(k=0∨u / 10 ^ k≠0)) (fun _ _ i _=>(19 - (RowKit.intOf i).toNat))
 case atStart=>exact ⟨19,0,rfl,rfl,by simp,rfl,by rw [trow_start];rfl,.inl rfl⟩
 case round =>
  obtain ⟨m,k,hmk,rfl,rfl,rfl,rfl,hz⟩:=hrel;have HZ:=Lib.hid hz;have hv19:k=19→u / 10 ^ k=0:=by intro e;rw [e];exact Nat.div_eq_of_lt (by omega)
  have hk:k < 19:=by
   rcases Nat.lt_or_ge k 19 with h|h
   ·exact h
   ·have:=hv19 (by omega);omega
  have hk18:k=18→u / 10 ^ k < 10:=by intro e;rw [e];omega
  clear hz hv19;have HS:=Lib.hid (trow_set u m k _ hmk rfl);have HY:=Lib.hid (trow_digits u m k hmk);obtain ⟨v,hv⟩:∃ v,v=u / 10 ^ k:=⟨_,rfl⟩
  have hvle:v≤u:=by rw [hv];exact Nat.div_le_self _ _
  have hvq:u / 10 ^ (k+1)=v / 10:=by rw [hv,Nat.pow_succ,Nat.div_div_eq_div_mul]
  rw [← hv] at HZ HS HY hk18 ⊢;have HV:=Lib.hid hv;clear hv;have hX:=trow_at u (m+1) m (by omega);obtain ⟨X,HX⟩:∃ X,X=trow u (m+1):=⟨_,rfl⟩
  obtain ⟨Y,HYY⟩:∃ Y,Y=trow u m:=⟨_,rfl⟩
  have HYA:=Lib.hid (fun i h=>trow_at u m i h);rw [← HX] at hX HS ⊢;rw [← HYY] at HS HY HYA;rw [if_neg (by omega)] at hX;have HXX:=Lib.hid HX;clear HX;have HYY':=Lib.hid HYY;clear HYY;have hset:X.setIfInBounds m (Value.int IntKind.u8 (48+(v:Int) % 10))=Y:=by rw [← HS.out];congr 2
  by_cases hv0:v / 10=0
  ·obtain ⟨hl,hd⟩:=HY.out (by rw [hvq];exact hv0) HZ.out;clear hk18;have hb0:((v:Int) / 10 == 0)=true:=by rw [beq_iff_eq];omega
   by_cases hn:n < 0
   ·obtain ⟨j,rfl⟩:∃ j,m=j+1:=⟨m - 1,by omega⟩
    have hY:=HYA.out j (by omega);rw [if_neg (by omega)] at hY;obtain ⟨Z,HZZ⟩:∃ Z,Z=Y.setIfInBounds j (.int .u8 45):=⟨_,rfl⟩
    have hset2:Y.setIfInBounds j (.int .u8 45)=Z:=HZZ.symm;have hsl:=fun W b=>sl20 W b j j rfl (by omega)
    have hcv:=fun cap=>conv_row (P:=Tryd.prog) w 101 81 9 5 Tryd.underlying81 Tryd.underlying5 Tryd.underlying9 Z j (20 - j) cap (45 :: Lib.decDigits u) (by simp only [List.length_cons];omega) (fun i hi=>by
     subst HZZ;rcases i with _|i
     ·rw [Nat.add_zero,Array.getElem?_setIfInBounds,if_pos rfl,if_pos (by rw [HYY'.out,trow_size];omega)];rfl
     ·rw [Array.getElem?_setIfInBounds,if_neg (by omega),show j+(i+1)=j+1+i by omega,hd i (by simpa using hi)];rfl)
    clear hl hd hv0 HZZ hvq;go_wp2_with fail
    go_ret
    refine ⟨by rw [HM.out hn];rfl,?_⟩;exact (Below.refl _ _).alloc (Nat.le_refl _) _
   have hsl:=fun W b=>sl20 W b m m rfl (by omega)
   have hcv:=fun cap=>conv_row (P:=Tryd.prog) w 101 81 9 5 Tryd.underlying81 Tryd.underlying5 Tryd.underlying9 Y m (20 - m) cap (Lib.decDigits u) hl hd
   clear hl hd hv0 hvq;go_wp2_with fail
   go_ret
   refine ⟨by rw [HP.out (by omega)];rfl,?_⟩;exact (Below.refl _ _).alloc (Nat.le_refl _) _
  have hb0:((v:Int) / 10 == 0)=false:=by rw [beq_eq_false_iff_ne];omega
  clear hk18;clear HY HYA;have HQ:=Lib.hid hvq;clear hvq;have HV0:=Lib.hid hv0;clear hv0;go_wp2_with fail
  go_roundw
  case rel =>
   obtain ⟨j,rfl⟩:∃ j,m=j+1:=⟨m - 1,by omega⟩
   exact ⟨j,k+1,by omega,by go_num,by rw [HQ.out];go_num,by go_num,by rw [HYY'.out],.inr (by rw [HQ.out];exact HV0.out)⟩
  case measure=>simp [RowKit.intOf];omega
theorem num_Text.calls (a0:Int) (r:ByteArray) (w:World) (h:num_Text.f a0=some r) :
  Calls Tryd.prog 45 #[.int .i64 a0] w fun e w'=>e=.returned (.string r)∧Below w.heap.size w w':=by
 unfold num_Text.f at h;split at h <;> simp only [Option.some.injEq,reduceCtorEq] at h
 rename_i hb
 subst h;exact num_Text.itoa_calls a0 hb.1 (by have:=hb.2;omega) w
theorem days_padded.calls (a0:Int) (r:ByteArray) (w:World) (h:days_padded.f a0=some r) :
  Calls Tryd.prog 61 #[.int .i64 a0] w fun e w'=>e=.returned (.string r)∧Below w.heap.size w w':=by
 have HB:=sd (Below.refl w.heap.size w);have H:=h;clear h;unfold days_padded.f at H;replace H:=ifI H;rcases H with ⟨c2,H⟩|⟨c2,H⟩
 ·have c2b0:decide (a0 < 10)=true:=decide_eq_true c2;clear c2;replace H:=bdI H;obtain ⟨t134,A3,H⟩:=H;(try dsimp only at H)
  replace H:=ifI H;rcases H with ⟨c4,H⟩|⟨c4,H⟩
  ·have c4b0:=eq_true c4;have c4b1:decide (1+t134.size≤9223372036854775807)=true:=decide_eq_true c4;try have c4b2:(9223372036854775807 < 1+t134.size)=False:=eq_false (Nat.not_lt.2 c4)
   obtain rfl:=Option.some.inj H;go_enter Tryd.func61,Tryd.ntmps61
   go_wp2_with (first|((with_reducible refine gate_callee (f:=45) rfl ?_);refine gL 6 Tryd.func45 #[.int .i64 a0] ?_;(with_reducible refine (num_Text.calls a0 t134 _ A3.out).mono ?_);rintro e w5 ⟨rfl,hb⟩;refine ⟨_,rfl,?_⟩;replace HB:=hbm HB hb;clear hb))
   go_ret
   exact ⟨zq4,zq6⟩
  exact absurd H (by simp)
 have c2b0:decide (a0 < 10)=false:=decide_eq_false c2;clear c2;replace H:=bdI H;obtain ⟨t135,A6,H⟩:=H;(try dsimp only at H)
 obtain rfl:=Option.some.inj H;go_enter Tryd.func61,Tryd.ntmps61
 go_wp2_with (first|((with_reducible refine gate_callee (f:=45) rfl ?_);refine gL 9 Tryd.func45 #[.int .i64 a0] ?_;(with_reducible refine (num_Text.calls a0 t135 _ A6.out).mono ?_);rintro e w7 ⟨rfl,hb⟩;refine ⟨_,rfl,?_⟩;replace HB:=hbm HB hb;clear hb))
 go_ret
 exact ⟨zq4,zq6⟩
def days_Text.f (k:Nat) (a0:Int):Option (ByteArray×Int):=(days_Date.f k a0).bind fun bt136=>(if bt136.2.2.2=0 then ((num_Text.f bt136.1).bind fun t141=>(if t141.size+1≤9223372036854775807 then ((days_padded.f bt136.2.1).bind fun t142=>(if (t141++(⟨#[45]⟩:ByteArray)).size+t142.size≤9223372036854775807 then (if ((t141++(⟨#[45]⟩:ByteArray))++t142).size+1≤9223372036854775807 then ((days_padded.f bt136.2.2.1).bind fun t143=>(if (((t141++(⟨#[45]⟩:ByteArray))++t142)++(⟨#[45]⟩:ByteArray)).size+t143.size≤9223372036854775807 then (some ((((t141++(⟨#[45]⟩:ByteArray))++t142)++(⟨#[45]⟩:ByteArray))++t143,0)) else (none))) else (none)) else (none))) else (none))) else (some ((⟨#[]⟩:ByteArray),bt136.2.2.2)))
theorem days_Text.tab4:rtab .any (opsOf Tryd.f46 4)=days_Text.T4:=by kernel_rfl
def rules_operand.f (k:Nat) (a0_0:Int) (a0_1:Int) (a0_2:ByteArray) (a0_3:Int):Option (ByteArray):=if a0_0=1 then ((num_Text.f a0_3).bind fun t167=>(some t167)) else (if a0_0=4 then ((days_Text.f k a0_3).bind fun bt168=>(some bt168.1)) else ((words_Quote.f k a0_2).bind fun bt170=>(some bt170.1)))
def txC (k:Nat):List S27→List ByteArray→ByteArray→Option (List ByteArray)
|[],l,_=>some l
|c :: r,l,link=>(nmd fieldL c.f0).bind fun a=>(nmd opL c.f1).bind fun b=>(rules_operand.f k c.f0 c.f1 c.f2 c.f3).bind fun o=>txC k r (l++[link,a,b,o]) andB
def rules_Text.f (k:Nat) (nm:ByteArray) (cs:List S27) (acc par:ByteArray) (tg:List S35):Option (ByteArray×Int) :=
 (rules_Check.f k nm cs acc par tg).bind fun e=>if e=0 then (if cs.length≤1000000∧tg.length≤1000000 then (txC k cs [ruleB,nm] ifB).bind fun l =>
  txJ (txT tg (if par.toList=[] then l++[thenB,acc] else l++[thenB,acc]++[partyB,par])) else none) else some (⟨#[]⟩,e)
theorem num_formed.calls (k:Nat) (a0:ByteArray) (r:Bool) (w:World) (h:num_formed.f k a0=some r) :
  Calls Tryd.prog 74 #[.string a0] w fun e w'=>e=.returned (.bool r)∧Drawn0 w w':=by
 have H:=h;clear h;unfold num_formed.f at H;have HC2:=sd H;clear H;go_enter Tryd.func74,Tryd.ntmps74
 go_upto_region 1 with (fail)
 go_cut [3] (fun v3 wc=>∃ (kq:Nat) (x3_1:Bool),v3=.bool x3_1∧Aside0 (num_formed.j0 kq a0 x3_1=some r)∧Aside0 (kq≤k)∧Drawn0 w wc)
 case first =>
  have H:=HC2.out;clear HC2;replace H:=ifI H;rcases H with ⟨c3,H⟩|⟨c3,H⟩
  ·have c3b0:decide (0 < (a0.size:Int))=true:=decide_eq_true c3;have c3b1:decide (0 < a0.size)=true:=decide_eq_true (by omega);clear c3;(first|rw [c3b0]|(simp only [i64_w,i32_w];rw [c3b0])|skip)
   replace H:=ifI H;rcases H with ⟨c4,H⟩|⟨c4,H⟩
   ·have c4b0:decide (0 < (a0.size:Int))=true:=decide_eq_true c4;have c4b1:decide (0 < a0.size)=true:=decide_eq_true (by omega);clear c4;have H':=sd H;clear H;have p5:0≤(0:Int):=(by omega)
    have q5:0 < a0.size:=(by have:(0:Int) < (a0.size:Int):=od;omega)
    have hx5:∀ h:0 < a0.size,((a0[0]'h).toNat:Int)=bt a0 0:=bt_at a0 0;clear p5;have qi5:(0 < (a0.size:Int))=True:=eq_true (od);replace q5:=eq_true q5;go_wp2
    go_meet
    case rel=>exact ⟨_,(((bt a0 0) == 45)),zq7,H',⟨by first|omega|exact Nat.le_refl _⟩,zq15⟩
   exact absurd H (by simp)
  have c3b0:decide (0 < (a0.size:Int))=false:=decide_eq_false c3;have c3b1:decide (0 < a0.size)=false:=decide_eq_false (by omega);clear c3;(first|rw [c3b0]|(simp only [i64_w,i32_w];rw [c3b0])|skip)
  have H':=sd H;clear H;go_wp2
  go_meet
  case rel=>exact ⟨_,(false),zq7,H',⟨by first|omega|exact Nat.le_refl _⟩,zq15⟩
 case rest =>
  clear HC2;try clear p2
  obtain ⟨kq,x3_1,rfl,HA,HJ1,⟨mc1,rfl⟩⟩:=hcut
  cases kq with
 |zero=>exact absurd HA.out (by simp [num_formed.j0])
 |succ kj1 =>
   have H:=HA.out;clear HA;simp only [num_formed.j0] at H
   have HC6:=sd H;clear H;go_upto_if 13 with (fail)
   go_cut [0] (fun v0 wc=>∃ (kq:Nat) (x0_5:ByteArray),v0=.string x0_5∧Aside0 (num_formed.j1 kq x0_5 x3_1=some r)∧Aside0 (kq≤kj1)∧Drawn0 w wc)
   case first =>
    have H:=HC6.out;clear HC6;by_cases c7:x3_1=true
    ·subst c7;rw [if_pos rfl] at H;replace H:=ifI H;rcases H with ⟨c8,H⟩|⟨c8,H⟩
     ·have c8b0:=eq_true c8;have c8b1:decide (1≤(a0.size:Int))=true:=decide_eq_true c8;clear c8;have H':=sd H;clear H;go_wp2
      go_meet
      case rel=>exact ⟨_,(a0.extract 1 a0.size),zq7,H',⟨by have:=HJ1.out;first|omega|exact Nat.le_refl _⟩,zq15⟩
     exact absurd H (by simp)
    replace c7:=Bool.eq_false_iff.mpr c7;subst c7;rw [if_neg Bool.false_ne_true] at H;have H':=sd H;clear H;go_wp2
    go_meet
    case rel=>exact ⟨_,(a0),zq7,H',⟨by have:=HJ1.out;first|omega|exact Nat.le_refl _⟩,zq15⟩
   case rest =>
    clear HC6;try clear c1
    obtain ⟨kq,x0_5,rfl,HA,HJ5,⟨mc5,rfl⟩⟩:=hcut
    cases kq with
   |zero=>exact absurd HA.out (by simp [num_formed.j1])
   |succ kj5 =>
     have H:=HA.out;clear HA;simp only [num_formed.j1] at H
     have HC9:=sd H;clear H;go_upto_region 4 with (fail)
     go_cut [30] (fun v30 wc=>∃ (kq:Nat) (x30_8:Bool),v30=.bool x30_8∧Aside0 (num_formed.j2 kq x0_5 x30_8=some r)∧Aside0 (kq≤kj5)∧Drawn0 w wc)
     case first =>
      have H:=HC9.out;clear HC9;replace H:=ifI H;rcases H with ⟨c10,H⟩|⟨c10,H⟩
      ·obtain ⟨c10b0,c10b1⟩:=eqI c10;clear c10;(first|rw [c10b0]|(simp only [i64_w,i32_w];rw [c10b0])|skip)
       have H':=sd H;clear H;go_wp2
       go_meet
       case rel=>exact ⟨_,(true),zq7,H',⟨zq16⟩,zq15⟩
      obtain ⟨c10b0,c10b1⟩:=neI c10;(first|rw [c10b0]|(simp only [i64_w,i32_w];rw [c10b0])|skip)
      replace H:=ifI H;rcases H with ⟨c11,H⟩|⟨c11,H⟩
      ·have c11b0:decide (0 < (x0_5.size:Int))=true:=decide_eq_true c11;have c11b1:decide (0 < x0_5.size)=true:=decide_eq_true (by omega);clear c11;replace H:=ifI H;rcases H with ⟨c13,H⟩|⟨c13,H⟩
       ·obtain ⟨c13b0,c13b1⟩:=eqI c13;clear c13;by_cases c14:x3_1=true
        ·subst c14;rw [if_pos rfl] at H;have H':=sd H;clear H;have p12:0≤(0:Int):=(by omega)
         have q12:0 < x0_5.size:=(by have:(0:Int) < (x0_5.size:Int):=od;omega)
         have hx12:∀ h:0 < x0_5.size,((x0_5[0]'h).toNat:Int)=bt x0_5 0:=bt_at x0_5 0;clear p12;have qi12:(0 < (x0_5.size:Int))=True:=eq_true (od);replace q12:=eq_true q12;go_wp2
         go_meet
         case rel=>exact ⟨_,(true),zq7,H',⟨zq16⟩,zq15⟩
        replace c14:=Bool.eq_false_iff.mpr c14;subst c14;rw [if_neg Bool.false_ne_true] at H;have H':=sd H;clear H;have p12:0≤(0:Int):=(by omega)
        have q12:0 < x0_5.size:=(by have:(0:Int) < (x0_5.size:Int):=od;omega)
        have hx12:∀ h:0 < x0_5.size,((x0_5[0]'h).toNat:Int)=bt x0_5 0:=bt_at x0_5 0;clear p12;have qi12:(0 < (x0_5.size:Int))=True:=eq_true (od);replace q12:=eq_true q12;go_wp2
        go_meet
        case rel=>exact ⟨_,(decide ((x0_5.size:Int) > 1)),zq7,H',⟨zq16⟩,zq15⟩
       obtain ⟨c13b0,c13b1⟩:=neI c13;have H':=sd H;clear H;have p12:0≤(0:Int):=(by omega)
       have q12:0 < x0_5.size:=(by have:(0:Int) < (x0_5.size:Int):=od;omega)
       have hx12:∀ h:0 < x0_5.size,((x0_5[0]'h).toNat:Int)=bt x0_5 0:=bt_at x0_5 0;clear p12;have qi12:(0 < (x0_5.size:Int))=True:=eq_true (od);replace q12:=eq_true q12;go_wp2
       go_meet
       case rel=>exact ⟨_,(false),zq7,H',⟨zq16⟩,zq15⟩
      exact absurd H (by simp)
     case rest =>
      clear HC9;try clear c1
      obtain ⟨kq,x30_8,rfl,HA,HJ8,⟨mc8,rfl⟩⟩:=hcut
      cases kq with
     |zero=>exact absurd HA.out (by simp [num_formed.j2])
     |succ kj8 =>
       have H:=HA.out;clear HA;simp only [num_formed.j2] at H
       by_cases c15:x30_8=true
       ·subst c15;rw [if_pos rfl] at H;obtain rfl:=Option.some.inj H;go_wp2
        go_ret
        exact ⟨zq7,zq15⟩
       replace c15:=Bool.eq_false_iff.mpr c15;subst c15;rw [if_neg Bool.false_ne_true] at H;have H':=sd H;clear H;go_wp2
       go_loopg [33] kj8 (fun kq v33 w'=>∃ (x33_4:Int),v33=.int .i64 x33_4∧Aside0 (num_formed.l0 kq x0_5 (x0_5.size:Int) x33_4=some r)∧Aside0 (kq≤kj8)∧Drawn0 w w')
       case atStart=>exact ⟨(0),zq7,H',⟨Nat.le_refl _⟩,zq15⟩
       case round =>
        clear H';try clear c1
        obtain ⟨x33_4,rfl,HA,HK4,⟨m4,rfl⟩⟩:=hrel
        cases gk with
       |zero=>exact absurd HA.out (by simp [num_formed.l0])
       |succ k4 =>
         have H:=HA.out;clear HA;simp only [num_formed.l0] at H
         replace H:=ifI H;rcases H with ⟨c16,H⟩|⟨c16,H⟩
         ·have c16b0:decide (x33_4 < (x0_5.size:Int))=true:=decide_eq_true c16;clear c16;replace H:=ifI H;rcases H with ⟨c17,H⟩|⟨c17,H⟩
          ·have c17b0:decide (0≤x33_4)=true:=decide_eq_true c17;clear c17;replace H:=ifI H;rcases H with ⟨c18,H⟩|⟨c18,H⟩
           ·have c18b0:decide (x33_4 < (x0_5.size:Int))=true:=decide_eq_true c18;clear c18;replace H:=ifI H;rcases H with ⟨c20,H⟩|⟨c20,H⟩
            ·have c20b0:decide ((bt x0_5 x33_4) < 48)=true:=decide_eq_true c20;clear c20;obtain rfl:=Option.some.inj H;have p19:0≤(x33_4:Int):=od;have q19:x33_4 < (x0_5.size:Int):=od;have hx19:=bt_at x0_5 x33_4;replace p19:=eq_true p19;replace q19:=eq_true q19;go_wp2
             go_ret
             exact ⟨zq7,zq15⟩
            have c20b0:decide ((bt x0_5 x33_4) < 48)=false:=decide_eq_false c20;clear c20;replace H:=ifI H;rcases H with ⟨c22,H⟩|⟨c22,H⟩
            ·have c22b0:decide (57 < (bt x0_5 x33_4))=true:=decide_eq_true c22;clear c22;obtain rfl:=Option.some.inj H;have p19:0≤(x33_4:Int):=od;have q19:x33_4 < (x0_5.size:Int):=od;have hx19:=bt_at x0_5 x33_4;replace p19:=eq_true p19;replace q19:=eq_true q19;have p21:0≤(x33_4:Int):=od;have q21:x33_4 < (x0_5.size:Int):=od;have hx21:=bt_at x0_5 x33_4;replace p21:=eq_true p21;replace q21:=eq_true q21;go_wp2
             go_ret
             exact ⟨zq7,zq15⟩
            have c22b0:decide (57 < (bt x0_5 x33_4))=false:=decide_eq_false c22;clear c22;have H':=sd H;clear H;have p19:0≤(x33_4:Int):=od;have q19:x33_4 < (x0_5.size:Int):=od;have hx19:=bt_at x0_5 x33_4;replace p19:=eq_true p19;replace q19:=eq_true q19;have p21:0≤(x33_4:Int):=od;have q21:x33_4 < (x0_5.size:Int):=od;have hx21:=bt_at x0_5 x33_4;replace p21:=eq_true p21;replace q21:=eq_true q21;go_wp2
            go_roundg k4
            case measure=>have:=HJ1.out;have:=HJ5.out;have:=HJ8.out;have:=HK4.out;omega
            case rel=>exact ⟨(wrap64 (x33_4+1)),zq7,H',⟨by have:=HJ1.out;have:=HJ5.out;have:=HJ8.out;have:=HK4.out;omega⟩,zq15⟩
           exact absurd H (by simp)
          exact absurd H (by simp)
         have c16b0:decide (x33_4 < (x0_5.size:Int))=false:=decide_eq_false c16;clear c16;obtain rfl:=Option.some.inj H;go_wp2
         go_ret
         exact ⟨zq7,zq15⟩
theorem formed_calls (s:ByteArray) (hs:s.size≤140737488351232) (w:World) :
  Calls Tryd.prog 74 #[.string s] w fun e w'=>e=.returned (.bool (formedL s.data.toList))∧Drawn0 w w':=by
 obtain ⟨k,hk⟩:=(formed_ev s hs).rounds;exact num_formed.calls k s _ w hk
theorem num_Add.calls (a0 a1 r1:Int) (r2:Bool) (w:World) (h:num_Add.f a0 a1=some (r1,r2)) :
  Calls Tryd.prog 75 #[.int .i64 a0,.int .i64 a1] w fun e w'=>e=.returned (.tuple #[.int .i64 r1,.bool r2])∧Drawn0 w w':=by
 have H:=h;clear h;unfold num_Add.f at H;replace H:=ifI H;rcases H with ⟨c3,H⟩|⟨c3,H⟩
 ·have c3b0:((decide ((wrap64 (a0+a1)) > a0)) != (decide (a1 > 0)))=true:=c3;(try (have c3b1:decide ((decide ((wrap64 (a0+a1)) > a0))=(decide (a1 > 0)))=false:=by simpa using c3))
  (try (have c3b2:((decide ((wrap64 (a0+a1)) > a0)) == (decide (a1 > 0)))=false:=by simpa using c3))
  (try (have c3b3:¬ ((decide ((wrap64 (a0+a1)) > a0))=(decide (a1 > 0))):=by simpa using c3))
  clear c3;replace H:=ifI H;rcases H with ⟨c4,H⟩|⟨c4,H⟩
  ·obtain ⟨c4b0,c4b1⟩:=eqI c4;clear c4;simp only [Option.some.injEq,Prod.mk.injEq] at H
   obtain ⟨rfl,rfl⟩:=H;go_enter Tryd.func75,Tryd.ntmps75
   go_wp2
   go_ret2
   exact ⟨zq7,zq15⟩
  obtain ⟨c4b0,c4b1⟩:=neI c4;simp only [Option.some.injEq,Prod.mk.injEq] at H
  obtain ⟨rfl,rfl⟩:=H;go_enter Tryd.func75,Tryd.ntmps75
  go_wp2
  go_ret2
  exact ⟨zq7,zq15⟩
 have c3b0:((decide ((wrap64 (a0+a1)) > a0)) != (decide (a1 > 0)))=false:=by simpa using c3
 (try (have c3b1:decide ((decide ((wrap64 (a0+a1)) > a0))=(decide (a1 > 0)))=true:=by simpa using c3))
 (try (have c3b2:((decide ((wrap64 (a0+a1)) > a0)) == (decide (a1 > 0)))=true:=by simpa using c3))
 clear c3;simp only [Option.some.injEq,Prod.mk.injEq] at H
 obtain ⟨rfl,rfl⟩:=H;go_enter Tryd.func75,Tryd.ntmps75
 go_wp2
 go_ret2
 exact ⟨zq7,zq15⟩
theorem num_Add_eq (a b:Int) (ha:I64 a) (hb:I64 b):num_Add.f a b=some (fit (a+b)):=by
 unfold num_Add.f;unfold I64 at ha hb;have hw:I64 (a+b)→wrap64 (a+b)=a+b:=by unfold I64;unfold wrap64;omega
 have hlo:a+b < -9223372036854775808→wrap64 (a+b)=a+b+18446744073709551616:=by unfold wrap64;omega
 have hhi:9223372036854775807 < a+b→wrap64 (a+b)=a+b - 18446744073709551616:=by unfold wrap64;omega
 by_cases h:I64 (a+b)
 ·rw [hw h,fit_yes h];by_cases hb0:b=0
  ·subst hb0;simp
  by_cases hb1:b > 0
  ·rw [if_neg (by rw [decide_eq_true (show a+b > a by omega),decide_eq_true hb1];decide)]
  rw [if_neg (by rw [decide_eq_false (show ¬ a+b > a by omega),decide_eq_false hb1];decide)]
 rw [fit_no h];unfold I64 at h;by_cases h1:a+b < -9223372036854775808
 ·rw [hlo h1,if_pos (by rw [decide_eq_true (show a+b+18446744073709551616 > a by omega),decide_eq_false (show ¬ b > 0 by omega)];decide),if_neg (by omega)]
 rw [hhi (by omega),if_pos (by rw [decide_eq_false (show ¬ a+b - 18446744073709551616 > a by omega),decide_eq_true (show b > 0 by omega)];decide),if_neg (by omega)]
theorem num_Sub.calls (a0 a1 r1:Int) (r2:Bool) (w:World) (h:num_Sub.f a0 a1=some (r1,r2)) :
  Calls Tryd.prog 76 #[.int .i64 a0,.int .i64 a1] w fun e w'=>e=.returned (.tuple #[.int .i64 r1,.bool r2])∧Drawn0 w w':=by
 have H:=h;clear h;unfold num_Sub.f at H;replace H:=ifI H;rcases H with ⟨c3,H⟩|⟨c3,H⟩
 ·have c3b0:((decide ((wrap64 (a0 - a1)) < a0)) != (decide (a1 > 0)))=true:=c3;(try (have c3b1:decide ((decide ((wrap64 (a0 - a1)) < a0))=(decide (a1 > 0)))=false:=by simpa using c3))
  (try (have c3b2:((decide ((wrap64 (a0 - a1)) < a0)) == (decide (a1 > 0)))=false:=by simpa using c3))
  (try (have c3b3:¬ ((decide ((wrap64 (a0 - a1)) < a0))=(decide (a1 > 0))):=by simpa using c3))
  clear c3;replace H:=ifI H;rcases H with ⟨c4,H⟩|⟨c4,H⟩
  ·obtain ⟨c4b0,c4b1⟩:=eqI c4;clear c4;simp only [Option.some.injEq,Prod.mk.injEq] at H
   obtain ⟨rfl,rfl⟩:=H;go_enter Tryd.func76,Tryd.ntmps76
   go_wp2
   go_ret2
   exact ⟨zq7,zq15⟩
  obtain ⟨c4b0,c4b1⟩:=neI c4;simp only [Option.some.injEq,Prod.mk.injEq] at H
  obtain ⟨rfl,rfl⟩:=H;go_enter Tryd.func76,Tryd.ntmps76
  go_wp2
  go_ret2
  exact ⟨zq7,zq15⟩
 have c3b0:((decide ((wrap64 (a0 - a1)) < a0)) != (decide (a1 > 0)))=false:=by simpa using c3
 (try (have c3b1:decide ((decide ((wrap64 (a0 - a1)) < a0))=(decide (a1 > 0)))=true:=by simpa using c3))
 (try (have c3b2:((decide ((wrap64 (a0 - a1)) < a0)) == (decide (a1 > 0)))=true:=by simpa using c3))
 clear c3;simp only [Option.some.injEq,Prod.mk.injEq] at H
 obtain ⟨rfl,rfl⟩:=H;go_enter Tryd.func76,Tryd.ntmps76
 go_wp2
 go_ret2
 exact ⟨zq7,zq15⟩
theorem num_Sub_eq (a b:Int) (ha:I64 a) (hb:I64 b):num_Sub.f a b=some (fit (a - b)):=by
 unfold num_Sub.f;unfold I64 at ha hb;have hw:I64 (a - b)→wrap64 (a - b)=a - b:=by unfold I64;unfold wrap64;omega
 have hlo:a - b < -9223372036854775808→wrap64 (a - b)=a - b+18446744073709551616:=by unfold wrap64;omega
 have hhi:9223372036854775807 < a - b→wrap64 (a - b)=a - b - 18446744073709551616:=by unfold wrap64;omega
 by_cases h:I64 (a - b)
 ·rw [hw h,fit_yes h];by_cases hb0:b=0
  ·subst hb0;simp
  by_cases hb1:b > 0
  ·rw [if_neg (by rw [decide_eq_true (show a - b < a by omega),decide_eq_true hb1];decide)]
  rw [if_neg (by rw [decide_eq_false (show ¬ a - b < a by omega),decide_eq_false hb1];decide)]
 rw [fit_no h];unfold I64 at h;by_cases h1:a - b < -9223372036854775808
 ·rw [hlo h1,if_pos (by rw [decide_eq_false (show ¬ a - b+18446744073709551616 < a by omega),decide_eq_true (show b > 0 by omega)];decide),if_neg (by omega)]
 rw [hhi (by omega),if_pos (by rw [decide_eq_true (show a - b - 18446744073709551616 < a by omega),decide_eq_false (show ¬ b > 0 by omega)];decide),if_neg (by omega)]
theorem bits_Mul64.calls (a0 a1 r1 r2:Int) (w:World) (h:bits_Mul64.f a0 a1=some (r1,r2)) :
  Calls Tryd.prog 91 #[.int .u64 a0,.int .u64 a1] w fun e w'=>e=.returned (.tuple #[.int .u64 r1,.int .u64 r2])∧Drawn0 w w':=by
 unfold bits_Mul64.f at h;split at h <;> simp only [Option.some.injEq,Prod.mk.injEq,reduceCtorEq] at h
 rename_i hb
 obtain ⟨rfl,rfl⟩:=h;obtain ⟨x,rfl⟩:=Int.eq_ofNat_of_zero_le hb.1;obtain ⟨y,rfl⟩:=Int.eq_ofNat_of_zero_le hb.2.2.1;refine (bits_Mul64.nat x y (by omega) (by omega) w).mono ?_;rintro e w' ⟨rfl,rfl⟩;exact ⟨by rw [m64_mulN];rfl,Drawn0.refl _⟩
theorem num_Mul.calls (a0 a1 r1:Int) (r2:Bool) (w:World) (h:num_Mul.f a0 a1=some (r1,r2)) :
  Calls Tryd.prog 77 #[.int .i64 a0,.int .i64 a1] w fun e w'=>e=.returned (.tuple #[.int .i64 r1,.bool r2])∧Drawn0 w w':=by
 unfold num_Mul.f at h;split at h <;> simp only [Option.some.injEq,reduceCtorEq] at h
 rename_i hb
 have h0:num_size.f a0=some (a0.natAbs:Int):=by unfold num_size.f;rw [if_pos hb.1]
 have h1:num_size.f a1=some (a1.natAbs:Int):=by unfold num_size.f;rw [if_pos hb.2]
 have h2:bits_Mul64.f (a0.natAbs:Int) (a1.natAbs:Int)=some (((a0.natAbs * a1.natAbs:Nat):Int) / 18446744073709551616,((a0.natAbs * a1.natAbs:Nat):Int) % 18446744073709551616):=by
  have:=hb.1;have:=hb.2;unfold I64 at *;unfold bits_Mul64.f;rw [if_pos (by omega)];simp
 obtain ⟨x,hx⟩:∃ x,x=((a0.natAbs * a1.natAbs:Nat):Int) / 18446744073709551616:=⟨_,rfl⟩
 obtain ⟨y,hy⟩:∃ y,y=((a0.natAbs * a1.natAbs:Nat):Int) % 18446744073709551616:=⟨_,rfl⟩
 rw [← hx,← hy] at h2;have key:=mul_ways h.symm hx hy;clear hx hy h;have H0:=sd h0;have H1:=sd h1;have H2:=sd h2;clear h0 h1 h2 hb;obtain ⟨s,hs⟩:∃ s,s=(decide (a0 < 0) != decide (a1 < 0)):=⟨_,rfl⟩
 replace key:=key s hs.symm
 by_cases ha:a0 < 0 <;> by_cases hb:a1 < 0 <;> (have hs':s=_:=hs.trans (by simp only [ha,hb,decide_true,decide_false,bne_self_eq_false,Bool.true_bne,Bool.false_bne,Bool.not_false];rfl)) <;> subst hs' <;>
  simp only [Bool.false_eq_true,if_false,if_true] at key <;> clear hs <;> (rcases key with ⟨hm,hw,b1,b2⟩|⟨hm,b1⟩|⟨hm,b1,b2⟩) <;> simp only [Prod.mk.injEq] at hm <;> (obtain ⟨rfl,rfl⟩:=hm)
 all_goals
  (try (have HW:=sd hw;clear hw))
  (first|have da:=decide_eq_true ha|have da:=decide_eq_false ha)
  (first|have db:=decide_eq_true hb|have db:=decide_eq_false hb)
  (try have e0:(!decide (a0 < 0))=true:=by rw [da];rfl)
  (try have e1:(!decide (a1 < 0))=true:=by rw [db];rfl)
  (try have e2:(!decide (a0 < 0) == decide (a1 < 0))=false:=by rw [da,db];rfl)
  clear ha hb;(first|have d1:=decide_eq_true (show 0 < x by omega)|have d1:=decide_eq_false (show ¬ 0 < x by omega))
  (try (first|have d2:=decide_eq_true (show 9223372036854775808 < y by omega)|have d2:=decide_eq_false (show ¬ 9223372036854775808 < y by omega)))
  (try (first|have d3:=decide_eq_true (show 9223372036854775807 < y by omega)|have d3:=decide_eq_false (show ¬ 9223372036854775807 < y by omega)))
  clear b1;(try clear b2)
 all_goals
  go_enter Tryd.func77,Tryd.ntmps77
  go_wp2_with fail
  refine (num_size.calls a0 _ _ H0.out).mono ?_;rintro e w1 ⟨rfl,hd1⟩;obtain ⟨⟨n1,rfl⟩⟩:=hd1;go_wp2_with fail
  refine (num_size.calls a1 _ _ H1.out).mono ?_;rintro e w2 ⟨rfl,hd2⟩;obtain ⟨⟨n2,rfl⟩⟩:=hd2;go_wp2_with fail
  refine (bits_Mul64.calls _ _ _ _ _ H2.out).mono ?_;rintro e w3 ⟨rfl,hd3⟩;obtain ⟨⟨n3,rfl⟩⟩:=hd3;go_wp2_with fail
  all_goals (try (exfalso;(simp at *) <;> omega))
  go_ret2
  refine ⟨?_,⟨⟨_,rfl⟩⟩⟩;first|rfl|exact ret_tup HW.out
theorem parse_pos (s:ByteArray) (lo hi:Int) (hs:s.size≤140737488351232) (w:World) (hf:formedL s.data.toList=true) (hn:negOf s.data.toList=false) :
  Calls Tryd.prog 53 #[.string s,.int .i64 lo,.int .i64 hi] w fun e w'=>e=.returned (.tuple #[.int .i64 (parseL s.data.toList lo hi).1,.int .i64 (parseL s.data.toList lo hi).2])∧Drawn0 w w':=by
 have hF:=formed_calls s hs;rw [hf] at hF;have hsz:=size_eq' s;have hm:magOf s.data.toList=s.data.toList:=by simp [magOf,hn]
 have hne:=formed_some hf;have hdg:=formed_digits hf;rw [hm] at hne hdg;have h0:0 < s.size:=by rw [hsz];exact List.length_pos_iff.mpr hne
 have hat:∀ j,(h:j < s.size)→(h':j < s.data.toList.length)→s.data.toList[j]=s[j]:=fun j h h'=>by simp;rfl
 have hb:((s[0].toNat:Int) == 45)=false:=by
  rw [beq_eq_false_iff_ne];intro h;have:=(byte_is s[0] 45).mp h;rw [← hat 0 h0 (by omega)] at this;unfold negOf at hn;rw [List.head?_eq_getElem?,List.getElem?_eq_getElem (by omega),this] at hn;simp at hn
 have HS:=fun j n h=>@parse_stop s.data.toList hf j n h lo hi
 have HW:=fun j n h hj=>@parse_whole s.data.toList hf j n h hj lo hi
 have H0:=sd (PInv.start (negOf s.data.toList) s.data.toList);rw [hm] at HS HW;rw [hn] at HS HW H0;have HS:=sd HS;have HW:=sd HW;have HFc:=sd hF
 have HD:∀ j,(h:j < s.size)→isDig s[j]=true:=fun j h=>by
  rw [← hat j h (by omega)];exact List.all_eq_true.mp hdg _ (List.getElem_mem _)
 have HD:=sd HD;have HA:=sd hat;have HZ:=sd hsz;clear hf hn hF hm hne hdg hat hsz;generalize hP:(fun e w'=>e=Ending.returned (.tuple #[.int .i64 (parseL s.data.toList lo hi).1,.int .i64 (parseL s.data.toList lo hi).2])∧Drawn0 w w')=Post;have HP:=sd hP;clear hP;go_enter Tryd.func53,Tryd.ntmps53
 go_wp2_with fail
 refine (HFc.out _).mono ?_;rintro e w1 ⟨rfl,hd1⟩;obtain ⟨⟨n1,rfl⟩⟩:=hd1;go_wp2_with fail
 go_loopw [6,9,10] (fun n_ at_ ok_ wr=>∃ (p:Nat) (n:Int) (ok:Bool),p≤s.size∧n_=.int .i64 n∧at_=.int .i64 p∧ok_=.bool ok∧Aside0 (PInv false s.data.toList p n ok)∧Drawn0 w wr) (fun _ at_ _ _=>(s.size - (RowKit.intOf at_).toNat))
 case atStart=>exact ⟨0,0,true,by omega,rfl,rfl,rfl,H0,(Drawn0.refl _).step _⟩
 case round =>
  obtain ⟨p,n,ok,hp,rfl,rfl,rfl,HI,HDr⟩:=hrel;rename World=>wr
  cases ok
  ·have hr:=HS.out _ _ HI.out;have HR:=sd hr;clear hr;by_cases hlt:p < s.size
   ·go_wp2_with fail
    rw [← HP.out];exact ⟨by rw [HR.out];(try rfl),HDr⟩
   go_wp2_with fail
   rw [← HP.out];exact ⟨by rw [HR.out];(try rfl),HDr⟩
  ·by_cases hlt:p < s.size
   ·have hd:=(isDig_iff _).mp (HD.out p hlt);obtain ⟨hd1,hd2⟩:=hd;have hj:p < s.data.toList.length:=by rw [← HZ.out];exact hlt
    have HJ:=sd hj;clear hj;have hI:=(slot_ok HI.out).2;have hM:num_Mul.f n 10=some (fit (n * 10)):=by unfold num_Mul.f;rw [if_pos ⟨hI,by unfold I64;omega⟩]
    have hIn:-9223372036854775808≤n∧n≤9223372036854775807:=hI;obtain ⟨hIn1,hIn2⟩:=hIn;clear hI;by_cases hm:I64 (n * 10)
    ·rw [fit_yes hm] at hM;have hA:=num_Add_eq (n * 10) ((s[p].toNat:Int) - 48) hm (by unfold I64;omega);have hN:=PInv.next HI.out HJ.out (by rw [HA.out p hlt HJ.out];exact HD.out p hlt) (x:=n * 10+((s[p].toNat:Int) - 48)) (by rw [HA.out p hlt HJ.out];rfl);generalize fit (n * 10+((s[p].toNat:Int) - 48))=q at hA hN;obtain ⟨q1,q2⟩:=q;have HM:=sd hM;have HAd:=sd hA;have HN:=sd hN;have hm':-9223372036854775808≤n * 10∧n * 10≤9223372036854775807:=hm;obtain ⟨hm1,hm2⟩:=hm';clear hM hA hN hm;go_wp2_with fail
     refine (num_Mul.calls _ _ _ _ _ HM.out).mono ?_;rintro e w1 ⟨rfl,hd3⟩;obtain ⟨⟨n3,rfl⟩⟩:=hd3;go_wp2_with fail
     refine (num_Add.calls _ _ _ _ _ HAd.out).mono ?_;rintro e w1 ⟨rfl,hd4⟩;obtain ⟨⟨n4,rfl⟩⟩:=hd4;go_wp2_with fail
     go_roundw
     case rel=>exact ⟨p+1,q1,q2,by omega,rfl,by go_num,rfl,HN,HDr.step _⟩
     case measure=>simp [RowKit.intOf];omega
    rw [fit_no hm] at hM;have hN:=PInv.over HI.out HJ.out hm;have HM:=sd hM;have HN:=sd hN;clear hM hN hm;go_wp2_with fail
    refine (num_Mul.calls _ _ _ _ _ HM.out).mono ?_;rintro e w1 ⟨rfl,hd3⟩;obtain ⟨⟨n3,rfl⟩⟩:=hd3;go_wp2_with fail
    go_roundw
    case rel=>exact ⟨p+1,0,false,by omega,rfl,by go_num,rfl,HN,HDr.step _⟩
    case measure=>simp [RowKit.intOf];omega
   have hr:=HW.out _ _ HI.out (by rw [← HZ.out];omega);have HR:=sd hr;clear hr;by_cases h1:n < lo
   ·go_wp2_with fail
    rw [← HP.out];exact ⟨zq17,HDr⟩
   by_cases h2:hi < n
   ·go_wp2_with fail
    rw [← HP.out];exact ⟨zq17,HDr⟩
   go_wp2_with fail
   rw [← HP.out];exact ⟨by rw [HR.out,if_neg (by omega)];(try rfl),HDr⟩
theorem parse_neg (s:ByteArray) (lo hi:Int) (hs:s.size≤140737488351232) (w:World) (hf:formedL s.data.toList=true) (hn:negOf s.data.toList=true) :
  Calls Tryd.prog 53 #[.string s,.int .i64 lo,.int .i64 hi] w fun e w'=>e=.returned (.tuple #[.int .i64 (parseL s.data.toList lo hi).1,.int .i64 (parseL s.data.toList lo hi).2])∧Drawn0 w w':=by
 have hF:=formed_calls s hs;rw [hf] at hF;have hsz:=size_eq' s;have hm:magOf s.data.toList=s.data.toList.drop 1:=by simp [magOf,hn]
 have hne:=formed_some hf;have hdg:=formed_digits hf;rw [hm] at hne hdg
 have h0:1 < s.size:=by
  rw [hsz];rcases Nat.lt_or_ge 1 s.data.toList.length with h|h
  ·exact h
  ·exact absurd (List.drop_eq_nil_of_le h) hne
 have h00:0 < s.size:=by omega
 have hat:∀ j,(h:j+1 < s.size)→(h':j < (s.data.toList.drop 1).length)→(s.data.toList.drop 1)[j]=s[j+1]:=fun j h h'=>by simp [Nat.add_comm 1 j];rfl
 have hb:((s[0].toNat:Int) == 45)=true:=by
  rw [beq_iff_eq];refine (byte_is s[0] 45).mpr ?_;unfold negOf at hn;rw [List.head?_eq_getElem?,List.getElem?_eq_getElem (by omega),beq_iff_eq,Option.some_inj] at hn;rw [← hn];simp;(try rfl)
 have HS:=fun j n h=>@parse_stop s.data.toList hf j n h lo hi
 have HW:=fun j n h hj=>@parse_whole s.data.toList hf j n h hj lo hi
 have H0:=sd (PInv.start (negOf s.data.toList) (s.data.toList.drop 1));rw [hm] at HS HW;rw [hn] at HS HW H0;have HS:=sd HS;have HW:=sd HW;have HFc:=sd hF
 have HD:∀ j,(h:j+1 < s.size)→isDig s[j+1]=true:=fun j h=>by
  rw [← hat j h (by rw [List.length_drop];omega)];exact List.all_eq_true.mp hdg _ (List.getElem_mem _)
 have HD:=sd HD;have HA:=sd hat;have HZ:=sd hsz;clear hf hn hF hm hne hdg hat hsz;generalize hP:(fun e w'=>e=Ending.returned (.tuple #[.int .i64 (parseL s.data.toList lo hi).1,.int .i64 (parseL s.data.toList lo hi).2])∧Drawn0 w w')=Post;have HP:=sd hP;clear hP;go_enter Tryd.func53,Tryd.ntmps53
 go_wp2_with fail
 refine (HFc.out _).mono ?_;rintro e w1 ⟨rfl,hd1⟩;obtain ⟨⟨n1,rfl⟩⟩:=hd1;go_wp2_with fail
 go_loopw [6,9,10] (fun n_ at_ ok_ wr=>∃ (p:Nat) (n:Int) (ok:Bool),p+1≤s.size∧n_=.int .i64 n∧at_=.int .i64 ((p:Int)+1)∧ok_=.bool ok∧Aside0 (PInv true (s.data.toList.drop 1) p n ok)∧Drawn0 w wr) (fun _ at_ _ _=>(s.size - (RowKit.intOf at_).toNat))
 case atStart=>exact ⟨0,0,true,by omega,rfl,rfl,rfl,H0,(Drawn0.refl _).step _⟩
 case round =>
  obtain ⟨p,n,ok,hp,rfl,rfl,rfl,HI,HDr⟩:=hrel;rename World=>wr
  cases ok
  ·have hr:=HS.out _ _ HI.out;have HR:=sd hr;clear hr;by_cases hlt:p+1 < s.size
   ·go_wp2_with fail
    rw [← HP.out];exact ⟨by rw [HR.out];(try rfl),HDr⟩
   go_wp2_with fail
   rw [← HP.out];exact ⟨by rw [HR.out];(try rfl),HDr⟩
  ·by_cases hlt:p+1 < s.size
   ·have hd:=(isDig_iff _).mp (HD.out p hlt);obtain ⟨hd1,hd2⟩:=hd;have hj:p < (s.data.toList.drop 1).length:=by rw [List.length_drop,← HZ.out];omega
    have HJ:=sd hj;clear hj;have hI:=(slot_ok HI.out).2;have hM:num_Mul.f n 10=some (fit (n * 10)):=by unfold num_Mul.f;rw [if_pos ⟨hI,by unfold I64;omega⟩]
    have hIn:-9223372036854775808≤n∧n≤9223372036854775807:=hI;obtain ⟨hIn1,hIn2⟩:=hIn;clear hI;by_cases hm:I64 (n * 10)
    ·rw [fit_yes hm] at hM;have hA:=num_Sub_eq (n * 10) ((s[p+1].toNat:Int) - 48) hm (by unfold I64;omega);have hN:=PInv.next HI.out HJ.out (by rw [HA.out p hlt HJ.out];exact HD.out p hlt) (x:=n * 10 - ((s[p+1].toNat:Int) - 48)) (by rw [HA.out p hlt HJ.out];rfl);generalize fit (n * 10 - ((s[p+1].toNat:Int) - 48))=q at hA hN;obtain ⟨q1,q2⟩:=q;have HM:=sd hM;have HAd:=sd hA;have HN:=sd hN;have hm':-9223372036854775808≤n * 10∧n * 10≤9223372036854775807:=hm;obtain ⟨hm1,hm2⟩:=hm';clear hM hA hN hm;go_wp2_with fail
     refine (num_Mul.calls _ _ _ _ _ HM.out).mono ?_;rintro e w1 ⟨rfl,hd3⟩;obtain ⟨⟨n3,rfl⟩⟩:=hd3;go_wp2_with fail
     refine (num_Sub.calls _ _ _ _ _ HAd.out).mono ?_;rintro e w1 ⟨rfl,hd4⟩;obtain ⟨⟨n4,rfl⟩⟩:=hd4;go_wp2_with fail
     go_roundw
     case rel=>exact ⟨p+1,q1,q2,by omega,rfl,by go_num,rfl,HN,HDr.step _⟩
     case measure=>simp [RowKit.intOf];omega
    rw [fit_no hm] at hM;have hN:=PInv.over HI.out HJ.out hm;have HM:=sd hM;have HN:=sd hN;clear hM hN hm;go_wp2_with fail
    refine (num_Mul.calls _ _ _ _ _ HM.out).mono ?_;rintro e w1 ⟨rfl,hd3⟩;obtain ⟨⟨n3,rfl⟩⟩:=hd3;go_wp2_with fail
    go_roundw
    case rel=>exact ⟨p+1,0,false,by omega,rfl,by go_num,rfl,HN,HDr.step _⟩
    case measure=>simp [RowKit.intOf];omega
   have hr:=HW.out _ _ HI.out (by rw [List.length_drop,← HZ.out];omega);have HR:=sd hr;clear hr;by_cases h1:n < lo
   ·go_wp2_with fail
    rw [← HP.out];exact ⟨zq17,HDr⟩
   by_cases h2:hi < n
   ·go_wp2_with fail
    rw [← HP.out];exact ⟨zq17,HDr⟩
   go_wp2_with fail
   rw [← HP.out];exact ⟨by rw [HR.out,if_neg (by omega)];(try rfl),HDr⟩
theorem days_number.calls (k:Nat) (a0:ByteArray) (r1:Int) (r2:Bool) (w:World) (h:days_number.f k a0=some (r1,r2)) :
  Calls Tryd.prog 78 #[.string a0] w fun e w'=>e=.returned (.tuple #[.int .i64 r1,.bool r2])∧Drawn0 w w':=by
 have H:=h;clear h;unfold days_number.f at H;have H':=sd H;clear H;go_enter Tryd.func78,Tryd.ntmps78
 go_wp2
 go_loopg [2,7] k (fun kq v2 v7 w'=>∃ (x2_1:Int) (x7_1:Int),v2=.int .i64 x2_1∧v7=.int .i64 x7_1∧Aside0 (days_number.l0 kq a0 x2_1 (a0.size:Int) x7_1=some (r1,r2))∧Aside0 (kq≤k)∧Drawn0 w w')
 case atStart=>exact ⟨(0),(0),zq7,zq7,H',⟨Nat.le_refl _⟩,zq15⟩
 case round =>
  clear H';obtain ⟨x2_1,x7_1,rfl,rfl,HA,HK1,⟨m1,rfl⟩⟩:=hrel
  cases gk with
 |zero=>exact absurd HA.out (by simp [days_number.l0])
 |succ k1 =>
   have H:=HA.out;clear HA;simp only [days_number.l0] at H
   replace H:=ifI H;rcases H with ⟨c2,H⟩|⟨c2,H⟩
   ·have c2b0:decide (x7_1 < (a0.size:Int))=true:=decide_eq_true c2;clear c2;replace H:=ifI H;rcases H with ⟨c3,H⟩|⟨c3,H⟩
    ·have c3b0:decide (0≤x7_1)=true:=decide_eq_true c3;clear c3;replace H:=ifI H;rcases H with ⟨c4,H⟩|⟨c4,H⟩
     ·have c4b0:decide (x7_1 < (a0.size:Int))=true:=decide_eq_true c4;clear c4;replace H:=ifI H;rcases H with ⟨c6,H⟩|⟨c6,H⟩
      ·have c6b0:decide ((bt a0 x7_1) < 48)=true:=decide_eq_true c6;clear c6;simp only [Option.some.injEq,Prod.mk.injEq] at H
       obtain ⟨rfl,rfl⟩:=H;have p5:0≤(x7_1:Int):=od;have q5:x7_1 < (a0.size:Int):=od;have hx5:=bt_at a0 x7_1;replace p5:=eq_true p5;replace q5:=eq_true q5;go_wp2
       go_ret2
       exact ⟨zq7,zq15⟩
      have c6b0:decide ((bt a0 x7_1) < 48)=false:=decide_eq_false c6;clear c6;replace H:=ifI H;rcases H with ⟨c8,H⟩|⟨c8,H⟩
      ·have c8b0:decide (57 < (bt a0 x7_1))=true:=decide_eq_true c8;clear c8;simp only [Option.some.injEq,Prod.mk.injEq] at H
       obtain ⟨rfl,rfl⟩:=H;have p5:0≤(x7_1:Int):=od;have q5:x7_1 < (a0.size:Int):=od;have hx5:=bt_at a0 x7_1;replace p5:=eq_true p5;replace q5:=eq_true q5;have p7:0≤(x7_1:Int):=od;have q7:x7_1 < (a0.size:Int):=od;have hx7:=bt_at a0 x7_1;replace p7:=eq_true p7;replace q7:=eq_true q7;go_wp2
       go_ret2
       exact ⟨zq7,zq15⟩
      have c8b0:decide (57 < (bt a0 x7_1))=false:=decide_eq_false c8;clear c8;have H':=sd H;clear H;have p5:0≤(x7_1:Int):=od;have q5:x7_1 < (a0.size:Int):=od;have hx5:=bt_at a0 x7_1;replace p5:=eq_true p5;replace q5:=eq_true q5;have p7:0≤(x7_1:Int):=od;have q7:x7_1 < (a0.size:Int):=od;have hx7:=bt_at a0 x7_1;replace p7:=eq_true p7;replace q7:=eq_true q7;have p9:0≤(x7_1:Int):=od;have q9:x7_1 < (a0.size:Int):=od;have hx9:=bt_at a0 x7_1;replace p9:=eq_true p9;replace q9:=eq_true q9;go_wp2
      go_roundg k1
      case measure=>have:=HK1.out;omega
      case rel=>exact ⟨(wrap64 ((wrap64 (10 * x2_1))+(((bt a0 x7_1) - 48) % 256))),(wrap64 (x7_1+1)),zq7,zq7,H',⟨by have:=HK1.out;omega⟩,zq15⟩
     exact absurd H (by simp)
    exact absurd H (by simp)
   have c2b0:decide (x7_1 < (a0.size:Int))=false:=decide_eq_false c2;clear c2;simp only [Option.some.injEq,Prod.mk.injEq] at H
   obtain ⟨rfl,rfl⟩:=H;go_wp2
   go_ret2
   exact ⟨zq7,zq15⟩
end A

end Go.Proofs.YtlblkojjpagbkaaDoor