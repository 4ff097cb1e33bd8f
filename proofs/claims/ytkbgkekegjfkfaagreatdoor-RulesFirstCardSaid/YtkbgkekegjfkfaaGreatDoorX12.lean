-- By pack.py, a program of this session's.
import Derived.Test.YtkbgkekegjfkfaaGreatDoorX5
import Derived.Test.YtkbgkekegjfkfaaGreatDoorX6
import Derived.Test.YtkbgkekegjfkfaaGreatDoorX7
set_option linter.unusedVariables false
set_option linter.unusedSimpArgs false
namespace Go.Proofs.YtkbgkekegjfkfaaGreatDoor.A
open Go.RowKit B WW WL WM
attribute [local go_sem] max2_int min2_int max_two min_two max_three min_three max_four min_four
set_option maxHeartbeats 8000000
set_option maxRecDepth 100000
theorem num_Text.itoa_calls (n:Int) (h0:-9223372036854775808≤n) (h1:n < 9223372036854775808) (w:World):Calls Tryz.prog 72 #[.int .i64 n] w fun e w'=>e=.returned (.string ⟨(Lib.itoa n).toArray⟩)∧Below w.heap.size w w':=by
 have HP:=Lib.hid (@itoa_pos n);have HM:=Lib.hid (@itoa_neg' n);obtain ⟨u,hu⟩:∃ u:Nat,u=n.natAbs:=⟨_,rfl⟩
 rw [← hu] at HP HM;have hu1:u≤9223372036854775808:=by omega
 have HU:=Lib.hid hu;clear hu;go_enter Tryz.func72,Tryz.ntmps72
 go_wp2_with fail
 refine (num_size.same n ⟨h0,by omega⟩ _).mono ?_;rintro e w' ⟨rfl,rfl⟩;rw [← HU.out];go_wp2_with fail
 go_loopw [4,5,8] (fun at_ left i wr=>∃ m k:Nat,m+k=19∧at_=.int .i64 ((m:Int)+1)∧left=.int .u64 ((u / 10 ^ k:Nat):Int)∧i=.int .i64 (k:Int)∧wr=w.alloc (.cells (trow u (m+1)) 136)∧(k=0∨u / 10 ^ k≠0)) (fun _ _ i _=>(19 - (RowKit.intOf i).toNat))
 case atStart=>exact ⟨19,0,rfl,rfl,by simp,rfl,by rw [trow_start];rfl,.inl rfl⟩
 case round =>
  obtain ⟨m,k,hmk,rfl,rfl,rfl,rfl,hz⟩:=hrel;have HZ:=Lib.hid hz;have hv19:k=19→u / 10 ^ k=0:=by intro e;rw [e];exact Nat.div_eq_of_lt (by omega)
  have hk:k < 19:=by
   rcases Nat.lt_or_ge k 19 with h | h
   ·exact h
   ·have:=hv19 (by omega);omega
  have hk18:k=18→u / 10 ^ k < 10:=by intro e;rw [e];omega
  clear hz hv19;have HS:=Lib.hid (trow_set u m k _ hmk rfl);have HY:=Lib.hid (trow_digits u m k hmk);obtain ⟨v,hv⟩:∃ v,v=u / 10 ^ k:=⟨_,rfl⟩
  have hvle:v≤u:=by rw [hv];exact Nat.div_le_self _ _
  have hvq:u / 10 ^ (k+1)=v / 10:=by rw [hv,Nat.pow_succ,Nat.div_div_eq_div_mul]
  rw [← hv] at HZ HS HY hk18 ⊢;have HV:=Lib.hid hv;clear hv;have hX:=trow_at u (m+1) m (by omega);obtain ⟨X,HX⟩:∃ X,X=trow u (m+1):=⟨_,rfl⟩
  obtain ⟨Y,HYY⟩:∃ Y,Y=trow u m:=⟨_,rfl⟩
  have HYA:=Lib.hid (fun i h=>trow_at u m i h);rw [← HX] at hX HS ⊢;rw [← HYY] at HS HY HYA;rw [if_neg (by omega)] at hX;have HXX:=Lib.hid HX;clear HX;have HYY':=Lib.hid HYY;clear HYY;have hset:X.setIfInBounds m (Value.int IntKind.u8 (48+(v:Int) % 10))=Y:=by rw [← HS.out];congr 2
  by_cases hv0:v / 10=0
  ·obtain ⟨hl,hd⟩:=HY.out (by rw [hvq];exact hv0) HZ.out;clear hk18;have hb0:((v:Int) / 10 == 0)=true:=by rw [beq_iff_eq];omega
   by_cases hn:n < 0
   ·obtain ⟨j,rfl⟩:∃ j,m=j+1:=⟨m - 1,by omega⟩
    have hY:=HYA.out j (by omega);rw [if_neg (by omega)] at hY;obtain ⟨Z,HZZ⟩:∃ Z,Z=Y.setIfInBounds j (.int .u8 45):=⟨_,rfl⟩
    have hset2:Y.setIfInBounds j (.int .u8 45)=Z:=HZZ.symm;have hsl:=fun W b=>sl20 W b j j rfl (by omega)
    have hcv:=fun cap=>conv_row (P:=Tryz.prog) w 136 102 9 5 Tryz.underlying102 Tryz.underlying5 Tryz.underlying9 Z j (20 - j) cap (45 :: Lib.decDigits u) (by simp only [List.length_cons];omega) (fun i hi=>by
     subst HZZ;rcases i with _ | i
     ·rw [Nat.add_zero,Array.getElem?_setIfInBounds,if_pos rfl,if_pos (by rw [HYY'.out,trow_size];omega)];rfl
     ·rw [Array.getElem?_setIfInBounds,if_neg (by omega),show j+(i+1)=j+1+i by omega,hd i (by simpa using hi)];rfl)
    clear hl hd hv0 HZZ hvq;go_wp2_with fail
    go_ret
    refine ⟨by rw [HM.out hn];rfl,?_⟩;exact (Below.refl _ _).alloc (Nat.le_refl _) _
   have hsl:=fun W b=>sl20 W b m m rfl (by omega)
   have hcv:=fun cap=>conv_row (P:=Tryz.prog) w 136 102 9 5 Tryz.underlying102 Tryz.underlying5 Tryz.underlying9 Y m (20 - m) cap (Lib.decDigits u) hl hd
   clear hl hd hv0 hvq;go_wp2_with fail
   go_ret
   refine ⟨by rw [HP.out (by omega)];rfl,?_⟩;exact (Below.refl _ _).alloc (Nat.le_refl _) _
  have hb0:((v:Int) / 10 == 0)=false:=by rw [beq_eq_false_iff_ne];omega
  clear hk18;clear HY HYA;have HQ:=Lib.hid hvq;clear hvq;have HV0:=Lib.hid hv0;clear hv0;go_wp2_with fail
  go_roundw
  case rel =>
   obtain ⟨j,rfl⟩:∃ j,m=j+1:=⟨m - 1,by omega⟩
   exact ⟨j,k+1,by omega,by go_num,by rw [HQ.out];go_num,by go_num,by rw [HYY'.out],.inr (by rw [HQ.out];exact HV0.out)⟩
  case measure=>simp [RowKit.intOf];omega
theorem num_Text.calls (a0:Int) (r:ByteArray) (w:World) (h:num_Text.f a0=some r) :
  Calls Tryz.prog 72 #[.int .i64 a0] w fun e w'=>e=.returned (.string r)∧Below w.heap.size w w':=by
 unfold num_Text.f at h;split at h <;> simp only [Option.some.injEq,reduceCtorEq] at h
 rename_i hb
 subst h;exact num_Text.itoa_calls a0 hb.1 (by have:=hb.2;omega) w
theorem days_padded.calls (a0:Int) (r:ByteArray) (w:World) (h:days_padded.f a0=some r) :
  Calls Tryz.prog 102 #[.int .i64 a0] w fun e w'=>e=.returned (.string r)∧Below w.heap.size w w':=by
 have HB:=sd (Below.refl w.heap.size w);have H:=h;clear h;unfold days_padded.f at H;replace H:=ifI H;rcases H with ⟨c2,H⟩ | ⟨c2,H⟩
 ·have c2b0:decide (a0 < 10)=true:=decide_eq_true c2;clear c2;replace H:=bdI H;obtain ⟨t169,A3,H⟩:=H;(try dsimp only at H)
  replace H:=ifI H;rcases H with ⟨c4,H⟩ | ⟨c4,H⟩
  ·have c4b0:=eq_true c4;have c4b1:decide (1+t169.size≤9223372036854775807)=true:=decide_eq_true c4;try have c4b2:(9223372036854775807 < 1+t169.size)=False:=eq_false (Nat.not_lt.2 c4)
   obtain rfl:=Option.some.inj H;go_enter Tryz.func102,Tryz.ntmps102
   go_wp2_with (first | ((with_reducible refine gate_callee (f:=72) rfl ?_);refine gL 6 Tryz.func72 #[.int .i64 a0] ?_;(with_reducible refine (num_Text.calls a0 t169 _ A3.out).mono ?_);rintro e w5 ⟨rfl,hb⟩;refine ⟨_,rfl,?_⟩;replace HB:=hbm HB hb;clear hb))
   go_ret
   exact ⟨zq4,zq6⟩
  exact absurd H (by simp)
 have c2b0:decide (a0 < 10)=false:=decide_eq_false c2;clear c2;replace H:=bdI H;obtain ⟨t170,A6,H⟩:=H;(try dsimp only at H)
 obtain rfl:=Option.some.inj H;go_enter Tryz.func102,Tryz.ntmps102
 go_wp2_with (first | ((with_reducible refine gate_callee (f:=72) rfl ?_);refine gL 9 Tryz.func72 #[.int .i64 a0] ?_;(with_reducible refine (num_Text.calls a0 t170 _ A6.out).mono ?_);rintro e w7 ⟨rfl,hb⟩;refine ⟨_,rfl,?_⟩;replace HB:=hbm HB hb;clear hb))
 go_ret
 exact ⟨zq4,zq6⟩
def days_Text.f (k:Nat) (a0:Int):Option (ByteArray×Int):=(days_Date.f k a0).bind fun bt171=>(if bt171.2.2.2=0 then ((num_Text.f bt171.1).bind fun t176=>(if t176.size+1≤9223372036854775807 then ((days_padded.f bt171.2.1).bind fun t177=>(if (t176++(⟨#[45]⟩:ByteArray)).size+t177.size≤9223372036854775807 then (if ((t176++(⟨#[45]⟩:ByteArray))++t177).size+1≤9223372036854775807 then ((days_padded.f bt171.2.2.1).bind fun t178=>(if (((t176++(⟨#[45]⟩:ByteArray))++t177)++(⟨#[45]⟩:ByteArray)).size+t178.size≤9223372036854775807 then (some ((((t176++(⟨#[45]⟩:ByteArray))++t177)++(⟨#[45]⟩:ByteArray))++t178,0)) else (none))) else (none)) else (none))) else (none))) else (some ((⟨#[]⟩:ByteArray),bt171.2.2.2)))
theorem days_Text.tab4:rtab .any (opsOf Tryz.f73 4)=days_Text.T4:=by kernel_rfl
def rules_operand.f (k:Nat) (a0_0:Int) (a0_1:Int) (a0_2:ByteArray) (a0_3:Int):Option (ByteArray):=if a0_0=1 then ((num_Text.f a0_3).bind fun t202=>(some t202)) else (if a0_0=4 then ((days_Text.f k a0_3).bind fun bt203=>(some bt203.1)) else ((words_Quote.f k a0_2).bind fun bt205=>(some bt205.1)))
def txC (k:Nat):List S48→List ByteArray→ByteArray→Option (List ByteArray)
 | [],l,_=>some l
 | c :: r,l,link=>(nmd fieldL c.f0).bind fun a=>(nmd opL c.f1).bind fun b=>(rules_operand.f k c.f0 c.f1 c.f2 c.f3).bind fun o=>txC k r (l++[link,a,b,o]) andB
def rules_Text.f (k:Nat) (nm:ByteArray) (cs:List S48) (acc par:ByteArray) (tg:List S50):Option (ByteArray×Int) :=
 (rules_Check.f k nm cs acc par tg).bind fun e=>if e=0 then (if cs.length≤1000000∧tg.length≤1000000 then (txC k cs [ruleB,nm] ifB).bind fun l =>
  txJ (txT tg (if par.toList=[] then l++[thenB,acc] else l++[thenB,acc]++[partyB,par])) else none) else some (⟨#[]⟩,e)
theorem num_Add.calls (a0 a1 r1:Int) (r2:Bool) (w:World) (h:num_Add.f a0 a1=some (r1,r2)) :
  Calls Tryz.prog 117 #[.int .i64 a0,.int .i64 a1] w fun e w'=>e=.returned (.tuple #[.int .i64 r1,.bool r2])∧Drawn0 w w':=by
 have H:=h;clear h;unfold num_Add.f at H;replace H:=ifI H;rcases H with ⟨c3,H⟩ | ⟨c3,H⟩
 ·have c3b0:((decide ((wrap64 (a0+a1)) > a0)) != (decide (a1 > 0)))=true:=c3;(try (have c3b1:decide ((decide ((wrap64 (a0+a1)) > a0))=(decide (a1 > 0)))=false:=by simpa using c3))
  (try (have c3b2:((decide ((wrap64 (a0+a1)) > a0)) == (decide (a1 > 0)))=false:=by simpa using c3))
  (try (have c3b3:¬ ((decide ((wrap64 (a0+a1)) > a0))=(decide (a1 > 0))):=by simpa using c3))
  clear c3;replace H:=ifI H;rcases H with ⟨c4,H⟩ | ⟨c4,H⟩
  ·obtain ⟨c4b0,c4b1⟩:=eqI c4;clear c4;simp only [Option.some.injEq,Prod.mk.injEq] at H
   obtain ⟨rfl,rfl⟩:=H;go_enter Tryz.func117,Tryz.ntmps117
   go_wp2
   go_ret2
   exact ⟨zq7,zq16⟩
  obtain ⟨c4b0,c4b1⟩:=neI c4;simp only [Option.some.injEq,Prod.mk.injEq] at H
  obtain ⟨rfl,rfl⟩:=H;go_enter Tryz.func117,Tryz.ntmps117
  go_wp2
  go_ret2
  exact ⟨zq7,zq16⟩
 have c3b0:((decide ((wrap64 (a0+a1)) > a0)) != (decide (a1 > 0)))=false:=by simpa using c3
 (try (have c3b1:decide ((decide ((wrap64 (a0+a1)) > a0))=(decide (a1 > 0)))=true:=by simpa using c3))
 (try (have c3b2:((decide ((wrap64 (a0+a1)) > a0)) == (decide (a1 > 0)))=true:=by simpa using c3))
 clear c3;simp only [Option.some.injEq,Prod.mk.injEq] at H
 obtain ⟨rfl,rfl⟩:=H;go_enter Tryz.func117,Tryz.ntmps117
 go_wp2
 go_ret2
 exact ⟨zq7,zq16⟩
theorem num_Add_eq (a b:Int) (ha:I64 a) (hb:I64 b):num_Add.f a b=some (fit (a+b)):=by
 unfold num_Add.f;unfold I64 at ha hb;have hw:I64 (a+b)→wrap64 (a+b)=a+b:=by unfold I64;unfold wrap64;omega
 have hlo:a+b < -9223372036854775808→wrap64 (a+b)=a+b+18446744073709551616:=by unfold wrap64;omega
 have hhi:9223372036854775807 < a+b→wrap64 (a+b)=a+b - 18446744073709551616:=by unfold wrap64;omega
 by_cases h:I64 (a+b)
 ·rw [hw h,fit_yes h];by_cases hb0:b=0
  ·subst hb0;simp
  by_cases hb1:b > 0
  ·rw [if_neg (by rw [decide_eq_true (show a+b > a by omega),decide_eq_true hb1];decide)]
  rw [if_neg (by rw [decide_eq_false (show ¬ a+b > a by omega),decide_eq_false hb1];decide)]
 rw [fit_no h];unfold I64 at h;by_cases h1:a+b < -9223372036854775808
 ·rw [hlo h1,if_pos (by rw [decide_eq_true (show a+b+18446744073709551616 > a by omega),decide_eq_false (show ¬ b > 0 by omega)];decide),if_neg (by omega)]
 rw [hhi (by omega),if_pos (by rw [decide_eq_false (show ¬ a+b - 18446744073709551616 > a by omega),decide_eq_true (show b > 0 by omega)];decide),if_neg (by omega)]
theorem num_Sub.calls (a0 a1 r1:Int) (r2:Bool) (w:World) (h:num_Sub.f a0 a1=some (r1,r2)) :
  Calls Tryz.prog 118 #[.int .i64 a0,.int .i64 a1] w fun e w'=>e=.returned (.tuple #[.int .i64 r1,.bool r2])∧Drawn0 w w':=by
 have H:=h;clear h;unfold num_Sub.f at H;replace H:=ifI H;rcases H with ⟨c3,H⟩ | ⟨c3,H⟩
 ·have c3b0:((decide ((wrap64 (a0 - a1)) < a0)) != (decide (a1 > 0)))=true:=c3;(try (have c3b1:decide ((decide ((wrap64 (a0 - a1)) < a0))=(decide (a1 > 0)))=false:=by simpa using c3))
  (try (have c3b2:((decide ((wrap64 (a0 - a1)) < a0)) == (decide (a1 > 0)))=false:=by simpa using c3))
  (try (have c3b3:¬ ((decide ((wrap64 (a0 - a1)) < a0))=(decide (a1 > 0))):=by simpa using c3))
  clear c3;replace H:=ifI H;rcases H with ⟨c4,H⟩ | ⟨c4,H⟩
  ·obtain ⟨c4b0,c4b1⟩:=eqI c4;clear c4;simp only [Option.some.injEq,Prod.mk.injEq] at H
   obtain ⟨rfl,rfl⟩:=H;go_enter Tryz.func118,Tryz.ntmps118
   go_wp2
   go_ret2
   exact ⟨zq7,zq16⟩
  obtain ⟨c4b0,c4b1⟩:=neI c4;simp only [Option.some.injEq,Prod.mk.injEq] at H
  obtain ⟨rfl,rfl⟩:=H;go_enter Tryz.func118,Tryz.ntmps118
  go_wp2
  go_ret2
  exact ⟨zq7,zq16⟩
 have c3b0:((decide ((wrap64 (a0 - a1)) < a0)) != (decide (a1 > 0)))=false:=by simpa using c3
 (try (have c3b1:decide ((decide ((wrap64 (a0 - a1)) < a0))=(decide (a1 > 0)))=true:=by simpa using c3))
 (try (have c3b2:((decide ((wrap64 (a0 - a1)) < a0)) == (decide (a1 > 0)))=true:=by simpa using c3))
 clear c3;simp only [Option.some.injEq,Prod.mk.injEq] at H
 obtain ⟨rfl,rfl⟩:=H;go_enter Tryz.func118,Tryz.ntmps118
 go_wp2
 go_ret2
 exact ⟨zq7,zq16⟩
theorem num_Sub_eq (a b:Int) (ha:I64 a) (hb:I64 b):num_Sub.f a b=some (fit (a - b)):=by
 unfold num_Sub.f;unfold I64 at ha hb;have hw:I64 (a - b)→wrap64 (a - b)=a - b:=by unfold I64;unfold wrap64;omega
 have hlo:a - b < -9223372036854775808→wrap64 (a - b)=a - b+18446744073709551616:=by unfold wrap64;omega
 have hhi:9223372036854775807 < a - b→wrap64 (a - b)=a - b - 18446744073709551616:=by unfold wrap64;omega
 by_cases h:I64 (a - b)
 ·rw [hw h,fit_yes h];by_cases hb0:b=0
  ·subst hb0;simp
  by_cases hb1:b > 0
  ·rw [if_neg (by rw [decide_eq_true (show a - b < a by omega),decide_eq_true hb1];decide)]
  rw [if_neg (by rw [decide_eq_false (show ¬ a - b < a by omega),decide_eq_false hb1];decide)]
 rw [fit_no h];unfold I64 at h;by_cases h1:a - b < -9223372036854775808
 ·rw [hlo h1,if_pos (by rw [decide_eq_false (show ¬ a - b+18446744073709551616 < a by omega),decide_eq_true (show b > 0 by omega)];decide),if_neg (by omega)]
 rw [hhi (by omega),if_pos (by rw [decide_eq_true (show a - b - 18446744073709551616 < a by omega),decide_eq_false (show ¬ b > 0 by omega)];decide),if_neg (by omega)]
theorem bits_Mul64.calls (a0 a1 r1 r2:Int) (w:World) (h:bits_Mul64.f a0 a1=some (r1,r2)) :
  Calls Tryz.prog 139 #[.int .u64 a0,.int .u64 a1] w fun e w'=>e=.returned (.tuple #[.int .u64 r1,.int .u64 r2])∧Drawn0 w w':=by
 unfold bits_Mul64.f at h;split at h <;> simp only [Option.some.injEq,Prod.mk.injEq,reduceCtorEq] at h
 rename_i hb
 obtain ⟨rfl,rfl⟩:=h;obtain ⟨x,rfl⟩:=Int.eq_ofNat_of_zero_le hb.1;obtain ⟨y,rfl⟩:=Int.eq_ofNat_of_zero_le hb.2.2.1;refine (bits_Mul64.nat x y (by omega) (by omega) w).mono ?_;rintro e w' ⟨rfl,rfl⟩;exact ⟨by rw [m64_mulN];rfl,Drawn0.refl _⟩
theorem num_Mul.calls (a0 a1 r1:Int) (r2:Bool) (w:World) (h:num_Mul.f a0 a1=some (r1,r2)) :
  Calls Tryz.prog 119 #[.int .i64 a0,.int .i64 a1] w fun e w'=>e=.returned (.tuple #[.int .i64 r1,.bool r2])∧Drawn0 w w':=by
 unfold num_Mul.f at h;split at h <;> simp only [Option.some.injEq,reduceCtorEq] at h
 rename_i hb
 have h0:num_size.f a0=some (a0.natAbs:Int):=by unfold num_size.f;rw [if_pos hb.1]
 have h1:num_size.f a1=some (a1.natAbs:Int):=by unfold num_size.f;rw [if_pos hb.2]
 have h2:bits_Mul64.f (a0.natAbs:Int) (a1.natAbs:Int)=some (((a0.natAbs * a1.natAbs:Nat):Int) / 18446744073709551616,((a0.natAbs * a1.natAbs:Nat):Int) % 18446744073709551616):=by
  have:=hb.1;have:=hb.2;unfold I64 at *;unfold bits_Mul64.f;rw [if_pos (by omega)];simp
 obtain ⟨x,hx⟩:∃ x,x=((a0.natAbs * a1.natAbs:Nat):Int) / 18446744073709551616:=⟨_,rfl⟩
 obtain ⟨y,hy⟩:∃ y,y=((a0.natAbs * a1.natAbs:Nat):Int) % 18446744073709551616:=⟨_,rfl⟩
 rw [← hx,← hy] at h2;have key:=mul_ways h.symm hx hy;clear hx hy h;have H0:=sd h0;have H1:=sd h1;have H2:=sd h2;clear h0 h1 h2 hb;obtain ⟨s,hs⟩:∃ s,s=(decide (a0 < 0) != decide (a1 < 0)):=⟨_,rfl⟩
 replace key:=key s hs.symm
 by_cases ha:a0 < 0 <;> by_cases hb:a1 < 0 <;> (have hs':s=_:=hs.trans (by simp only [ha,hb,decide_true,decide_false,bne_self_eq_false,Bool.true_bne,Bool.false_bne,Bool.not_false];rfl)) <;> subst hs' <;>
  simp only [Bool.false_eq_true,if_false,if_true] at key <;> clear hs <;> (rcases key with ⟨hm,hw,b1,b2⟩ | ⟨hm,b1⟩ | ⟨hm,b1,b2⟩) <;> simp only [Prod.mk.injEq] at hm <;> (obtain ⟨rfl,rfl⟩:=hm)
 all_goals
  (try (have HW:=sd hw;clear hw))
  (first | have da:=decide_eq_true ha | have da:=decide_eq_false ha)
  (first | have db:=decide_eq_true hb | have db:=decide_eq_false hb)
  (try have e0:(!decide (a0 < 0))=true:=by rw [da];rfl)
  (try have e1:(!decide (a1 < 0))=true:=by rw [db];rfl)
  (try have e2:(!decide (a0 < 0) == decide (a1 < 0))=false:=by rw [da,db];rfl)
  clear ha hb;(first | have d1:=decide_eq_true (show 0 < x by omega) | have d1:=decide_eq_false (show ¬ 0 < x by omega))
  (try (first | have d2:=decide_eq_true (show 9223372036854775808 < y by omega) | have d2:=decide_eq_false (show ¬ 9223372036854775808 < y by omega)))
  (try (first | have d3:=decide_eq_true (show 9223372036854775807 < y by omega) | have d3:=decide_eq_false (show ¬ 9223372036854775807 < y by omega)))
  clear b1;(try clear b2)
 all_goals
  go_enter Tryz.func119,Tryz.ntmps119
  go_wp2_with fail
  refine (num_size.calls a0 _ _ H0.out).mono ?_;rintro e w1 ⟨rfl,hd1⟩;obtain ⟨⟨n1,rfl⟩⟩:=hd1;go_wp2_with fail
  refine (num_size.calls a1 _ _ H1.out).mono ?_;rintro e w2 ⟨rfl,hd2⟩;obtain ⟨⟨n2,rfl⟩⟩:=hd2;go_wp2_with fail
  refine (bits_Mul64.calls _ _ _ _ _ H2.out).mono ?_;rintro e w3 ⟨rfl,hd3⟩;obtain ⟨⟨n3,rfl⟩⟩:=hd3;go_wp2_with fail
  all_goals (try (exfalso;(simp at *) <;> omega))
  go_ret2
  refine ⟨?_,⟨⟨_,rfl⟩⟩⟩;first | rfl | exact ret_tup HW.out
theorem days_number.calls (k:Nat) (a0:ByteArray) (r1:Int) (r2:Bool) (w:World) (h:days_number.f k a0=some (r1,r2)) :
  Calls Tryz.prog 120 #[.string a0] w fun e w'=>e=.returned (.tuple #[.int .i64 r1,.bool r2])∧Drawn0 w w':=by
 have H:=h;clear h;unfold days_number.f at H;have H':=sd H;clear H;go_enter Tryz.func120,Tryz.ntmps120
 go_wp2
 go_loopg [2,7] k (fun kq v2 v7 w'=>∃ (x2_1:Int) (x7_1:Int),v2=.int .i64 x2_1∧v7=.int .i64 x7_1∧Aside0 (days_number.l0 kq a0 x2_1 (a0.size:Int) x7_1=some (r1,r2))∧Aside0 (kq≤k)∧Drawn0 w w')
 case atStart=>exact ⟨(0),(0),zq7,zq7,H',⟨Nat.le_refl _⟩,zq16⟩
 case round =>
  clear H';try clear c1
  obtain ⟨x2_1,x7_1,rfl,rfl,HA,HK1,⟨m1,rfl⟩⟩:=hrel
  cases gk with
  | zero=>exact absurd HA.out (by simp [days_number.l0])
  | succ k1 =>
   have H:=HA.out;clear HA;simp only [days_number.l0] at H
   replace H:=ifI H;rcases H with ⟨c2,H⟩ | ⟨c2,H⟩
   ·have c2b0:decide (x7_1 < (a0.size:Int))=true:=decide_eq_true c2;clear c2;replace H:=ifI H;rcases H with ⟨c3,H⟩ | ⟨c3,H⟩
    ·have c3b0:decide (0≤x7_1)=true:=decide_eq_true c3;clear c3;replace H:=ifI H;rcases H with ⟨c4,H⟩ | ⟨c4,H⟩
     ·have c4b0:decide (x7_1 < (a0.size:Int))=true:=decide_eq_true c4;clear c4;replace H:=ifI H;rcases H with ⟨c6,H⟩ | ⟨c6,H⟩
      ·have c6b0:decide ((bt a0 x7_1) < 48)=true:=decide_eq_true c6;clear c6;simp only [Option.some.injEq,Prod.mk.injEq] at H
       obtain ⟨rfl,rfl⟩:=H;have p5:0≤(x7_1:Int):=od;have q5:x7_1 < (a0.size:Int):=od;have hx5:=bt_at a0 x7_1;replace p5:=eq_true p5;replace q5:=eq_true q5;go_wp2
       go_ret2
       exact ⟨zq7,zq16⟩
      have c6b0:decide ((bt a0 x7_1) < 48)=false:=decide_eq_false c6;clear c6;replace H:=ifI H;rcases H with ⟨c8,H⟩ | ⟨c8,H⟩
      ·have c8b0:decide (57 < (bt a0 x7_1))=true:=decide_eq_true c8;clear c8;simp only [Option.some.injEq,Prod.mk.injEq] at H
       obtain ⟨rfl,rfl⟩:=H;have p5:0≤(x7_1:Int):=od;have q5:x7_1 < (a0.size:Int):=od;have hx5:=bt_at a0 x7_1;replace p5:=eq_true p5;replace q5:=eq_true q5;have p7:0≤(x7_1:Int):=od;have q7:x7_1 < (a0.size:Int):=od;have hx7:=bt_at a0 x7_1;replace p7:=eq_true p7;replace q7:=eq_true q7;go_wp2
       go_ret2
       exact ⟨zq7,zq16⟩
      have c8b0:decide (57 < (bt a0 x7_1))=false:=decide_eq_false c8;clear c8;have H':=sd H;clear H;have p5:0≤(x7_1:Int):=od;have q5:x7_1 < (a0.size:Int):=od;have hx5:=bt_at a0 x7_1;replace p5:=eq_true p5;replace q5:=eq_true q5;have p7:0≤(x7_1:Int):=od;have q7:x7_1 < (a0.size:Int):=od;have hx7:=bt_at a0 x7_1;replace p7:=eq_true p7;replace q7:=eq_true q7;have p9:0≤(x7_1:Int):=od;have q9:x7_1 < (a0.size:Int):=od;have hx9:=bt_at a0 x7_1;replace p9:=eq_true p9;replace q9:=eq_true q9;go_wp2
      go_roundg k1
      case measure=>have:=HK1.out;omega
      case rel=>exact ⟨(wrap64 ((wrap64 (10 * x2_1))+(((bt a0 x7_1) - 48) % 256))),(wrap64 (x7_1+1)),zq7,zq7,H',⟨by have:=HK1.out;omega⟩,zq16⟩
     exact absurd H (by simp)
    exact absurd H (by simp)
   have c2b0:decide (x7_1 < (a0.size:Int))=false:=decide_eq_false c2;clear c2;simp only [Option.some.injEq,Prod.mk.injEq] at H
   obtain ⟨rfl,rfl⟩:=H;go_wp2
   go_ret2
   exact ⟨zq7,zq16⟩
theorem rf06_letter.calls (a0:Int) (r:Bool) (w:World) (h:rf06_letter.f a0=some r) :
  Calls Tryz.prog 54 #[.int .u8 a0] w fun e w'=>e=.returned (.bool r)∧Drawn0 w w':=by
 have H:=h;clear h;unfold rf06_letter.f at H;replace H:=ifI H;rcases H with ⟨c2,H⟩ | ⟨c2,H⟩
 ·have c2b0:decide (97≤a0)=true:=decide_eq_true c2;clear c2;replace H:=ifI H;rcases H with ⟨c3,H⟩ | ⟨c3,H⟩
  ·have c3b0:decide (a0≤122)=true:=decide_eq_true c3;clear c3;obtain rfl:=Option.some.inj H;go_enter Tryz.func54,Tryz.ntmps54
   go_wp2
   go_ret
   exact ⟨zq7,zq16⟩
  have c3b0:decide (a0≤122)=false:=decide_eq_false c3;clear c3;replace H:=ifI H;rcases H with ⟨c4,H⟩ | ⟨c4,H⟩
  ·have c4b0:decide (65≤a0)=true:=decide_eq_true c4;clear c4;replace H:=ifI H;rcases H with ⟨c5,H⟩ | ⟨c5,H⟩
   ·have c5b0:decide (a0≤90)=true:=decide_eq_true c5;clear c5;obtain rfl:=Option.some.inj H;go_enter Tryz.func54,Tryz.ntmps54
    go_wp2
    go_ret
    exact ⟨zq7,zq16⟩
   have c5b0:decide (a0≤90)=false:=decide_eq_false c5;clear c5;obtain rfl:=Option.some.inj H;go_enter Tryz.func54,Tryz.ntmps54
   go_wp2
   go_ret
   exact ⟨zq7,zq16⟩
  have c4b0:decide (65≤a0)=false:=decide_eq_false c4;clear c4;obtain rfl:=Option.some.inj H;go_enter Tryz.func54,Tryz.ntmps54
  go_wp2
  go_ret
  exact ⟨zq7,zq16⟩
 have c2b0:decide (97≤a0)=false:=decide_eq_false c2;clear c2;replace H:=ifI H;rcases H with ⟨c6,H⟩ | ⟨c6,H⟩
 ·have c6b0:decide (65≤a0)=true:=decide_eq_true c6;clear c6;replace H:=ifI H;rcases H with ⟨c7,H⟩ | ⟨c7,H⟩
  ·have c7b0:decide (a0≤90)=true:=decide_eq_true c7;clear c7;obtain rfl:=Option.some.inj H;go_enter Tryz.func54,Tryz.ntmps54
   go_wp2
   go_ret
   exact ⟨zq7,zq16⟩
  have c7b0:decide (a0≤90)=false:=decide_eq_false c7;clear c7;obtain rfl:=Option.some.inj H;go_enter Tryz.func54,Tryz.ntmps54
  go_wp2
  go_ret
  exact ⟨zq7,zq16⟩
 have c6b0:decide (65≤a0)=false:=decide_eq_false c6;clear c6;obtain rfl:=Option.some.inj H;go_enter Tryz.func54,Tryz.ntmps54
 go_wp2
 go_ret
 exact ⟨zq7,zq16⟩
theorem rf06_digit.calls (a0:Int) (r:Bool) (w:World) (h:rf06_digit.f a0=some r) :
  Calls Tryz.prog 55 #[.int .u8 a0] w fun e w'=>e=.returned (.bool r)∧Drawn0 w w':=by
 have H:=h;clear h;unfold rf06_digit.f at H;replace H:=ifI H;rcases H with ⟨c2,H⟩ | ⟨c2,H⟩
 ·have c2b0:decide (48≤a0)=true:=decide_eq_true c2;clear c2;obtain rfl:=Option.some.inj H;go_enter Tryz.func55,Tryz.ntmps55
  go_wp2
  go_ret
  exact ⟨zq7,zq16⟩
 have c2b0:decide (48≤a0)=false:=decide_eq_false c2;clear c2;obtain rfl:=Option.some.inj H;go_enter Tryz.func55,Tryz.ntmps55
 go_wp2
 go_ret
 exact ⟨zq7,zq16⟩
theorem rf06_Code.calls (k:Nat) (a0:ByteArray) (r:Bool) (w:World) (h:rf06_Code.f k a0=some r) :
  Calls Tryz.prog 24 #[.string a0] w fun e w'=>e=.returned (.bool r)∧Drawn0 w w':=by
 have H:=h;clear h;unfold rf06_Code.f at H;have H':=sd H;clear H;go_enter Tryz.func24,Tryz.ntmps24
 go_wp2
 go_loopg [3] k (fun kq v3 w'=>∃ (x3_1:Int),v3=.int .i64 x3_1∧Aside0 (rf06_Code.l0 kq a0 x3_1=some r)∧Aside0 (kq≤k)∧Drawn0 w w')
 case atStart=>exact ⟨(0),zq7,H',⟨Nat.le_refl _⟩,zq16⟩
 case round =>
  clear H';obtain ⟨x3_1,rfl,HA,HK1,⟨m1,rfl⟩⟩:=hrel
  cases gk with
  | zero=>exact absurd HA.out (by simp [rf06_Code.l0])
  | succ k1 =>
   have H:=HA.out;clear HA;simp only [rf06_Code.l0] at H
   replace H:=ifI H;rcases H with ⟨c2,H⟩ | ⟨c2,H⟩
   ·have c2b0:decide (x3_1 < (a0.size:Int))=true:=decide_eq_true c2;clear c2;replace H:=ifI H;rcases H with ⟨c3,H⟩ | ⟨c3,H⟩
    ·have c3b0:decide (0≤x3_1)=true:=decide_eq_true c3;clear c3;replace H:=bdI H;obtain ⟨t125,A5,H⟩:=H;(try dsimp only at H)
     by_cases c6:t125=true
     ·subst c6;rw [if_pos rfl] at H;have H':=sd H;clear H;have p4:0≤(x3_1:Int):=od;have q4:x3_1 < (a0.size:Int):=od;have hx4:=bt_at a0 x3_1;replace p4:=eq_true p4;replace q4:=eq_true q4;go_wp2_with (first | ((with_reducible refine gate_callee (f:=54) rfl ?_);refine gL 13 Tryz.func54 #[.int .u8 (bt a0 x3_1)] ?_;(with_reducible refine (rf06_letter.calls (bt a0 x3_1) true _ A5.out).mono ?_);rintro e w' ⟨rfl,⟨nd,rfl⟩⟩;refine ⟨_,rfl,?_⟩))
      go_roundg k1
      case measure=>have:=HK1.out;omega
      case rel=>exact ⟨(wrap64 (x3_1+1)),zq7,H',⟨by have:=HK1.out;omega⟩,zq16⟩
     replace c6:=Bool.eq_false_iff.mpr c6;subst c6;rw [if_neg Bool.false_ne_true] at H;replace H:=bdI H;obtain ⟨t126,A8,H⟩:=H;(try dsimp only at H)
     by_cases c9:t126=true
     ·subst c9;rw [if_pos rfl] at H;have H':=sd H;clear H;have p4:0≤(x3_1:Int):=od;have q4:x3_1 < (a0.size:Int):=od;have hx4:=bt_at a0 x3_1;replace p4:=eq_true p4;replace q4:=eq_true q4;go_wp2_with (first | ((with_reducible refine gate_callee (f:=54) rfl ?_);refine gL 13 Tryz.func54 #[.int .u8 (bt a0 x3_1)] ?_;(with_reducible refine (rf06_letter.calls (bt a0 x3_1) false _ A5.out).mono ?_);rintro e w' ⟨rfl,⟨nd,rfl⟩⟩;refine ⟨_,rfl,?_⟩;have p7:0≤(x3_1:Int):=od;have q7:x3_1 < (a0.size:Int):=od;have hx7:=bt_at a0 x3_1;replace p7:=eq_true p7;replace q7:=eq_true q7) | (go_at_call 55;(with_reducible refine (rf06_digit.calls (bt a0 x3_1) true _ A8.out).mono ?_);rintro e w' ⟨rfl,⟨nd,rfl⟩⟩))
      go_roundg k1
      case measure=>have:=HK1.out;omega
      case rel=>exact ⟨(wrap64 (x3_1+1)),zq7,H',⟨by have:=HK1.out;omega⟩,zq16⟩
     replace c9:=Bool.eq_false_iff.mpr c9;subst c9;rw [if_neg Bool.false_ne_true] at H;obtain rfl:=Option.some.inj H;have p4:0≤(x3_1:Int):=od;have q4:x3_1 < (a0.size:Int):=od;have hx4:=bt_at a0 x3_1;replace p4:=eq_true p4;replace q4:=eq_true q4;go_wp2_with (first | ((with_reducible refine gate_callee (f:=54) rfl ?_);refine gL 13 Tryz.func54 #[.int .u8 (bt a0 x3_1)] ?_;(with_reducible refine (rf06_letter.calls (bt a0 x3_1) false _ A5.out).mono ?_);rintro e w' ⟨rfl,⟨nd,rfl⟩⟩;refine ⟨_,rfl,?_⟩;have p7:0≤(x3_1:Int):=od;have q7:x3_1 < (a0.size:Int):=od;have hx7:=bt_at a0 x3_1;replace p7:=eq_true p7;replace q7:=eq_true q7) | (go_at_call 55;(with_reducible refine (rf06_digit.calls (bt a0 x3_1) false _ A8.out).mono ?_);rintro e w' ⟨rfl,⟨nd,rfl⟩⟩))
     go_ret
     exact ⟨zq7,zq16⟩
    exact absurd H (by simp)
   have c2b0:decide (x3_1 < (a0.size:Int))=false:=decide_eq_false c2;clear c2;replace H:=ifI H;rcases H with ⟨c10,H⟩ | ⟨c10,H⟩
   ·have c10b0:decide (1≤(a0.size:Int))=true:=decide_eq_true c10;have c10b1:decide (1≤a0.size)=true:=decide_eq_true (by omega);clear c10;obtain rfl:=Option.some.inj H;go_wp2
    go_ret
    exact ⟨zq7,zq16⟩
   have c10b0:decide (1≤(a0.size:Int))=false:=decide_eq_false c10;have c10b1:decide (1≤a0.size)=false:=decide_eq_false (by omega);clear c10;obtain rfl:=Option.some.inj H;go_wp2
   go_ret
   exact ⟨zq7,zq16⟩
theorem rf09_named.calls (k:Nat) (a0_0 a0_1:ByteArray) (r:Bool) (w:World) (h:rf09_named.f k a0_0 a0_1=some r) :
  Calls Tryz.prog 56 #[.agg #[.string a0_0,.string a0_1]] w fun e w'=>e=.returned (.bool r)∧Below w.heap.size w w':=by
 have hu50:=Tryz.underlying50;have HB:=sd (Below.refl w.heap.size w);have H:=h;clear h;unfold rf09_named.f at H;replace H:=bdI H;obtain ⟨t128,A2,H⟩:=H;(try dsimp only at H)
 by_cases c3:t128=true
 ·subst c3;rw [if_pos rfl] at H;replace H:=bdI H;obtain ⟨t129,A4,H⟩:=H;(try dsimp only at H)
  obtain rfl:=Option.some.inj H;go_enter Tryz.func56,Tryz.ntmps56
  go_wp2_with (first | ((with_reducible refine gate_dst (N:=1) rfl ?_);refine bxA 1 #[.string a0_0,.string a0_1] 50 ?_;intro gb127 hg w5 hbox hb;have BK127:=sd (hbox);have GW127:=gem hg HB;have GE127:=GW127;replace HB:=hbm HB hb;clear hb hbox hg;obtain ⟨_,_,_,_⟩:=bk2 BK127) | ((with_reducible refine gate_callee (f:=24) rfl ?_);refine gL 5 Tryz.func24 #[.string a0_0] ?_;(with_reducible refine (rf06_Code.calls k a0_0 true _ A2.out).mono ?_);rintro e w' ⟨rfl,⟨nd,rfl⟩⟩;refine ⟨_,rfl,?_⟩) | (go_at_call 24;(with_reducible refine (rf06_Code.calls k a0_1 t129 _ A4.out).mono ?_);rintro e w' ⟨rfl,⟨nd,rfl⟩⟩))
  go_ret
  exact ⟨zq4,by repeat (first | (with_reducible first | exact HB.out | apply below_alloc | apply pw_below_drewN | apply below_drew1 | refine below_set ?_ GE127.out) | exact HB.out)⟩
 replace c3:=Bool.eq_false_iff.mpr c3;subst c3;rw [if_neg Bool.false_ne_true] at H;obtain rfl:=Option.some.inj H;go_enter Tryz.func56,Tryz.ntmps56
 go_wp2_with (first | ((with_reducible refine gate_dst (N:=1) rfl ?_);refine bxA 1 #[.string a0_0,.string a0_1] 50 ?_;intro gb127 hg w7 hbox hb;have BK127:=sd (hbox);have GW127:=gem hg HB;have GE127:=GW127;replace HB:=hbm HB hb;clear hb hbox hg;obtain ⟨_,_,_,_⟩:=bk2 BK127) | ((with_reducible refine gate_callee (f:=24) rfl ?_);refine gL 5 Tryz.func24 #[.string a0_0] ?_;(with_reducible refine (rf06_Code.calls k a0_0 false _ A2.out).mono ?_);rintro e w' ⟨rfl,⟨nd,rfl⟩⟩;refine ⟨_,rfl,?_⟩))
 go_ret
 exact ⟨zq4,by repeat (first | (with_reducible first | exact HB.out | apply below_alloc | apply pw_below_drewN | apply below_drew1 | refine below_set ?_ GE127.out) | exact HB.out)⟩
theorem rf09_Right.tab4:rtab .any (opsOf Tryz.f25 4)=rf09_Right.T4:=by kernel_rfl
theorem rf09_Right.calls (k:Nat) (A0:Option Addr) (c0:Nat) (l0:List (S50)) (r:Bool) (w:World) (hr0:Kd.C k50 w A0 l0.length l0) (hc0:l0.length≤c0) (h:rf09_Right.f k l0=some r) :
  Calls Tryz.prog 25 #[.slice A0 l0.length c0] w fun e w'=>e=.returned (.bool r)∧Below w.heap.size w w':=by
 have hu50:=Tryz.underlying50;have HR0:=sd hr0;have HC0:=sd hc0;clear hr0 hc0;have HB:=sd (Below.refl w.heap.size w);have H:=h;clear h;unfold rf09_Right.f at H;have H':=sd H;clear H;go_enter Tryz.func25,Tryz.ntmps25
 go_wp2
 go_loopg [3] k (fun kq v3 w'=>∃ (x3_1:Int),v3=.int .i64 x3_1∧Aside0 (rf09_Right.l0 kq l0 x3_1=some r)∧Aside0 (kq≤k)∧Aside0 (Below w.heap.size w w'))
 case atStart=>exact ⟨(0),zq7,H',⟨Nat.le_refl _⟩,⟨zq6⟩⟩
 case round =>
  clear H';obtain ⟨x3_1,rfl,HA,HK1,HB⟩:=hrel
  cases gk with
  | zero=>exact absurd HA.out (by simp [rf09_Right.l0])
  | succ k1 =>
   have H:=HA.out;clear HA;simp only [rf09_Right.l0] at H
   replace H:=ifI H;rcases H with ⟨c2,H⟩ | ⟨c2,H⟩
   ·have c2b0:decide (x3_1 < (l0.length:Int))=true:=decide_eq_true c2;clear c2;replace H:=ifI H;rcases H with ⟨c3,H⟩ | ⟨c3,H⟩
    ·have c3b0:decide (0≤x3_1)=true:=decide_eq_true c3;clear c3;replace H:=bdI H;obtain ⟨t131,A4,H⟩:=H;(try dsimp only at H)
     by_cases c5:t131=true
     ·subst c5;rw [if_pos rfl] at H;replace H:=ifI H;rcases H with ⟨c6,H⟩ | ⟨c6,H⟩
      ·have c6b0:decide (0 < x3_1)=true:=decide_eq_true c6;clear c6;obtain ⟨ji7,hji7⟩:∃ j_:Int,(wrap64 (x3_1 - 1))=j_:=⟨_,rfl⟩
       replace H:(if 0≤(ji7) then (if (ji7) < (l0.length:Int) then (if ((Op.bytesLess (((rd_T50 l0 (ji7)).f0).toList) (((rd_T50 l0 x3_1).f0).toList))=true) then (rf09_Right.l0 k1 l0 (wrap64 (x3_1+1))) else (some false)) else (none)) else (none))=some r:=by first | (rw [hji7] at H;exact H) | (simp only [hji7] at H ⊢;exact H)
       (try rw [hji7] at A4)
       have hji7w:(IntKind.i64.wrap (x3_1 - 1))=ji7:=(i64_w _).trans hji7;replace H:=ifI H;rcases H with ⟨c8,H⟩ | ⟨c8,H⟩
       ·have c8b0:decide (0≤(ji7))=true:=decide_eq_true c8;clear c8;replace H:=ifI H;rcases H with ⟨c9,H⟩ | ⟨c9,H⟩
        ·have c9b0:decide ((ji7) < (l0.length:Int))=true:=decide_eq_true c9;clear c9;replace H:=ifI H;rcases H with ⟨c10,H⟩ | ⟨c10,H⟩
         ·have c10b0:(Op.bytesLess (((rd_T50 l0 (ji7)).f0).toList) (((rd_T50 l0 x3_1).f0).toList))=true:=c10;have c10b9:=less_le c10b0;clear c10;have H':=sd H;clear H;try go_wp2
          replace HB:=sd (below_drew1 HB.out);have p130:0≤(x3_1:Int):=od;have q130:x3_1 < (l0.length:Int):=od;obtain ⟨ad130,e130,hx130_0,hx130_1⟩:=at_T50 HR0.out x3_1 p130 q130;have hw130_1:=hx130_1;have hw130_0:=hx130_0
          cases e130
          replace hx130_0:=(HB.out.cell (World.block_lt_of_cell? w _ hx130_0)).trans hx130_0;replace hx130_1:=(HB.out.cell (World.block_lt_of_cell? w _ hx130_1)).trans hx130_1;replace p130:=eq_true p130;replace q130:=eq_true q130;have p132:0≤(x3_1:Int):=od;have q132:x3_1 < (l0.length:Int):=od;obtain ⟨ad132,e132,hx132_0,hx132_1⟩:=at_T50 HR0.out x3_1 p132 q132;have hw132_1:=hx132_1;have hw132_0:=hx132_0;obtain rfl:ad130=ad132:=(by injection e132)
          replace hx132_0:=(HB.out.cell (World.block_lt_of_cell? w _ hx132_0)).trans hx132_0;replace hx132_1:=(HB.out.cell (World.block_lt_of_cell? w _ hx132_1)).trans hx132_1;replace p132:=eq_true p132;replace q132:=eq_true q132;have p133:0≤((ji7):Int):=od;have q133:(ji7) < (l0.length:Int):=od;obtain ⟨ad133,e133,hx133_0,hx133_1⟩:=at_T50 HR0.out (ji7) p133 q133;have hw133_1:=hx133_1;have hw133_0:=hx133_0;obtain rfl:ad130=ad133:=(by injection e133)
          replace hx133_0:=(HB.out.cell (World.block_lt_of_cell? w _ hx133_0)).trans hx133_0;replace hx133_1:=(HB.out.cell (World.block_lt_of_cell? w _ hx133_1)).trans hx133_1;replace p133:=eq_true p133;replace q133:=eq_true q133;refine start_ (n:=24) (S:=fun w'=>w'.cell? (ad130.add ((x3_1).toNat * 2))=some (.string ((rd_T50 l0 x3_1).f0))∧w'.cell? ⟨(ad130.add ((x3_1).toNat * 2)).block,(ad130.add ((x3_1).toNat * 2)).off+1,none⟩=some (.string ((rd_T50 l0 x3_1).f1))∧w'.cell? (ad130.add ((x3_1).toNat * 2))=some (.string ((rd_T50 l0 x3_1).f0))∧w'.cell? ⟨(ad130.add ((x3_1).toNat * 2)).block,(ad130.add ((x3_1).toNat * 2)).off+1,none⟩=some (.string ((rd_T50 l0 x3_1).f1))∧w'.cell? (ad130.add (((ji7)).toNat * 2))=some (.string ((rd_T50 l0 (ji7)).f0))∧w'.cell? ⟨(ad130.add (((ji7)).toNat * 2)).block,(ad130.add (((ji7)).toNat * 2)).off+1,none⟩=some (.string ((rd_T50 l0 (ji7)).f1))) (ds:=[]) #[false,false,false,false,false,false,false,false,false,false,false,false,false,false,false,false,false,false,false,false,false,false,false,false] (by kernel_rfl) rfl rfl ⟨((HB.out.cell (World.block_lt_of_cell? w _ hw130_0)).trans hw130_0),((HB.out.cell (World.block_lt_of_cell? w _ hw130_1)).trans hw130_1),((HB.out.cell (World.block_lt_of_cell? w _ hw132_0)).trans hw132_0),((HB.out.cell (World.block_lt_of_cell? w _ hw132_1)).trans hw132_1),((HB.out.cell (World.block_lt_of_cell? w _ hw133_0)).trans hw133_0),((HB.out.cell (World.block_lt_of_cell? w _ hw133_1)).trans hw133_1)⟩ (fun hHeld=>?_);refine with_tabW rf09_Right.tab4 rf09_Right.bits4 (fun HT_ HW_=>?_);generalize wr.drew=w11 at HB hx130_0 hx130_1 hx132_0 hx132_1 hx133_0 hx133_1 hHeld ⊢;refine pA 0 10 HT_.out ?_;refine pA 1 11 HT_.out ?_;refine pA 2 12 HT_.out ?_;refine tA 3 13 HT_.out HW_.out hHeld ?_;refine one_ (i:=4) (N:=some 14) #[true,true,true,true,true,false,false,false,false,false,false,false,false,false,false,false,false,false,false,false,false,false,false,false] rfl rfl (one_of HT_.out (by kernel_rfl)) (by decide) (fun K hK=>?_);refine goes_ Tryz.func56 (by kernel_rfl) rfl #[.agg #[.string ((rd_T50 l0 x3_1).f0),.string ((rd_T50 l0 x3_1).f1)]] (by rfl) rfl rfl zq34 ?_;with_reducible refine (rf09_named.calls k1 ((rd_T50 l0 x3_1).f0) ((rd_T50 l0 x3_1).f1) true _ A4.out).mono ?_
          rintro e w12 ⟨rfl,hb⟩;refine ⟨_,rfl,?_⟩;replace HB:=hbm HB hb;clear hb;refine hK.out _ _ ⟨((HB.out.cell (World.block_lt_of_cell? w _ hw130_0)).trans hw130_0),((HB.out.cell (World.block_lt_of_cell? w _ hw130_1)).trans hw130_1),((HB.out.cell (World.block_lt_of_cell? w _ hw132_0)).trans hw132_0),((HB.out.cell (World.block_lt_of_cell? w _ hw132_1)).trans hw132_1),((HB.out.cell (World.block_lt_of_cell? w _ hw133_0)).trans hw133_0),((HB.out.cell (World.block_lt_of_cell? w _ hw133_1)).trans hw133_1)⟩ (fun hHeld=>?_);clear hK K;refine nA 14 ?_;refine pA 5 15 HT_.out ?_;refine pA 6 16 HT_.out ?_;refine pA 7 17 HT_.out ?_;refine pA 8 18 HT_.out ?_;refine pA 9 19 HT_.out ?_;refine pA 10 20 HT_.out ?_;refine pA 11 21 HT_.out ?_;refine pA 12 22 HT_.out ?_;refine pA 13 23 HT_.out ?_;refine pA 15 25 HT_.out ?_;refine pA 16 26 HT_.out ?_;refine pA 17 27 HT_.out ?_;refine pA 18 28 HT_.out ?_;refine pA 19 29 HT_.out ?_;refine tA 14 24 HT_.out HW_.out hHeld ?_;refine tA 20 30 HT_.out HW_.out hHeld ?_;refine pA 21 31 HT_.out ?_;refine pA 22 32 HT_.out ?_;refine pA 23 33 HT_.out ?_;refine done_ (done_of HT_.out (by kernel_rfl)) ?_;try go_wp2
          go_roundg k1
          case measure=>have:=HK1.out;omega
          case rel=>exact ⟨(wrap64 (x3_1+1)),zq7,H',⟨by have:=HK1.out;omega⟩,⟨zq6⟩⟩
         have c10b0:(Op.bytesLess (((rd_T50 l0 (ji7)).f0).toList) (((rd_T50 l0 x3_1).f0).toList))=false:=by simpa using c10
         have c10b9:=less_ge c10b0;clear c10;obtain rfl:=Option.some.inj H;try go_wp2
         replace HB:=sd (below_drew1 HB.out);have p130:0≤(x3_1:Int):=od;have q130:x3_1 < (l0.length:Int):=od;obtain ⟨ad130,e130,hx130_0,hx130_1⟩:=at_T50 HR0.out x3_1 p130 q130;have hw130_1:=hx130_1;have hw130_0:=hx130_0
         cases e130
         replace hx130_0:=(HB.out.cell (World.block_lt_of_cell? w _ hx130_0)).trans hx130_0;replace hx130_1:=(HB.out.cell (World.block_lt_of_cell? w _ hx130_1)).trans hx130_1;replace p130:=eq_true p130;replace q130:=eq_true q130;have p132:0≤(x3_1:Int):=od;have q132:x3_1 < (l0.length:Int):=od;obtain ⟨ad132,e132,hx132_0,hx132_1⟩:=at_T50 HR0.out x3_1 p132 q132;have hw132_1:=hx132_1;have hw132_0:=hx132_0;obtain rfl:ad130=ad132:=(by injection e132)
         replace hx132_0:=(HB.out.cell (World.block_lt_of_cell? w _ hx132_0)).trans hx132_0;replace hx132_1:=(HB.out.cell (World.block_lt_of_cell? w _ hx132_1)).trans hx132_1;replace p132:=eq_true p132;replace q132:=eq_true q132;have p133:0≤((ji7):Int):=od;have q133:(ji7) < (l0.length:Int):=od;obtain ⟨ad133,e133,hx133_0,hx133_1⟩:=at_T50 HR0.out (ji7) p133 q133;have hw133_1:=hx133_1;have hw133_0:=hx133_0;obtain rfl:ad130=ad133:=(by injection e133)
         replace hx133_0:=(HB.out.cell (World.block_lt_of_cell? w _ hx133_0)).trans hx133_0;replace hx133_1:=(HB.out.cell (World.block_lt_of_cell? w _ hx133_1)).trans hx133_1;replace p133:=eq_true p133;replace q133:=eq_true q133;refine start_ (n:=24) (S:=fun w'=>w'.cell? (ad130.add ((x3_1).toNat * 2))=some (.string ((rd_T50 l0 x3_1).f0))∧w'.cell? ⟨(ad130.add ((x3_1).toNat * 2)).block,(ad130.add ((x3_1).toNat * 2)).off+1,none⟩=some (.string ((rd_T50 l0 x3_1).f1))∧w'.cell? (ad130.add ((x3_1).toNat * 2))=some (.string ((rd_T50 l0 x3_1).f0))∧w'.cell? ⟨(ad130.add ((x3_1).toNat * 2)).block,(ad130.add ((x3_1).toNat * 2)).off+1,none⟩=some (.string ((rd_T50 l0 x3_1).f1))∧w'.cell? (ad130.add (((ji7)).toNat * 2))=some (.string ((rd_T50 l0 (ji7)).f0))∧w'.cell? ⟨(ad130.add (((ji7)).toNat * 2)).block,(ad130.add (((ji7)).toNat * 2)).off+1,none⟩=some (.string ((rd_T50 l0 (ji7)).f1))) (ds:=[]) #[false,false,false,false,false,false,false,false,false,false,false,false,false,false,false,false,false,false,false,false,false,false,false,false] (by kernel_rfl) rfl rfl ⟨((HB.out.cell (World.block_lt_of_cell? w _ hw130_0)).trans hw130_0),((HB.out.cell (World.block_lt_of_cell? w _ hw130_1)).trans hw130_1),((HB.out.cell (World.block_lt_of_cell? w _ hw132_0)).trans hw132_0),((HB.out.cell (World.block_lt_of_cell? w _ hw132_1)).trans hw132_1),((HB.out.cell (World.block_lt_of_cell? w _ hw133_0)).trans hw133_0),((HB.out.cell (World.block_lt_of_cell? w _ hw133_1)).trans hw133_1)⟩ (fun hHeld=>?_);refine with_tabW rf09_Right.tab4 rf09_Right.bits4 (fun HT_ HW_=>?_);generalize wr.drew=w13 at HB hx130_0 hx130_1 hx132_0 hx132_1 hx133_0 hx133_1 hHeld ⊢;refine pA 0 10 HT_.out ?_;refine pA 1 11 HT_.out ?_;refine pA 2 12 HT_.out ?_;refine tA 3 13 HT_.out HW_.out hHeld ?_;refine one_ (i:=4) (N:=some 14) #[true,true,true,true,true,false,false,false,false,false,false,false,false,false,false,false,false,false,false,false,false,false,false,false] rfl rfl (one_of HT_.out (by kernel_rfl)) (by decide) (fun K hK=>?_);refine goes_ Tryz.func56 (by kernel_rfl) rfl #[.agg #[.string ((rd_T50 l0 x3_1).f0),.string ((rd_T50 l0 x3_1).f1)]] (by rfl) rfl rfl zq34 ?_;with_reducible refine (rf09_named.calls k1 ((rd_T50 l0 x3_1).f0) ((rd_T50 l0 x3_1).f1) true _ A4.out).mono ?_
         rintro e w14 ⟨rfl,hb⟩;refine ⟨_,rfl,?_⟩;replace HB:=hbm HB hb;clear hb;refine hK.out _ _ ⟨((HB.out.cell (World.block_lt_of_cell? w _ hw130_0)).trans hw130_0),((HB.out.cell (World.block_lt_of_cell? w _ hw130_1)).trans hw130_1),((HB.out.cell (World.block_lt_of_cell? w _ hw132_0)).trans hw132_0),((HB.out.cell (World.block_lt_of_cell? w _ hw132_1)).trans hw132_1),((HB.out.cell (World.block_lt_of_cell? w _ hw133_0)).trans hw133_0),((HB.out.cell (World.block_lt_of_cell? w _ hw133_1)).trans hw133_1)⟩ (fun hHeld=>?_);clear hK K;refine nA 14 ?_;refine pA 5 15 HT_.out ?_;refine pA 6 16 HT_.out ?_;refine pA 7 17 HT_.out ?_;refine pA 8 18 HT_.out ?_;refine pA 9 19 HT_.out ?_;refine pA 10 20 HT_.out ?_;refine pA 11 21 HT_.out ?_;refine pA 12 22 HT_.out ?_;refine pA 13 23 HT_.out ?_;refine pA 15 25 HT_.out ?_;refine pA 16 26 HT_.out ?_;refine pA 17 27 HT_.out ?_;refine pA 18 28 HT_.out ?_;refine pA 19 29 HT_.out ?_;refine tA 14 24 HT_.out HW_.out hHeld ?_;refine tA 20 30 HT_.out HW_.out hHeld ?_;refine pA 21 31 HT_.out ?_;refine pA 22 32 HT_.out ?_;refine pA 23 33 HT_.out ?_;refine done_ (done_of HT_.out (by kernel_rfl)) ?_;try go_wp2
         go_ret
         exact ⟨by first | rfl | (simp [errW_none,errW_some] <;> rfl) | (simp only [← hji7];first | rfl | (simp [errW_none,errW_some] <;> rfl)) | (simp [*,errW_none,errW_some] <;> rfl),zq6⟩
        exact absurd H (by simp)
       exact absurd H (by simp)
      have c6b0:decide (0 < x3_1)=false:=decide_eq_false c6;clear c6;have H':=sd H;clear H;try go_wp2
      replace HB:=sd (below_drew1 HB.out);have p130:0≤(x3_1:Int):=od;have q130:x3_1 < (l0.length:Int):=od;obtain ⟨ad130,e130,hx130_0,hx130_1⟩:=at_T50 HR0.out x3_1 p130 q130;have hw130_1:=hx130_1;have hw130_0:=hx130_0
      cases e130
      replace hx130_0:=(HB.out.cell (World.block_lt_of_cell? w _ hx130_0)).trans hx130_0;replace hx130_1:=(HB.out.cell (World.block_lt_of_cell? w _ hx130_1)).trans hx130_1;replace p130:=eq_true p130;replace q130:=eq_true q130;refine start_ (n:=24) (S:=fun w'=>w'.cell? (ad130.add ((x3_1).toNat * 2))=some (.string ((rd_T50 l0 x3_1).f0))∧w'.cell? ⟨(ad130.add ((x3_1).toNat * 2)).block,(ad130.add ((x3_1).toNat * 2)).off+1,none⟩=some (.string ((rd_T50 l0 x3_1).f1))) (ds:=[]) #[false,false,false,false,false,false,false,false,false,false,false,false,false,false,false,false,false,false,false,false,false,false,false,false] (by kernel_rfl) rfl rfl ⟨((HB.out.cell (World.block_lt_of_cell? w _ hw130_0)).trans hw130_0),((HB.out.cell (World.block_lt_of_cell? w _ hw130_1)).trans hw130_1)⟩ (fun hHeld=>?_);refine with_tabW rf09_Right.tab4 rf09_Right.bits4 (fun HT_ HW_=>?_);generalize wr.drew=w15 at HB hx130_0 hx130_1 hHeld ⊢;refine pA 0 10 HT_.out ?_;refine pA 1 11 HT_.out ?_;refine pA 2 12 HT_.out ?_;refine tA 3 13 HT_.out HW_.out hHeld ?_;refine one_ (i:=4) (N:=some 14) #[true,true,true,true,true,false,false,false,false,false,false,false,false,false,false,false,false,false,false,false,false,false,false,false] rfl rfl (one_of HT_.out (by kernel_rfl)) (by decide) (fun K hK=>?_);refine goes_ Tryz.func56 (by kernel_rfl) rfl #[.agg #[.string ((rd_T50 l0 x3_1).f0),.string ((rd_T50 l0 x3_1).f1)]] (by rfl) rfl rfl zq34 ?_;with_reducible refine (rf09_named.calls k1 ((rd_T50 l0 x3_1).f0) ((rd_T50 l0 x3_1).f1) true _ A4.out).mono ?_
      rintro e w16 ⟨rfl,hb⟩;refine ⟨_,rfl,?_⟩;replace HB:=hbm HB hb;clear hb;refine hK.out _ _ ⟨((HB.out.cell (World.block_lt_of_cell? w _ hw130_0)).trans hw130_0),((HB.out.cell (World.block_lt_of_cell? w _ hw130_1)).trans hw130_1)⟩ (fun hHeld=>?_);clear hK K;refine nA 14 ?_;refine pA 5 15 HT_.out ?_;refine pA 6 16 HT_.out ?_;refine pA 7 17 HT_.out ?_;refine pA 8 18 HT_.out ?_;refine pA 9 19 HT_.out ?_;refine oA 10 20 HT_.out ?_;refine oA 11 21 HT_.out ?_;refine oA 12 22 HT_.out ?_;refine oA 13 23 HT_.out ?_;refine oA 14 24 HT_.out ?_;refine oA 15 25 HT_.out ?_;refine oA 16 26 HT_.out ?_;refine oA 17 27 HT_.out ?_;refine oA 18 28 HT_.out ?_;refine oA 19 29 HT_.out ?_;refine oA 20 30 HT_.out ?_;refine oA 21 31 HT_.out ?_;refine pA 22 32 HT_.out ?_;refine pA 23 33 HT_.out ?_;refine done_ (done_of HT_.out (by kernel_rfl)) ?_;try go_wp2
      go_roundg k1
      case measure=>have:=HK1.out;omega
      case rel=>exact ⟨(wrap64 (x3_1+1)),zq7,H',⟨by have:=HK1.out;omega⟩,⟨zq6⟩⟩
     replace c5:=Bool.eq_false_iff.mpr c5;subst c5;rw [if_neg Bool.false_ne_true] at H;obtain rfl:=Option.some.inj H;try go_wp2
     replace HB:=sd (below_drew1 HB.out);have p130:0≤(x3_1:Int):=od;have q130:x3_1 < (l0.length:Int):=od;obtain ⟨ad130,e130,hx130_0,hx130_1⟩:=at_T50 HR0.out x3_1 p130 q130;have hw130_1:=hx130_1;have hw130_0:=hx130_0
     cases e130
     replace hx130_0:=(HB.out.cell (World.block_lt_of_cell? w _ hx130_0)).trans hx130_0;replace hx130_1:=(HB.out.cell (World.block_lt_of_cell? w _ hx130_1)).trans hx130_1;replace p130:=eq_true p130;replace q130:=eq_true q130;refine start_ (n:=24) (S:=fun w'=>w'.cell? (ad130.add ((x3_1).toNat * 2))=some (.string ((rd_T50 l0 x3_1).f0))∧w'.cell? ⟨(ad130.add ((x3_1).toNat * 2)).block,(ad130.add ((x3_1).toNat * 2)).off+1,none⟩=some (.string ((rd_T50 l0 x3_1).f1))) (ds:=[]) #[false,false,false,false,false,false,false,false,false,false,false,false,false,false,false,false,false,false,false,false,false,false,false,false] (by kernel_rfl) rfl rfl ⟨((HB.out.cell (World.block_lt_of_cell? w _ hw130_0)).trans hw130_0),((HB.out.cell (World.block_lt_of_cell? w _ hw130_1)).trans hw130_1)⟩ (fun hHeld=>?_);refine with_tabW rf09_Right.tab4 rf09_Right.bits4 (fun HT_ HW_=>?_);generalize wr.drew=w17 at HB hx130_0 hx130_1 hHeld ⊢;refine pA 0 10 HT_.out ?_;refine pA 1 11 HT_.out ?_;refine pA 2 12 HT_.out ?_;refine tA 3 13 HT_.out HW_.out hHeld ?_;refine one_ (i:=4) (N:=some 14) #[true,true,true,true,true,false,false,false,false,false,false,false,false,false,false,false,false,false,false,false,false,false,false,false] rfl rfl (one_of HT_.out (by kernel_rfl)) (by decide) (fun K hK=>?_);refine goes_ Tryz.func56 (by kernel_rfl) rfl #[.agg #[.string ((rd_T50 l0 x3_1).f0),.string ((rd_T50 l0 x3_1).f1)]] (by rfl) rfl rfl zq34 ?_;with_reducible refine (rf09_named.calls k1 ((rd_T50 l0 x3_1).f0) ((rd_T50 l0 x3_1).f1) false _ A4.out).mono ?_
     rintro e w18 ⟨rfl,hb⟩;refine ⟨_,rfl,?_⟩;replace HB:=hbm HB hb;clear hb;refine hK.out _ _ ⟨((HB.out.cell (World.block_lt_of_cell? w _ hw130_0)).trans hw130_0),((HB.out.cell (World.block_lt_of_cell? w _ hw130_1)).trans hw130_1)⟩ (fun hHeld=>?_);clear hK K;refine nA 14 ?_;refine pA 5 15 HT_.out ?_;refine pA 6 16 HT_.out ?_;refine oA 7 17 HT_.out ?_;refine oA 8 18 HT_.out ?_;refine oA 9 19 HT_.out ?_;refine oA 10 20 HT_.out ?_;refine oA 11 21 HT_.out ?_;refine oA 12 22 HT_.out ?_;refine oA 13 23 HT_.out ?_;refine oA 14 24 HT_.out ?_;refine oA 15 25 HT_.out ?_;refine oA 16 26 HT_.out ?_;refine oA 17 27 HT_.out ?_;refine oA 18 28 HT_.out ?_;refine oA 19 29 HT_.out ?_;refine oA 20 30 HT_.out ?_;refine oA 21 31 HT_.out ?_;refine oA 22 32 HT_.out ?_;refine pA 23 33 HT_.out ?_;refine done_ (done_of HT_.out (by kernel_rfl)) ?_;try go_wp2
     go_ret
     exact ⟨zq4,zq6⟩
    exact absurd H (by simp)
   have c2b0:decide (x3_1 < (l0.length:Int))=false:=decide_eq_false c2;clear c2;obtain rfl:=Option.some.inj H;go_wp2
   go_ret
   exact ⟨zq4,zq6⟩
end Go.Proofs.YtkbgkekegjfkfaaGreatDoor.A
