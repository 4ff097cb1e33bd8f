-- By pack.py, a program of this session's.
import Derived.Test.YtkbgkekegjfkfaaGreatDoorZ5
import Derived.Test.YtkbgkekegjfkfaaGreatDoorZ6
import Derived.Test.YtkbgkekegjfkfaaGreatDoorZ7
import Derived.Test.YtkbgkekegjfkfaaGreatDoorZ8
import Derived.Test.YtkbgkekegjfkfaaGreatDoorZ9
import Derived.Test.YtkbgkekegjfkfaaGreatDoorZ10
set_option linter.unusedVariables false
set_option linter.unusedSimpArgs false
namespace Go.Proofs.YtkbgkekegjfkfaaGreatDoor
namespace A
open Go.RowKit B WW WL WM
attribute [local go_sem] max2_int min2_int max_two min_two max_three min_three max_four min_four
set_option maxHeartbeats 8000000
set_option maxRecDepth 100000
theorem num_Text.itoa_calls (n:Int) (h0:-9223372036854775808≤n) (h1:n < 9223372036854775808) (w:World):Calls Tryz.prog 72 #[.int .i64 n] w fun e w'=>e=.returned (.string ⟨(Lib.itoa n).toArray⟩)∧Below w.heap.size w w':=by
 have HP:=Lib.hid (@itoa_pos n);have HM:=Lib.hid (@itoa_neg' n);obtain ⟨u,hu⟩:∃ u:Nat,u=n.natAbs:=⟨_,rfl⟩
 rw [← hu] at HP HM;have hu1:u≤9223372036854775808:=by omega
 have HU:=Lib.hid hu;clear hu;go_enter Tryz.func72,Tryz.ntmps72
 go_wp2_with fail
 refine (num_size.same n ⟨h0,by omega⟩ _).mono ?_;rintro e w' ⟨rfl,rfl⟩;rw [← HU.out];go_wp2_with fail
 go_loopw [4,5,8] (fun at_ left i wr=>∃ m k:Nat,m+k=19∧at_=.int .i64 ((m:Int)+1)∧left=.int .u64 ((u / 10 ^ k:Nat):Int)∧i=.int .i64 (k:Int)∧wr=w.alloc (.cells (trow u (m+1)) 136)∧(k=0∨u / 10 ^ k≠0)) (fun _ _ i _=>(19 - (RowKit.intOf i).toNat))
 case atStart=>exact ⟨19,0,rfl,rfl,by simp,rfl,by rw [trow_start];rfl,.inl rfl⟩
 case round =>
  obtain ⟨m,k,hmk,rfl,rfl,rfl,rfl,hz⟩:=hrel;have HZ:=Lib.hid hz;have hv19:k=19→u / 10 ^ k=0:=by intro e;rw [e];exact Nat.div_eq_of_lt (by omega)
  have hk:k < 19:=by
   rcases Nat.lt_or_ge k 19 with h|h
   ·exact h
   ·have:=hv19 (by omega);omega
  have hk18:k=18→u / 10 ^ k < 10:=by intro e;rw [e];omega
  clear hz hv19;have HS:=Lib.hid (trow_set u m k _ hmk rfl);have HY:=Lib.hid (trow_digits u m k hmk);obtain ⟨v,hv⟩:∃ v,v=u / 10 ^ k:=⟨_,rfl⟩
  have hvle:v≤u:=by rw [hv];exact Nat.div_le_self _ _
  have hvq:u / 10 ^ (k+1)=v / 10:=by rw [hv,Nat.pow_succ,Nat.div_div_eq_div_mul]
  rw [← hv] at HZ HS HY hk18 ⊢;have HV:=Lib.hid hv;clear hv;have hX:=trow_at u (m+1) m (by omega);obtain ⟨X,HX⟩:∃ X,X=trow u (m+1):=⟨_,rfl⟩
  obtain ⟨Y,HYY⟩:∃ Y,Y=trow u m:=⟨_,rfl⟩
  have HYA:=Lib.hid (fun i h=>trow_at u m i h);rw [← HX] at hX HS ⊢;rw [← HYY] at HS HY HYA;rw [if_neg (by omega)] at hX;have HXX:=Lib.hid HX;clear HX;have HYY':=Lib.hid HYY;clear HYY;have hset:X.setIfInBounds m (Value.int IntKind.u8 (48+(v:Int) % 10))=Y:=by rw [← HS.out];congr 2
  by_cases hv0:v / 10=0
  ·obtain ⟨hl,hd⟩:=HY.out (by rw [hvq];exact hv0) HZ.out;clear hk18;have hb0:((v:Int) / 10 == 0)=true:=by rw [beq_iff_eq];omega
   by_cases hn:n < 0
   ·obtain ⟨j,rfl⟩:∃ j,m=j+1:=⟨m - 1,by omega⟩
    have hY:=HYA.out j (by omega);rw [if_neg (by omega)] at hY;obtain ⟨Z,HZZ⟩:∃ Z,Z=Y.setIfInBounds j (.int .u8 45):=⟨_,rfl⟩
    have hset2:Y.setIfInBounds j (.int .u8 45)=Z:=HZZ.symm;have hsl:=fun W b=>sl20 W b j j rfl (by omega)
    have hcv:=fun cap=>conv_row (P:=Tryz.prog) w 136 102 9 5 Tryz.underlying102 Tryz.underlying5 Tryz.underlying9 Z j (20 - j) cap (45 :: Lib.decDigits u) (by simp only [List.length_cons];omega) (fun i hi=>by
     subst HZZ;rcases i with _|i
     ·rw [Nat.add_zero,Array.getElem?_setIfInBounds,if_pos rfl,if_pos (by rw [HYY'.out,trow_size];omega)];rfl
     ·rw [Array.getElem?_setIfInBounds,if_neg (by omega),show j+(i+1)=j+1+i by omega,hd i (by simpa using hi)];rfl)
    clear hl hd hv0 HZZ hvq;go_wp2_with fail
    go_ret
    refine ⟨by rw [HM.out hn];rfl,?_⟩;exact (Below.refl _ _).alloc (Nat.le_refl _) _
   have hsl:=fun W b=>sl20 W b m m rfl (by omega)
   have hcv:=fun cap=>conv_row (P:=Tryz.prog) w 136 102 9 5 Tryz.underlying102 Tryz.underlying5 Tryz.underlying9 Y m (20 - m) cap (Lib.decDigits u) hl hd
   clear hl hd hv0 hvq;go_wp2_with fail
   go_ret
   refine ⟨by rw [HP.out (by omega)];rfl,?_⟩;exact (Below.refl _ _).alloc (Nat.le_refl _) _
  have hb0:((v:Int) / 10 == 0)=false:=by rw [beq_eq_false_iff_ne];omega
  clear hk18;clear HY HYA;have HQ:=Lib.hid hvq;clear hvq;have HV0:=Lib.hid hv0;clear hv0;go_wp2_with fail
  go_roundw
  case rel =>
   obtain ⟨j,rfl⟩:∃ j,m=j+1:=⟨m - 1,by omega⟩
   exact ⟨j,k+1,by omega,by go_num,by rw [HQ.out];go_num,by go_num,by rw [HYY'.out],.inr (by rw [HQ.out];exact HV0.out)⟩
  case measure=>simp [RowKit.intOf];omega
theorem num_Text.calls (a0:Int) (r:ByteArray) (w:World) (h:num_Text.f a0=some r) :
  Calls Tryz.prog 72 #[.int .i64 a0] w fun e w'=>e=.returned (.string r)∧Below w.heap.size w w':=by
 unfold num_Text.f at h;split at h <;> simp only [Option.some.injEq,reduceCtorEq] at h
 rename_i hb
 subst h;exact num_Text.itoa_calls a0 hb.1 (by have:=hb.2;omega) w
theorem days_padded.calls (a0:Int) (r:ByteArray) (w:World) (h:days_padded.f a0=some r) :
  Calls Tryz.prog 102 #[.int .i64 a0] w fun e w'=>e=.returned (.string r)∧Below w.heap.size w w':=by
 have HB:=sd (Below.refl w.heap.size w);have H:=h;clear h;unfold days_padded.f at H;replace H:=ifI H;rcases H with ⟨c2,H⟩|⟨c2,H⟩
 ·have c2b0:decide (a0 < 10)=true:=decide_eq_true c2;clear c2;replace H:=bdI H;obtain ⟨t169,A3,H⟩:=H;(try dsimp only at H)
  replace H:=ifI H;rcases H with ⟨c4,H⟩|⟨c4,H⟩
  ·have c4b0:=eq_true c4;have c4b1:decide (1+t169.size≤9223372036854775807)=true:=decide_eq_true c4;try have c4b2:(9223372036854775807 < 1+t169.size)=False:=eq_false (Nat.not_lt.2 c4)
   obtain rfl:=Option.some.inj H;go_enter Tryz.func102,Tryz.ntmps102
   go_wp2_with (first|((with_reducible refine gate_callee (f:=72) rfl ?_);refine gL 6 Tryz.func72 #[.int .i64 a0] ?_;(with_reducible refine (num_Text.calls a0 t169 _ A3.out).mono ?_);rintro e w5 ⟨rfl,hb⟩;refine ⟨_,rfl,?_⟩;replace HB:=hbm HB hb;clear hb))
   go_ret
   exact ⟨zq4,zq6⟩
  exact absurd H (by simp)
 have c2b0:decide (a0 < 10)=false:=decide_eq_false c2;clear c2;replace H:=bdI H;obtain ⟨t170,A6,H⟩:=H;(try dsimp only at H)
 obtain rfl:=Option.some.inj H;go_enter Tryz.func102,Tryz.ntmps102
 go_wp2_with (first|((with_reducible refine gate_callee (f:=72) rfl ?_);refine gL 9 Tryz.func72 #[.int .i64 a0] ?_;(with_reducible refine (num_Text.calls a0 t170 _ A6.out).mono ?_);rintro e w7 ⟨rfl,hb⟩;refine ⟨_,rfl,?_⟩;replace HB:=hbm HB hb;clear hb))
 go_ret
 exact ⟨zq4,zq6⟩
def days_Text.f (k:Nat) (a0:Int):Option (ByteArray×Int):=(days_Date.f k a0).bind fun bt171=>(if bt171.2.2.2=0 then ((num_Text.f bt171.1).bind fun t176=>(if t176.size+1≤9223372036854775807 then ((days_padded.f bt171.2.1).bind fun t177=>(if (t176++(⟨#[45]⟩:ByteArray)).size+t177.size≤9223372036854775807 then (if ((t176++(⟨#[45]⟩:ByteArray))++t177).size+1≤9223372036854775807 then ((days_padded.f bt171.2.2.1).bind fun t178=>(if (((t176++(⟨#[45]⟩:ByteArray))++t177)++(⟨#[45]⟩:ByteArray)).size+t178.size≤9223372036854775807 then (some ((((t176++(⟨#[45]⟩:ByteArray))++t177)++(⟨#[45]⟩:ByteArray))++t178,0)) else (none))) else (none)) else (none))) else (none))) else (some ((⟨#[]⟩:ByteArray),bt171.2.2.2)))
def words_Quote.f (k:Nat) (a0:ByteArray):Option (ByteArray×Int):=(words_Plain.f a0).bind fun t179=>(if t179=true then (words_Quote.l0 k a0 (([34]:List Int)) (a0.size:Int) 0) else (some ((⟨#[]⟩:ByteArray),5)))
def rules_operand.f (k:Nat) (a0_0:Int) (a0_1:Int) (a0_2:ByteArray) (a0_3:Int):Option (ByteArray):=if a0_0=1 then ((num_Text.f a0_3).bind fun t202=>(some t202)) else (if a0_0=4 then ((days_Text.f k a0_3).bind fun bt203=>(some bt203.1)) else ((words_Quote.f k a0_2).bind fun bt205=>(some bt205.1)))
def txC (k:Nat):List S48→List ByteArray→ByteArray→Option (List ByteArray)
|[],l,_=>some l
|c :: r,l,link=>(nmd fieldL c.f0).bind fun a=>(nmd opL c.f1).bind fun b=>(rules_operand.f k c.f0 c.f1 c.f2 c.f3).bind fun o=>txC k r (l++[link,a,b,o]) andB
theorem formed_l0 (s:ByteArray) (hs:s.size≤140737488351232) (d:Nat):∀ i:Nat,i+d=s.size→Ev (fun k=>num_formed.l0 k s (s.size:Int) (i:Int)) ((s.data.toList.drop i).all isDig):=by
 induction d with
|zero =>
  intro i hi;refine Ev.step (fun k=>by rw [num_formed.l0]) ?_;refine Ev.no (by omega) (Ev.is ?_);rw [List.drop_eq_nil_of_le (by rw [← size_eq'];omega)];rfl
|succ d ih =>
  intro i hi;have hl:i < s.data.toList.length:=by rw [← size_eq'];omega
  have hd:s.data.toList.drop i=s.data.toList[i] :: s.data.toList.drop (i+1):=List.drop_eq_getElem_cons hl;have hb:bt s (i:Int)=(s.data.toList[i].toNat:Int):=by rw [bt_eq,Int.toNat_natCast,List.getD_eq_getElem?_getD,List.getElem?_eq_getElem hl];rfl
  have hc:=isDig_iff s.data.toList[i];rw [← hb] at hc;refine Ev.step (fun k=>by rw [num_formed.l0]) ?_;refine Ev.yes (by omega) (Ev.yes (by omega) (Ev.yes (by omega) (Ev.both (fun h=>Ev.is ?_) (fun h=>Ev.both (fun h2=>Ev.is ?_) (fun h2=>?_)))))
  ·rw [hd,List.all_cons];have:isDig s.data.toList[i]=false:=by rw [← Bool.not_eq_true,hc];omega
   rw [this];rfl
  ·rw [hd,List.all_cons];have:isDig s.data.toList[i]=false:=by rw [← Bool.not_eq_true,hc];omega
   rw [this];rfl
  ·rw [hd,List.all_cons,hc.mpr ⟨by omega,by omega⟩,Bool.true_and,show wrap64 ((i:Int)+1)=((i+1:Nat):Int) by unfold wrap64;omega];exact ih (i+1) (by omega)
theorem formed_j2 (s:ByteArray) (hs:s.size≤140737488351232) (b:Bool):Ev (fun k=>num_formed.j2 k s b) (!b && s.data.toList.all isDig):=by
 refine Ev.step (fun k=>by rw [num_formed.j2]) ?_;refine Ev.both (fun h=>Ev.is (by rw [h];rfl)) (fun h=>?_);have:=formed_l0 s hs s.size 0 (by omega);rw [Bool.not_eq_true] at h;rw [h];exact this
theorem formed_j1 (s:ByteArray) (hs:s.size≤140737488351232) (b:Bool):Ev (fun k=>num_formed.j1 k s b) (formedM s.data.toList b):=by
 refine Ev.step (fun k=>by rw [num_formed.j1]) ?_;have hsz:=size_eq' s;have hb:bt s 0=((s.data.toList.getD 0 0).toNat:Int):=bt_eq s 0;rw [ByteArray.toList_eq];generalize hl:s.data.toList=l at *
 cases l with
|nil =>
  refine Ev.yes rfl ?_;have:=formed_j2 s hs true;rw [hl] at this;exact this
|cons c r =>
  have e:formedM (c :: r) b=(!(c == 48 && (b || decide (1 < (c :: r).length))) && (c :: r).all isDig):=by simp [formedM]
  rw [e]
  have h48:bt s 0=48 ↔ (c == 48)=true:=by
   rw [hb,beq_iff_eq];exact byte_is c 48
  refine Ev.no (by simp) (Ev.yes (by simp only [List.length_cons] at hsz;omega) (Ev.both (fun h=>?_) (fun h=>?_)))
  ·rw [h48.mp h];refine Ev.both (fun hb=>?_) (fun hb=>?_)
   ·have:=formed_j2 s hs true;rw [hl] at this;rw [hb];exact this
   ·have:=formed_j2 s hs (decide ((s.size:Int) > 1));rw [hl] at this;rw [Bool.not_eq_true] at hb;rw [hb];rw [show decide ((s.size:Int) > 1)=decide (1 < (c :: r).length) by rw [hsz,decide_eq_decide,List.length_cons];omega] at this ⊢;exact this
  ·rw [h48] at h;rw [Bool.not_eq_true _ |>.mp h];have:=formed_j2 s hs false;rw [hl] at this;exact this
theorem formed_ev (s:ByteArray) (hs:s.size≤140737488351232):Ev (fun k=>num_formed.f k s) (formedL s.data.toList):=by
 unfold num_formed.f;have hsz:=size_eq' s;have hb:bt s 0=((s.data.toList.getD 0 0).toNat:Int):=bt_eq s 0;have hx:=Lib.extract_to_end s 1;have hxs:(s.extract 1 s.size).size≤140737488351232:=by rw [size_eq',hx,List.length_drop];omega
 have key:Ev (fun k=>num_formed.j0 k s (negOf s.data.toList)) (formedL s.data.toList):=by
  refine Ev.step (fun k=>by rw [num_formed.j0]) ?_;refine Ev.both (fun h=>?_) (fun h=>?_)
  ·have hp:1≤s.size:=by
    rw [hsz];cases hl:s.data.toList with
   |nil=>rw [hl] at h;simp [negOf] at h
   |cons c r=>simp
   refine Ev.yes (by omega) ?_;have:=formed_j1 (s.extract 1 s.size) hxs (negOf s.data.toList);rw [hx] at this;have e:formedL s.data.toList=formedM (s.data.toList.drop 1) (negOf s.data.toList):=by simp [formedL,formedM,magOf,h]
   rw [e];exact this
  ·have:=formed_j1 s hs (negOf s.data.toList);have e:formedL s.data.toList=formedM s.data.toList (negOf s.data.toList):=by simp [formedL,formedM,magOf,h]
   rw [e];exact this
 have hn:s.size > 0→(bt s 0 == 45)=negOf s.data.toList:=by
  intro h;rw [hb]
  cases hl:s.data.toList with
 |nil=>rw [hl,List.length_nil] at hsz;omega
 |cons c r =>
   simp only [negOf,List.getD_cons_zero,List.head?_cons]
   rw [Bool.eq_iff_iff,beq_iff_eq,beq_iff_eq,Option.some_inj];exact byte_is c 45
 refine Ev.both (fun h=>Ev.yes h ?_) (fun h=>?_)
 ·rw [hn (by omega)];exact key
 ·have e:negOf s.data.toList=false:=by
   cases hl:s.data.toList with
  |nil=>rfl
  |cons c r=>rw [hl] at hsz;simp at hsz;omega
  rw [e] at key;exact key
theorem formed_calls (s:ByteArray) (hs:s.size≤140737488351232) (w:World) :
  Calls Tryz.prog 116 #[.string s] w fun e w'=>e=.returned (.bool (formedL s.data.toList))∧Drawn0 w w':=by
 obtain ⟨k,hk⟩:=(formed_ev s hs).rounds;exact num_formed.calls k s _ w hk
theorem m64_maskN (a:Nat) (ha:a < 18446744073709551616):bits .and .u64 (a:Int) 4294967295=((a % 4294967296:Nat):Int):=by
 have h:=bits_and_u64_nat a 4294967295 ha (by omega);have e:a &&& 4294967295=a % 4294967296:=Nat.and_two_pow_sub_one_eq_mod a 32;rw [e] at h;exact h
theorem m64_divN (a:Nat):(a:Int) / 4294967296=((a / 4294967296:Nat):Int):=by omega
theorem m64_mulN (a b:Nat):(a:Int) * (b:Int)=((a * b:Nat):Int):=(Int.natCast_mul a b).symm
theorem m64_addN (a b:Nat):(a:Int)+(b:Int)=((a+b:Nat):Int):=(Int.natCast_add a b).symm
theorem m64_wrapN (a:Nat) (ha:a < 18446744073709551616):IntKind.u64.wrap (a:Int)=(a:Int):=by rw [IntKind.wrap_u64];omega
theorem m64_wrapM (a:Nat):IntKind.u64.wrap (a:Int)=((a % 18446744073709551616:Nat):Int):=by rw [IntKind.wrap_u64];omega
theorem bits_Mul64.nat (x y:Nat) (hx:x < 18446744073709551616) (hy:y < 18446744073709551616) (w:World) :
  Calls Tryz.prog 139 #[.int .u64 x,.int .u64 y] w fun e w'=>e=.returned (.tuple #[.int .u64 ((x * y / 18446744073709551616:Nat):Int),.int .u64 ((x * y % 18446744073709551616:Nat):Int)])∧w'=w:=by
 obtain ⟨bd,bt,bw,hhi⟩:=Lib.mul64_hi x y hx hy;have ba:=Lib.half_mul_le (a:=x / 4294967296) (b:=y / 4294967296) (by omega) (by omega);have bb:=Lib.half_mul_le (a:=x / 4294967296) (b:=y % 4294967296) (by omega) (by omega);have bc:=Lib.half_mul_le (a:=x % 4294967296) (b:=y / 4294967296) (by omega) (by omega);have ba':x / 4294967296 * (y / 4294967296) < 18446744073709551616:=by omega
 have bb':x / 4294967296 * (y % 4294967296) < 18446744073709551616:=by omega
 have bc':x % 4294967296 * (y / 4294967296) < 18446744073709551616:=by omega
 have bh1:x / 4294967296 * (y / 4294967296)+(x / 4294967296 * (y % 4294967296)+x % 4294967296 * (y % 4294967296) / 4294967296) / 4294967296 < 18446744073709551616:=by omega
 have bh:x / 4294967296 * (y / 4294967296)+(x / 4294967296 * (y % 4294967296)+x % 4294967296 * (y % 4294967296) / 4294967296) / 4294967296+((x / 4294967296 * (y % 4294967296)+x % 4294967296 * (y % 4294967296) / 4294967296) % 4294967296+x % 4294967296 * (y / 4294967296)) / 4294967296 < 18446744073709551616:=by omega
 go_enter Tryz.func139,Tryz.ntmps139
 go_wp2
 simp only [m64_maskN x hx,m64_maskN y hy,m64_divN,m64_mulN,m64_addN,m64_wrapN _ bd,m64_wrapN _ bb',m64_wrapN _ bt,m64_maskN _ bt,m64_wrapN _ bc',m64_wrapN _ bw,m64_wrapN _ ba',m64_wrapN _ bh1,m64_wrapN _ bh,m64_wrapM (x * y)]
 rw [hhi];go_ret2
 exact ⟨rfl,rfl⟩
theorem bits_Mul64.calls (a0 a1 r1 r2:Int) (w:World) (h:bits_Mul64.f a0 a1=some (r1,r2)) :
  Calls Tryz.prog 139 #[.int .u64 a0,.int .u64 a1] w fun e w'=>e=.returned (.tuple #[.int .u64 r1,.int .u64 r2])∧Drawn0 w w':=by
 unfold bits_Mul64.f at h;split at h <;> simp only [Option.some.injEq,Prod.mk.injEq,reduceCtorEq] at h
 rename_i hb
 obtain ⟨rfl,rfl⟩:=h;obtain ⟨x,rfl⟩:=Int.eq_ofNat_of_zero_le hb.1;obtain ⟨y,rfl⟩:=Int.eq_ofNat_of_zero_le hb.2.2.1;refine (bits_Mul64.nat x y (by omega) (by omega) w).mono ?_;rintro e w' ⟨rfl,rfl⟩;exact ⟨by rw [m64_mulN];rfl,Drawn0.refl _⟩
theorem num_Mul.calls (a0 a1 r1:Int) (r2:Bool) (w:World) (h:num_Mul.f a0 a1=some (r1,r2)) :
  Calls Tryz.prog 119 #[.int .i64 a0,.int .i64 a1] w fun e w'=>e=.returned (.tuple #[.int .i64 r1,.bool r2])∧Drawn0 w w':=by
 unfold num_Mul.f at h;split at h <;> simp only [Option.some.injEq,reduceCtorEq] at h
 rename_i hb
 have h0:num_size.f a0=some (a0.natAbs:Int):=by unfold num_size.f;rw [if_pos hb.1]
 have h1:num_size.f a1=some (a1.natAbs:Int):=by unfold num_size.f;rw [if_pos hb.2]
 have h2:bits_Mul64.f (a0.natAbs:Int) (a1.natAbs:Int)=some (((a0.natAbs * a1.natAbs:Nat):Int) / 18446744073709551616,((a0.natAbs * a1.natAbs:Nat):Int) % 18446744073709551616):=by
  have:=hb.1;have:=hb.2;unfold I64 at *;unfold bits_Mul64.f;rw [if_pos (by omega)];simp
 obtain ⟨x,hx⟩:∃ x,x=((a0.natAbs * a1.natAbs:Nat):Int) / 18446744073709551616:=⟨_,rfl⟩
 obtain ⟨y,hy⟩:∃ y,y=((a0.natAbs * a1.natAbs:Nat):Int) % 18446744073709551616:=⟨_,rfl⟩
 rw [← hx,← hy] at h2;have key:=mul_ways h.symm hx hy;clear hx hy h;have H0:=sd h0;have H1:=sd h1;have H2:=sd h2;clear h0 h1 h2 hb;obtain ⟨s,hs⟩:∃ s,s=(decide (a0 < 0) != decide (a1 < 0)):=⟨_,rfl⟩
 replace key:=key s hs.symm
 by_cases ha:a0 < 0 <;> by_cases hb:a1 < 0 <;> (have hs':s=_:=hs.trans (by simp only [ha,hb,decide_true,decide_false,bne_self_eq_false,Bool.true_bne,Bool.false_bne,Bool.not_false];rfl)) <;> subst hs' <;>
  simp only [Bool.false_eq_true,if_false,if_true] at key <;> clear hs <;> (rcases key with ⟨hm,hw,b1,b2⟩|⟨hm,b1⟩|⟨hm,b1,b2⟩) <;> simp only [Prod.mk.injEq] at hm <;> (obtain ⟨rfl,rfl⟩:=hm)
 all_goals
  (try (have HW:=sd hw;clear hw))
  (first|have da:=decide_eq_true ha|have da:=decide_eq_false ha)
  (first|have db:=decide_eq_true hb|have db:=decide_eq_false hb)
  (try have e0:(!decide (a0 < 0))=true:=by rw [da];rfl)
  (try have e1:(!decide (a1 < 0))=true:=by rw [db];rfl)
  (try have e2:(!decide (a0 < 0) == decide (a1 < 0))=false:=by rw [da,db];rfl)
  clear ha hb;(first|have d1:=decide_eq_true (show 0 < x by omega)|have d1:=decide_eq_false (show ¬ 0 < x by omega))
  (try (first|have d2:=decide_eq_true (show 9223372036854775808 < y by omega)|have d2:=decide_eq_false (show ¬ 9223372036854775808 < y by omega)))
  (try (first|have d3:=decide_eq_true (show 9223372036854775807 < y by omega)|have d3:=decide_eq_false (show ¬ 9223372036854775807 < y by omega)))
  clear b1;(try clear b2)
 all_goals
  go_enter Tryz.func119,Tryz.ntmps119
  go_wp2_with fail
  refine (num_size.calls a0 _ _ H0.out).mono ?_;rintro e w1 ⟨rfl,hd1⟩;obtain ⟨⟨n1,rfl⟩⟩:=hd1;go_wp2_with fail
  refine (num_size.calls a1 _ _ H1.out).mono ?_;rintro e w2 ⟨rfl,hd2⟩;obtain ⟨⟨n2,rfl⟩⟩:=hd2;go_wp2_with fail
  refine (bits_Mul64.calls _ _ _ _ _ H2.out).mono ?_;rintro e w3 ⟨rfl,hd3⟩;obtain ⟨⟨n3,rfl⟩⟩:=hd3;go_wp2_with fail
  all_goals (try (exfalso;(simp at *) <;> omega))
  go_ret2
  refine ⟨?_,⟨⟨_,rfl⟩⟩⟩;first|rfl|exact ret_tup HW.out
mutual
def rf01_Parse.j0:Nat→ByteArray→Int→Int→ByteArray→Bool→Option (Int×Int)
|0,_,_,_,_,_=>none
|k+1,x0,x1,x2,x8,x9=>if x9=true then (if 1≤(x0.size:Int) then (rf01_Parse.j1 k x1 x2 (x0.extract 1 x0.size) x9) else (none)) else (rf01_Parse.j1 k x1 x2 x8 x9)
def rf01_Parse.j1:Nat→Int→Int→ByteArray→Bool→Option (Int×Int)
|0,_,_,_,_=>none
|k+1,x1,x2,x8,x9=>(rf01_Digits.f k x8).bind fun t467=>(if t467=true then (if 0 < (x8.size:Int) then (if (bt x8 0)=48 then (if (x8.size:Int) > 1 then (rf01_Parse.j2 k x1 x2 x8 x9 true) else (rf01_Parse.j2 k x1 x2 x8 x9 x9)) else (rf01_Parse.j2 k x1 x2 x8 x9 false)) else (none)) else (rf01_Parse.j2 k x1 x2 x8 x9 true))
def rf01_Parse.j2:Nat→Int→Int→ByteArray→Bool→Bool→Option (Int×Int)
|0,_,_,_,_,_=>none
|k+1,x1,x2,x8,x9,x41=>if x41=true then (some (0,5)) else (rf01_Parse.l0 k x1 x2 x8 x9 0 0)
def rf01_Parse.l0:Nat→Int→Int→ByteArray→Bool→Int→Int→Option (Int×Int)
|0,_,_,_,_,_,_=>none
|k+1,x1,x2,x8,x9,x10,x11=>if x11 < (x8.size:Int) then ((rf01_Mul.f k x10 10).bind fun bt468=>(if bt468.2=true then (if 0≤x11 then (if x9=true then ((rf01_Add.f bt468.1 (-(((bt x8 x11) - 48) % 256))).bind fun bt470=>(if bt470.2=true then (rf01_Parse.l0 k x1 x2 x8 x9 bt470.1 (wrap64 (x11+1))) else (some (0,3)))) else ((rf01_Add.f bt468.1 (((bt x8 x11) - 48) % 256)).bind fun bt472=>(if bt472.2=true then (rf01_Parse.l0 k x1 x2 x8 x9 bt472.1 (wrap64 (x11+1))) else (some (0,3))))) else (none)) else (some (0,3)))) else (if x10 < x1 then (some (0,3)) else (if x10 > x2 then (some (0,3)) else (some (x10,0))))
end
def rf01_Parse.f (k:Nat) (a0:ByteArray) (a1:Int) (a2:Int):Option (Int×Int):=if a0.toList=([]:List UInt8) then (rf01_Parse.j0 k a0 a1 a2 a0 false) else (if 0 < (a0.size:Int) then (rf01_Parse.j0 k a0 a1 a2 a0 ((bt a0 0) == 45)) else (none))
end A
namespace WW
open Go.RowKit
section
variable {P:Program} {d:Nat} {xs ys:Array Value} {f:Field} {fs:List Field} {a b:Value} {r s:Bool} {w:World}
theorem eqf_last (hn : (f.name == "_") = false) (ha : (part f.type xs f.offset).run P w = .ok a w) (hb : (part f.type ys f.offset).run P w = .ok b w) (he : (Op.equalIn d f.type a b).run P w = .ok r w) : (Op.eqFields d xs ys [f]).run P w = .ok r w := by
  have hn' : f.name ≠ "_" := by simpa using hn
  simp only [Op.eqFields,if_pos hn',Sem.run_bind,ha,hb,he,Result.andThen_ok]
  cases r <;> simp
theorem eqf_cons (hn : (f.name == "_") = false) (ha : (part f.type xs f.offset).run P w = .ok a w) (hb : (part f.type ys f.offset).run P w = .ok b w) (he : (Op.equalIn d f.type a b).run P w = .ok r w) (hr : (Op.eqFields d xs ys fs).run P w = .ok s w) : (Op.eqFields d xs ys (f :: fs)).run P w = .ok (r && s) w := by
  have hn' : f.name ≠ "_" := by simpa using hn
  rw [Op.eqFields];simp only [if_pos hn',Sem.run_bind,ha,hb,he,Result.andThen_ok]
  cases r
  · simp
  · simpa using hr
theorem eqA_of {t:TypeId} {fs:Array Field} (hu:P.underlying t=some (.struct fs)) (hp:P.stoodInHeld t=false) (h:(Op.eqFields d xs ys fs.toList).run P w=.ok r w):(Op.equalIn (d+1) t (.agg xs) (.agg ys)).run P w=.ok r w:=by
  have hf:P.fieldsOf t=fs:=by simp [Program.fieldsOf,hu]
  rw [run_equalIn_struct (P:=P) w d t xs ys (by rw [hf];exact hu) hp,hf];exact h
end
end WW
namespace A
open Go.RowKit B WW WL WM
attribute [local go_sem] max2_int min2_int max_two min_two max_three min_three max_four min_four
theorem eqA48 (d:Nat) (w:World) (x0 y0 x1 y1:Int) (x2 y2:ByteArray) (x3 y3:Int) :
    (Op.equalIn (d+2) 48 (.agg #[.int .i64 x0,.int .i64 x1,.string x2,.int .i64 x3]) (.agg #[.int .i64 y0,.int .i64 y1,.string y2,.int .i64 y3])).run Tryz.prog w=.ok (x0 == y0 && (x1 == y1 && (x2.toList == y2.toList && (x3 == y3)))) w:=by
  refine eqA_of Tryz.underlying48 (by kernel_rfl) ?_;refine eqf_cons (by rfl) (by go_simp;rfl) (by go_simp;rfl) (by go_simp) ?_;refine eqf_cons (by rfl) (by go_simp;rfl) (by go_simp;rfl) (by go_simp) ?_;refine eqf_cons (by rfl) (by go_simp;rfl) (by go_simp;rfl) (by go_simp) ?_;exact eqf_last (by rfl) (by go_simp;rfl) (by go_simp;rfl) (by go_simp)
theorem eqA50 (d:Nat) (w:World) (x0 y0 x1 y1:ByteArray) :
    (Op.equalIn (d+2) 50 (.agg #[.string x0,.string x1]) (.agg #[.string y0,.string y1])).run Tryz.prog w=.ok (x0.toList == y0.toList && (x1.toList == y1.toList)) w:=by
  refine eqA_of Tryz.underlying50 (by kernel_rfl) ?_;refine eqf_cons (by rfl) (by go_simp;rfl) (by go_simp;rfl) (by go_simp) ?_;exact eqf_last (by rfl) (by go_simp;rfl) (by go_simp;rfl) (by go_simp)
end A
namespace A
open Go.RowKit B WW WL WM
attribute [local go_sem] max2_int min2_int max_two min_two max_three min_three max_four min_four
set_option maxHeartbeats 8000000
set_option maxRecDepth 100000
attribute [local go_sem high] eqA50
mutual
def rf48_Check.j0:Nat→Bool→ByteArray→List (S48)→ByteArray→ByteArray→List (S50)→Option (Int)
|0,_,_,_,_,_,_=>none
|k+1,x25,x150000,x150001,x150002,x150003,x150004=>if x25=true then (some 7) else ((rf09_Right.f k x150004).bind fun t153=>(if t153=true then (if (x150001.length:Int)=0 then (some 2) else (if (x150001.length:Int) > 8 then (some 9) else (rf48_Check.l0 k 0 x150000 x150001 x150002 x150003 x150004))) else (some 14)))
def rf48_Check.l0:Nat→Int→ByteArray→List (S48)→ByteArray→ByteArray→List (S50)→Option (Int)
|0,_,_,_,_,_,_=>none
|k+1,x3,x150000,x150001,x150002,x150003,x150004=>if x3 < (x150001.length:Int) then (if 0≤x3 then ((rf48_condition.f k ((rd_T48 x150001 x3).f0) ((rd_T48 x150001 x3).f1) ((rd_T48 x150001 x3).f2) ((rd_T48 x150001 x3).f3)).bind fun t155=>(if t155=0 then (rf48_Check.l0 k (wrap64 (x3+1)) x150000 x150001 x150002 x150003 x150004) else (some t155))) else (none)) else (some 0)
end
def rf48_Check.f (k:Nat) (a0_0:ByteArray) (l0_1:List (S48)) (a0_2:ByteArray) (a0_3:ByteArray) (l0_4:List (S50)):Option (Int):=(rf06_Code.f k a0_0).bind fun t150=>(if t150=true then ((rf06_Code.f k a0_2).bind fun t151=>(if t151=true then (if a0_3.toList=([]:List UInt8) then (rf48_Check.j0 k false a0_0 l0_1 a0_2 a0_3 l0_4) else ((rf06_Code.f k a0_3).bind fun t152=>(rf48_Check.j0 k (!t152) a0_0 l0_1 a0_2 a0_3 l0_4))) else (rf48_Check.j0 k true a0_0 l0_1 a0_2 a0_3 l0_4))) else (rf48_Check.j0 k true a0_0 l0_1 a0_2 a0_3 l0_4))
def rf09_Same.l0:Nat→List (S50)→List (S50)→Int→Option (Bool)
|0,_,_,_=>none
|k+1,x0,x1,x5=>if x5 < (x0.length:Int) then (if 0≤x5 then (if x5 < (x1.length:Int) then (if (!((((rd_T50 x0 x5).f0).toList) == (((rd_T50 x1 x5).f0).toList)) || (!((((rd_T50 x0 x5).f1).toList) == (((rd_T50 x1 x5).f1).toList))))=true then (some false) else (rf09_Same.l0 k x0 x1 (wrap64 (x5+1)))) else (none)) else (none)) else (some true)
def rf09_Same.f (k:Nat) (l0:List (S50)) (l1:List (S50)):Option (Bool):=if (l0.length:Int)=(l1.length:Int) then (rf09_Same.l0 k l0 l1 0) else (some false)
theorem rf09_Same.calls (k:Nat) (A0:Option Addr) (c0:Nat) (l0:List (S50)) (A1:Option Addr) (c1:Nat) (l1:List (S50)) (r:Bool) (w:World) (hr0:Kd.C k50 w A0 l0.length l0) (hc0:l0.length≤c0) (hr1:Kd.C k50 w A1 l1.length l1) (hc1:l1.length≤c1) (h:rf09_Same.f k l0 l1=some r) :
  Calls Tryz.prog 42 #[.slice A0 l0.length c0,.slice A1 l1.length c1] w fun e w'=>e=.returned (.bool r)∧Drawn0 w w':=by
 have hu50:=Tryz.underlying50;have HR0:=sd hr0;have HC0:=sd hc0;clear hr0 hc0;have HR1:=sd hr1;have HC1:=sd hc1;clear hr1 hc1;have H:=h;clear h;unfold rf09_Same.f at H;replace H:=ifI H;rcases H with ⟨c3,H⟩|⟨c3,H⟩
 ·obtain ⟨c3b0,c3b1⟩:=eqI c3;have c3b2:(l0.length == l1.length)=true:=by first|simpa using c3|(simp at c3 ⊢;omega)
  clear c3;have H':=sd H;clear H;go_enter Tryz.func42,Tryz.ntmps42
  go_wp2
  repeat (go_quiet (fail);try go_wp2)
  go_loopg [5] k (fun kq v5 w'=>∃ (x5_1:Int),v5=.int .i64 x5_1∧Aside0 (rf09_Same.l0 kq l0 l1 x5_1=some r)∧Aside0 (kq≤k)∧Drawn0 w w')
  case atStart=>exact ⟨(0),zq7,H',⟨Nat.le_refl _⟩,zq16⟩
  case round =>
   clear H';try clear c1
   obtain ⟨x5_1,rfl,HA,HK1,⟨m1,rfl⟩⟩:=hrel
   cases gk with
  |zero=>exact absurd HA.out (by simp [rf09_Same.l0])
  |succ k1 =>
    have H:=HA.out;clear HA;simp only [rf09_Same.l0] at H
    replace H:=ifI H;rcases H with ⟨c4,H⟩|⟨c4,H⟩
    ·have c4b0:decide (x5_1 < (l0.length:Int))=true:=decide_eq_true c4;clear c4;replace H:=ifI H;rcases H with ⟨c5,H⟩|⟨c5,H⟩
     ·have c5b0:decide (0≤x5_1)=true:=decide_eq_true c5;clear c5;replace H:=ifI H;rcases H with ⟨c6,H⟩|⟨c6,H⟩
      ·have c6b0:decide (x5_1 < (l1.length:Int))=true:=decide_eq_true c6;clear c6;replace H:=ifI H;rcases H with ⟨c7,H⟩|⟨c7,H⟩
       ·have c7b0:(!((((rd_T50 l0 x5_1).f0).toList) == (((rd_T50 l1 x5_1).f0).toList)) || (!((((rd_T50 l0 x5_1).f1).toList) == (((rd_T50 l1 x5_1).f1).toList))))=true:=c7;clear c7;obtain rfl:=Option.some.inj H;have p243:0≤(x5_1:Int):=od;have q243:x5_1 < (l0.length:Int):=od;obtain ⟨ad243,e243,hx243_0,hx243_1⟩:=at_T50 HR0.out x5_1 p243 q243
        cases e243
        replace p243:=eq_true p243;replace q243:=eq_true q243;have p244:0≤(x5_1:Int):=od;have q244:x5_1 < (l1.length:Int):=od;obtain ⟨ad244,e244,hx244_0,hx244_1⟩:=at_T50 HR1.out x5_1 p244 q244
        cases e244
        replace p244:=eq_true p244;replace q244:=eq_true q244;go_wp2
        repeat (go_quiet (fail);try go_wp2)
        go_ret
        exact ⟨zq7,zq16⟩
       have c7b0:(!((((rd_T50 l0 x5_1).f0).toList) == (((rd_T50 l1 x5_1).f0).toList)) || (!((((rd_T50 l0 x5_1).f1).toList) == (((rd_T50 l1 x5_1).f1).toList))))=false:=by simpa using c7
       clear c7;have H':=sd H;clear H;have p243:0≤(x5_1:Int):=od;have q243:x5_1 < (l0.length:Int):=od;obtain ⟨ad243,e243,hx243_0,hx243_1⟩:=at_T50 HR0.out x5_1 p243 q243
       cases e243
       replace p243:=eq_true p243;replace q243:=eq_true q243;have p244:0≤(x5_1:Int):=od;have q244:x5_1 < (l1.length:Int):=od;obtain ⟨ad244,e244,hx244_0,hx244_1⟩:=at_T50 HR1.out x5_1 p244 q244
       cases e244
       replace p244:=eq_true p244;replace q244:=eq_true q244;go_wp2
       repeat (go_quiet (fail);try go_wp2)
       go_roundg k1
       case measure=>have:=HK1.out;omega
       case rel=>exact ⟨(wrap64 (x5_1+1)),zq7,H',⟨by have:=HK1.out;omega⟩,zq16⟩
      exact absurd H (by simp)
     exact absurd H (by simp)
    have c4b0:decide (x5_1 < (l0.length:Int))=false:=decide_eq_false c4;clear c4;obtain rfl:=Option.some.inj H;go_wp2
    repeat (go_quiet (fail);try go_wp2)
    go_ret
    exact ⟨zq7,zq16⟩
 obtain ⟨c3b0,c3b1⟩:=neI c3;have c3b2:(l0.length == l1.length)=false:=by first|simpa using c3|(simp at c3 ⊢;omega)
 obtain rfl:=Option.some.inj H;go_enter Tryz.func42,Tryz.ntmps42
 go_wp2
 repeat (go_quiet (fail);try go_wp2)
 go_ret
 exact ⟨zq7,zq16⟩
end A
namespace A
open Go.RowKit B WW WL WM
attribute [local go_sem] max2_int min2_int max_two min_two max_three min_three max_four min_four
set_option maxHeartbeats 8000000
set_option maxRecDepth 100000
attribute [local go_sem high] eqA48
mutual
def rf48_Same.j0:Nat→Bool→ByteArray→List (S48)→ByteArray→ByteArray→List (S50)→ByteArray→List (S48)→ByteArray→ByteArray→List (S50)→Option (Bool)
|0,_,_,_,_,_,_,_,_,_,_,_=>none
|k+1,x41,x246000,x246001,x246002,x246003,x246004,x247000,x247001,x247002,x247003,x247004=>if x41=true then (some false) else (rf48_Same.l0 k 0 x246000 x246001 x246002 x246003 x246004 x247000 x247001 x247002 x247003 x247004)
def rf48_Same.l0:Nat→Int→ByteArray→List (S48)→ByteArray→ByteArray→List (S50)→ByteArray→List (S48)→ByteArray→ByteArray→List (S50)→Option (Bool)
|0,_,_,_,_,_,_,_,_,_,_,_=>none
|k+1,x5,x246000,x246001,x246002,x246003,x246004,x247000,x247001,x247002,x247003,x247004=>if x5 < (x246001.length:Int) then (if 0≤x5 then (if x5 < (x247001.length:Int) then (if (!(((rd_T48 x246001 x5).f0) == ((rd_T48 x247001 x5).f0)) || (!(((rd_T48 x246001 x5).f1) == ((rd_T48 x247001 x5).f1)) || (!((((rd_T48 x246001 x5).f2).toList) == (((rd_T48 x247001 x5).f2).toList)) || (!(((rd_T48 x246001 x5).f3) == ((rd_T48 x247001 x5).f3))))))=true then (some false) else (rf48_Same.l0 k (wrap64 (x5+1)) x246000 x246001 x246002 x246003 x246004 x247000 x247001 x247002 x247003 x247004)) else (none)) else (none)) else (some true)
end
def rf48_Same.f (k:Nat) (a0_0:ByteArray) (l0_1:List (S48)) (a0_2:ByteArray) (a0_3:ByteArray) (l0_4:List (S50)) (a1_0:ByteArray) (l1_1:List (S48)) (a1_2:ByteArray) (a1_3:ByteArray) (l1_4:List (S50)):Option (Bool):=if a0_0.toList=a1_0.toList then (if a0_2.toList=a1_2.toList then (if a0_3.toList=a1_3.toList then (if (l0_1.length:Int)=(l1_1.length:Int) then ((rf09_Same.f k l0_4 l1_4).bind fun t247=>(rf48_Same.j0 k (!t247) a0_0 l0_1 a0_2 a0_3 l0_4 a1_0 l1_1 a1_2 a1_3 l1_4)) else (rf48_Same.j0 k true a0_0 l0_1 a0_2 a0_3 l0_4 a1_0 l1_1 a1_2 a1_3 l1_4)) else (rf48_Same.j0 k true a0_0 l0_1 a0_2 a0_3 l0_4 a1_0 l1_1 a1_2 a1_3 l1_4)) else (rf48_Same.j0 k true a0_0 l0_1 a0_2 a0_3 l0_4 a1_0 l1_1 a1_2 a1_3 l1_4)) else (rf48_Same.j0 k true a0_0 l0_1 a0_2 a0_3 l0_4 a1_0 l1_1 a1_2 a1_3 l1_4)
theorem rf48_Same.calls (k:Nat) (a0_0:ByteArray) (A0_1:Option Addr) (c0_1:Nat) (l0_1:List (S48)) (a0_2 a0_3:ByteArray) (A0_4:Option Addr) (c0_4:Nat) (l0_4:List (S50)) (a1_0:ByteArray) (A1_1:Option Addr) (c1_1:Nat) (l1_1:List (S48)) (a1_2 a1_3:ByteArray) (A1_4:Option Addr) (c1_4:Nat) (l1_4:List (S50)) (r:Bool) (w:World) (hr0_1:Kd.C k48 w A0_1 l0_1.length l0_1) (hc0_1:l0_1.length≤c0_1) (hr0_4:Kd.C k50 w A0_4 l0_4.length l0_4) (hc0_4:l0_4.length≤c0_4) (hr1_1:Kd.C k48 w A1_1 l1_1.length l1_1) (hc1_1:l1_1.length≤c1_1) (hr1_4:Kd.C k50 w A1_4 l1_4.length l1_4) (hc1_4:l1_4.length≤c1_4) (h:rf48_Same.f k a0_0 l0_1 a0_2 a0_3 l0_4 a1_0 l1_1 a1_2 a1_3 l1_4=some r) :
  Calls Tryz.prog 19 #[.agg #[.string a0_0,.slice A0_1 l0_1.length c0_1,.string a0_2,.string a0_3,.slice A0_4 l0_4.length c0_4],.agg #[.string a1_0,.slice A1_1 l1_1.length c1_1,.string a1_2,.string a1_3,.slice A1_4 l1_4.length c1_4]] w fun e w'=>e=.returned (.bool r)∧Below w.heap.size w w':=by
 have hu25:=Tryz.underlying25;have hu48:=Tryz.underlying48;have HR0_1:=sd hr0_1;have HC0_1:=sd hc0_1;clear hr0_1 hc0_1;have HR0_4:=sd hr0_4;have HC0_4:=sd hc0_4;clear hr0_4 hc0_4;have HR1_1:=sd hr1_1;have HC1_1:=sd hc1_1;clear hr1_1 hc1_1;have HR1_4:=sd hr1_4;have HC1_4:=sd hc1_4;clear hr1_4 hc1_4;have HB:=sd (Below.refl w.heap.size w);have H:=h;clear h;unfold rf48_Same.f at H;have HC3:=sd H;clear H;go_enter Tryz.func19,Tryz.ntmps19
 go_upto_region 1 with (first|((with_reducible refine gate_dst (N:=2) rfl ?_);(try (refine gate_guard (by rfl) ?_;dsimp only));refine bxA 2 #[.string a0_0,.slice A0_1 l0_1.length c0_1,.string a0_2,.string a0_3,.slice A0_4 l0_4.length c0_4] 25 ?_;intro gb245 hg w4 hbox hb;have BK245:=sd (hbox);have GW245:=gem hg HB;have GE245:=GW245;replace HB:=hbm HB hb;clear hb hbox hg)|((with_reducible refine gate_dst (N:=3) rfl ?_);(try (refine gate_guard (by rfl) ?_;dsimp only));refine bxA 3 #[.string a1_0,.slice A1_1 l1_1.length c1_1,.string a1_2,.string a1_3,.slice A1_4 l1_4.length c1_4] 25 ?_;intro gb246 hg w5 hbox hb;have BK246:=sd (hbox);have GW246:=gem hg HB;have GE246:=GW246;have NB245_246:=nlm hg BK245;have NB246_245:=ngm hg BK245;replace BK245:=bkm BK245 hb;replace HB:=hbm HB hb;clear hb hbox hg))
 repeat (go_quiet (first|((with_reducible refine gate_dst (N:=2) rfl ?_);(try (refine gate_guard (by rfl) ?_;dsimp only));refine bxA 2 #[.string a0_0,.slice A0_1 l0_1.length c0_1,.string a0_2,.string a0_3,.slice A0_4 l0_4.length c0_4] 25 ?_;intro gb245 hg w4 hbox hb;have BK245:=sd (hbox);have GW245:=gem hg HB;have GE245:=GW245;replace HB:=hbm HB hb;clear hb hbox hg)|((with_reducible refine gate_dst (N:=3) rfl ?_);(try (refine gate_guard (by rfl) ?_;dsimp only));refine bxA 3 #[.string a1_0,.slice A1_1 l1_1.length c1_1,.string a1_2,.string a1_3,.slice A1_4 l1_4.length c1_4] 25 ?_;intro gb246 hg w5 hbox hb;have BK246:=sd (hbox);have GW246:=gem hg HB;have GE246:=GW246;have NB245_246:=nlm hg BK245;have NB246_245:=ngm hg BK245;replace BK245:=bkm BK245 hb;replace HB:=hbm HB hb;clear hb hbox hg));go_upto_region 1 with (first|((with_reducible refine gate_dst (N:=2) rfl ?_);(try (refine gate_guard (by rfl) ?_;dsimp only));refine bxA 2 #[.string a0_0,.slice A0_1 l0_1.length c0_1,.string a0_2,.string a0_3,.slice A0_4 l0_4.length c0_4] 25 ?_;intro gb245 hg w4 hbox hb;have BK245:=sd (hbox);have GW245:=gem hg HB;have GE245:=GW245;replace HB:=hbm HB hb;clear hb hbox hg)|((with_reducible refine gate_dst (N:=3) rfl ?_);(try (refine gate_guard (by rfl) ?_;dsimp only));refine bxA 3 #[.string a1_0,.slice A1_1 l1_1.length c1_1,.string a1_2,.string a1_3,.slice A1_4 l1_4.length c1_4] 25 ?_;intro gb246 hg w5 hbox hb;have BK246:=sd (hbox);have GW246:=gem hg HB;have GE246:=GW246;have NB245_246:=nlm hg BK245;have NB246_245:=ngm hg BK245;replace BK245:=bkm BK245 hb;replace HB:=hbm HB hb;clear hb hbox hg)))
 (try simp only [Act.put,List.setIfInBounds_toArray,List.set_cons_zero,List.set_cons_succ])
 go_cut [41] (fun v41 wc=>∃ (kq:Nat) (x41_2:Bool),v41=.bool x41_2∧Aside0 (rf48_Same.j0 kq x41_2 a0_0 l0_1 a0_2 a0_3 l0_4 a1_0 l1_1 a1_2 a1_3 l1_4=some r)∧Aside0 (kq≤k)∧Aside0 (wc.heap[gb245]?=some (.cells #[.string a0_0,(.slice A0_1 l0_1.length c0_1),.string a0_2,.string a0_3,(.slice A0_4 l0_4.length c0_4)] 25 (0,0)))∧Aside0 (wc.heap[gb246]?=some (.cells #[.string a1_0,(.slice A1_1 l1_1.length c1_1),.string a1_2,.string a1_3,(.slice A1_4 l1_4.length c1_4)] 25 (0,0)))∧Aside0 (Below w.heap.size w wc))
 case first =>
  have H:=HC3.out;clear HC3;replace H:=ifI H;rcases H with ⟨c6,H⟩|⟨c6,H⟩
  ·obtain ⟨c6b0,c6b1⟩:=eqI c6;clear c6;(first|rw [c6b0]|(simp only [i64_w,i32_w];rw [c6b0])|skip)
   replace H:=ifI H;rcases H with ⟨c7,H⟩|⟨c7,H⟩
   ·obtain ⟨c7b0,c7b1⟩:=eqI c7;clear c7;replace H:=ifI H;rcases H with ⟨c8,H⟩|⟨c8,H⟩
    ·obtain ⟨c8b0,c8b1⟩:=eqI c8;clear c8;replace H:=ifI H;rcases H with ⟨c9,H⟩|⟨c9,H⟩
     ·obtain ⟨c9b0,c9b1⟩:=eqI c9;have c9b2:(l0_1.length == l1_1.length)=true:=by first|simpa using c9|(simp at c9 ⊢;omega)
      clear c9;replace H:=bdI H;obtain ⟨t247,A10,H⟩:=H;(try dsimp only at H)
      have H':=sd H;clear H;have hnb11:=NB245_246.out;have hnc11:=NB246_245.out;obtain ⟨_,_,_,_,_,_,_,_,_,_⟩:=bk5 BK245;obtain ⟨_,_,_,_,_,_,_,_,_,_⟩:=bk5 BK246;go_wp2_with (first|(go_at_call 42;(with_reducible refine (rf09_Same.calls k _ _ l0_4 _ _ l1_4 t247 _ ?side1 ?side2 ?side3 ?side4 A10.out).mono ?_);(case side1=>exact zq40);(case side2=>exact HC0_4.out);(case side3=>exact zq41);(case side4=>exact HC1_4.out);rintro e w' ⟨rfl,⟨nd,rfl⟩⟩;(try first|exact ⟨rfl,_,World.drewN_drewN _ _ _⟩|exact ⟨rfl,_,Eq.trans (World.drewN_drewN _ _ _) (congrArg (World.drewN _) (Nat.add_assoc _ _ _))⟩)))
      repeat (go_quiet (first|(go_at_call 42;(with_reducible refine (rf09_Same.calls k _ _ l0_4 _ _ l1_4 t247 _ ?side1 ?side2 ?side3 ?side4 A10.out).mono ?_);(case side1=>exact zq40);(case side2=>exact HC0_4.out);(case side3=>exact zq41);(case side4=>exact HC1_4.out);rintro e w' ⟨rfl,⟨nd,rfl⟩⟩;(try first|exact ⟨rfl,_,World.drewN_drewN _ _ _⟩|exact ⟨rfl,_,Eq.trans (World.drewN_drewN _ _ _) (congrArg (World.drewN _) (Nat.add_assoc _ _ _))⟩)));try go_wp2_with (first|(go_at_call 42;(with_reducible refine (rf09_Same.calls k _ _ l0_4 _ _ l1_4 t247 _ ?side1 ?side2 ?side3 ?side4 A10.out).mono ?_);(case side1=>exact zq40);(case side2=>exact HC0_4.out);(case side3=>exact zq41);(case side4=>exact HC1_4.out);rintro e w' ⟨rfl,⟨nd,rfl⟩⟩;(try first|exact ⟨rfl,_,World.drewN_drewN _ _ _⟩|exact ⟨rfl,_,Eq.trans (World.drewN_drewN _ _ _) (congrArg (World.drewN _) (Nat.add_assoc _ _ _))⟩))))
      go_meet
      case rel=>exact ⟨_,(!t247),zq7,H',⟨by first|omega|exact Nat.le_refl _⟩,⟨zq42⟩,⟨zq43⟩,⟨zq44⟩⟩
     obtain ⟨c9b0,c9b1⟩:=neI c9;have c9b2:(l0_1.length == l1_1.length)=false:=by first|simpa using c9|(simp at c9 ⊢;omega)
     have H':=sd H;clear H;have hnb14:=NB245_246.out;have hnc14:=NB246_245.out;obtain ⟨_,_,_,_,_,_,_,_,_,_⟩:=bk5 BK245;obtain ⟨_,_,_,_,_,_,_,_,_,_⟩:=bk5 BK246;go_wp2
     repeat (go_quiet (fail);try go_wp2)
     go_meet
     case rel=>exact ⟨_,(true),zq7,H',⟨by first|omega|exact Nat.le_refl _⟩,⟨zq42⟩,⟨zq43⟩,⟨zq44⟩⟩
    obtain ⟨c8b0,c8b1⟩:=neI c8;have H':=sd H;clear H;have hnb17:=NB245_246.out;have hnc17:=NB246_245.out;obtain ⟨_,_,_,_,_,_,_,_,_,_⟩:=bk5 BK245;obtain ⟨_,_,_,_,_,_,_,_,_,_⟩:=bk5 BK246;go_wp2
    repeat (go_quiet (fail);try go_wp2)
    go_meet
    case rel=>exact ⟨_,(true),zq7,H',⟨by first|omega|exact Nat.le_refl _⟩,⟨zq42⟩,⟨zq43⟩,⟨zq44⟩⟩
   obtain ⟨c7b0,c7b1⟩:=neI c7;have H':=sd H;clear H;have hnb20:=NB245_246.out;have hnc20:=NB246_245.out;obtain ⟨_,_,_,_,_,_,_,_,_,_⟩:=bk5 BK245;obtain ⟨_,_,_,_,_,_,_,_,_,_⟩:=bk5 BK246;go_wp2
   repeat (go_quiet (fail);try go_wp2)
   go_meet
   case rel=>exact ⟨_,(true),zq7,H',⟨by first|omega|exact Nat.le_refl _⟩,⟨zq42⟩,⟨zq43⟩,⟨zq44⟩⟩
  obtain ⟨c6b0,c6b1⟩:=neI c6;(first|rw [c6b0]|(simp only [i64_w,i32_w];rw [c6b0])|skip)
  have H':=sd H;clear H;have hnb23:=NB245_246.out;have hnc23:=NB246_245.out;obtain ⟨_,_,_,_,_,_,_,_,_,_⟩:=bk5 BK245;obtain ⟨_,_,_,_,_,_,_,_,_,_⟩:=bk5 BK246;go_wp2
  repeat (go_quiet (fail);try go_wp2)
  go_meet
  case rel=>exact ⟨_,(true),zq7,H',⟨by first|omega|exact Nat.le_refl _⟩,⟨zq42⟩,⟨zq43⟩,⟨zq44⟩⟩
 case rest =>
  clear HC3;try clear c1
  obtain ⟨kq,x41_2,rfl,HA,HJ2,BK245,BK246,HB⟩:=hcut
  cases kq with
 |zero=>exact absurd HA.out (by simp [rf48_Same.j0])
 |succ kj2 =>
   have H:=HA.out;clear HA;simp only [rf48_Same.j0] at H
   by_cases c26:x41_2=true
   ·subst c26;rw [if_pos rfl] at H;obtain rfl:=Option.some.inj H;go_wp2
    repeat (go_quiet (fail);try go_wp2)
    go_ret
    exact ⟨zq4,zq44⟩
   replace c26:=Bool.eq_false_iff.mpr c26;subst c26;rw [if_neg Bool.false_ne_true] at H;have H':=sd H;clear H;go_wp2
   repeat (go_quiet (fail);try go_wp2)
   go_loopg [5] kj2 (fun kq v5 w'=>∃ (x5_2:Int),v5=.int .i64 x5_2∧Aside0 (rf48_Same.l0 kq x5_2 a0_0 l0_1 a0_2 a0_3 l0_4 a1_0 l1_1 a1_2 a1_3 l1_4=some r)∧Aside0 (kq≤kj2)∧Aside0 (w'.heap[gb245]?=some (.cells #[.string a0_0,(.slice A0_1 l0_1.length c0_1),.string a0_2,.string a0_3,(.slice A0_4 l0_4.length c0_4)] 25 (0,0)))∧Aside0 (w'.heap[gb246]?=some (.cells #[.string a1_0,(.slice A1_1 l1_1.length c1_1),.string a1_2,.string a1_3,(.slice A1_4 l1_4.length c1_4)] 25 (0,0)))∧Aside0 (Below w.heap.size w w'))
   case atStart=>exact ⟨(0),zq7,H',⟨Nat.le_refl _⟩,⟨zq42⟩,⟨zq43⟩,⟨zq44⟩⟩
   case round =>
    clear H';try clear c1
    obtain ⟨x5_2,rfl,HA,HK2,BK245,BK246,HB⟩:=hrel
    cases gk with
   |zero=>exact absurd HA.out (by simp [rf48_Same.l0])
   |succ k2 =>
     have H:=HA.out;clear HA;simp only [rf48_Same.l0] at H
     replace H:=ifI H;rcases H with ⟨c27,H⟩|⟨c27,H⟩
     ·have c27b0:decide (x5_2 < (l0_1.length:Int))=true:=decide_eq_true c27;clear c27;replace H:=ifI H;rcases H with ⟨c28,H⟩|⟨c28,H⟩
      ·have c28b0:decide (0≤x5_2)=true:=decide_eq_true c28;clear c28;replace H:=ifI H;rcases H with ⟨c29,H⟩|⟨c29,H⟩
       ·have c29b0:decide (x5_2 < (l1_1.length:Int))=true:=decide_eq_true c29;clear c29;replace H:=ifI H;rcases H with ⟨c30,H⟩|⟨c30,H⟩
        ·have c30b0:(!(((rd_T48 l0_1 x5_2).f0) == ((rd_T48 l1_1 x5_2).f0)) || (!(((rd_T48 l0_1 x5_2).f1) == ((rd_T48 l1_1 x5_2).f1)) || (!((((rd_T48 l0_1 x5_2).f2).toList) == (((rd_T48 l1_1 x5_2).f2).toList)) || (!(((rd_T48 l0_1 x5_2).f3) == ((rd_T48 l1_1 x5_2).f3))))))=true:=c30;clear c30;obtain rfl:=Option.some.inj H;have hnb31:=NB245_246.out;have hnc31:=NB246_245.out;obtain ⟨_,_,_,_,_,_,_,_,_,_⟩:=bk5 BK245;have p248:0≤(x5_2:Int):=od;have q248:x5_2 < (l0_1.length:Int):=od;obtain ⟨ad248,e248,hx248_0,hx248_1,hx248_2,hx248_3⟩:=at_T48 HR0_1.out x5_2 p248 q248
         cases e248
         replace hx248_0:=(HB.out.cell (World.block_lt_of_cell? w _ hx248_0)).trans hx248_0;replace hx248_1:=(HB.out.cell (World.block_lt_of_cell? w _ hx248_1)).trans hx248_1;replace hx248_2:=(HB.out.cell (World.block_lt_of_cell? w _ hx248_2)).trans hx248_2;replace hx248_3:=(HB.out.cell (World.block_lt_of_cell? w _ hx248_3)).trans hx248_3;replace p248:=eq_true p248;replace q248:=eq_true q248;obtain ⟨_,_,_,_,_,_,_,_,_,_⟩:=bk5 BK246;have p249:0≤(x5_2:Int):=od;have q249:x5_2 < (l1_1.length:Int):=od;obtain ⟨ad249,e249,hx249_0,hx249_1,hx249_2,hx249_3⟩:=at_T48 HR1_1.out x5_2 p249 q249
         cases e249
         replace hx249_0:=(HB.out.cell (World.block_lt_of_cell? w _ hx249_0)).trans hx249_0;replace hx249_1:=(HB.out.cell (World.block_lt_of_cell? w _ hx249_1)).trans hx249_1;replace hx249_2:=(HB.out.cell (World.block_lt_of_cell? w _ hx249_2)).trans hx249_2;replace hx249_3:=(HB.out.cell (World.block_lt_of_cell? w _ hx249_3)).trans hx249_3;replace p249:=eq_true p249;replace q249:=eq_true q249;go_wp2
         repeat (go_quiet (fail);try go_wp2)
         go_ret
         exact ⟨zq4,zq44⟩
        have c30b0:(!(((rd_T48 l0_1 x5_2).f0) == ((rd_T48 l1_1 x5_2).f0)) || (!(((rd_T48 l0_1 x5_2).f1) == ((rd_T48 l1_1 x5_2).f1)) || (!((((rd_T48 l0_1 x5_2).f2).toList) == (((rd_T48 l1_1 x5_2).f2).toList)) || (!(((rd_T48 l0_1 x5_2).f3) == ((rd_T48 l1_1 x5_2).f3))))))=false:=by simpa using c30
        clear c30;have H':=sd H;clear H;have hnb34:=NB245_246.out;have hnc34:=NB246_245.out;obtain ⟨_,_,_,_,_,_,_,_,_,_⟩:=bk5 BK245;have p248:0≤(x5_2:Int):=od;have q248:x5_2 < (l0_1.length:Int):=od;obtain ⟨ad248,e248,hx248_0,hx248_1,hx248_2,hx248_3⟩:=at_T48 HR0_1.out x5_2 p248 q248
        cases e248
        replace hx248_0:=(HB.out.cell (World.block_lt_of_cell? w _ hx248_0)).trans hx248_0;replace hx248_1:=(HB.out.cell (World.block_lt_of_cell? w _ hx248_1)).trans hx248_1;replace hx248_2:=(HB.out.cell (World.block_lt_of_cell? w _ hx248_2)).trans hx248_2;replace hx248_3:=(HB.out.cell (World.block_lt_of_cell? w _ hx248_3)).trans hx248_3;replace p248:=eq_true p248;replace q248:=eq_true q248;obtain ⟨_,_,_,_,_,_,_,_,_,_⟩:=bk5 BK246;have p249:0≤(x5_2:Int):=od;have q249:x5_2 < (l1_1.length:Int):=od;obtain ⟨ad249,e249,hx249_0,hx249_1,hx249_2,hx249_3⟩:=at_T48 HR1_1.out x5_2 p249 q249
        cases e249
        replace hx249_0:=(HB.out.cell (World.block_lt_of_cell? w _ hx249_0)).trans hx249_0;replace hx249_1:=(HB.out.cell (World.block_lt_of_cell? w _ hx249_1)).trans hx249_1;replace hx249_2:=(HB.out.cell (World.block_lt_of_cell? w _ hx249_2)).trans hx249_2;replace hx249_3:=(HB.out.cell (World.block_lt_of_cell? w _ hx249_3)).trans hx249_3;replace p249:=eq_true p249;replace q249:=eq_true q249;go_wp2
        repeat (go_quiet (fail);try go_wp2)
        go_roundg k2
        case measure=>have:=HJ2.out;have:=HK2.out;omega
        case rel=>exact ⟨(wrap64 (x5_2+1)),zq7,H',⟨by have:=HJ2.out;have:=HK2.out;omega⟩,⟨zq42⟩,⟨zq43⟩,⟨zq44⟩⟩
       exact absurd H (by simp)
      exact absurd H (by simp)
     have c27b0:decide (x5_2 < (l0_1.length:Int))=false:=decide_eq_false c27;clear c27;obtain rfl:=Option.some.inj H;have hnb37:=NB245_246.out;have hnc37:=NB246_245.out;obtain ⟨_,_,_,_,_,_,_,_,_,_⟩:=bk5 BK245;go_wp2
     repeat (go_quiet (fail);try go_wp2)
     go_ret
     exact ⟨zq4,zq44⟩
end A

end Go.Proofs.YtkbgkekegjfkfaaGreatDoor