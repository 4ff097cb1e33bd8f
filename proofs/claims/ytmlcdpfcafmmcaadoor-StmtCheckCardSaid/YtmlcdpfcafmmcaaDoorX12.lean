-- By pack.py, a program of this session's.
import Derived.Test.YtmlcdpfcafmmcaaDoorX5
import Derived.Test.YtmlcdpfcafmmcaaDoorX6
import Derived.Test.YtmlcdpfcafmmcaaDoorX7
import Derived.Test.YtmlcdpfcafmmcaaDoorX8
set_option linter.unusedVariables false
set_option linter.unusedSimpArgs false
namespace Go.Proofs.YtmlcdpfcafmmcaaDoor.A
open Go.RowKit B WW WL WM
attribute [local go_sem] max2_int min2_int max_two min_two max_three min_three max_four min_four
set_option maxHeartbeats 8000000
set_option maxRecDepth 100000
def money_Digits.l0:Nat→ByteArray→List (S77)→Int→Int→Option (Int×Bool)
 | 0,_,_,_,_=>none
 | k+1,x1,x11,x12,x13=>if x13 < x12 then (if 0≤x13 then (if x13 < (x11.length:Int) then (if ((rd_T77 x11 x13).f0).toList=x1.toList then (some ((rd_T77 x11 x13).f1,true)) else (money_Digits.l0 k x1 x11 x12 (wrap64 (x13+1)))) else (none)) else (none)) else (some (0,false))
def money_Digits.f (k:Nat) (l0:List (S77)) (a1:ByteArray):Option (Int×Bool):=(money_Right.f k l0).bind fun t136=>(if t136=true then (money_Digits.l0 k a1 l0 (l0.length:Int) 0) else (some (0,false)))
theorem num_Text.itoa_calls (n:Int) (h0:-9223372036854775808≤n) (h1:n < 9223372036854775808) (w:World):Calls Tryd.prog 36 #[.int .i64 n] w fun e w'=>e=.returned (.string ⟨(Lib.itoa n).toArray⟩)∧Below w.heap.size w w':=by
 have HP:=Lib.hid (@itoa_pos n);have HM:=Lib.hid (@itoa_neg' n);obtain ⟨u,hu⟩:∃ u:Nat,u=n.natAbs:=⟨_,rfl⟩
 rw [← hu] at HP HM;have hu1:u≤9223372036854775808:=by omega
 have HU:=Lib.hid hu;clear hu;go_enter Tryd.func36,Tryd.ntmps36
 go_wp2_with fail
 refine (num_size.same n ⟨h0,by omega⟩ _).mono ?_;rintro e w' ⟨rfl,rfl⟩;rw [← HU.out];go_wp2_with fail
 go_loopw [4,5,8] (fun at_ left i wr=>∃ m k:Nat,m+k=19∧at_=.int .i64 ((m:Int)+1)∧left=.int .u64 ((u / 10 ^ k:Nat):Int)∧i=.int .i64 (k:Int)∧wr=w.alloc (.cells (trow u (m+1)) 87)∧(k=0∨u / 10 ^ k≠0)) (fun _ _ i _=>(19 - (RowKit.intOf i).toNat))
 case atStart=>exact ⟨19,0,rfl,rfl,by simp,rfl,by rw [trow_start];rfl,.inl rfl⟩
 case round =>
  obtain ⟨m,k,hmk,rfl,rfl,rfl,rfl,hz⟩:=hrel;have HZ:=Lib.hid hz;have hv19:k=19→u / 10 ^ k=0:=by intro e;rw [e];exact Nat.div_eq_of_lt (by omega)
  have hk:k < 19:=by
   rcases Nat.lt_or_ge k 19 with h | h
   ·exact h
   ·have:=hv19 (by omega);omega
  have hk18:k=18→u / 10 ^ k < 10:=by intro e;rw [e];omega
  clear hz hv19;have HS:=Lib.hid (trow_set u m k _ hmk rfl);have HY:=Lib.hid (trow_digits u m k hmk);obtain ⟨v,hv⟩:∃ v,v=u / 10 ^ k:=⟨_,rfl⟩
  have hvle:v≤u:=by rw [hv];exact Nat.div_le_self _ _
  have hvq:u / 10 ^ (k+1)=v / 10:=by rw [hv,Nat.pow_succ,Nat.div_div_eq_div_mul]
  rw [← hv] at HZ HS HY hk18 ⊢;have HV:=Lib.hid hv;clear hv;have hX:=trow_at u (m+1) m (by omega);obtain ⟨X,HX⟩:∃ X,X=trow u (m+1):=⟨_,rfl⟩
  obtain ⟨Y,HYY⟩:∃ Y,Y=trow u m:=⟨_,rfl⟩
  have HYA:=Lib.hid (fun i h=>trow_at u m i h);rw [← HX] at hX HS ⊢;rw [← HYY] at HS HY HYA;rw [if_neg (by omega)] at hX;have HXX:=Lib.hid HX;clear HX;have HYY':=Lib.hid HYY;clear HYY;have hset:X.setIfInBounds m (Value.int IntKind.u8 (48+(v:Int) % 10))=Y:=by rw [← HS.out];congr 2
  by_cases hv0:v / 10=0
  ·obtain ⟨hl,hd⟩:=HY.out (by rw [hvq];exact hv0) HZ.out;clear hk18;have hb0:((v:Int) / 10 == 0)=true:=by rw [beq_iff_eq];omega
   by_cases hn:n < 0
   ·obtain ⟨j,rfl⟩:∃ j,m=j+1:=⟨m - 1,by omega⟩
    have hY:=HYA.out j (by omega);rw [if_neg (by omega)] at hY;obtain ⟨Z,HZZ⟩:∃ Z,Z=Y.setIfInBounds j (.int .u8 45):=⟨_,rfl⟩
    have hset2:Y.setIfInBounds j (.int .u8 45)=Z:=HZZ.symm;have hsl:=fun W b=>sl20 W b j j rfl (by omega)
    have hcv:=fun cap=>conv_row (P:=Tryd.prog) w 87 86 9 5 Tryd.underlying86 Tryd.underlying5 Tryd.underlying9 Z j (20 - j) cap (45 :: Lib.decDigits u) (by simp only [List.length_cons];omega) (fun i hi=>by
     subst HZZ;rcases i with _ | i
     ·rw [Nat.add_zero,Array.getElem?_setIfInBounds,if_pos rfl,if_pos (by rw [HYY'.out,trow_size];omega)];rfl
     ·rw [Array.getElem?_setIfInBounds,if_neg (by omega),show j+(i+1)=j+1+i by omega,hd i (by simpa using hi)];rfl)
    clear hl hd hv0 HZZ hvq;go_wp2_with fail
    go_ret
    refine ⟨by rw [HM.out hn];rfl,?_⟩;exact (Below.refl _ _).alloc (Nat.le_refl _) _
   have hsl:=fun W b=>sl20 W b m m rfl (by omega)
   have hcv:=fun cap=>conv_row (P:=Tryd.prog) w 87 86 9 5 Tryd.underlying86 Tryd.underlying5 Tryd.underlying9 Y m (20 - m) cap (Lib.decDigits u) hl hd
   clear hl hd hv0 hvq;go_wp2_with fail
   go_ret
   refine ⟨by rw [HP.out (by omega)];rfl,?_⟩;exact (Below.refl _ _).alloc (Nat.le_refl _) _
  have hb0:((v:Int) / 10 == 0)=false:=by rw [beq_eq_false_iff_ne];omega
  clear hk18;clear HY HYA;have HQ:=Lib.hid hvq;clear hvq;have HV0:=Lib.hid hv0;clear hv0;go_wp2_with fail
  go_roundw
  case rel =>
   obtain ⟨j,rfl⟩:∃ j,m=j+1:=⟨m - 1,by omega⟩
   exact ⟨j,k+1,by omega,by go_num,by rw [HQ.out];go_num,by go_num,by rw [HYY'.out],.inr (by rw [HQ.out];exact HV0.out)⟩
  case measure=>simp [RowKit.intOf];omega
def num_Text.f (a0:Int):Option (ByteArray):=if I64 a0 then some ⟨(Lib.itoa a0).toArray⟩ else none
theorem num_Text.calls (a0:Int) (r:ByteArray) (w:World) (h:num_Text.f a0=some r) :
  Calls Tryd.prog 36 #[.int .i64 a0] w fun e w'=>e=.returned (.string r)∧Below w.heap.size w w':=by
 unfold num_Text.f at h;split at h <;> simp only [Option.some.injEq,reduceCtorEq] at h
 rename_i hb
 subst h;exact num_Text.itoa_calls a0 hb.1 (by have:=hb.2;omega) w
def days_padded.f (a0:Int):Option (ByteArray):=if a0 < 10 then ((num_Text.f a0).bind fun t139=>(if 1+t139.size≤9223372036854775807 then (some ((⟨#[48]⟩:ByteArray)++t139)) else (none))) else ((num_Text.f a0).bind fun t140=>(some t140))
theorem days_padded.calls (a0:Int) (r:ByteArray) (w:World) (h:days_padded.f a0=some r) :
  Calls Tryd.prog 62 #[.int .i64 a0] w fun e w'=>e=.returned (.string r)∧Below w.heap.size w w':=by
 have HB:=sd (Below.refl w.heap.size w);have H:=h;clear h;unfold days_padded.f at H;replace H:=ifI H;rcases H with ⟨c2,H⟩ | ⟨c2,H⟩
 ·have c2b0:decide (a0 < 10)=true:=decide_eq_true c2;clear c2;replace H:=bdI H;obtain ⟨t139,A3,H⟩:=H;(try dsimp only at H)
  replace H:=ifI H;rcases H with ⟨c4,H⟩ | ⟨c4,H⟩
  ·have c4b0:=eq_true c4;have c4b1:decide (1+t139.size≤9223372036854775807)=true:=decide_eq_true c4;try have c4b2:(9223372036854775807 < 1+t139.size)=False:=eq_false (Nat.not_lt.2 c4)
   obtain rfl:=Option.some.inj H;go_enter Tryd.func62,Tryd.ntmps62
   go_wp2_with (first | ((with_reducible refine gate_callee (f:=36) rfl ?_);refine gL 6 Tryd.func36 #[.int .i64 a0] ?_;(with_reducible refine (num_Text.calls a0 t139 _ A3.out).mono ?_);rintro e w5 ⟨rfl,hb⟩;refine ⟨_,rfl,?_⟩;replace HB:=hbm HB hb;clear hb))
   go_ret
   exact ⟨zq10,zq7⟩
  exact absurd H (by simp)
 have c2b0:decide (a0 < 10)=false:=decide_eq_false c2;clear c2;replace H:=bdI H;obtain ⟨t140,A6,H⟩:=H;(try dsimp only at H)
 obtain rfl:=Option.some.inj H;go_enter Tryd.func62,Tryd.ntmps62
 go_wp2_with (first | ((with_reducible refine gate_callee (f:=36) rfl ?_);refine gL 9 Tryd.func36 #[.int .i64 a0] ?_;(with_reducible refine (num_Text.calls a0 t140 _ A6.out).mono ?_);rintro e w7 ⟨rfl,hb⟩;refine ⟨_,rfl,?_⟩;replace HB:=hbm HB hb;clear hb))
 go_ret
 exact ⟨zq10,zq7⟩
def days_Text.f (k:Nat) (a0:Int):Option (ByteArray×Int):=(days_Date.f k a0).bind fun bt141=>(if bt141.2.2.2=0 then ((num_Text.f bt141.1).bind fun t146=>(if t146.size+1≤9223372036854775807 then ((days_padded.f bt141.2.1).bind fun t147=>(if (t146++(⟨#[45]⟩:ByteArray)).size+t147.size≤9223372036854775807 then (if ((t146++(⟨#[45]⟩:ByteArray))++t147).size+1≤9223372036854775807 then ((days_padded.f bt141.2.2.1).bind fun t148=>(if (((t146++(⟨#[45]⟩:ByteArray))++t147)++(⟨#[45]⟩:ByteArray)).size+t148.size≤9223372036854775807 then (some ((((t146++(⟨#[45]⟩:ByteArray))++t147)++(⟨#[45]⟩:ByteArray))++t148,0)) else (none))) else (none)) else (none))) else (none))) else (some ((⟨#[]⟩:ByteArray),bt141.2.2.2)))
def days_Text.T4:Bool×List (List Nat×List Nat):=(true,[([],[]),([0],[0]),([1],[1]),([2],[2]),([],[]),([4],[4]),([5,2],[5]),([3,6],[3,6]),([7],[7]),([],[]),([9],[9]),([10,6],[10]),([8,11],[8,11]),([12,11,0,1,2,3,4,5,6,7,8,9,10,11,12],[12]),([13,0,1,2,3,4,5,6,7,8,9,10,11,12,13],[])])
def days_Text.B4:List Nat:=[0,1,3,7,0,16,55,127,255,0,512,1655,4095,8191,16383]
theorem days_Text.tab4:rtab .any (opsOf Tryd.f37 4)=days_Text.T4:=by kernel_rfl
theorem days_Text.bits4:waitsOk days_Text.T4.2 days_Text.B4=true:=by kernel_rfl
theorem days_Text.calls (k:Nat) (a0:Int) (r1:ByteArray) (r2:Int) (w:World) (h:days_Text.f k a0=some (r1,r2)) (hG:Gl w) :
  Calls Tryd.prog 37 #[.int .i64 a0] w fun e w'=>e=.returned (.tuple #[.string r1,.int .i64 r2])∧Below w.heap.size w w':=by
 have HG:=sd hG;clear hG;have hu81:=Tryd.underlying81;have HB:=sd (Below.refl w.heap.size w);have H:=h;clear h;unfold days_Text.f at H;replace H:=bdI H;obtain ⟨⟨t141,t142,t143,t144⟩,A2,H⟩:=H;(try dsimp only at H)
 replace H:=ifI H;rcases H with ⟨c3,H⟩ | ⟨c3,H⟩
 ·obtain ⟨c3b0,c3b1⟩:=eqI c3;clear c3;replace H:=bdI H;obtain ⟨t146,A4,H⟩:=H;(try dsimp only at H)
  replace H:=ifI H;rcases H with ⟨c5,H⟩ | ⟨c5,H⟩
  ·have c5b0:=eq_true c5;have c5b1:decide (t146.size+1≤9223372036854775807)=true:=decide_eq_true c5;try have c5b2:(9223372036854775807 < t146.size+1)=False:=eq_false (Nat.not_lt.2 c5)
   replace H:=bdI H;obtain ⟨t147,A6,H⟩:=H;(try dsimp only at H)
   replace H:=ifI H;rcases H with ⟨c7,H⟩ | ⟨c7,H⟩
   ·have c7b0:=eq_true c7;have c7b1:decide ((t146++(⟨#[45]⟩:ByteArray)).size+t147.size≤9223372036854775807)=true:=decide_eq_true c7;try have c7b2:(9223372036854775807 < (t146++(⟨#[45]⟩:ByteArray)).size+t147.size)=False:=eq_false (Nat.not_lt.2 c7)
    try have c7y:(9223372036854775807 < t146.size+1+t147.size)=False:=by have h_:=c7b2;simp only [ByteArray.size_append] at h_;exact h_
    replace H:=ifI H;rcases H with ⟨c8,H⟩ | ⟨c8,H⟩
    ·have c8b0:=eq_true c8;have c8b1:decide (((t146++(⟨#[45]⟩:ByteArray))++t147).size+1≤9223372036854775807)=true:=decide_eq_true c8;try have c8b2:(9223372036854775807 < ((t146++(⟨#[45]⟩:ByteArray))++t147).size+1)=False:=eq_false (Nat.not_lt.2 c8)
     try have c8y:(9223372036854775807 < t146.size+1+t147.size+1)=False:=by have h_:=c8b2;simp only [ByteArray.size_append] at h_;exact h_
     replace H:=bdI H;obtain ⟨t148,A9,H⟩:=H;(try dsimp only at H)
     replace H:=ifI H;rcases H with ⟨c10,H⟩ | ⟨c10,H⟩
     ·have c10b0:=eq_true c10;have c10b1:decide ((((t146++(⟨#[45]⟩:ByteArray))++t147)++(⟨#[45]⟩:ByteArray)).size+t148.size≤9223372036854775807)=true:=decide_eq_true c10;try have c10b2:(9223372036854775807 < (((t146++(⟨#[45]⟩:ByteArray))++t147)++(⟨#[45]⟩:ByteArray)).size+t148.size)=False:=eq_false (Nat.not_lt.2 c10)
      try have c10y:(9223372036854775807 < t146.size+1+t147.size+1+t148.size)=False:=by have h_:=c10b2;simp only [ByteArray.size_append] at h_;exact h_
      simp only [Option.some.injEq,Prod.mk.injEq] at H
      obtain ⟨rfl,rfl⟩:=H;go_enter Tryd.func37,Tryd.ntmps37
      try go_wp2_with (first | ((with_reducible refine gate_callee (f:=54) rfl ?_);refine gL 7 Tryd.func54 #[.int .i64 a0] ?_;(with_reducible refine (days_Date.calls k a0 t141 t142 t143 t144 _ A2.out (gl_below HG.out zq13)).mono ?_);rintro e w11 ⟨rfl,hb⟩;refine ⟨_,rfl,?_⟩;replace HB:=hbm HB hb;clear hb) | ((with_reducible refine gate_dst (N:=4) rfl ?_);refine bxA 4 #[.int .i64 0,.int .i64 0,.int .i64 0] 81 ?_;intro gb145 hg w12 hbox hb;have BK145:=sd (hbox);have GW145:=gem hg HB;have GE145:=GW145;replace HB:=hbm HB hb;clear hb hbox hg;obtain ⟨_,_,_,_,_,_⟩:=bk3 BK145))
      have n0_:Aside0 ((((w12.setCell ⟨gb145,0,none⟩ (.int .i64 t141)).setCell ⟨gb145,1,none⟩ (.int .i64 t142)).setCell ⟨gb145,2,none⟩ (.int .i64 t143)).heap[gb145]?=some (.cells #[.int .i64 t141,.int .i64 t142,.int .i64 t143] 81 (0,0))):=⟨by (with_reducible repeat (first | refine blk_drewN ?_ _ | refine blk_drew ?_ | refine blk_alloc ?_ _));refine blk_put (cs:=#[.int .i64 t141,.int .i64 t142,.int .i64 0]) ?_ 2 _ rfl;(with_reducible repeat (first | refine blk_drewN ?_ _ | refine blk_drew ?_ | refine blk_alloc ?_ _));refine blk_put (cs:=#[.int .i64 t141,.int .i64 0,.int .i64 0]) ?_ 1 _ rfl;(with_reducible repeat (first | refine blk_drewN ?_ _ | refine blk_drew ?_ | refine blk_alloc ?_ _));refine blk_put (cs:=#[.int .i64 0,.int .i64 0,.int .i64 0]) ?_ 0 _ rfl;(with_reducible repeat (first | refine blk_drewN ?_ _ | refine blk_drew ?_ | refine blk_alloc ?_ _));exact BK145.out⟩
      have n1_:Aside0 (Below w.heap.size w (((w12.setCell ⟨gb145,0,none⟩ (.int .i64 t141)).setCell ⟨gb145,1,none⟩ (.int .i64 t142)).setCell ⟨gb145,2,none⟩ (.int .i64 t143))):=⟨zq117⟩
      (try clear BK145)
      (try clear HB)
      generalize (((w12.setCell ⟨gb145,0,none⟩ (.int .i64 t141)).setCell ⟨gb145,1,none⟩ (.int .i64 t142)).setCell ⟨gb145,2,none⟩ (.int .i64 t143))=w14 at n0_ n1_ ⊢;have BK145:=n0_;have HB:=n1_;clear n0_ n1_;replace BK145:=sd (blk_drew BK145.out);replace HB:=sd (below_drew1 HB.out);refine start_ (n:=15) (S:=fun w'=>w'.cell? ⟨gb145,0,none⟩=some (.int .i64 t141)∧w'.cell? ⟨gb145,1,none⟩=some (.int .i64 t142)∧w'.cell? ⟨gb145,2,none⟩=some (.int .i64 t143)) (ds:=[]) #[false,false,false,false,false,false,false,false,false,false,false,false,false,false,false] (by kernel_rfl) rfl rfl ⟨(blk_cell BK145.out 0).trans rfl,(blk_cell BK145.out 1).trans rfl,(blk_cell BK145.out 2).trans rfl⟩ (fun hHeld=>?_);refine with_tabW days_Text.tab4 days_Text.bits4 (fun HT_ HW_=>?_);generalize w14.drew=w15 at BK145 HB hHeld ⊢;refine pA 0 13 HT_.out ?_;refine pA 4 17 HT_.out ?_;refine pA 9 22 HT_.out ?_;refine tA 1 14 HT_.out HW_.out hHeld ?_;refine tA 5 18 HT_.out HW_.out hHeld ?_;refine tA 10 23 HT_.out HW_.out hHeld ?_;refine one_ (i:=2) (N:=some 15) #[true,true,true,false,true,true,false,false,false,true,true,false,false,false,false] rfl rfl (one_of HT_.out (by kernel_rfl)) (by decide) (fun K hK=>?_);refine goes_ Tryd.func36 (by kernel_rfl) rfl #[.int .i64 t141] (by rfl) rfl rfl zq28 ?_;with_reducible refine (num_Text.calls t141 t146 _ A4.out).mono ?_
      rintro e w16 ⟨rfl,hb⟩;refine ⟨_,rfl,?_⟩;replace BK145:=bkm BK145 hb;replace HB:=hbm HB hb;clear hb;refine hK.out _ _ ⟨(blk_cell BK145.out 0).trans rfl,(blk_cell BK145.out 1).trans rfl,(blk_cell BK145.out 2).trans rfl⟩ (fun hHeld=>?_);clear hK K;refine nA 15 ?_;refine pA 3 16 HT_.out ?_;refine one_ (i:=6) (N:=some 19) #[true,true,true,true,true,true,true,false,false,true,true,false,false,false,false] rfl rfl (one_of HT_.out (by kernel_rfl)) (by decide) (fun K hK=>?_);refine goes_ Tryd.func62 (by kernel_rfl) rfl #[.int .i64 t142] (by rfl) rfl rfl zq28 ?_;with_reducible refine (days_padded.calls t142 t147 _ A6.out).mono ?_
      rintro e w17 ⟨rfl,hb⟩;refine ⟨_,rfl,?_⟩;replace BK145:=bkm BK145 hb;replace HB:=hbm HB hb;clear hb;refine hK.out _ _ ⟨(blk_cell BK145.out 0).trans rfl,(blk_cell BK145.out 1).trans rfl,(blk_cell BK145.out 2).trans rfl⟩ (fun hHeld=>?_);clear hK K;refine nA 19 ?_;refine pA 7 20 HT_.out ?_;refine pA 8 21 HT_.out ?_;refine one_ (i:=11) (N:=some 24) #[true,true,true,true,true,true,true,true,true,true,true,true,false,false,false] rfl rfl (one_of HT_.out (by kernel_rfl)) (by decide) (fun K hK=>?_);refine goes_ Tryd.func62 (by kernel_rfl) rfl #[.int .i64 t143] (by rfl) rfl rfl zq28 ?_;with_reducible refine (days_padded.calls t143 t148 _ A9.out).mono ?_
      rintro e w18 ⟨rfl,hb⟩;refine ⟨_,rfl,?_⟩;replace BK145:=bkm BK145 hb;replace HB:=hbm HB hb;clear hb;refine hK.out _ _ ⟨(blk_cell BK145.out 0).trans rfl,(blk_cell BK145.out 1).trans rfl,(blk_cell BK145.out 2).trans rfl⟩ (fun hHeld=>?_);clear hK K;refine nA 24 ?_;refine pA 12 25 HT_.out ?_;refine pA 13 2 HT_.out ?_;refine pA 14 3 HT_.out ?_;refine done_ (done_of HT_.out (by kernel_rfl)) ?_;try go_wp2
      go_ret2
      exact ⟨zq10,zq117⟩
     exact absurd H (by simp)
    exact absurd H (by simp)
   exact absurd H (by simp)
  exact absurd H (by simp)
 obtain ⟨c3b0,c3b1⟩:=neI c3;simp only [Option.some.injEq,Prod.mk.injEq] at H
 obtain ⟨rfl,rfl⟩:=H;go_enter Tryd.func37,Tryd.ntmps37
 go_wp2_with (first | ((with_reducible refine gate_callee (f:=54) rfl ?_);refine gL 7 Tryd.func54 #[.int .i64 a0] ?_;(with_reducible refine (days_Date.calls k a0 t141 t142 t143 t144 _ A2.out (gl_below HG.out zq13)).mono ?_);rintro e w19 ⟨rfl,hb⟩;refine ⟨_,rfl,?_⟩;replace HB:=hbm HB hb;clear hb) | ((with_reducible refine gate_dst (N:=4) rfl ?_);refine bxA 4 #[.int .i64 0,.int .i64 0,.int .i64 0] 81 ?_;intro gb145 hg w20 hbox hb;have BK145:=sd (hbox);have GW145:=gem hg HB;have GE145:=GW145;replace HB:=hbm HB hb;clear hb hbox hg;obtain ⟨_,_,_,_,_,_⟩:=bk3 BK145))
 go_ret2
 exact ⟨zq10,zq117⟩
theorem fits_any (c:Int) (w:World):Calls Tryd.prog 59 #[.int .i64 c] w fun e w'=>e=.returned (.bool (decide (0≤c) && decide (c≤4)))∧w=w':=by
 by_cases h1:0≤c
 ·go_enter Tryd.func59,Tryd.ntmps59
  go_wp2
  go_ret
  exact ⟨ret_bool (by simp [h1]),rfl⟩
 go_enter Tryd.func59,Tryd.ntmps59
 go_wp2
 go_ret
 exact ⟨ret_bool (by simp;omega),rfl⟩
theorem far_any (c:Int) (w:World):Calls Tryd.prog 60 #[.int .i64 c] w fun e w'=>e=.returned (.bool (decide (1000000000000000 < c) || decide (c < -1000000000000000)))∧w=w':=by
 by_cases h1:1000000000000000 < c
 ·go_enter Tryd.func60,Tryd.ntmps60
  go_wp2
  go_ret
  exact ⟨ret_bool (by simp [h1]),rfl⟩
 go_enter Tryd.func60,Tryd.ntmps60
 go_wp2
 go_ret
 exact ⟨ret_bool (by simp;omega),rfl⟩
theorem inf44:(Tryd.prog.info? 44).map (fun i=>(i.zero,i.size,i.bytes))=some (some (.agg #[(.int .i64 0),(.int .i64 0),(.string ⟨#[]⟩),(.string ⟨#[]⟩)]),4,48):=by kernel_rfl
theorem WdC.below {w w':World} {g:Nat} {A:Option Addr} {c:Nat} {ws:List S93} (h:WdC w g A c ws) (hb:Below w.heap.size w w'):WdC w' g A c ws:=⟨Kd.C_below h.row hb,h.cap,h.ne⟩
theorem WdC.set {w:World} {g:Nat} {A:Option Addr} {c:Nat} {ws:List S93} (h:WdC w g A c ws) (j:Nat) (u:Value):WdC (w.setCell ⟨g,j,none⟩ u) g A c ws:=h.keep ((KeepBut.refl w g none).set_ j u)
theorem below_base {bd:Nat} {w w':World} (h:Below bd w w') (hb:bd≤w.heap.size):bd≤w'.heap.size:=Nat.le_trans hb h.size
def stmt_parser_head.f (k:Nat) (curs:List S77) (p:PSt) (ws:List S93):Option (PSt×Int) :=
  if 3 < ws.length then (words_Code.f (rd_T93 ws 1).f1).bind fun b=>if b=true then (money_Digits.f k curs (rd_T93 ws 2).f1).bind fun q=>if q.2=true then
      (num_Parse.f (rd_T93 ws 3).f1 1 4000).bind fun r=>some ({ p with acc:=(rd_T93 ws 1).f1,cur:=(rd_T93 ws 2).f1,dg:=q.1,no:=r.1 },r.2)
    else some ({ p with acc:=(rd_T93 ws 1).f1,cur:=(rd_T93 ws 2).f1,dg:=q.1 },13) else some ({ p with acc:=(rd_T93 ws 1).f1,cur:=(rd_T93 ws 2).f1 },7) else none
structure PX (w:World) (bd g gb:Nat) (C v:Value) (p:PSt) (x:Array Value):Prop where
 blk:w.heap[g]?=some (.cells (p.cells C v) 63 (0,0))
 row:Kd.R k44 44 w bd (fun k=>k≠gb) v p.ls
 own:w.heap[gb]?=some (.cells x 44 (0,0))
 hbd:bd≤g
 hbb:bd≤gb
 ne:g≠gb
theorem PX.below {w w':World} {bd g gb:Nat} {C v:Value} {p:PSt} {x:Array Value} (h:PX w bd g gb C v p x) (hb:Below w.heap.size w w'):PX w' bd g gb C v p x :=
 ⟨blk_below h.blk hb,Kd.R_below h.row hb,blk_below h.own hb,h.hbd,h.hbb,h.ne⟩
theorem PX.set {w:World} {bd g gb:Nat} {C v:Value} {p:PSt} {x:Array Value} (h:PX w bd g gb C v p x) (j:Nat) (u:Value) (y:Array Value) (hy:x.set! j u=y):PX (w.setCell ⟨gb,j,none⟩ u) bd g gb C v p y :=
 ⟨blk_far h.blk h.ne u,Kd.R_move h.row (fun k hk=>Below.heap_setCell _ _ _ k hk),blk_put (cs:=x) h.own j u hy,h.hbd,h.hbb,h.ne⟩
theorem PX.facts {w:World} {bd g gb:Nat} {C v:Value} {p:PSt} {x:Array Value} (h:PX w bd g gb C v p x) :
  w.cell? ⟨g,1,none⟩=some (.int .i64 p.dg)∧w.cell? ⟨g,8,none⟩=some v∧w.frozen? ⟨g,8,none⟩=false :=
 ⟨(blk_cell h.blk 1).trans rfl,(blk_cell h.blk 8).trans rfl,blk_frozen h.blk 8⟩
end Go.Proofs.YtmlcdpfcafmmcaaDoor.A
namespace Go.Proofs.YtmlcdpfcafmmcaaDoor.A
open Go.RowKit B WW WL WM
theorem zq18 {P:Prop} (h:P:=by (with_reducible repeat (first | refine blk_drewN ?_ _ | refine blk_drew ?_ | refine blk_alloc ?_ _));exact BK212.out):P:=h
theorem zq19 {P:Prop} (h:P:=by (with_reducible repeat (first | refine blk_drewN ?_ _ | refine blk_drew ?_ | refine blk_alloc ?_ _));exact BK213.out):P:=h
theorem zq127 {P:Prop} (h:P:=by (with_reducible repeat (first | refine blk_drewN ?_ _ | refine blk_drew ?_ | refine blk_alloc ?_ _));refine blk_far ?_ NB191_192.out _;(with_reducible repeat (first | refine blk_drewN ?_ _ | refine blk_drew ?_ | refine blk_alloc ?_ _));refine blk_far ?_ NB191_192.out _;(with_reducible repeat (first | refine blk_drewN ?_ _ | refine blk_drew ?_ | refine blk_alloc ?_ _));refine blk_put (cs:=#[.int .i64 t185,.string t186,.int .i64 0]) ?_ 2 _ rfl;(with_reducible repeat (first | refine blk_drewN ?_ _ | refine blk_drew ?_ | refine blk_alloc ?_ _));refine blk_put (cs:=#[.int .i64 t185,.string (⟨#[]⟩:ByteArray),.int .i64 0]) ?_ 1 _ rfl;(with_reducible repeat (first | refine blk_drewN ?_ _ | refine blk_drew ?_ | refine blk_alloc ?_ _));refine blk_put (cs:=#[.int .i64 0,.string (⟨#[]⟩:ByteArray),.int .i64 0]) ?_ 0 _ rfl;(with_reducible repeat (first | refine blk_drewN ?_ _ | refine blk_drew ?_ | refine blk_alloc ?_ _));exact BK191.out):P:=h
theorem zq128 {P:Prop} (h:P:=by (with_reducible repeat (first | apply Kd.R_alloc | apply Kd.R_drewN | apply Kd.R_drew));exact Kd.R_mono (Kd.R_far (p:=⟨gb192,1,none⟩) (Kd.R_far (p:=⟨gb192,0,none⟩) (Kd.R_far (p:=⟨gb191,2,none⟩) (Kd.R_far (p:=⟨gb191,1,none⟩) (Kd.R_far (p:=⟨gb191,0,none⟩) (Kd.R_types (Kd.R_mono HO_2.out (fun k_ hk=>(⟨hk,hk.2⟩:_∧k_≠gb191))) BK192.out (by decide)) (fun _ hk=>hk.1.2) (.int .i64 t185)) (fun _ hk=>hk.1.2) (.string t186)) (fun _ hk=>hk.1.2) (.int .i64 t187)) (fun _ hk=>hk.2) (.int .i64 t189)) (fun _ hk=>hk.2) (.int .i64 t190)) (fun _ hk=>hk.1.1.2)):P:=h
theorem zq129 {P:Prop} (h:P:=by (with_reducible repeat (first | refine blk_drewN ?_ _ | refine blk_drew ?_ | refine blk_alloc ?_ _));refine blk_put (cs:=#[.int .i64 t189,.int .i64 0]) ?_ 1 _ rfl;(with_reducible repeat (first | refine blk_drewN ?_ _ | refine blk_drew ?_ | refine blk_alloc ?_ _));refine blk_put (cs:=#[.int .i64 0,.int .i64 0]) ?_ 0 _ rfl;(with_reducible repeat (first | refine blk_drewN ?_ _ | refine blk_drew ?_ | refine blk_alloc ?_ _));refine blk_far ?_ NB192_191.out _;(with_reducible repeat (first | refine blk_drewN ?_ _ | refine blk_drew ?_ | refine blk_alloc ?_ _));refine blk_far ?_ NB192_191.out _;(with_reducible repeat (first | refine blk_drewN ?_ _ | refine blk_drew ?_ | refine blk_alloc ?_ _));refine blk_far ?_ NB192_191.out _;(with_reducible repeat (first | refine blk_drewN ?_ _ | refine blk_drew ?_ | refine blk_alloc ?_ _));exact BK192.out):P:=h
end Go.Proofs.YtmlcdpfcafmmcaaDoor.A
namespace Go.Proofs.YtmlcdpfcafmmcaaDoor.WW
open Go.RowKit
section
variable {P:Program} {d:Nat} {xs ys:Array Value} {f:Field} {fs:List Field} {a b:Value} {r s:Bool} {w:World}
theorem eqf_last (hn : (f.name == "_") = false) (ha : (part f.type xs f.offset).run P w = .ok a w) (hb : (part f.type ys f.offset).run P w = .ok b w) (he : (Op.equalIn d f.type a b).run P w = .ok r w) : (Op.eqFields d xs ys [f]).run P w = .ok r w := by
  have hn' : f.name ≠ "_" := by simpa using hn
  simp only [Op.eqFields,if_pos hn',Sem.run_bind,ha,hb,he,Result.andThen_ok]
  cases r <;> simp
theorem eqf_cons (hn : (f.name == "_") = false) (ha : (part f.type xs f.offset).run P w = .ok a w) (hb : (part f.type ys f.offset).run P w = .ok b w) (he : (Op.equalIn d f.type a b).run P w = .ok r w) (hr : (Op.eqFields d xs ys fs).run P w = .ok s w) : (Op.eqFields d xs ys (f :: fs)).run P w = .ok (r && s) w := by
  have hn' : f.name ≠ "_" := by simpa using hn
  rw [Op.eqFields];simp only [if_pos hn',Sem.run_bind,ha,hb,he,Result.andThen_ok]
  cases r
  · simp
  · simpa using hr
theorem eqA_of {t:TypeId} {fs:Array Field} (hu:P.underlying t=some (.struct fs)) (hp:P.stoodInHeld t=false) (h:(Op.eqFields d xs ys fs.toList).run P w=.ok r w):(Op.equalIn (d+1) t (.agg xs) (.agg ys)).run P w=.ok r w:=by
  have hf:P.fieldsOf t=fs:=by simp [Program.fieldsOf,hu]
  rw [run_equalIn_struct (P:=P) w d t xs ys (by rw [hf];exact hu) hp,hf];exact h
end
end Go.Proofs.YtmlcdpfcafmmcaaDoor.WW
namespace Go.Proofs.YtmlcdpfcafmmcaaDoor.A
open Go.RowKit B WW WL WM
attribute [local go_sem] max2_int min2_int max_two min_two max_three min_three max_four min_four
theorem info93:(Tryd.prog.info? 93).map (fun i=>(i.zero,i.size,i.bytes))=some (some (.agg #[(.int .i64 0),(.string ⟨#[]⟩),(.int .i64 0)]),3,32):=by kernel_rfl
theorem k77_mk (w:World) (x:S77):k77.K w x [.string x.f0,.int .i64 x.f1]:=⟨[.string x.f0],[.int .i64 x.f1],rfl,rfl,rfl⟩
theorem k93_mkM (w:World) (base:Nat) (ok:Nat→Prop) (x:S93):k93.M w base ok x [.int .i64 x.f0,.string x.f1,.int .i64 x.f2]:=⟨[.int .i64 x.f0],[.string x.f1,.int .i64 x.f2],rfl,rfl,⟨[.string x.f1],[.int .i64 x.f2],rfl,rfl,rfl⟩⟩
theorem eqA44 (d:Nat) (w:World) (x0 y0 x1 y1:Int) (x2 y2 x3 y3:ByteArray) :
    (Op.equalIn (d+2) 44 (.agg #[.int .i64 x0,.int .i64 x1,.string x2,.string x3]) (.agg #[.int .i64 y0,.int .i64 y1,.string y2,.string y3])).run Tryd.prog w=.ok (x0 == y0 && (x1 == y1 && (x2.toList == y2.toList && (x3.toList == y3.toList)))) w:=by
  refine eqA_of Tryd.underlying44 (by kernel_rfl) ?_;refine eqf_cons (by rfl) (by go_simp;rfl) (by go_simp;rfl) (by go_simp) ?_;refine eqf_cons (by rfl) (by go_simp;rfl) (by go_simp;rfl) (by go_simp) ?_;refine eqf_cons (by rfl) (by go_simp;rfl) (by go_simp;rfl) (by go_simp) ?_;exact eqf_last (by rfl) (by go_simp;rfl) (by go_simp;rfl) (by go_simp)
end Go.Proofs.YtmlcdpfcafmmcaaDoor.A
namespace Go.Proofs.YtmlcdpfcafmmcaaDoor.WW
open Go.RowKit
namespace Kd
section
variable {P:Program} {ops:Array Oper} {o:Oper} {a:Act} {Q:Exit→Act→World→Prop} {Kc:Act→World→Prop} {α:Type}
theorem R_append_step (d:Kd α) {w0 W:World} (base:Nat) (hw:Region.wanted o (yielded ops a.tmps)=true) (s x:Operand) (t e:TypeId) (z:Value) (bytes:Nat)
    (ho:o.op=.call { callee:=.builtin .append,args:=#[s,x],argTypes:=#[t,t] })
    (ht:P.underlying t=some (.slice e)) (hinfo:(P.info? e).map (fun i=>(i.zero,i.size,i.bytes))=some (some z,d.sz,bytes)) (hz:z.cells.size=d.sz) (hs0:0 < d.sz) (hb0:0 < bytes)
    (v:Value) (xs:List α) (p:α) (cs:List Value) (ok okp:Nat→Prop) (hs:a.eval s=v) (hx:a.eval x=.slice (some ⟨W.heap.size,0,none⟩) 1 1) (hp:d.M W base okp p cs) (hokp:∀ k,okp k→ok k∧some k≠v.ownBlock) (hfresh:∀ k,W.heap.size≤k→ok k)
    (HO:d.R e W base ok v xs) (HB:Below base w0 W) (hbase:base≤W.heap.size) (hl:(xs.length+1) * bytes≤140737488355328)
    (h:∀ v1 w1,d.R e w1 base ok v1 (xs++[p])→Below base w0 w1→W.grownBy w1 v.ownBlock→(v1.ownBlock=v.ownBlock∨∃ b,v1.ownBlock=some b∧W.heap.size≤b)→Kc (a.put o.dst v1) w1) :
    if Region.wanted o (yielded ops a.tmps)=true then Oper.wp P o a (W.alloc (.cells cs.toArray e)) Kc Q else Kc (a.put o.dst undef) (W.alloc (.cells cs.toArray e)):=by
  obtain ⟨h0,inner,hown,hr⟩:=HO;refine step_append_cells base hw s x t e z d.sz bytes ho ht hinfo hz hs0 hb0 v xs.length inner cs hs hx (d.K_len (d.K_of_M hp)) (d.K_one (d.K_of_M hp)) hown HB hbase hl ?_;intro v1 w1 hown1 hb1 hg1 hat1;exact h v1 w1 (R_appended h0 hr hp hokp hfresh hown1 hg1 hat1) hb1 hg1 hat1
end
end Kd
end Go.Proofs.YtmlcdpfcafmmcaaDoor.WW
namespace Go.Proofs.YtmlcdpfcafmmcaaDoor.B
open Go.RowKit WW WL WM
section
variable {P:Program} {ops:Array Oper} {rest:List Oper} {o:Oper} {Q:Exit→Act→World→Prop} {a:Act} {w V W w1:World} {g g':Nat}
theorem rbm {α:Type} {d:Kd α} {e base:Nat} {ok:Nat→Prop} {v:Value} {xs:List α} (H:Aside0 (d.R e V base ok v xs)) (hb:Below W.heap.size W w1) (hs:d.R e V base ok v xs→d.R e W base ok v xs:=by (intro h;(with_reducible repeat (first | apply Kd.R_alloc | apply Kd.R_drewN | apply Kd.R_drew));exact h)):Aside0 (d.R e w1 base ok v xs):=⟨Kd.R_below (hs H.out) hb⟩
end
end Go.Proofs.YtmlcdpfcafmmcaaDoor.B
namespace Go.Proofs.YtmlcdpfcafmmcaaDoor.B
open Go.RowKit WW WL WM
section
variable {P:Program} {md:Region.Mode} {ops:Array Oper} {Q:Exit→Act→World→Prop} {S:World→Prop} {ds:List Nat} {T:Bool×List (List Nat×List Nat)} {BB:List Nat} {oi:Oper} {v:Value} {fuel:Nat} {l l':Array Bool} {a a':Act} {w:World}
theorem tB (i N:Nat) (hS:S w) (h:wpAnyLast P md ops Q S ds fuel l' a' w)
    (hi:ops[i]?=some oi:=by rfl) (hN:oi.dst=some N:=by rfl) (hl:l.setIfInBounds i true=l':=by (simp only [List.setIfInBounds_toArray,List.set_cons_zero,List.set_cons_succ];rfl))
    (hc:takeB md ops ds l l' i=true:=by kernel_rfl) (hQ:∀ c a w,Q (.panic c) (a.put oi.dst v) w→Q (.panic c) a w:=by exact (fun _ _ _ h=>h)) (hg:Region.wanted oi (yielded ops a.tmps)=true:=by rfl)
    (hy:∀ w,S w→(execOp a.eval oi).run P w=.ok (.value v) w:=by (intro w' hs_;(try dsimp only at hs_);(try go_split_ands);go_simp;with_reducible rfl))
    (ha:a.put (some N) v=a':=by (simp only [Act.put,List.setIfInBounds_toArray,List.set_cons_zero,List.set_cons_succ,i64_w,i32_w];rfl)):wpAnyLast P md ops Q S ds (fuel+1) l a w :=
  take_ l' hi hN hc hQ (.inl ⟨hg,hy⟩) hS ha h
end
end Go.Proofs.YtmlcdpfcafmmcaaDoor.B
namespace Go.Proofs.YtmlcdpfcafmmcaaDoor.WW
open Go.RowKit
section
variable {P:Program} {ops:Array Oper} {rest:List Oper} {o:Oper} {a:Act} {Q:Exit→Act→World→Prop} {W:World}
theorem gate_guard (hw:Region.wanted o (yielded ops a.tmps)=true) (h:wpList P ops Q ({ o with guard:=none } :: rest) a W):wpList P ops Q (o :: rest) a W:=by
  have h1:Region.wanted { o with guard:=none } (yielded ops a.tmps)=true:=rfl;unfold wpList at h ⊢;rw [if_pos h1] at h;rw [if_pos hw];exact h
end
end Go.Proofs.YtmlcdpfcafmmcaaDoor.WW
namespace Go.Proofs.YtmlcdpfcafmmcaaDoor.B
open Go.Lib Go.RowKit WW
theorem Gl.pow {w:World} (h:Gl w) (d:Int) (h0:0≤d) (h4:d≤4):w.cell? ⟨0,d.toNat,none⟩=some (.int .i64 (pow10 d.toNat)):=by
  have hd:d.toNat < 5:=by omega
  generalize d.toNat=k at *;have:=h.2.2 k hd;rw [this];match k,hd with
  | 0,_=>rfl
  | 1,_=>rfl
  | 2,_=>rfl
  | 3,_=>rfl
  | 4,_=>rfl
end Go.Proofs.YtmlcdpfcafmmcaaDoor.B
namespace Go.Proofs.YtmlcdpfcafmmcaaDoor.A
open Go.RowKit B WW WL WM
attribute [local go_sem] max2_int min2_int max_two min_two max_three min_three max_four min_four
set_option maxHeartbeats 8000000
set_option maxRecDepth 100000
theorem text_any (a d:Int) (w:World) (hG:Gl w):Calls Tryd.prog 33 #[.int .i64 a,.int .i64 d] w fun e w'=>e=.returned (.tuple #[.string (textS a d).1,.int .i64 (textS a d).2])∧Below w.heap.size w w':=by
 have HG:=sd hG;clear hG;generalize hP:(fun e w'=>e=Ending.returned (.tuple #[.string (textS a d).1,.int .i64 (textS a d).2])∧Below w.heap.size w w')=Post;have HP:=sd hP;clear hP;have hf:=fits_any d;change ∀ w,Calls _ _ _ _ fun e w'=>e=.returned (.bool (fitsB d))∧_ at hf
 have Hf:=sd hf;have E0:Aside0 (textS a d=_):=⟨by rw [textS]⟩
 clear hf
 cases hbf:fitsB d
 ·rw [hbf] at Hf E0;go_enter Tryd.func33,Tryd.ntmps33
  go_wp2_with fail
  refine (Hf.out _).mono ?_;rintro e w' ⟨rfl,rfl⟩;go_wp2_with fail
  rw [← HP.out];exact ⟨by rw [E0.out];rfl,Below.refl _ _⟩
 obtain ⟨d0,d4⟩:=(fitsB_iff d).mp hbf;rw [hbf] at E0 Hf;clear hbf;have hfar:=far_any a;change ∀ w,Calls _ _ _ _ fun e w'=>e=.returned (.bool (farB a))∧_ at hfar
 have HFar:=sd hfar;clear hfar
 cases hfa:farB a
 rotate_left
 ·rw [hfa] at E0 HFar;go_enter Tryd.func33,Tryd.ntmps33
  go_wp2_with fail
  refine (Hf.out _).mono ?_;rintro e w' ⟨rfl,rfl⟩;go_wp2_with fail
  refine (HFar.out _).mono ?_;rintro e w' ⟨rfl,rfl⟩;go_wp2_with fail
  rw [← HP.out];exact ⟨by rw [E0.out];rfl,Below.refl _ _⟩
 rw [hfa] at E0 HFar;have hnf:¬ (1000000000000000 < a∨a < -1000000000000000):=fun h=>by rw [(farB_iff a).mpr h] at hfa;cases hfa
 clear hfa;have G1:=HG.out.pow d d0 d4;have hd5:d < 5:=by omega
 obtain ⟨x,hx⟩:∃ x:Nat,x=a.natAbs:=⟨_,rfl⟩
 obtain ⟨p,hp⟩:∃ p:Nat,p=10 ^ d.toNat:=⟨_,rfl⟩
 obtain ⟨p1,p2⟩:=pow_le4 d.toNat (by omega);rw [← hp] at p1 p2;have hpp:pow10 d.toNat=(p:Int):=by rw [hp];rfl
 rw [hpp] at G1;have hxb:x≤1000000000000000:=by omega
 obtain ⟨q,hq⟩:∃ q:Nat,q=x / p:=⟨_,rfl⟩
 obtain ⟨r,hr⟩:∃ r:Nat,r=p+x % p:=⟨_,rfl⟩
 have hqb:q≤1000000000000000:=by rw [hq];exact Nat.le_trans (Nat.div_le_self _ _) hxb
 have hrb:r≤20000:=by have:=Nat.mod_lt x p1;omega
 have hqI:I64 (q:Int):=by unfold I64;omega
 have hrI:I64 (r:Int):=by unfold I64;omega
 have HTq:=sd (fun W=>num_Text.calls (q:Int) (itB q) W (by unfold num_Text.f;rw [if_pos hqI];rfl));have HTr:=sd (fun W=>num_Text.calls (r:Int) (itB r) W (by unfold num_Text.f;rw [if_pos hrI];rfl));have hp0:((p:Int) == 0)=false:=by rw [beq_eq_false_iff_ne];omega
 have hdiv:Int.tdiv (x:Int) (p:Int)=(q:Int):=by rw [hq];exact Int.ofNat_tdiv x p
 have hmod:(p:Int)+Int.tmod (x:Int) (p:Int)=(r:Int):=by rw [hr,Int.natCast_add];congr 1
 have ET:textB (if a < 0 then ⟨#[45]⟩ else ⟨#[]⟩) a.natAbs d=if d=0 then (if a < 0 then ⟨#[45]⟩ else ⟨#[]⟩)++itB q else (if a < 0 then ⟨#[45]⟩ else ⟨#[]⟩)++itB q++⟨#[46]⟩++(itB r).extract 1 (itB r).size:=by rw [textB,← hp,← hx,← hq,← hr]
 rw [ET] at E0;have sq:=itB_size q hqI;have sr:=itB_size r hrI;have sr1:=itB_pos r;clear hqI hrI ET;generalize itB q=Bq at *;generalize itB r=Br at *
 have hdw:wrap64 ((x:Int) / (p:Int))=(q:Int):=by
  rw [← Int.natCast_ediv,← hq];unfold wrap64;omega
 have hmw:IntKind.i64.wrap ((p:Int)+(x:Int) % (p:Int))=(r:Int):=by
  rw [← Int.natCast_emod,← Int.natCast_add,← hr];exact IntWalk.i64_in _ (by omega)
 have HPP:=sd hpp;clear hdiv hmod;by_cases ha:a < 0
 ·have hw:IntKind.i64.wrap (-a)=(x:Int):=by rw [IntWalk.i64_in _ (by omega)];omega
  rw [if_pos ha] at E0;clear hnf hx hq hr hpp hp;by_cases hd0:d=0
  ·have HD:=sd hd0;rw [if_pos hd0] at E0;clear hd0;go_enter Tryd.func33,Tryd.ntmps33
   go_wp2_with fail
   refine (Hf.out _).mono ?_;rintro e w' ⟨rfl,rfl⟩;go_wp2_with fail
   refine (HFar.out _).mono ?_;rintro e w' ⟨rfl,rfl⟩;go_wp2_with fail
   rw [hdw];refine (HTq.out _).mono ?_;rintro e w1 ⟨rfl,hb⟩;have HB:=sd hb;have hd0:=HD.out;clear hb G1;go_wp2_with fail
   rw [← HP.out];exact ⟨by rw [E0.out];(try rfl),HB.out⟩
  have hd0b:(d == 0)=false:=by simpa using hd0
  rw [if_neg hd0] at E0;go_enter Tryd.func33,Tryd.ntmps33
  go_wp2_with fail
  refine (Hf.out _).mono ?_;rintro e w' ⟨rfl,rfl⟩;go_wp2_with fail
  refine (HFar.out _).mono ?_;rintro e w' ⟨rfl,rfl⟩;go_wp2_with fail
  rw [hdw];refine (HTq.out _).mono ?_;rintro e w1 ⟨rfl,hb⟩;have HB:=sd hb;have G2:=(gl_below HG.out hb).pow d d0 d4;rw [HPP.out] at G2;clear hb;go_wp2_with fail
  clear hd0b;have HX:=sd sr1;go_region_with (first | (go_at_call 36;refine (HTr.out _).mono ?_;rintro e_ w2 ⟨rfl,hb2⟩))
  all_goals
   have HB2:=sd (show Below w.heap.size w w2 from HB.out.trans ((Below.trans (by first | exact below_drew1 (Below.refl _ _) | exact pw_below_drewN (Below.refl _ _) _) hb2).mono HB.out.size));clear hb2 G2;go_wp2_with fail
   rw [← HP.out];exact ⟨by rw [E0.out];(try rfl),by repeat (first | exact HB2.out | apply pw_below_drewN | apply below_drew1)⟩
 obtain rfl:a=(x:Int):=by omega
 rw [if_neg ha] at E0;clear hnf hx hq hr hpp hp;by_cases hd0:d=0
 ·have HD:=sd hd0;rw [if_pos hd0] at E0;clear hd0;go_enter Tryd.func33,Tryd.ntmps33
  go_wp2_with fail
  refine (Hf.out _).mono ?_;rintro e w' ⟨rfl,rfl⟩;go_wp2_with fail
  refine (HFar.out _).mono ?_;rintro e w' ⟨rfl,rfl⟩;go_wp2_with fail
  rw [hdw];refine (HTq.out _).mono ?_;rintro e w1 ⟨rfl,hb⟩;have HB:=sd hb;have hd0:=HD.out;clear hb G1;go_wp2_with fail
  rw [← HP.out];exact ⟨by rw [E0.out];(try rfl),HB.out⟩
 have hd0b:(d == 0)=false:=by simpa using hd0
 rw [if_neg hd0] at E0;go_enter Tryd.func33,Tryd.ntmps33
 go_wp2_with fail
 refine (Hf.out _).mono ?_;rintro e w' ⟨rfl,rfl⟩;go_wp2_with fail
 refine (HFar.out _).mono ?_;rintro e w' ⟨rfl,rfl⟩;go_wp2_with fail
 rw [hdw];refine (HTq.out _).mono ?_;rintro e w1 ⟨rfl,hb⟩;have HB:=sd hb;have G2:=(gl_below HG.out hb).pow d d0 d4;rw [HPP.out] at G2;clear hb;go_wp2_with fail
 clear hd0b;have HX:=sd sr1;go_region_with (first | (go_at_call 36;refine (HTr.out _).mono ?_;rintro e_ w2 ⟨rfl,hb2⟩))
 all_goals
  have HB2:=sd (show Below w.heap.size w w2 from HB.out.trans ((Below.trans (by first | exact below_drew1 (Below.refl _ _) | exact pw_below_drewN (Below.refl _ _) _) hb2).mono HB.out.size));clear hb2 G2;go_wp2_with fail
  rw [← HP.out];exact ⟨by rw [E0.out];(try rfl),by repeat (first | exact HB2.out | apply pw_below_drewN | apply below_drew1)⟩
theorem text1_calls (n d:Int) (g:Nat) (w:World) (hc:w.cell? ⟨g,0,none⟩=some (.int .i64 d)) (hG:Gl w) :
  Calls Tryd.prog 32 #[.int .i64 n,.pointer (some ⟨g,0,none⟩)] w fun e w'=>e=.returned (.string (textS n d).1)∧Below w.heap.size w w':=by
 have HT:=sd (text_any n d w hG);generalize textS n d=q at *;clear hG;go_enter Tryd.func32,Tryd.ntmps32
 go_wp2_with fail
 refine HT.out.mono ?_;rintro e w1 ⟨rfl,hb⟩;clear HT;go_wp2_with fail
 go_ret
 exact ⟨by (try rfl),hb⟩
theorem c77_bd {w w':World} {bd:Nat} {A:Option Addr} {xs:List S77} (h:Kd.C k77 w A xs.length xs) (hb:Below bd w w') (hbd:bd≤w.heap.size) (hA:∀ ad,A=some ad→0 < xs.length→ad.block < bd):Kd.C k77 w' A xs.length xs:=by
  refine ⟨h.1,h.2.1,fun hn=>?_⟩;obtain ⟨ad,rfl,hc⟩:=h.2.2 hn;refine ⟨ad,rfl,fun j p hj=>?_⟩;obtain ⟨cs,h1,h2,h3⟩:=hc j p hj;obtain rfl:=k77_open h2;refine ⟨_,rfl,k77_mk w' p,fun i u hu=>?_⟩;have h4:=h3 i u hu;unfold World.cell? at h4 ⊢;rw [hb.block _ (by rw [add_block];exact hA ad rfl hn)];exact h4
end Go.Proofs.YtmlcdpfcafmmcaaDoor.A
namespace Go.Proofs.YtmlcdpfcafmmcaaDoor.A
open Go.RowKit B WW WL WM
attribute [local go_sem] max2_int min2_int max_two min_two max_three min_three max_four min_four
set_option maxHeartbeats 8000000
set_option maxRecDepth 100000
attribute [local go_sem high] eqA44
mutual
def rf47_Same.j0:Nat→Bool→ByteArray→ByteArray→Int→Int→Int→List (S44)→ByteArray→ByteArray→Int→Int→Int→List (S44)→Option (Bool)
 | 0,_,_,_,_,_,_,_,_,_,_,_,_,_=>none
 | k+1,x47,x213000,x213001,x213002,x213003,x213004,x213005,x214000,x214001,x214002,x214003,x214004,x214005=>if x47=true then (some false) else (rf47_Same.l0 k 0 x213000 x213001 x213002 x213003 x213004 x213005 x214000 x214001 x214002 x214003 x214004 x214005)
def rf47_Same.l0:Nat→Int→ByteArray→ByteArray→Int→Int→Int→List (S44)→ByteArray→ByteArray→Int→Int→Int→List (S44)→Option (Bool)
 | 0,_,_,_,_,_,_,_,_,_,_,_,_,_=>none
 | k+1,x5,x213000,x213001,x213002,x213003,x213004,x213005,x214000,x214001,x214002,x214003,x214004,x214005=>if x5 < (x213005.length:Int) then (if 0≤x5 then (if x5 < (x214005.length:Int) then (if (!(((rd_T44 x213005 x5).f0) == ((rd_T44 x214005 x5).f0)) || (!(((rd_T44 x213005 x5).f1) == ((rd_T44 x214005 x5).f1)) || (!((((rd_T44 x213005 x5).f2).toList) == (((rd_T44 x214005 x5).f2).toList)) || (!((((rd_T44 x213005 x5).f3).toList) == (((rd_T44 x214005 x5).f3).toList))))))=true then (some false) else (rf47_Same.l0 k (wrap64 (x5+1)) x213000 x213001 x213002 x213003 x213004 x213005 x214000 x214001 x214002 x214003 x214004 x214005)) else (none)) else (none)) else (some true)
end
def rf47_Same.f (k:Nat) (a0_0:ByteArray) (a0_1:ByteArray) (a0_2:Int) (a0_3:Int) (a0_4:Int) (l0_5:List (S44)) (a1_0:ByteArray) (a1_1:ByteArray) (a1_2:Int) (a1_3:Int) (a1_4:Int) (l1_5:List (S44)):Option (Bool):=if a0_0.toList=a1_0.toList then (if a0_1.toList=a1_1.toList then (if a0_2=a1_2 then (if a0_3=a1_3 then (if a0_4=a1_4 then (rf47_Same.j0 k ((l0_5.length:Int) != (l1_5.length:Int)) a0_0 a0_1 a0_2 a0_3 a0_4 l0_5 a1_0 a1_1 a1_2 a1_3 a1_4 l1_5) else (rf47_Same.j0 k true a0_0 a0_1 a0_2 a0_3 a0_4 l0_5 a1_0 a1_1 a1_2 a1_3 a1_4 l1_5)) else (rf47_Same.j0 k true a0_0 a0_1 a0_2 a0_3 a0_4 l0_5 a1_0 a1_1 a1_2 a1_3 a1_4 l1_5)) else (rf47_Same.j0 k true a0_0 a0_1 a0_2 a0_3 a0_4 l0_5 a1_0 a1_1 a1_2 a1_3 a1_4 l1_5)) else (rf47_Same.j0 k true a0_0 a0_1 a0_2 a0_3 a0_4 l0_5 a1_0 a1_1 a1_2 a1_3 a1_4 l1_5)) else (rf47_Same.j0 k true a0_0 a0_1 a0_2 a0_3 a0_4 l0_5 a1_0 a1_1 a1_2 a1_3 a1_4 l1_5)
theorem rf47_Same.calls (k:Nat) (a0_0 a0_1:ByteArray) (a0_2 a0_3 a0_4:Int) (A0_5:Option Addr) (c0_5:Nat) (l0_5:List (S44)) (a1_0 a1_1:ByteArray) (a1_2 a1_3 a1_4:Int) (A1_5:Option Addr) (c1_5:Nat) (l1_5:List (S44)) (r:Bool) (w:World) (hr0_5:Kd.C k44 w A0_5 l0_5.length l0_5) (hc0_5:l0_5.length≤c0_5) (hr1_5:Kd.C k44 w A1_5 l1_5.length l1_5) (hc1_5:l1_5.length≤c1_5) (h:rf47_Same.f k a0_0 a0_1 a0_2 a0_3 a0_4 l0_5 a1_0 a1_1 a1_2 a1_3 a1_4 l1_5=some r) :
  Calls Tryd.prog 20 #[.agg #[.string a0_0,.string a0_1,.int .i64 a0_2,.int .i64 a0_3,.int .i64 a0_4,.slice A0_5 l0_5.length c0_5],.agg #[.string a1_0,.string a1_1,.int .i64 a1_2,.int .i64 a1_3,.int .i64 a1_4,.slice A1_5 l1_5.length c1_5]] w fun e w'=>e=.returned (.bool r)∧Below w.heap.size w w':=by
 have hu24:=Tryd.underlying24;have hu44:=Tryd.underlying44;have HR0_5:=sd hr0_5;have HC0_5:=sd hc0_5;clear hr0_5 hc0_5;have HR1_5:=sd hr1_5;have HC1_5:=sd hc1_5;clear hr1_5 hc1_5;have HB:=sd (Below.refl w.heap.size w);have H:=h;clear h;unfold rf47_Same.f at H;have HC3:=sd H;clear H;go_enter Tryd.func20,Tryd.ntmps20
 go_upto_region 1 with (first | ((with_reducible refine gate_dst (N:=2) rfl ?_);(try (refine gate_guard (by rfl) ?_;dsimp only));refine bxA 2 #[.string a0_0,.string a0_1,.int .i64 a0_2,.int .i64 a0_3,.int .i64 a0_4,.slice A0_5 l0_5.length c0_5] 24 ?_;intro gb212 hg w4 hbox hb;have BK212:=sd (hbox);have GW212:=gem hg HB;have GE212:=GW212;replace HB:=hbm HB hb;clear hb hbox hg) | ((with_reducible refine gate_dst (N:=3) rfl ?_);(try (refine gate_guard (by rfl) ?_;dsimp only));refine bxA 3 #[.string a1_0,.string a1_1,.int .i64 a1_2,.int .i64 a1_3,.int .i64 a1_4,.slice A1_5 l1_5.length c1_5] 24 ?_;intro gb213 hg w5 hbox hb;have BK213:=sd (hbox);have GW213:=gem hg HB;have GE213:=GW213;have NB212_213:=nlm hg BK212;have NB213_212:=ngm hg BK212;replace BK212:=bkm BK212 hb;replace HB:=hbm HB hb;clear hb hbox hg))
 repeat (go_quiet (first | ((with_reducible refine gate_dst (N:=2) rfl ?_);(try (refine gate_guard (by rfl) ?_;dsimp only));refine bxA 2 #[.string a0_0,.string a0_1,.int .i64 a0_2,.int .i64 a0_3,.int .i64 a0_4,.slice A0_5 l0_5.length c0_5] 24 ?_;intro gb212 hg w4 hbox hb;have BK212:=sd (hbox);have GW212:=gem hg HB;have GE212:=GW212;replace HB:=hbm HB hb;clear hb hbox hg) | ((with_reducible refine gate_dst (N:=3) rfl ?_);(try (refine gate_guard (by rfl) ?_;dsimp only));refine bxA 3 #[.string a1_0,.string a1_1,.int .i64 a1_2,.int .i64 a1_3,.int .i64 a1_4,.slice A1_5 l1_5.length c1_5] 24 ?_;intro gb213 hg w5 hbox hb;have BK213:=sd (hbox);have GW213:=gem hg HB;have GE213:=GW213;have NB212_213:=nlm hg BK212;have NB213_212:=ngm hg BK212;replace BK212:=bkm BK212 hb;replace HB:=hbm HB hb;clear hb hbox hg));go_upto_region 1 with (first | ((with_reducible refine gate_dst (N:=2) rfl ?_);(try (refine gate_guard (by rfl) ?_;dsimp only));refine bxA 2 #[.string a0_0,.string a0_1,.int .i64 a0_2,.int .i64 a0_3,.int .i64 a0_4,.slice A0_5 l0_5.length c0_5] 24 ?_;intro gb212 hg w4 hbox hb;have BK212:=sd (hbox);have GW212:=gem hg HB;have GE212:=GW212;replace HB:=hbm HB hb;clear hb hbox hg) | ((with_reducible refine gate_dst (N:=3) rfl ?_);(try (refine gate_guard (by rfl) ?_;dsimp only));refine bxA 3 #[.string a1_0,.string a1_1,.int .i64 a1_2,.int .i64 a1_3,.int .i64 a1_4,.slice A1_5 l1_5.length c1_5] 24 ?_;intro gb213 hg w5 hbox hb;have BK213:=sd (hbox);have GW213:=gem hg HB;have GE213:=GW213;have NB212_213:=nlm hg BK212;have NB213_212:=ngm hg BK212;replace BK212:=bkm BK212 hb;replace HB:=hbm HB hb;clear hb hbox hg)))
 (try simp only [Act.put,List.setIfInBounds_toArray,List.set_cons_zero,List.set_cons_succ])
 go_cut [47] (fun v47 wc=>∃ (kq:Nat) (x47_2:Bool),v47=.bool x47_2∧Aside0 (rf47_Same.j0 kq x47_2 a0_0 a0_1 a0_2 a0_3 a0_4 l0_5 a1_0 a1_1 a1_2 a1_3 a1_4 l1_5=some r)∧Aside0 (kq≤k)∧Aside0 (wc.heap[gb212]?=some (.cells #[.string a0_0,.string a0_1,.int .i64 a0_2,.int .i64 a0_3,.int .i64 a0_4,(.slice A0_5 l0_5.length c0_5)] 24 (0,0)))∧Aside0 (wc.heap[gb213]?=some (.cells #[.string a1_0,.string a1_1,.int .i64 a1_2,.int .i64 a1_3,.int .i64 a1_4,(.slice A1_5 l1_5.length c1_5)] 24 (0,0)))∧Aside0 (Below w.heap.size w wc))
 case first =>
  have H:=HC3.out;clear HC3;replace H:=ifI H;rcases H with ⟨c6,H⟩ | ⟨c6,H⟩
  ·obtain ⟨c6b0,c6b1⟩:=eqI c6;clear c6;(first | rw [c6b0] | (simp only [i64_w,i32_w];rw [c6b0]) | skip)
   replace H:=ifI H;rcases H with ⟨c7,H⟩ | ⟨c7,H⟩
   ·obtain ⟨c7b0,c7b1⟩:=eqI c7;clear c7;replace H:=ifI H;rcases H with ⟨c8,H⟩ | ⟨c8,H⟩
    ·obtain ⟨c8b0,c8b1⟩:=eqI c8;clear c8;replace H:=ifI H;rcases H with ⟨c9,H⟩ | ⟨c9,H⟩
     ·obtain ⟨c9b0,c9b1⟩:=eqI c9;clear c9;replace H:=ifI H;rcases H with ⟨c10,H⟩ | ⟨c10,H⟩
      ·obtain ⟨c10b0,c10b1⟩:=eqI c10;clear c10;have H':=sd H;clear H;have hnb11:=NB212_213.out;have hnc11:=NB213_212.out;obtain ⟨_,_,_,_,_,_,_,_,_,_,_,_⟩:=bk6 BK212;obtain ⟨_,_,_,_,_,_,_,_,_,_,_,_⟩:=bk6 BK213;go_wp2
       repeat (go_quiet (fail);try go_wp2)
       go_meet
       case rel=>exact ⟨_,(((l0_5.length:Int) != (l1_5.length:Int))),zq1,H',⟨by first | omega | exact Nat.le_refl _⟩,⟨zq18⟩,⟨zq19⟩,⟨zq20⟩⟩
      obtain ⟨c10b0,c10b1⟩:=neI c10;have H':=sd H;clear H;have hnb14:=NB212_213.out;have hnc14:=NB213_212.out;obtain ⟨_,_,_,_,_,_,_,_,_,_,_,_⟩:=bk6 BK212;obtain ⟨_,_,_,_,_,_,_,_,_,_,_,_⟩:=bk6 BK213;go_wp2
      repeat (go_quiet (fail);try go_wp2)
      go_meet
      case rel=>exact ⟨_,(true),zq1,H',⟨by first | omega | exact Nat.le_refl _⟩,⟨zq18⟩,⟨zq19⟩,⟨zq20⟩⟩
     obtain ⟨c9b0,c9b1⟩:=neI c9;have H':=sd H;clear H;have hnb17:=NB212_213.out;have hnc17:=NB213_212.out;obtain ⟨_,_,_,_,_,_,_,_,_,_,_,_⟩:=bk6 BK212;obtain ⟨_,_,_,_,_,_,_,_,_,_,_,_⟩:=bk6 BK213;go_wp2
     repeat (go_quiet (fail);try go_wp2)
     go_meet
     case rel=>exact ⟨_,(true),zq1,H',⟨by first | omega | exact Nat.le_refl _⟩,⟨zq18⟩,⟨zq19⟩,⟨zq20⟩⟩
    obtain ⟨c8b0,c8b1⟩:=neI c8;have H':=sd H;clear H;have hnb20:=NB212_213.out;have hnc20:=NB213_212.out;obtain ⟨_,_,_,_,_,_,_,_,_,_,_,_⟩:=bk6 BK212;obtain ⟨_,_,_,_,_,_,_,_,_,_,_,_⟩:=bk6 BK213;go_wp2
    repeat (go_quiet (fail);try go_wp2)
    go_meet
    case rel=>exact ⟨_,(true),zq1,H',⟨by first | omega | exact Nat.le_refl _⟩,⟨zq18⟩,⟨zq19⟩,⟨zq20⟩⟩
   obtain ⟨c7b0,c7b1⟩:=neI c7;have H':=sd H;clear H;have hnb23:=NB212_213.out;have hnc23:=NB213_212.out;obtain ⟨_,_,_,_,_,_,_,_,_,_,_,_⟩:=bk6 BK212;obtain ⟨_,_,_,_,_,_,_,_,_,_,_,_⟩:=bk6 BK213;go_wp2
   repeat (go_quiet (fail);try go_wp2)
   go_meet
   case rel=>exact ⟨_,(true),zq1,H',⟨by first | omega | exact Nat.le_refl _⟩,⟨zq18⟩,⟨zq19⟩,⟨zq20⟩⟩
  obtain ⟨c6b0,c6b1⟩:=neI c6;(first | rw [c6b0] | (simp only [i64_w,i32_w];rw [c6b0]) | skip)
  have H':=sd H;clear H;have hnb26:=NB212_213.out;have hnc26:=NB213_212.out;obtain ⟨_,_,_,_,_,_,_,_,_,_,_,_⟩:=bk6 BK212;obtain ⟨_,_,_,_,_,_,_,_,_,_,_,_⟩:=bk6 BK213;go_wp2
  repeat (go_quiet (fail);try go_wp2)
  go_meet
  case rel=>exact ⟨_,(true),zq1,H',⟨by first | omega | exact Nat.le_refl _⟩,⟨zq18⟩,⟨zq19⟩,⟨zq20⟩⟩
 case rest =>
  clear HC3;try clear c1
  try clear c2
  try clear p2
  try clear c6
  try clear c6b0
  try clear c6b1
  try clear c7
  try clear c7b0
  try clear c7b1
  try clear c8
  try clear c8b0
  try clear c8b1
  try clear c9
  try clear c9b0
  try clear c9b1
  try clear c10
  try clear c10b0
  try clear c10b1
  try clear c11
  try clear c14
  try clear c17
  try clear c20
  try clear c23
  try clear c26
  try clear hcz12_0
  try clear hcz12_1
  try clear hcz12_2
  try clear hcz12_3
  try clear hcz12_4
  try clear hcz12_5
  try clear hcz13_0
  try clear hcz13_1
  try clear hcz13_2
  try clear hcz13_3
  try clear hcz13_4
  try clear hcz13_5
  try clear hcz15_0
  try clear hcz15_1
  try clear hcz15_2
  try clear hcz15_3
  try clear hcz15_4
  try clear hcz15_5
  try clear hcz16_0
  try clear hcz16_1
  try clear hcz16_2
  try clear hcz16_3
  try clear hcz16_4
  try clear hcz16_5
  try clear hcz18_0
  try clear hcz18_1
  try clear hcz18_2
  try clear hcz18_3
  try clear hcz18_4
  try clear hcz18_5
  try clear hcz19_0
  try clear hcz19_1
  try clear hcz19_2
  try clear hcz19_3
  try clear hcz19_4
  try clear hcz19_5
  try clear hcz21_0
  try clear hcz21_1
  try clear hcz21_2
  try clear hcz21_3
  try clear hcz21_4
  try clear hcz21_5
  try clear hcz22_0
  try clear hcz22_1
  try clear hcz22_2
  try clear hcz22_3
  try clear hcz22_4
  try clear hcz22_5
  try clear hcz24_0
  try clear hcz24_1
  try clear hcz24_2
  try clear hcz24_3
  try clear hcz24_4
  try clear hcz24_5
  try clear hcz25_0
  try clear hcz25_1
  try clear hcz25_2
  try clear hcz25_3
  try clear hcz25_4
  try clear hcz25_5
  try clear hcz27_0
  try clear hcz27_1
  try clear hcz27_2
  try clear hcz27_3
  try clear hcz27_4
  try clear hcz27_5
  try clear hcz28_0
  try clear hcz28_1
  try clear hcz28_2
  try clear hcz28_3
  try clear hcz28_4
  try clear hcz28_5
  try clear hfz12_0
  try clear hfz12_1
  try clear hfz12_2
  try clear hfz12_3
  try clear hfz12_4
  try clear hfz12_5
  try clear hfz13_0
  try clear hfz13_1
  try clear hfz13_2
  try clear hfz13_3
  try clear hfz13_4
  try clear hfz13_5
  try clear hfz15_0
  try clear hfz15_1
  try clear hfz15_2
  try clear hfz15_3
  try clear hfz15_4
  try clear hfz15_5
  try clear hfz16_0
  try clear hfz16_1
  try clear hfz16_2
  try clear hfz16_3
  try clear hfz16_4
  try clear hfz16_5
  try clear hfz18_0
  try clear hfz18_1
  try clear hfz18_2
  try clear hfz18_3
  try clear hfz18_4
  try clear hfz18_5
  try clear hfz19_0
  try clear hfz19_1
  try clear hfz19_2
  try clear hfz19_3
  try clear hfz19_4
  try clear hfz19_5
  try clear hfz21_0
  try clear hfz21_1
  try clear hfz21_2
  try clear hfz21_3
  try clear hfz21_4
  try clear hfz21_5
  try clear hfz22_0
  try clear hfz22_1
  try clear hfz22_2
  try clear hfz22_3
  try clear hfz22_4
  try clear hfz22_5
  try clear hfz24_0
  try clear hfz24_1
  try clear hfz24_2
  try clear hfz24_3
  try clear hfz24_4
  try clear hfz24_5
  try clear hfz25_0
  try clear hfz25_1
  try clear hfz25_2
  try clear hfz25_3
  try clear hfz25_4
  try clear hfz25_5
  try clear hfz27_0
  try clear hfz27_1
  try clear hfz27_2
  try clear hfz27_3
  try clear hfz27_4
  try clear hfz27_5
  try clear hfz28_0
  try clear hfz28_1
  try clear hfz28_2
  try clear hfz28_3
  try clear hfz28_4
  try clear hfz28_5
  obtain ⟨kq,x47_2,rfl,HA,HJ2,BK212,BK213,HB⟩:=hcut
  cases kq with
  | zero=>exact absurd HA.out (by simp [rf47_Same.j0])
  | succ kj2 =>
   have H:=HA.out;clear HA;simp only [rf47_Same.j0] at H
   by_cases c29:x47_2=true
   ·subst c29;rw [if_pos rfl] at H;obtain rfl:=Option.some.inj H;go_wp2
    repeat (go_quiet (fail);try go_wp2)
    go_ret
    exact ⟨zq10,zq20⟩
   replace c29:=Bool.eq_false_iff.mpr c29;subst c29;rw [if_neg Bool.false_ne_true] at H;have H':=sd H;clear H;go_wp2
   repeat (go_quiet (fail);try go_wp2)
   go_loopg [5] kj2 (fun kq v5 w'=>∃ (x5_2:Int),v5=.int .i64 x5_2∧Aside0 (rf47_Same.l0 kq x5_2 a0_0 a0_1 a0_2 a0_3 a0_4 l0_5 a1_0 a1_1 a1_2 a1_3 a1_4 l1_5=some r)∧Aside0 (kq≤kj2)∧Aside0 (w'.heap[gb212]?=some (.cells #[.string a0_0,.string a0_1,.int .i64 a0_2,.int .i64 a0_3,.int .i64 a0_4,(.slice A0_5 l0_5.length c0_5)] 24 (0,0)))∧Aside0 (w'.heap[gb213]?=some (.cells #[.string a1_0,.string a1_1,.int .i64 a1_2,.int .i64 a1_3,.int .i64 a1_4,(.slice A1_5 l1_5.length c1_5)] 24 (0,0)))∧Aside0 (Below w.heap.size w w'))
   case atStart=>exact ⟨(0),zq1,H',⟨Nat.le_refl _⟩,⟨zq18⟩,⟨zq19⟩,⟨zq20⟩⟩
   case round =>
    clear H';try clear c1
    try clear c2
    try clear p2
    try clear c6
    try clear c6b0
    try clear c6b1
    try clear c7
    try clear c7b0
    try clear c7b1
    try clear c8
    try clear c8b0
    try clear c8b1
    try clear c9
    try clear c9b0
    try clear c9b1
    try clear c10
    try clear c10b0
    try clear c10b1
    try clear c11
    try clear c14
    try clear c17
    try clear c20
    try clear c23
    try clear c26
    try clear c29
    try clear hcz12_0
    try clear hcz12_1
    try clear hcz12_2
    try clear hcz12_3
    try clear hcz12_4
    try clear hcz12_5
    try clear hcz13_0
    try clear hcz13_1
    try clear hcz13_2
    try clear hcz13_3
    try clear hcz13_4
    try clear hcz13_5
    try clear hcz15_0
    try clear hcz15_1
    try clear hcz15_2
    try clear hcz15_3
    try clear hcz15_4
    try clear hcz15_5
    try clear hcz16_0
    try clear hcz16_1
    try clear hcz16_2
    try clear hcz16_3
    try clear hcz16_4
    try clear hcz16_5
    try clear hcz18_0
    try clear hcz18_1
    try clear hcz18_2
    try clear hcz18_3
    try clear hcz18_4
    try clear hcz18_5
    try clear hcz19_0
    try clear hcz19_1
    try clear hcz19_2
    try clear hcz19_3
    try clear hcz19_4
    try clear hcz19_5
    try clear hcz21_0
    try clear hcz21_1
    try clear hcz21_2
    try clear hcz21_3
    try clear hcz21_4
    try clear hcz21_5
    try clear hcz22_0
    try clear hcz22_1
    try clear hcz22_2
    try clear hcz22_3
    try clear hcz22_4
    try clear hcz22_5
    try clear hcz24_0
    try clear hcz24_1
    try clear hcz24_2
    try clear hcz24_3
    try clear hcz24_4
    try clear hcz24_5
    try clear hcz25_0
    try clear hcz25_1
    try clear hcz25_2
    try clear hcz25_3
    try clear hcz25_4
    try clear hcz25_5
    try clear hcz27_0
    try clear hcz27_1
    try clear hcz27_2
    try clear hcz27_3
    try clear hcz27_4
    try clear hcz27_5
    try clear hcz28_0
    try clear hcz28_1
    try clear hcz28_2
    try clear hcz28_3
    try clear hcz28_4
    try clear hcz28_5
    try clear hfz12_0
    try clear hfz12_1
    try clear hfz12_2
    try clear hfz12_3
    try clear hfz12_4
    try clear hfz12_5
    try clear hfz13_0
    try clear hfz13_1
    try clear hfz13_2
    try clear hfz13_3
    try clear hfz13_4
    try clear hfz13_5
    try clear hfz15_0
    try clear hfz15_1
    try clear hfz15_2
    try clear hfz15_3
    try clear hfz15_4
    try clear hfz15_5
    try clear hfz16_0
    try clear hfz16_1
    try clear hfz16_2
    try clear hfz16_3
    try clear hfz16_4
    try clear hfz16_5
    try clear hfz18_0
    try clear hfz18_1
    try clear hfz18_2
    try clear hfz18_3
    try clear hfz18_4
    try clear hfz18_5
    try clear hfz19_0
    try clear hfz19_1
    try clear hfz19_2
    try clear hfz19_3
    try clear hfz19_4
    try clear hfz19_5
    try clear hfz21_0
    try clear hfz21_1
    try clear hfz21_2
    try clear hfz21_3
    try clear hfz21_4
    try clear hfz21_5
    try clear hfz22_0
    try clear hfz22_1
    try clear hfz22_2
    try clear hfz22_3
    try clear hfz22_4
    try clear hfz22_5
    try clear hfz24_0
    try clear hfz24_1
    try clear hfz24_2
    try clear hfz24_3
    try clear hfz24_4
    try clear hfz24_5
    try clear hfz25_0
    try clear hfz25_1
    try clear hfz25_2
    try clear hfz25_3
    try clear hfz25_4
    try clear hfz25_5
    try clear hfz27_0
    try clear hfz27_1
    try clear hfz27_2
    try clear hfz27_3
    try clear hfz27_4
    try clear hfz27_5
    try clear hfz28_0
    try clear hfz28_1
    try clear hfz28_2
    try clear hfz28_3
    try clear hfz28_4
    try clear hfz28_5
    try clear p2
    obtain ⟨x5_2,rfl,HA,HK2,BK212,BK213,HB⟩:=hrel
    cases gk with
    | zero=>exact absurd HA.out (by simp [rf47_Same.l0])
    | succ k2 =>
     have H:=HA.out;clear HA;simp only [rf47_Same.l0] at H
     replace H:=ifI H;rcases H with ⟨c30,H⟩ | ⟨c30,H⟩
     ·have c30b0:decide (x5_2 < (l0_5.length:Int))=true:=decide_eq_true c30;clear c30;replace H:=ifI H;rcases H with ⟨c31,H⟩ | ⟨c31,H⟩
      ·have c31b0:decide (0≤x5_2)=true:=decide_eq_true c31;clear c31;replace H:=ifI H;rcases H with ⟨c32,H⟩ | ⟨c32,H⟩
       ·have c32b0:decide (x5_2 < (l1_5.length:Int))=true:=decide_eq_true c32;clear c32;replace H:=ifI H;rcases H with ⟨c33,H⟩ | ⟨c33,H⟩
        ·have c33b0:(!(((rd_T44 l0_5 x5_2).f0) == ((rd_T44 l1_5 x5_2).f0)) || (!(((rd_T44 l0_5 x5_2).f1) == ((rd_T44 l1_5 x5_2).f1)) || (!((((rd_T44 l0_5 x5_2).f2).toList) == (((rd_T44 l1_5 x5_2).f2).toList)) || (!((((rd_T44 l0_5 x5_2).f3).toList) == (((rd_T44 l1_5 x5_2).f3).toList))))))=true:=c33;clear c33;obtain rfl:=Option.some.inj H;have hnb34:=NB212_213.out;have hnc34:=NB213_212.out;obtain ⟨_,_,_,_,_,_,_,_,_,_,_,_⟩:=bk6 BK212;have p214:0≤(x5_2:Int):=od;have q214:x5_2 < (l0_5.length:Int):=od;obtain ⟨ad214,e214,hx214_0,hx214_1,hx214_2,hx214_3⟩:=at_T44 HR0_5.out x5_2 p214 q214
         cases e214
         replace hx214_0:=(HB.out.cell (World.block_lt_of_cell? w _ hx214_0)).trans hx214_0;replace hx214_1:=(HB.out.cell (World.block_lt_of_cell? w _ hx214_1)).trans hx214_1;replace hx214_2:=(HB.out.cell (World.block_lt_of_cell? w _ hx214_2)).trans hx214_2;replace hx214_3:=(HB.out.cell (World.block_lt_of_cell? w _ hx214_3)).trans hx214_3;replace p214:=eq_true p214;replace q214:=eq_true q214;obtain ⟨_,_,_,_,_,_,_,_,_,_,_,_⟩:=bk6 BK213;have p215:0≤(x5_2:Int):=od;have q215:x5_2 < (l1_5.length:Int):=od;obtain ⟨ad215,e215,hx215_0,hx215_1,hx215_2,hx215_3⟩:=at_T44 HR1_5.out x5_2 p215 q215
         cases e215
         replace hx215_0:=(HB.out.cell (World.block_lt_of_cell? w _ hx215_0)).trans hx215_0;replace hx215_1:=(HB.out.cell (World.block_lt_of_cell? w _ hx215_1)).trans hx215_1;replace hx215_2:=(HB.out.cell (World.block_lt_of_cell? w _ hx215_2)).trans hx215_2;replace hx215_3:=(HB.out.cell (World.block_lt_of_cell? w _ hx215_3)).trans hx215_3;replace p215:=eq_true p215;replace q215:=eq_true q215;go_wp2
         repeat (go_quiet (fail);try go_wp2)
         go_ret
         exact ⟨zq10,zq20⟩
        have c33b0:(!(((rd_T44 l0_5 x5_2).f0) == ((rd_T44 l1_5 x5_2).f0)) || (!(((rd_T44 l0_5 x5_2).f1) == ((rd_T44 l1_5 x5_2).f1)) || (!((((rd_T44 l0_5 x5_2).f2).toList) == (((rd_T44 l1_5 x5_2).f2).toList)) || (!((((rd_T44 l0_5 x5_2).f3).toList) == (((rd_T44 l1_5 x5_2).f3).toList))))))=false:=by simpa using c33
        clear c33;have H':=sd H;clear H;have hnb37:=NB212_213.out;have hnc37:=NB213_212.out;obtain ⟨_,_,_,_,_,_,_,_,_,_,_,_⟩:=bk6 BK212;have p214:0≤(x5_2:Int):=od;have q214:x5_2 < (l0_5.length:Int):=od;obtain ⟨ad214,e214,hx214_0,hx214_1,hx214_2,hx214_3⟩:=at_T44 HR0_5.out x5_2 p214 q214
        cases e214
        replace hx214_0:=(HB.out.cell (World.block_lt_of_cell? w _ hx214_0)).trans hx214_0;replace hx214_1:=(HB.out.cell (World.block_lt_of_cell? w _ hx214_1)).trans hx214_1;replace hx214_2:=(HB.out.cell (World.block_lt_of_cell? w _ hx214_2)).trans hx214_2;replace hx214_3:=(HB.out.cell (World.block_lt_of_cell? w _ hx214_3)).trans hx214_3;replace p214:=eq_true p214;replace q214:=eq_true q214;obtain ⟨_,_,_,_,_,_,_,_,_,_,_,_⟩:=bk6 BK213;have p215:0≤(x5_2:Int):=od;have q215:x5_2 < (l1_5.length:Int):=od;obtain ⟨ad215,e215,hx215_0,hx215_1,hx215_2,hx215_3⟩:=at_T44 HR1_5.out x5_2 p215 q215
        cases e215
        replace hx215_0:=(HB.out.cell (World.block_lt_of_cell? w _ hx215_0)).trans hx215_0;replace hx215_1:=(HB.out.cell (World.block_lt_of_cell? w _ hx215_1)).trans hx215_1;replace hx215_2:=(HB.out.cell (World.block_lt_of_cell? w _ hx215_2)).trans hx215_2;replace hx215_3:=(HB.out.cell (World.block_lt_of_cell? w _ hx215_3)).trans hx215_3;replace p215:=eq_true p215;replace q215:=eq_true q215;go_wp2
        repeat (go_quiet (fail);try go_wp2)
        go_roundg k2
        case measure=>have:=HJ2.out;have:=HK2.out;omega
        case rel=>exact ⟨(wrap64 (x5_2+1)),zq1,H',⟨by have:=HJ2.out;have:=HK2.out;omega⟩,⟨zq18⟩,⟨zq19⟩,⟨zq20⟩⟩
       exact absurd H (by simp)
      exact absurd H (by simp)
     have c30b0:decide (x5_2 < (l0_5.length:Int))=false:=decide_eq_false c30;clear c30;obtain rfl:=Option.some.inj H;have hnb40:=NB212_213.out;have hnc40:=NB213_212.out;obtain ⟨_,_,_,_,_,_,_,_,_,_,_,_⟩:=bk6 BK212;go_wp2
     repeat (go_quiet (fail);try go_wp2)
     go_ret
     exact ⟨zq10,zq20⟩
end Go.Proofs.YtmlcdpfcafmmcaaDoor.A
