-- By pack.py, a program of this session's.
import Derived.Test.YtkbgkekegjfkfaaGreatDoorY5
import Derived.Test.YtkbgkekegjfkfaaGreatDoorY6
import Derived.Test.YtkbgkekegjfkfaaGreatDoorY7
set_option linter.unusedVariables false
set_option linter.unusedSimpArgs false
namespace Go.Proofs.YtkbgkekegjfkfaaGreatDoor.A
open Go.RowKit B WW WL WM
attribute [local go_sem] max2_int min2_int max_two min_two max_three min_three max_four min_four
set_option maxHeartbeats 8000000
set_option maxRecDepth 100000
theorem wd_calls (c:UInt8) (w:World):Calls Tryz.prog 48 #[.int .u8 (c.toNat:Int)] w fun e w'=>e=.returned (.bool (isWdB c))∧Drawn0 w w':=by
 have h1:=letter_wd c.toNat c.toNat_lt;have h2:=digit_wd c.toNat c.toNat_lt;have HC1:=sd (fun w=>words_letter.calls _ (isLetB c) w h1);have HC2:=sd (fun w=>words_digit.calls _ (isDigB c) w h2);clear h1 h2;generalize hP:(fun e w'=>e=Ending.returned (.bool (isWdB c))∧Drawn0 w w')=Post;have HP:=sd hP;clear hP
 cases hL:isLetB c
 ·rw [hL] at HC1;go_enter Tryz.func48,Tryz.ntmps48
  go_wp2_with fail
  refine (HC1.out _).mono ?_;rintro e w1 ⟨rfl,hd1⟩;obtain ⟨⟨n1,rfl⟩⟩:=hd1;go_wp2_with fail
  refine (HC2.out _).mono ?_;rintro e w1 ⟨rfl,hd1⟩;obtain ⟨⟨n2,rfl⟩⟩:=hd1;go_wp2_with fail
  rw [← HP.out];exact ⟨by unfold isWdB;rw [hL];(try rfl),⟨⟨_,rfl⟩⟩⟩
 ·rw [hL] at HC1;go_enter Tryz.func48,Tryz.ntmps48
  go_wp2_with fail
  refine (HC1.out _).mono ?_;rintro e w1 ⟨rfl,hd1⟩;obtain ⟨⟨n1,rfl⟩⟩:=hd1;go_wp2_with fail
  rw [← HP.out];exact ⟨by unfold isWdB;rw [hL];(try rfl),⟨⟨_,rfl⟩⟩⟩
def codeW (l:List UInt8):Bool:=!l.isEmpty && (decide (l.length≤12) && l.all isWdB)
theorem code_w (s:ByteArray) (hs:s.size≤140737488351232) (w:World):Calls Tryz.prog 21 #[.string s] w fun e w'=>e=.returned (.bool (codeW s.data.toList))∧Drawn0 w w':=by
 have HE:=sd (fun w=>every_wd wd_calls s hs w);have hsz:=size_eq' s;generalize hP:(fun e w'=>e=Ending.returned (.bool (codeW s.data.toList))∧Drawn0 w w')=Post;have HP:=sd hP;clear hP;by_cases h0:s.size=0
 ·have h1:codeW s.data.toList=false:=by unfold codeW;rw [List.isEmpty_iff_length_eq_zero.mpr (by omega)];rfl
  have HB:=sd h1;obtain rfl:s=⟨#[]⟩:=ba_nil h0;clear h1 hsz h0 HE;go_enter Tryz.func21,Tryz.ntmps21
  go_wp2_with fail
  rw [← HP.out];exact ⟨by rw [HB.out];(try rfl),Drawn0.refl _⟩
 have hne:(s.toList=[])=False:=eq_false (fun h=>h0 (by rw [ByteArray.toList_eq] at h;rw [hsz,h];rfl));by_cases h1:s.size≤12
 ·have h1':(s.size:Int)≤12:=by omega
  have hB:codeW s.data.toList=s.data.toList.all isWdB:=by unfold codeW;rw [decide_eq_true (by omega),Bool.true_and,show s.data.toList.isEmpty=false by rw [Bool.eq_false_iff,Ne,List.isEmpty_iff_length_eq_zero];omega];rfl
  have HB:=sd hB;clear hB hsz;generalize s.data.toList.all isWdB=ab at HE HB;go_enter Tryz.func21,Tryz.ntmps21
  go_wp2_with fail
  refine (HE.out _).mono ?_;rintro e w1 ⟨rfl,hd1⟩;obtain ⟨⟨n1,rfl⟩⟩:=hd1;go_wp2_with fail
  rw [← HP.out];exact ⟨by rw [HB.out];show Ending.returned (Value.bool (!s.toList.isEmpty && ab))=_;rw [show s.toList.isEmpty=false by rw [Bool.eq_false_iff,Ne,List.isEmpty_iff];exact of_eq_false hne];rfl,⟨⟨_,rfl⟩⟩⟩
 have h1':¬ (s.size:Int)≤12:=by omega
 have hB:codeW s.data.toList=false:=by unfold codeW;rw [decide_eq_false (by omega),Bool.false_and,Bool.and_false]
 have HB:=sd hB;clear hB hsz;go_enter Tryz.func21,Tryz.ntmps21
 go_wp2_with fail
 rw [← HP.out];exact ⟨by rw [HB.out];(try rfl),Drawn0.refl _⟩
def words_Code.f (a0:ByteArray):Option (Bool):=if a0.size≤140737488351232 then some (codeW a0.data.toList) else none
theorem words_Code.calls (a0:ByteArray) (r:Bool) (w:World) (h:words_Code.f a0=some r) :
  Calls Tryz.prog 21 #[.string a0] w fun e w'=>e=.returned (.bool r)∧Drawn0 w w':=by
 unfold words_Code.f at h;split at h
 ·rename_i hs
  obtain rfl:=Option.some.inj h;exact code_w a0 hs w
 ·cases h
def dims_codes.f (a0_0:ByteArray) (a0_1:ByteArray):Option (Bool):=(words_Code.f a0_0).bind fun t106=>(if t106=true then ((words_Code.f a0_1).bind fun t107=>(some t107)) else (some false))
theorem dims_codes.calls (a0_0 a0_1:ByteArray) (r:Bool) (w:World) (h:dims_codes.f a0_0 a0_1=some r) :
  Calls Tryz.prog 51 #[.agg #[.string a0_0,.string a0_1]] w fun e w'=>e=.returned (.bool r)∧Below w.heap.size w w':=by
 have hu50:=Tryz.underlying50;have HB:=sd (Below.refl w.heap.size w);have H:=h;clear h;unfold dims_codes.f at H;replace H:=bdI H;obtain ⟨t106,A2,H⟩:=H;(try dsimp only at H)
 by_cases c3:t106=true
 ·subst c3;rw [if_pos rfl] at H;replace H:=bdI H;obtain ⟨t107,A4,H⟩:=H;(try dsimp only at H)
  obtain rfl:=Option.some.inj H;go_enter Tryz.func51,Tryz.ntmps51
  go_wp2_with (first | ((with_reducible refine gate_dst (N:=1) rfl ?_);refine bxA 1 #[.string a0_0,.string a0_1] 50 ?_;intro gb105 hg w5 hbox hb;have BK105:=sd (hbox);have GW105:=gem hg HB;have GE105:=GW105;replace HB:=hbm HB hb;clear hb hbox hg;obtain ⟨_,_,_,_⟩:=bk2 BK105) | ((with_reducible refine gate_callee (f:=21) rfl ?_);refine gL 5 Tryz.func21 #[.string a0_0] ?_;(with_reducible refine (words_Code.calls a0_0 true _ A2.out).mono ?_);rintro e w' ⟨rfl,⟨nd,rfl⟩⟩;refine ⟨_,rfl,?_⟩) | (go_at_call 21;(with_reducible refine (words_Code.calls a0_1 t107 _ A4.out).mono ?_);rintro e w' ⟨rfl,⟨nd,rfl⟩⟩))
  go_ret
  exact ⟨zq4,by repeat (first | (with_reducible first | exact HB.out | apply below_alloc | apply pw_below_drewN | apply below_drew1 | refine below_set ?_ GE105.out) | exact HB.out)⟩
 replace c3:=Bool.eq_false_iff.mpr c3;subst c3;rw [if_neg Bool.false_ne_true] at H;obtain rfl:=Option.some.inj H;go_enter Tryz.func51,Tryz.ntmps51
 go_wp2_with (first | ((with_reducible refine gate_dst (N:=1) rfl ?_);refine bxA 1 #[.string a0_0,.string a0_1] 50 ?_;intro gb105 hg w7 hbox hb;have BK105:=sd (hbox);have GW105:=gem hg HB;have GE105:=GW105;replace HB:=hbm HB hb;clear hb hbox hg;obtain ⟨_,_,_,_⟩:=bk2 BK105) | ((with_reducible refine gate_callee (f:=21) rfl ?_);refine gL 5 Tryz.func21 #[.string a0_0] ?_;(with_reducible refine (words_Code.calls a0_0 false _ A2.out).mono ?_);rintro e w' ⟨rfl,⟨nd,rfl⟩⟩;refine ⟨_,rfl,?_⟩))
 go_ret
 exact ⟨zq4,by repeat (first | (with_reducible first | exact HB.out | apply below_alloc | apply pw_below_drewN | apply below_drew1 | refine below_set ?_ GE105.out) | exact HB.out)⟩
def dims_Right.l0:Nat→List (S50)→List (S50)→Int→Int→Option (Bool)
 | 0,_,_,_,_=>none
 | k+1,x0,x8,x9,x10=>if x10 < x9 then (if 0≤x10 then (if x10 < (x8.length:Int) then ((dims_codes.f ((rd_T50 x8 x10).f0) ((rd_T50 x8 x10).f1)).bind fun t110=>(if t110=true then (if x10 > 0 then (if 0≤(wrap64 (x10 - 1)) then (if (wrap64 (x10 - 1)) < (x0.length:Int) then (if ((Op.bytesLess (((rd_T50 x0 (wrap64 (x10 - 1))).f0).toList) (((rd_T50 x8 x10).f0).toList))=true) then (dims_Right.l0 k x0 x8 x9 (wrap64 (x10+1))) else (some false)) else (none)) else (none)) else (dims_Right.l0 k x0 x8 x9 (wrap64 (x10+1)))) else (some false))) else (none)) else (none)) else (some true)
def dims_Right.f (k:Nat) (l0:List (S50)):Option (Bool):=if (l0.length:Int) > 6 then (some false) else (dims_Right.l0 k l0 l0 (l0.length:Int) 0)
theorem dims_Right.tab6:rtab .any (opsOf Tryz.f22 6)=dims_Right.T6:=by kernel_rfl
theorem dims_Right.calls (k:Nat) (A0:Option Addr) (c0:Nat) (l0:List (S50)) (r:Bool) (w:World) (hr0:Kd.C k50 w A0 l0.length l0) (hc0:l0.length≤c0) (h:dims_Right.f k l0=some r) :
  Calls Tryz.prog 22 #[.slice A0 l0.length c0] w fun e w'=>e=.returned (.bool r)∧Below w.heap.size w w':=by
 have hu50:=Tryz.underlying50;have HR0:=sd hr0;have HC0:=sd hc0;clear hr0 hc0;have HB:=sd (Below.refl w.heap.size w);have H:=h;clear h;unfold dims_Right.f at H;replace H:=ifI H;rcases H with ⟨c2,H⟩ | ⟨c2,H⟩
 ·have c2b0:decide (6 < (l0.length:Int))=true:=decide_eq_true c2;have c2b1:decide (6 < l0.length)=true:=decide_eq_true (by omega);clear c2;obtain rfl:=Option.some.inj H;go_enter Tryz.func22,Tryz.ntmps22
  go_wp2
  go_ret
  exact ⟨zq4,zq6⟩
 have c2b0:decide (6 < (l0.length:Int))=false:=decide_eq_false c2;have c2b1:decide (6 < l0.length)=false:=decide_eq_false (by omega);clear c2;have H':=sd H;clear H;go_enter Tryz.func22,Tryz.ntmps22
 go_wp2
 go_loopg [10] k (fun kq v10 w'=>∃ (x10_1:Int),v10=.int .i64 x10_1∧Aside0 (dims_Right.l0 kq l0 l0 (l0.length:Int) x10_1=some r)∧Aside0 (kq≤k)∧Aside0 (Below w.heap.size w w'))
 case atStart=>exact ⟨(0),zq7,H',⟨Nat.le_refl _⟩,⟨zq6⟩⟩
 case round =>
  clear H';try clear c2
  try clear c2b0
  try clear c2b1
  try clear p2
  obtain ⟨x10_1,rfl,HA,HK1,HB⟩:=hrel
  cases gk with
  | zero=>exact absurd HA.out (by simp [dims_Right.l0])
  | succ k1 =>
   have H:=HA.out;clear HA;simp only [dims_Right.l0] at H
   replace H:=ifI H;rcases H with ⟨c3,H⟩ | ⟨c3,H⟩
   ·have c3b0:decide (x10_1 < (l0.length:Int))=true:=decide_eq_true c3;clear c3;replace H:=ifI H;rcases H with ⟨c4,H⟩ | ⟨c4,H⟩
    ·have c4b0:decide (0≤x10_1)=true:=decide_eq_true c4;clear c4;replace H:=ifI H;rcases H with ⟨c5,H⟩ | ⟨c5,H⟩
     ·have c5b0:decide (x10_1 < (l0.length:Int))=true:=decide_eq_true c5;clear c5;replace H:=bdI H;obtain ⟨t110,A6,H⟩:=H;(try dsimp only at H)
      by_cases c7:t110=true
      ·subst c7;rw [if_pos rfl] at H;replace H:=ifI H;rcases H with ⟨c8,H⟩ | ⟨c8,H⟩
       ·have c8b0:decide (0 < x10_1)=true:=decide_eq_true c8;clear c8;obtain ⟨ji9,hji9⟩:∃ j_:Int,(wrap64 (x10_1 - 1))=j_:=⟨_,rfl⟩
        replace H:(if 0≤(ji9) then (if (ji9) < (l0.length:Int) then (if ((Op.bytesLess (((rd_T50 l0 (ji9)).f0).toList) (((rd_T50 l0 x10_1).f0).toList))=true) then (dims_Right.l0 k1 l0 l0 (l0.length:Int) (wrap64 (x10_1+1))) else (some false)) else (none)) else (none))=some r:=by first | (rw [hji9] at H;exact H) | (simp only [hji9] at H ⊢;exact H)
        (try rw [hji9] at A6)
        have hji9w:(IntKind.i64.wrap (x10_1 - 1))=ji9:=(i64_w _).trans hji9;replace H:=ifI H;rcases H with ⟨c10,H⟩ | ⟨c10,H⟩
        ·have c10b0:decide (0≤(ji9))=true:=decide_eq_true c10;clear c10;replace H:=ifI H;rcases H with ⟨c11,H⟩ | ⟨c11,H⟩
         ·have c11b0:decide ((ji9) < (l0.length:Int))=true:=decide_eq_true c11;clear c11;replace H:=ifI H;rcases H with ⟨c12,H⟩ | ⟨c12,H⟩
          ·have c12b0:(Op.bytesLess (((rd_T50 l0 (ji9)).f0).toList) (((rd_T50 l0 x10_1).f0).toList))=true:=c12;have c12b9:=less_le c12b0;clear c12;have H':=sd H;clear H;have p108:0≤(x10_1:Int):=od;have q108:x10_1 < (l0.length:Int):=od;obtain ⟨ad108,e108,hx108_0,hx108_1⟩:=at_T50 HR0.out x10_1 p108 q108
           cases e108
           replace hx108_0:=(HB.out.cell (World.block_lt_of_cell? w _ hx108_0)).trans hx108_0;replace hx108_1:=(HB.out.cell (World.block_lt_of_cell? w _ hx108_1)).trans hx108_1;replace p108:=eq_true p108;replace q108:=eq_true q108;try go_wp2_with (first | ((with_reducible refine gate_dst (N:=4) rfl ?_);refine bxA 4 #[.string (⟨#[]⟩:ByteArray),.string (⟨#[]⟩:ByteArray)] 50 ?_;intro gb109 hg w13 hbox hb;have BK109:=sd (hbox);have GW109:=gem hg HB;have GE109:=GW109;replace HB:=hbm HB hb;clear hb hbox hg;obtain ⟨_,_,_,_⟩:=bk2 BK109))
           have n0_:Aside0 (((w13.setCell ⟨gb109,0,none⟩ (.string ((rd_T50 l0 x10_1).f0))).setCell ⟨gb109,1,none⟩ (.string ((rd_T50 l0 x10_1).f1))).heap[gb109]?=some (.cells #[.string ((rd_T50 l0 x10_1).f0),.string ((rd_T50 l0 x10_1).f1)] 50 (0,0))):=⟨zq116⟩
           have n1_:Aside0 (Below w.heap.size w ((w13.setCell ⟨gb109,0,none⟩ (.string ((rd_T50 l0 x10_1).f0))).setCell ⟨gb109,1,none⟩ (.string ((rd_T50 l0 x10_1).f1)))):=⟨zq117⟩
           (try clear BK109)
           (try clear HB)
           generalize ((w13.setCell ⟨gb109,0,none⟩ (.string ((rd_T50 l0 x10_1).f0))).setCell ⟨gb109,1,none⟩ (.string ((rd_T50 l0 x10_1).f1)))=w15 at n0_ n1_ ⊢;have BK109:=n0_;have HB:=n1_;clear n0_ n1_;replace BK109:=sd (blk_drew BK109.out);replace HB:=sd (below_drew1 HB.out);have p111:0≤((ji9):Int):=od;have q111:(ji9) < (l0.length:Int):=od;obtain ⟨ad111,e111,hx111_0,hx111_1⟩:=at_T50 HR0.out (ji9) p111 q111;have hw111_1:=hx111_1;have hw111_0:=hx111_0;obtain rfl:ad108=ad111:=(by injection e111)
           replace hx111_0:=(HB.out.cell (World.block_lt_of_cell? w _ hx111_0)).trans hx111_0;replace hx111_1:=(HB.out.cell (World.block_lt_of_cell? w _ hx111_1)).trans hx111_1;replace p111:=eq_true p111;replace q111:=eq_true q111;refine start_ (n:=18) (S:=fun w'=>w'.cell? ⟨gb109,0,none⟩=some (.string ((rd_T50 l0 x10_1).f0))∧w'.cell? ⟨gb109,1,none⟩=some (.string ((rd_T50 l0 x10_1).f1))∧w'.cell? (ad108.add (((ji9)).toNat * 2))=some (.string ((rd_T50 l0 (ji9)).f0))∧w'.cell? ⟨(ad108.add (((ji9)).toNat * 2)).block,(ad108.add (((ji9)).toNat * 2)).off+1,none⟩=some (.string ((rd_T50 l0 (ji9)).f1))) (ds:=[]) #[false,false,false,false,false,false,false,false,false,false,false,false,false,false,false,false,false,false] (by kernel_rfl) rfl rfl ⟨(blk_cell BK109.out 0).trans rfl,(blk_cell BK109.out 1).trans rfl,((HB.out.cell (World.block_lt_of_cell? w _ hw111_0)).trans hw111_0),((HB.out.cell (World.block_lt_of_cell? w _ hw111_1)).trans hw111_1)⟩ (fun hHeld=>?_);refine with_tabW dims_Right.tab6 dims_Right.bits6 (fun HT_ HW_=>?_);generalize w15.drew=w16 at BK109 HB hx111_0 hx111_1 hHeld ⊢;refine tA 0 15 HT_.out HW_.out hHeld ?_;refine one_ (i:=1) (N:=some 16) #[true,true,false,false,false,false,false,false,false,false,false,false,false,false,false,false,false,false] rfl rfl (one_of HT_.out (by kernel_rfl)) (by decide) (fun K hK=>?_);refine goes_ Tryz.func51 (by kernel_rfl) rfl #[.agg #[.string ((rd_T50 l0 x10_1).f0),.string ((rd_T50 l0 x10_1).f1)]] (by rfl) rfl rfl zq34 ?_;with_reducible refine (dims_codes.calls ((rd_T50 l0 x10_1).f0) ((rd_T50 l0 x10_1).f1) true _ A6.out).mono ?_
           rintro e w17 ⟨rfl,hb⟩;refine ⟨_,rfl,?_⟩;replace BK109:=bkm BK109 hb;replace HB:=hbm HB hb;clear hb;refine hK.out _ _ ⟨(blk_cell BK109.out 0).trans rfl,(blk_cell BK109.out 1).trans rfl,((HB.out.cell (World.block_lt_of_cell? w _ hw111_0)).trans hw111_0),((HB.out.cell (World.block_lt_of_cell? w _ hw111_1)).trans hw111_1)⟩ (fun hHeld=>?_);clear hK K;refine nA 16 ?_;refine pA 2 17 HT_.out ?_;refine pA 3 18 HT_.out ?_;refine pA 4 19 HT_.out ?_;refine pA 5 20 HT_.out ?_;refine pA 6 21 HT_.out ?_;refine pA 7 22 HT_.out ?_;refine pA 8 23 HT_.out ?_;refine pA 9 24 HT_.out ?_;refine pA 10 25 HT_.out ?_;refine pA 11 26 HT_.out ?_;refine pA 13 28 HT_.out ?_;refine tA 12 27 HT_.out HW_.out hHeld ?_;refine tA 14 29 HT_.out HW_.out hHeld ?_;refine pA 15 30 HT_.out ?_;refine pA 16 31 HT_.out ?_;refine pA 17 32 HT_.out ?_;refine done_ (done_of HT_.out (by kernel_rfl)) ?_;try go_wp2
           go_roundg k1
           case measure=>have:=HK1.out;omega
           case rel=>exact ⟨(wrap64 (x10_1+1)),zq7,H',⟨by have:=HK1.out;omega⟩,⟨zq117⟩⟩
          have c12b0:(Op.bytesLess (((rd_T50 l0 (ji9)).f0).toList) (((rd_T50 l0 x10_1).f0).toList))=false:=by simpa using c12
          have c12b9:=less_ge c12b0;clear c12;obtain rfl:=Option.some.inj H;have p108:0≤(x10_1:Int):=od;have q108:x10_1 < (l0.length:Int):=od;obtain ⟨ad108,e108,hx108_0,hx108_1⟩:=at_T50 HR0.out x10_1 p108 q108
          cases e108
          replace hx108_0:=(HB.out.cell (World.block_lt_of_cell? w _ hx108_0)).trans hx108_0;replace hx108_1:=(HB.out.cell (World.block_lt_of_cell? w _ hx108_1)).trans hx108_1;replace p108:=eq_true p108;replace q108:=eq_true q108;try go_wp2_with (first | ((with_reducible refine gate_dst (N:=4) rfl ?_);refine bxA 4 #[.string (⟨#[]⟩:ByteArray),.string (⟨#[]⟩:ByteArray)] 50 ?_;intro gb109 hg w18 hbox hb;have BK109:=sd (hbox);have GW109:=gem hg HB;have GE109:=GW109;replace HB:=hbm HB hb;clear hb hbox hg;obtain ⟨_,_,_,_⟩:=bk2 BK109))
          have n0_:Aside0 (((w18.setCell ⟨gb109,0,none⟩ (.string ((rd_T50 l0 x10_1).f0))).setCell ⟨gb109,1,none⟩ (.string ((rd_T50 l0 x10_1).f1))).heap[gb109]?=some (.cells #[.string ((rd_T50 l0 x10_1).f0),.string ((rd_T50 l0 x10_1).f1)] 50 (0,0))):=⟨zq116⟩
          have n1_:Aside0 (Below w.heap.size w ((w18.setCell ⟨gb109,0,none⟩ (.string ((rd_T50 l0 x10_1).f0))).setCell ⟨gb109,1,none⟩ (.string ((rd_T50 l0 x10_1).f1)))):=⟨zq117⟩
          (try clear BK109)
          (try clear HB)
          generalize ((w18.setCell ⟨gb109,0,none⟩ (.string ((rd_T50 l0 x10_1).f0))).setCell ⟨gb109,1,none⟩ (.string ((rd_T50 l0 x10_1).f1)))=w20 at n0_ n1_ ⊢;have BK109:=n0_;have HB:=n1_;clear n0_ n1_;replace BK109:=sd (blk_drew BK109.out);replace HB:=sd (below_drew1 HB.out);have p111:0≤((ji9):Int):=od;have q111:(ji9) < (l0.length:Int):=od;obtain ⟨ad111,e111,hx111_0,hx111_1⟩:=at_T50 HR0.out (ji9) p111 q111;have hw111_1:=hx111_1;have hw111_0:=hx111_0;obtain rfl:ad108=ad111:=(by injection e111)
          replace hx111_0:=(HB.out.cell (World.block_lt_of_cell? w _ hx111_0)).trans hx111_0;replace hx111_1:=(HB.out.cell (World.block_lt_of_cell? w _ hx111_1)).trans hx111_1;replace p111:=eq_true p111;replace q111:=eq_true q111;refine start_ (n:=18) (S:=fun w'=>w'.cell? ⟨gb109,0,none⟩=some (.string ((rd_T50 l0 x10_1).f0))∧w'.cell? ⟨gb109,1,none⟩=some (.string ((rd_T50 l0 x10_1).f1))∧w'.cell? (ad108.add (((ji9)).toNat * 2))=some (.string ((rd_T50 l0 (ji9)).f0))∧w'.cell? ⟨(ad108.add (((ji9)).toNat * 2)).block,(ad108.add (((ji9)).toNat * 2)).off+1,none⟩=some (.string ((rd_T50 l0 (ji9)).f1))) (ds:=[]) #[false,false,false,false,false,false,false,false,false,false,false,false,false,false,false,false,false,false] (by kernel_rfl) rfl rfl ⟨(blk_cell BK109.out 0).trans rfl,(blk_cell BK109.out 1).trans rfl,((HB.out.cell (World.block_lt_of_cell? w _ hw111_0)).trans hw111_0),((HB.out.cell (World.block_lt_of_cell? w _ hw111_1)).trans hw111_1)⟩ (fun hHeld=>?_);refine with_tabW dims_Right.tab6 dims_Right.bits6 (fun HT_ HW_=>?_);generalize w20.drew=w21 at BK109 HB hx111_0 hx111_1 hHeld ⊢;refine tA 0 15 HT_.out HW_.out hHeld ?_;refine one_ (i:=1) (N:=some 16) #[true,true,false,false,false,false,false,false,false,false,false,false,false,false,false,false,false,false] rfl rfl (one_of HT_.out (by kernel_rfl)) (by decide) (fun K hK=>?_);refine goes_ Tryz.func51 (by kernel_rfl) rfl #[.agg #[.string ((rd_T50 l0 x10_1).f0),.string ((rd_T50 l0 x10_1).f1)]] (by rfl) rfl rfl zq34 ?_;with_reducible refine (dims_codes.calls ((rd_T50 l0 x10_1).f0) ((rd_T50 l0 x10_1).f1) true _ A6.out).mono ?_
          rintro e w22 ⟨rfl,hb⟩;refine ⟨_,rfl,?_⟩;replace BK109:=bkm BK109 hb;replace HB:=hbm HB hb;clear hb;refine hK.out _ _ ⟨(blk_cell BK109.out 0).trans rfl,(blk_cell BK109.out 1).trans rfl,((HB.out.cell (World.block_lt_of_cell? w _ hw111_0)).trans hw111_0),((HB.out.cell (World.block_lt_of_cell? w _ hw111_1)).trans hw111_1)⟩ (fun hHeld=>?_);clear hK K;refine nA 16 ?_;refine pA 2 17 HT_.out ?_;refine pA 3 18 HT_.out ?_;refine pA 4 19 HT_.out ?_;refine pA 5 20 HT_.out ?_;refine pA 6 21 HT_.out ?_;refine pA 7 22 HT_.out ?_;refine pA 8 23 HT_.out ?_;refine pA 9 24 HT_.out ?_;refine pA 10 25 HT_.out ?_;refine pA 11 26 HT_.out ?_;refine pA 13 28 HT_.out ?_;refine tA 12 27 HT_.out HW_.out hHeld ?_;refine tA 14 29 HT_.out HW_.out hHeld ?_;refine pA 15 30 HT_.out ?_;refine pA 16 31 HT_.out ?_;refine pA 17 32 HT_.out ?_;refine done_ (done_of HT_.out (by kernel_rfl)) ?_;try go_wp2
          go_ret
          exact ⟨by first | rfl | (simp [errW_none,errW_some] <;> rfl) | (simp only [← hji9];first | rfl | (simp [errW_none,errW_some] <;> rfl)) | (simp [*,errW_none,errW_some] <;> rfl),zq117⟩
         exact absurd H (by simp)
        exact absurd H (by simp)
       have c8b0:decide (0 < x10_1)=false:=decide_eq_false c8;clear c8;have H':=sd H;clear H;have p108:0≤(x10_1:Int):=od;have q108:x10_1 < (l0.length:Int):=od;obtain ⟨ad108,e108,hx108_0,hx108_1⟩:=at_T50 HR0.out x10_1 p108 q108
       cases e108
       replace hx108_0:=(HB.out.cell (World.block_lt_of_cell? w _ hx108_0)).trans hx108_0;replace hx108_1:=(HB.out.cell (World.block_lt_of_cell? w _ hx108_1)).trans hx108_1;replace p108:=eq_true p108;replace q108:=eq_true q108;try go_wp2_with (first | ((with_reducible refine gate_dst (N:=4) rfl ?_);refine bxA 4 #[.string (⟨#[]⟩:ByteArray),.string (⟨#[]⟩:ByteArray)] 50 ?_;intro gb109 hg w23 hbox hb;have BK109:=sd (hbox);have GW109:=gem hg HB;have GE109:=GW109;replace HB:=hbm HB hb;clear hb hbox hg;obtain ⟨_,_,_,_⟩:=bk2 BK109))
       have n0_:Aside0 (((w23.setCell ⟨gb109,0,none⟩ (.string ((rd_T50 l0 x10_1).f0))).setCell ⟨gb109,1,none⟩ (.string ((rd_T50 l0 x10_1).f1))).heap[gb109]?=some (.cells #[.string ((rd_T50 l0 x10_1).f0),.string ((rd_T50 l0 x10_1).f1)] 50 (0,0))):=⟨zq116⟩
       have n1_:Aside0 (Below w.heap.size w ((w23.setCell ⟨gb109,0,none⟩ (.string ((rd_T50 l0 x10_1).f0))).setCell ⟨gb109,1,none⟩ (.string ((rd_T50 l0 x10_1).f1)))):=⟨zq117⟩
       (try clear BK109)
       (try clear HB)
       generalize ((w23.setCell ⟨gb109,0,none⟩ (.string ((rd_T50 l0 x10_1).f0))).setCell ⟨gb109,1,none⟩ (.string ((rd_T50 l0 x10_1).f1)))=w25 at n0_ n1_ ⊢;have BK109:=n0_;have HB:=n1_;clear n0_ n1_;replace BK109:=sd (blk_drew BK109.out);replace HB:=sd (below_drew1 HB.out);refine start_ (n:=18) (S:=fun w'=>w'.cell? ⟨gb109,0,none⟩=some (.string ((rd_T50 l0 x10_1).f0))∧w'.cell? ⟨gb109,1,none⟩=some (.string ((rd_T50 l0 x10_1).f1))) (ds:=[]) #[false,false,false,false,false,false,false,false,false,false,false,false,false,false,false,false,false,false] (by kernel_rfl) rfl rfl ⟨(blk_cell BK109.out 0).trans rfl,(blk_cell BK109.out 1).trans rfl⟩ (fun hHeld=>?_);refine with_tabW dims_Right.tab6 dims_Right.bits6 (fun HT_ HW_=>?_);generalize w25.drew=w26 at BK109 HB hHeld ⊢;refine tA 0 15 HT_.out HW_.out hHeld ?_;refine one_ (i:=1) (N:=some 16) #[true,true,false,false,false,false,false,false,false,false,false,false,false,false,false,false,false,false] rfl rfl (one_of HT_.out (by kernel_rfl)) (by decide) (fun K hK=>?_);refine goes_ Tryz.func51 (by kernel_rfl) rfl #[.agg #[.string ((rd_T50 l0 x10_1).f0),.string ((rd_T50 l0 x10_1).f1)]] (by rfl) rfl rfl zq34 ?_;with_reducible refine (dims_codes.calls ((rd_T50 l0 x10_1).f0) ((rd_T50 l0 x10_1).f1) true _ A6.out).mono ?_
       rintro e w27 ⟨rfl,hb⟩;refine ⟨_,rfl,?_⟩;replace BK109:=bkm BK109 hb;replace HB:=hbm HB hb;clear hb;refine hK.out _ _ ⟨(blk_cell BK109.out 0).trans rfl,(blk_cell BK109.out 1).trans rfl⟩ (fun hHeld=>?_);clear hK K;refine nA 16 ?_;refine pA 2 17 HT_.out ?_;refine pA 3 18 HT_.out ?_;refine pA 4 19 HT_.out ?_;refine pA 5 20 HT_.out ?_;refine pA 6 21 HT_.out ?_;refine oA 7 22 HT_.out ?_;refine oA 8 23 HT_.out ?_;refine oA 9 24 HT_.out ?_;refine oA 10 25 HT_.out ?_;refine oA 11 26 HT_.out ?_;refine oA 12 27 HT_.out ?_;refine oA 13 28 HT_.out ?_;refine oA 14 29 HT_.out ?_;refine oA 15 30 HT_.out ?_;refine pA 16 31 HT_.out ?_;refine pA 17 32 HT_.out ?_;refine done_ (done_of HT_.out (by kernel_rfl)) ?_;try go_wp2
       go_roundg k1
       case measure=>have:=HK1.out;omega
       case rel=>exact ⟨(wrap64 (x10_1+1)),zq7,H',⟨by have:=HK1.out;omega⟩,⟨zq117⟩⟩
      replace c7:=Bool.eq_false_iff.mpr c7;subst c7;rw [if_neg Bool.false_ne_true] at H;obtain rfl:=Option.some.inj H;have p108:0≤(x10_1:Int):=od;have q108:x10_1 < (l0.length:Int):=od;obtain ⟨ad108,e108,hx108_0,hx108_1⟩:=at_T50 HR0.out x10_1 p108 q108
      cases e108
      replace hx108_0:=(HB.out.cell (World.block_lt_of_cell? w _ hx108_0)).trans hx108_0;replace hx108_1:=(HB.out.cell (World.block_lt_of_cell? w _ hx108_1)).trans hx108_1;replace p108:=eq_true p108;replace q108:=eq_true q108;try go_wp2_with (first | ((with_reducible refine gate_dst (N:=4) rfl ?_);refine bxA 4 #[.string (⟨#[]⟩:ByteArray),.string (⟨#[]⟩:ByteArray)] 50 ?_;intro gb109 hg w28 hbox hb;have BK109:=sd (hbox);have GW109:=gem hg HB;have GE109:=GW109;replace HB:=hbm HB hb;clear hb hbox hg;obtain ⟨_,_,_,_⟩:=bk2 BK109))
      have n0_:Aside0 (((w28.setCell ⟨gb109,0,none⟩ (.string ((rd_T50 l0 x10_1).f0))).setCell ⟨gb109,1,none⟩ (.string ((rd_T50 l0 x10_1).f1))).heap[gb109]?=some (.cells #[.string ((rd_T50 l0 x10_1).f0),.string ((rd_T50 l0 x10_1).f1)] 50 (0,0))):=⟨zq116⟩
      have n1_:Aside0 (Below w.heap.size w ((w28.setCell ⟨gb109,0,none⟩ (.string ((rd_T50 l0 x10_1).f0))).setCell ⟨gb109,1,none⟩ (.string ((rd_T50 l0 x10_1).f1)))):=⟨zq117⟩
      (try clear BK109)
      (try clear HB)
      generalize ((w28.setCell ⟨gb109,0,none⟩ (.string ((rd_T50 l0 x10_1).f0))).setCell ⟨gb109,1,none⟩ (.string ((rd_T50 l0 x10_1).f1)))=w30 at n0_ n1_ ⊢;have BK109:=n0_;have HB:=n1_;clear n0_ n1_;replace BK109:=sd (blk_drew BK109.out);replace HB:=sd (below_drew1 HB.out);refine start_ (n:=18) (S:=fun w'=>w'.cell? ⟨gb109,0,none⟩=some (.string ((rd_T50 l0 x10_1).f0))∧w'.cell? ⟨gb109,1,none⟩=some (.string ((rd_T50 l0 x10_1).f1))) (ds:=[]) #[false,false,false,false,false,false,false,false,false,false,false,false,false,false,false,false,false,false] (by kernel_rfl) rfl rfl ⟨(blk_cell BK109.out 0).trans rfl,(blk_cell BK109.out 1).trans rfl⟩ (fun hHeld=>?_);refine with_tabW dims_Right.tab6 dims_Right.bits6 (fun HT_ HW_=>?_);generalize w30.drew=w31 at BK109 HB hHeld ⊢;refine tA 0 15 HT_.out HW_.out hHeld ?_;refine one_ (i:=1) (N:=some 16) #[true,true,false,false,false,false,false,false,false,false,false,false,false,false,false,false,false,false] rfl rfl (one_of HT_.out (by kernel_rfl)) (by decide) (fun K hK=>?_);refine goes_ Tryz.func51 (by kernel_rfl) rfl #[.agg #[.string ((rd_T50 l0 x10_1).f0),.string ((rd_T50 l0 x10_1).f1)]] (by rfl) rfl rfl zq34 ?_;with_reducible refine (dims_codes.calls ((rd_T50 l0 x10_1).f0) ((rd_T50 l0 x10_1).f1) false _ A6.out).mono ?_
      rintro e w32 ⟨rfl,hb⟩;refine ⟨_,rfl,?_⟩;replace BK109:=bkm BK109 hb;replace HB:=hbm HB hb;clear hb;refine hK.out _ _ ⟨(blk_cell BK109.out 0).trans rfl,(blk_cell BK109.out 1).trans rfl⟩ (fun hHeld=>?_);clear hK K;refine nA 16 ?_;refine pA 2 17 HT_.out ?_;refine pA 3 18 HT_.out ?_;refine oA 4 19 HT_.out ?_;refine oA 5 20 HT_.out ?_;refine oA 6 21 HT_.out ?_;refine oA 7 22 HT_.out ?_;refine oA 8 23 HT_.out ?_;refine oA 9 24 HT_.out ?_;refine oA 10 25 HT_.out ?_;refine oA 11 26 HT_.out ?_;refine oA 12 27 HT_.out ?_;refine oA 13 28 HT_.out ?_;refine oA 14 29 HT_.out ?_;refine oA 15 30 HT_.out ?_;refine oA 16 31 HT_.out ?_;refine pA 17 32 HT_.out ?_;refine done_ (done_of HT_.out (by kernel_rfl)) ?_;try go_wp2
      go_ret
      exact ⟨zq4,zq117⟩
     exact absurd H (by simp)
    exact absurd H (by simp)
   have c3b0:decide (x10_1 < (l0.length:Int))=false:=decide_eq_false c3;clear c3;obtain rfl:=Option.some.inj H;go_wp2
   go_ret
   exact ⟨zq4,zq6⟩
theorem rf06_Quote.calls (k:Nat) (a0 r1:ByteArray) (r2:Int) (w:World) (h:rf06_Quote.f k a0=some (r1,r2)) :
  Calls Tryz.prog 36 #[.string a0] w fun e w'=>e=.returned (.tuple #[.string r1,.int .i64 r2])∧Below w.heap.size w w':=by
 have HB:=sd (Below.refl w.heap.size w);have H:=h;clear h;unfold rf06_Quote.f at H;replace H:=bdI H;obtain ⟨t311,A2,H⟩:=H;(try dsimp only at H)
 by_cases c3:t311=true
 ·subst c3;rw [if_pos rfl] at H;obtain ⟨y312,hy312⟩:∃ y_:List Int,y_=(([34]:List Int)):=⟨_,rfl⟩
  replace H:(rf06_Quote.l0 k a0 y312 0)=some (r1,r2):=by first | (rw [hy312];with_reducible exact H) | (have H2_:=(Option.bind_some _ _).symm.trans H;rw [hy312];with_reducible exact H2_) | (have H2_:=(Option.bind_some _ _).symm.trans H;with_reducible exact H2_) | with_reducible exact H | (rw [hy312];exact H) | exact H
  have Ny312:=sd hy312;clear hy312;have H':=sd H;clear H;go_enter Tryz.func36,Tryz.ntmps36
  go_wp2_with (first | ((with_reducible refine gate_callee (f:=58) rfl ?_);refine gL 7 Tryz.func58 #[.string a0] ?_;(with_reducible refine (rf06_Plain.calls k a0 true _ A2.out).mono ?_);rintro e w' ⟨rfl,⟨nd,rfl⟩⟩;refine ⟨_,rfl,?_⟩) | ((with_reducible refine gate_dst (N:=9) rfl ?_);refine Kd.R_lit (Kd.int .u8) _ 5 ?hg (N:=9) ?hd (xs:=([34]:List Int)) (inner:=[.int .u8 34]) (ok:=fun _=>True) (okp:=fun _=>True) ?hr ?hp (fun _ hk=>hk) trivial (Below.refl _ _) (Nat.le_refl _) (by simp) ?_;(case hd=>rfl);(case hg=>rfl);(case hr=>first | (go_simp;done) | (go_simp;rfl));(case hp=>exact (Reps.one (show Kd.M (Kd.int .u8) _ _ _ 34 [.int .u8 34] from rfl) (Reps.none _ _)));intro v313 w4 ho5 hb hg_ hnew_;clear hg_ hnew_;(first | rw [← Ny312.out] at ho5 | (simp only [Int.reduceToNat] at ho5;rw [← Ny312.out] at ho5));have HO314:=sd (Kd.R_lower ho5 (below_size zq6));replace HB:=hbm HB hb;clear hb ho5))
  go_loopg [4,5] k (fun kq v4 v5 w'=>∃ (x4_1:List Int) (x5_1:Int),v5=.int .i64 x5_1∧Aside0 (rf06_Quote.l0 kq a0 x4_1 x5_1=some (r1,r2))∧Aside0 (kq≤k)∧Aside0 (Kd.R (Kd.int .u8) 5 w' w.heap.size (fun _=>True) v4 x4_1)∧Aside0 (Below w.heap.size w w'))
  case atStart=>exact ⟨(y312),(0),zq7,H',⟨Nat.le_refl _⟩,⟨by (with_reducible repeat (first | apply Kd.R_alloc | apply Kd.R_drewN | apply Kd.R_drew));exact HO314.out⟩,⟨zq6⟩⟩
  case round =>
   clear H';try clear p2
   try clear c3
   try clear c5
   obtain ⟨x4_1,x5_1,rfl,HA,HK1,HO_4,HB⟩:=hrel
   cases gk with
   | zero=>exact absurd HA.out (by simp [rf06_Quote.l0])
   | succ k1 =>
    have H:=HA.out;clear HA;simp only [rf06_Quote.l0] at H
    replace H:=ifI H;rcases H with ⟨c6,H⟩ | ⟨c6,H⟩
    ·have c6b0:decide (x5_1 < (a0.size:Int))=true:=decide_eq_true c6;clear c6;replace H:=ifI H;rcases H with ⟨c7,H⟩ | ⟨c7,H⟩
     ·have c7b0:decide (0≤x5_1)=true:=decide_eq_true c7;clear c7;replace H:=ifI H;rcases H with ⟨c9,H⟩ | ⟨c9,H⟩
      ·obtain ⟨c9b0,c9b1⟩:=eqI c9;clear c9;replace H:=ifI H;rcases H with ⟨c10,H⟩ | ⟨c10,H⟩
       ·have LMc10:=sd c10;clear c10;obtain ⟨y315,hy315⟩:∃ y_:List Int,y_=(x4_1++[92]):=⟨_,rfl⟩
        replace H:(if y315.length < 140737488355328 then (rf06_Quote.l0 k1 a0 (y315++[bt a0 x5_1]) (wrap64 (x5_1+1))) else (none))=some (r1,r2):=by first | (rw [hy315];with_reducible exact H) | (have H2_:=(Option.bind_some _ _).symm.trans H;rw [hy315];with_reducible exact H2_) | (have H2_:=(Option.bind_some _ _).symm.trans H;with_reducible exact H2_) | with_reducible exact H | (rw [hy315];exact H) | exact H
        have Ny315:=sd hy315;clear hy315;replace H:=ifI H;rcases H with ⟨c12,H⟩ | ⟨c12,H⟩
        ·have LMc12:=sd c12;clear c12;obtain ⟨y318,hy318⟩:∃ y_:List Int,y_=(y315++[bt a0 x5_1]):=⟨_,rfl⟩
         replace H:(rf06_Quote.l0 k1 a0 y318 (wrap64 (x5_1+1)))=some (r1,r2):=by first | (rw [hy318];with_reducible exact H) | (have H2_:=(Option.bind_some _ _).symm.trans H;rw [hy318];with_reducible exact H2_) | (have H2_:=(Option.bind_some _ _).symm.trans H;with_reducible exact H2_) | with_reducible exact H | (rw [hy318];exact H) | exact H
         have Ny318:=sd hy318;clear hy318;have H':=sd H;clear H;have p8:0≤(x5_1:Int):=od;have q8:x5_1 < (a0.size:Int):=od;have hx8:=bt_at a0 x5_1;replace p8:=eq_true p8;replace q8:=eq_true q8;go_wp2_with (first | ((with_reducible refine gate_builtin (b:=.append) (xs:=#[.tmp 26,.tmp 27]) rfl ?_);at_builtin;refine Kd.R_append (Kd.int .u8) (w0:=w) w.heap.size rfl (.tmp 26) (.tmp 27) 102 5 (.int .u8 0) 1 rfl Tryz.underlying102 info5 rfl (by decide) (by omega) u4 x4_1 92 [.int .u8 92] (fun _=>True) (fun _=>False) rfl rfl ?aP (fun _ hk=>hk.elim) ?aF ?aO ?aB ?aS ?aL ?_;(case aP=>exact rfl);(case aB=>exact zq6);(case aF=>exact (fun _ _=>trivial));(case aO=>exact zq53);(case aS=>exact (below_size zq6));(case aL=>have:=LMc10.out;omega);intro v316 w13 ho hb hg hat;rw [← Ny315.out] at ho;have HO317:=sd (ho);replace HB:=sd (hb);clear HO_4;clear ho hb hg hat;have p11:0≤(x5_1:Int):=od;have q11:x5_1 < (a0.size:Int):=od;have hx11:=bt_at a0 x5_1;replace p11:=eq_true p11;replace q11:=eq_true q11) | ((with_reducible refine gate_builtin (b:=.append) (xs:=#[.tmp 29,.tmp 33]) rfl ?_);at_builtin;refine Kd.R_append (Kd.int .u8) (w0:=w) w.heap.size rfl (.tmp 29) (.tmp 33) 102 5 (.int .u8 0) 1 rfl Tryz.underlying102 info5 rfl (by decide) (by omega) v316 y315 (bt a0 x5_1) [.int .u8 (bt a0 x5_1)] (fun _=>True) (fun _=>False) rfl rfl ?aP (fun _ hk=>hk.elim) ?aF ?aO ?aB ?aS ?aL ?_;(case aP=>exact rfl);(case aB=>exact zq6);(case aF=>exact (fun _ _=>trivial));(case aO=>exact (by (with_reducible repeat (first | apply Kd.R_alloc | apply Kd.R_drewN | apply Kd.R_drew));exact HO317.out));(case aS=>exact (below_size zq6));(case aL=>have:=LMc12.out;omega);intro v319 w14 ho hb hg hat;rw [← Ny318.out] at ho;have HO320:=sd (ho);replace HB:=sd (hb);clear HO317;clear ho hb hg hat))
         go_roundg k1
         case measure=>have:=HK1.out;omega
         case rel=>exact ⟨(y318),(wrap64 (x5_1+1)),zq7,H',⟨by have:=HK1.out;omega⟩,⟨by (with_reducible repeat (first | apply Kd.R_alloc | apply Kd.R_drewN | apply Kd.R_drew));exact HO320.out⟩,⟨zq6⟩⟩
        exact absurd H (by simp)
       exact absurd H (by simp)
      obtain ⟨c9b0,c9b1⟩:=neI c9;replace H:=ifI H;rcases H with ⟨c16,H⟩ | ⟨c16,H⟩
      ·obtain ⟨c16b0,c16b1⟩:=eqI c16;clear c16;replace H:=ifI H;rcases H with ⟨c17,H⟩ | ⟨c17,H⟩
       ·have LMc17:=sd c17;clear c17;obtain ⟨y321,hy321⟩:∃ y_:List Int,y_=(x4_1++[92]):=⟨_,rfl⟩
        replace H:(if y321.length < 140737488355328 then (rf06_Quote.l0 k1 a0 (y321++[bt a0 x5_1]) (wrap64 (x5_1+1))) else (none))=some (r1,r2):=by first | (rw [hy321];with_reducible exact H) | (have H2_:=(Option.bind_some _ _).symm.trans H;rw [hy321];with_reducible exact H2_) | (have H2_:=(Option.bind_some _ _).symm.trans H;with_reducible exact H2_) | with_reducible exact H | (rw [hy321];exact H) | exact H
        have Ny321:=sd hy321;clear hy321;replace H:=ifI H;rcases H with ⟨c19,H⟩ | ⟨c19,H⟩
        ·have LMc19:=sd c19;clear c19;obtain ⟨y324,hy324⟩:∃ y_:List Int,y_=(y321++[bt a0 x5_1]):=⟨_,rfl⟩
         replace H:(rf06_Quote.l0 k1 a0 y324 (wrap64 (x5_1+1)))=some (r1,r2):=by first | (rw [hy324];with_reducible exact H) | (have H2_:=(Option.bind_some _ _).symm.trans H;rw [hy324];with_reducible exact H2_) | (have H2_:=(Option.bind_some _ _).symm.trans H;with_reducible exact H2_) | with_reducible exact H | (rw [hy324];exact H) | exact H
         have Ny324:=sd hy324;clear hy324;have H':=sd H;clear H;have p8:0≤(x5_1:Int):=od;have q8:x5_1 < (a0.size:Int):=od;have hx8:=bt_at a0 x5_1;replace p8:=eq_true p8;replace q8:=eq_true q8;have p15:0≤(x5_1:Int):=od;have q15:x5_1 < (a0.size:Int):=od;have hx15:=bt_at a0 x5_1;replace p15:=eq_true p15;replace q15:=eq_true q15;go_wp2_with (first | ((with_reducible refine gate_builtin (b:=.append) (xs:=#[.tmp 26,.tmp 27]) rfl ?_);at_builtin;refine Kd.R_append (Kd.int .u8) (w0:=w) w.heap.size rfl (.tmp 26) (.tmp 27) 102 5 (.int .u8 0) 1 rfl Tryz.underlying102 info5 rfl (by decide) (by omega) u4 x4_1 92 [.int .u8 92] (fun _=>True) (fun _=>False) rfl rfl ?aP (fun _ hk=>hk.elim) ?aF ?aO ?aB ?aS ?aL ?_;(case aP=>exact rfl);(case aB=>exact zq6);(case aF=>exact (fun _ _=>trivial));(case aO=>exact zq53);(case aS=>exact (below_size zq6));(case aL=>have:=LMc17.out;omega);intro v322 w20 ho hb hg hat;rw [← Ny321.out] at ho;have HO323:=sd (ho);replace HB:=sd (hb);clear HO_4;clear ho hb hg hat;have p18:0≤(x5_1:Int):=od;have q18:x5_1 < (a0.size:Int):=od;have hx18:=bt_at a0 x5_1;replace p18:=eq_true p18;replace q18:=eq_true q18) | ((with_reducible refine gate_builtin (b:=.append) (xs:=#[.tmp 29,.tmp 33]) rfl ?_);at_builtin;refine Kd.R_append (Kd.int .u8) (w0:=w) w.heap.size rfl (.tmp 29) (.tmp 33) 102 5 (.int .u8 0) 1 rfl Tryz.underlying102 info5 rfl (by decide) (by omega) v322 y321 (bt a0 x5_1) [.int .u8 (bt a0 x5_1)] (fun _=>True) (fun _=>False) rfl rfl ?aP (fun _ hk=>hk.elim) ?aF ?aO ?aB ?aS ?aL ?_;(case aP=>exact rfl);(case aB=>exact zq6);(case aF=>exact (fun _ _=>trivial));(case aO=>exact (by (with_reducible repeat (first | apply Kd.R_alloc | apply Kd.R_drewN | apply Kd.R_drew));exact HO323.out));(case aS=>exact (below_size zq6));(case aL=>have:=LMc19.out;omega);intro v325 w21 ho hb hg hat;rw [← Ny324.out] at ho;have HO326:=sd (ho);replace HB:=sd (hb);clear HO323;clear ho hb hg hat))
         go_roundg k1
         case measure=>have:=HK1.out;omega
         case rel=>exact ⟨(y324),(wrap64 (x5_1+1)),zq7,H',⟨by have:=HK1.out;omega⟩,⟨by (with_reducible repeat (first | apply Kd.R_alloc | apply Kd.R_drewN | apply Kd.R_drew));exact HO326.out⟩,⟨zq6⟩⟩
        exact absurd H (by simp)
       exact absurd H (by simp)
      obtain ⟨c16b0,c16b1⟩:=neI c16;replace H:=ifI H;rcases H with ⟨c23,H⟩ | ⟨c23,H⟩
      ·have LMc23:=sd c23;clear c23;obtain ⟨y327,hy327⟩:∃ y_:List Int,y_=(x4_1++[bt a0 x5_1]):=⟨_,rfl⟩
       replace H:(rf06_Quote.l0 k1 a0 y327 (wrap64 (x5_1+1)))=some (r1,r2):=by first | (rw [hy327];with_reducible exact H) | (have H2_:=(Option.bind_some _ _).symm.trans H;rw [hy327];with_reducible exact H2_) | (have H2_:=(Option.bind_some _ _).symm.trans H;with_reducible exact H2_) | with_reducible exact H | (rw [hy327];exact H) | exact H
       have Ny327:=sd hy327;clear hy327;have H':=sd H;clear H;have p8:0≤(x5_1:Int):=od;have q8:x5_1 < (a0.size:Int):=od;have hx8:=bt_at a0 x5_1;replace p8:=eq_true p8;replace q8:=eq_true q8;have p15:0≤(x5_1:Int):=od;have q15:x5_1 < (a0.size:Int):=od;have hx15:=bt_at a0 x5_1;replace p15:=eq_true p15;replace q15:=eq_true q15;have p22:0≤(x5_1:Int):=od;have q22:x5_1 < (a0.size:Int):=od;have hx22:=bt_at a0 x5_1;replace p22:=eq_true p22;replace q22:=eq_true q22;go_wp2_with (first | ((with_reducible refine gate_builtin (b:=.append) (xs:=#[.tmp 29,.tmp 33]) rfl ?_);at_builtin;refine Kd.R_append (Kd.int .u8) (w0:=w) w.heap.size rfl (.tmp 29) (.tmp 33) 102 5 (.int .u8 0) 1 rfl Tryz.underlying102 info5 rfl (by decide) (by omega) u4 x4_1 (bt a0 x5_1) [.int .u8 (bt a0 x5_1)] (fun _=>True) (fun _=>False) rfl rfl ?aP (fun _ hk=>hk.elim) ?aF ?aO ?aB ?aS ?aL ?_;(case aP=>exact rfl);(case aB=>exact zq6);(case aF=>exact (fun _ _=>trivial));(case aO=>exact zq53);(case aS=>exact (below_size zq6));(case aL=>have:=LMc23.out;omega);intro v328 w24 ho hb hg hat;rw [← Ny327.out] at ho;have HO329:=sd (ho);replace HB:=sd (hb);clear HO_4;clear ho hb hg hat))
       go_roundg k1
       case measure=>have:=HK1.out;omega
       case rel=>exact ⟨(y327),(wrap64 (x5_1+1)),zq7,H',⟨by have:=HK1.out;omega⟩,⟨by (with_reducible repeat (first | apply Kd.R_alloc | apply Kd.R_drewN | apply Kd.R_drew));exact HO329.out⟩,⟨zq6⟩⟩
      exact absurd H (by simp)
     exact absurd H (by simp)
    have c6b0:decide (x5_1 < (a0.size:Int))=false:=decide_eq_false c6;clear c6;replace H:=ifI H;rcases H with ⟨c25,H⟩ | ⟨c25,H⟩
    ·have LMc25:=sd c25;clear c25;obtain ⟨y330,hy330⟩:∃ y_:List Int,y_=(x4_1++[34]):=⟨_,rfl⟩
     replace H:(some (strOfNums y330,0))=some (r1,r2):=by first | (rw [hy330];with_reducible exact H) | (have H2_:=(Option.bind_some _ _).symm.trans H;rw [hy330];with_reducible exact H2_) | (have H2_:=(Option.bind_some _ _).symm.trans H;with_reducible exact H2_) | with_reducible exact H | (rw [hy330];exact H) | exact H
     have Ny330:=sd hy330;clear hy330;simp only [Option.some.injEq,Prod.mk.injEq] at H
     obtain ⟨rfl,rfl⟩:=H;go_wp2_with (first | ((with_reducible refine gate_builtin (b:=.append) (xs:=#[.tmp 35,.tmp 36]) rfl ?_);at_builtin;refine Kd.R_append (Kd.int .u8) (w0:=w) w.heap.size rfl (.tmp 35) (.tmp 36) 102 5 (.int .u8 0) 1 rfl Tryz.underlying102 info5 rfl (by decide) (by omega) u4 x4_1 34 [.int .u8 34] (fun _=>True) (fun _=>False) rfl rfl ?aP (fun _ hk=>hk.elim) ?aF ?aO ?aB ?aS ?aL ?_;(case aP=>exact rfl);(case aB=>exact zq6);(case aF=>exact (fun _ _=>trivial));(case aO=>exact zq53);(case aS=>exact (below_size zq6));(case aL=>have:=LMc25.out;omega);intro v331 w26 ho hb hg hat;rw [← Ny330.out] at ho;have HO332:=sd (ho);replace HB:=sd (hb);clear HO_4;clear ho hb hg hat;have hcv27:=own_string (P:=Tryz.prog) Tryz.underlying102 Tryz.underlying5 Tryz.underlying9 (Kd.own_of_R HO332.out)))
     go_ret2
     exact ⟨zq4,zq6⟩
    exact absurd H (by simp)
 replace c3:=Bool.eq_false_iff.mpr c3;subst c3;rw [if_neg Bool.false_ne_true] at H;simp only [Option.some.injEq,Prod.mk.injEq] at H
 obtain ⟨rfl,rfl⟩:=H;go_enter Tryz.func36,Tryz.ntmps36
 go_wp2_with (first | ((with_reducible refine gate_callee (f:=58) rfl ?_);refine gL 7 Tryz.func58 #[.string a0] ?_;(with_reducible refine (rf06_Plain.calls k a0 false _ A2.out).mono ?_);rintro e w' ⟨rfl,⟨nd,rfl⟩⟩;refine ⟨_,rfl,?_⟩))
 go_ret2
 exact ⟨zq4,zq6⟩
end Go.Proofs.YtkbgkekegjfkfaaGreatDoor.A
