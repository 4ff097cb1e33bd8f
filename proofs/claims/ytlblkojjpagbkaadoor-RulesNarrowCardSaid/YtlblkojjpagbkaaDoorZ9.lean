-- By pack.py, a program of this session's.
import Derived.Test.YtlblkojjpagbkaaDoorZ5
import Derived.Test.YtlblkojjpagbkaaDoorZ6
set_option linter.unusedVariables false
set_option linter.unusedSimpArgs false
namespace Go.Proofs.YtlblkojjpagbkaaDoor
namespace A
open Go.RowKit B WW WL WM
attribute [local go_sem] max2_int min2_int max_two min_two max_three min_three max_four min_four
set_option maxHeartbeats 8000000
set_option maxRecDepth 100000
theorem code_w (s:ByteArray) (hs:s.size≤140737488351232) (w:World):Calls Tryd.prog 14 #[.string s] w fun e w'=>e=.returned (.bool (codeW s.data.toList))∧Drawn0 w w':=by
 have HE:=sd (fun w=>every_wd wd_calls s hs w);have hsz:=size_eq' s;generalize hP:(fun e w'=>e=Ending.returned (.bool (codeW s.data.toList))∧Drawn0 w w')=Post;have HP:=sd hP;clear hP;by_cases h0:s.size=0
 ·have h1:codeW s.data.toList=false:=by unfold codeW;rw [List.isEmpty_iff_length_eq_zero.mpr (by omega)];rfl
  have HB:=sd h1;obtain rfl:s=⟨#[]⟩:=ba_nil h0;clear h1 hsz h0 HE;go_enter Tryd.func14,Tryd.ntmps14
  go_wp2_with fail
  rw [← HP.out];exact ⟨by rw [HB.out];(try rfl),Drawn0.refl _⟩
 have hne:(s.toList=[])=False:=eq_false (fun h=>h0 (by rw [ByteArray.toList_eq] at h;rw [hsz,h];rfl));by_cases h1:s.size≤12
 ·have h1':(s.size:Int)≤12:=by omega
  have hB:codeW s.data.toList=s.data.toList.all isWdB:=by unfold codeW;rw [decide_eq_true (by omega),Bool.true_and,show s.data.toList.isEmpty=false by rw [Bool.eq_false_iff,Ne,List.isEmpty_iff_length_eq_zero];omega];rfl
  have HB:=sd hB;clear hB hsz;generalize s.data.toList.all isWdB=ab at HE HB;go_enter Tryd.func14,Tryd.ntmps14
  go_wp2_with fail
  refine (HE.out _).mono ?_;rintro e w1 ⟨rfl,hd1⟩;obtain ⟨⟨n1,rfl⟩⟩:=hd1;go_wp2_with fail
  rw [← HP.out];exact ⟨by rw [HB.out];show Ending.returned (Value.bool (!s.toList.isEmpty && ab))=_;rw [show s.toList.isEmpty=false by rw [Bool.eq_false_iff,Ne,List.isEmpty_iff];exact of_eq_false hne];rfl,⟨⟨_,rfl⟩⟩⟩
 have h1':¬ (s.size:Int)≤12:=by omega
 have hB:codeW s.data.toList=false:=by unfold codeW;rw [decide_eq_false (by omega),Bool.false_and,Bool.and_false]
 have HB:=sd hB;clear hB hsz;go_enter Tryd.func14,Tryd.ntmps14
 go_wp2_with fail
 rw [← HP.out];exact ⟨by rw [HB.out];(try rfl),Drawn0.refl _⟩
theorem plain_w (s:ByteArray) (hs:s.size≤140737488351232) (w:World):Calls Tryd.prog 41 #[.string s] w fun e w'=>e=.returned (.bool (plainW s.data.toList))∧Drawn0 w w':=by
 have HE:=sd (fun w=>every_print (fun c w=>words_printable.calls _ (isPrn c) w (print_wd c.toNat c.toNat_lt)) s hs w);have hsz:=size_eq' s;generalize hP:(fun e w'=>e=Ending.returned (.bool (plainW s.data.toList))∧Drawn0 w w')=Post;have HP:=sd hP;clear hP;by_cases h1:s.size≤60
 ·have h1':(s.size:Int)≤60:=by omega
  have hB:plainW s.data.toList=s.data.toList.all isPrn:=by unfold plainW;rw [decide_eq_true (by omega),Bool.true_and]
  have HB:=sd hB;clear hB hsz;generalize s.data.toList.all isPrn=ab at HE HB;go_enter Tryd.func41,Tryd.ntmps41
  go_wp2_with fail
  refine (HE.out _).mono ?_;rintro e w1 ⟨rfl,hd1⟩;obtain ⟨⟨n1,rfl⟩⟩:=hd1;go_wp2_with fail
  rw [← HP.out];exact ⟨by rw [HB.out];(try rfl),⟨⟨_,rfl⟩⟩⟩
 have h1':¬ (s.size:Int)≤60:=by omega
 have hB:plainW s.data.toList=false:=by unfold plainW;rw [decide_eq_false (by omega),Bool.false_and]
 have HB:=sd hB;clear hB hsz;go_enter Tryd.func41,Tryd.ntmps41
 go_wp2_with fail
 rw [← HP.out];exact ⟨by rw [HB.out];(try rfl),Drawn0.refl _⟩
theorem words_Code.calls (a0:ByteArray) (r:Bool) (w:World) (h:words_Code.f a0=some r) :
  Calls Tryd.prog 14 #[.string a0] w fun e w'=>e=.returned (.bool r)∧Drawn0 w w':=by
 unfold words_Code.f at h;split at h
 ·rename_i hs
  obtain rfl:=Option.some.inj h;exact code_w a0 hs w
 ·cases h
theorem dims_codes.calls (a0_0 a0_1:ByteArray) (r:Bool) (w:World) (h:dims_codes.f a0_0 a0_1=some r) :
  Calls Tryd.prog 39 #[.agg #[.string a0_0,.string a0_1]] w fun e w'=>e=.returned (.bool r)∧Below w.heap.size w w':=by
 have hu35:=Tryd.underlying35;have HB:=sd (Below.refl w.heap.size w);have H:=h;clear h;unfold dims_codes.f at H;replace H:=bdI H;obtain ⟨t106,A2,H⟩:=H;(try dsimp only at H)
 by_cases c3:t106=true
 ·subst c3;rw [if_pos rfl] at H;replace H:=bdI H;obtain ⟨t107,A4,H⟩:=H;(try dsimp only at H)
  obtain rfl:=Option.some.inj H;go_enter Tryd.func39,Tryd.ntmps39
  go_wp2_with (first|((with_reducible refine gate_dst (N:=1) rfl ?_);refine bxA 1 #[.string a0_0,.string a0_1] 35 ?_;intro gb105 hg w5 hbox hb;have BK105:=sd (hbox);have GW105:=gem hg HB;have GE105:=GW105;replace HB:=hbm HB hb;clear hb hbox hg;obtain ⟨_,_,_,_⟩:=bk2 BK105)|((with_reducible refine gate_callee (f:=14) rfl ?_);refine gL 5 Tryd.func14 #[.string a0_0] ?_;(with_reducible refine (words_Code.calls a0_0 true _ A2.out).mono ?_);rintro e w' ⟨rfl,⟨nd,rfl⟩⟩;refine ⟨_,rfl,?_⟩)|(go_at_call 14;(with_reducible refine (words_Code.calls a0_1 t107 _ A4.out).mono ?_);rintro e w' ⟨rfl,⟨nd,rfl⟩⟩))
  go_ret
  exact ⟨zq4,by repeat (first|(with_reducible first|exact HB.out|apply below_alloc|apply pw_below_drewN|apply below_drew1|refine below_set ?_ GE105.out)|exact HB.out)⟩
 replace c3:=Bool.eq_false_iff.mpr c3;subst c3;rw [if_neg Bool.false_ne_true] at H;obtain rfl:=Option.some.inj H;go_enter Tryd.func39,Tryd.ntmps39
 go_wp2_with (first|((with_reducible refine gate_dst (N:=1) rfl ?_);refine bxA 1 #[.string a0_0,.string a0_1] 35 ?_;intro gb105 hg w7 hbox hb;have BK105:=sd (hbox);have GW105:=gem hg HB;have GE105:=GW105;replace HB:=hbm HB hb;clear hb hbox hg;obtain ⟨_,_,_,_⟩:=bk2 BK105)|((with_reducible refine gate_callee (f:=14) rfl ?_);refine gL 5 Tryd.func14 #[.string a0_0] ?_;(with_reducible refine (words_Code.calls a0_0 false _ A2.out).mono ?_);rintro e w' ⟨rfl,⟨nd,rfl⟩⟩;refine ⟨_,rfl,?_⟩))
 go_ret
 exact ⟨zq4,by repeat (first|(with_reducible first|exact HB.out|apply below_alloc|apply pw_below_drewN|apply below_drew1|refine below_set ?_ GE105.out)|exact HB.out)⟩
theorem dims_Right.tab6:rtab .any (opsOf Tryd.f15 6)=dims_Right.T6:=by kernel_rfl
theorem dims_Right.calls (k:Nat) (A0:Option Addr) (c0:Nat) (l0:List (S35)) (r:Bool) (w:World) (hr0:Kd.C k35 w A0 l0.length l0) (hc0:l0.length≤c0) (h:dims_Right.f k l0=some r) :
  Calls Tryd.prog 15 #[.slice A0 l0.length c0] w fun e w'=>e=.returned (.bool r)∧Below w.heap.size w w':=by
 have hu35:=Tryd.underlying35;have HR0:=sd hr0;have HC0:=sd hc0;clear hr0 hc0;have HB:=sd (Below.refl w.heap.size w);have H:=h;clear h;unfold dims_Right.f at H;replace H:=ifI H;rcases H with ⟨c2,H⟩|⟨c2,H⟩
 ·have c2b0:decide (6 < (l0.length:Int))=true:=decide_eq_true c2;have c2b1:decide (6 < l0.length)=true:=decide_eq_true (by omega);clear c2;obtain rfl:=Option.some.inj H;go_enter Tryd.func15,Tryd.ntmps15
  go_wp2
  go_ret
  exact ⟨zq4,zq6⟩
 have c2b0:decide (6 < (l0.length:Int))=false:=decide_eq_false c2;have c2b1:decide (6 < l0.length)=false:=decide_eq_false (by omega);clear c2;have H':=sd H;clear H;go_enter Tryd.func15,Tryd.ntmps15
 go_wp2
 go_loopg [10] k (fun kq v10 w'=>∃ (x10_1:Int),v10=.int .i64 x10_1∧Aside0 (dims_Right.l0 kq l0 l0 (l0.length:Int) x10_1=some r)∧Aside0 (kq≤k)∧Aside0 (Below w.heap.size w w'))
 case atStart=>exact ⟨(0),zq7,H',⟨Nat.le_refl _⟩,⟨zq6⟩⟩
 case round =>
  clear H';try clear c1
  obtain ⟨x10_1,rfl,HA,HK1,HB⟩:=hrel
  cases gk with
 |zero=>exact absurd HA.out (by simp [dims_Right.l0])
 |succ k1 =>
   have H:=HA.out;clear HA;simp only [dims_Right.l0] at H
   replace H:=ifI H;rcases H with ⟨c3,H⟩|⟨c3,H⟩
   ·have c3b0:decide (x10_1 < (l0.length:Int))=true:=decide_eq_true c3;clear c3;replace H:=ifI H;rcases H with ⟨c4,H⟩|⟨c4,H⟩
    ·have c4b0:decide (0≤x10_1)=true:=decide_eq_true c4;clear c4;replace H:=ifI H;rcases H with ⟨c5,H⟩|⟨c5,H⟩
     ·have c5b0:decide (x10_1 < (l0.length:Int))=true:=decide_eq_true c5;clear c5;replace H:=bdI H;obtain ⟨t110,A6,H⟩:=H;(try dsimp only at H)
      by_cases c7:t110=true
      ·subst c7;rw [if_pos rfl] at H;replace H:=ifI H;rcases H with ⟨c8,H⟩|⟨c8,H⟩
       ·have c8b0:decide (0 < x10_1)=true:=decide_eq_true c8;clear c8;obtain ⟨ji9,hji9⟩:∃ j_:Int,(wrap64 (x10_1 - 1))=j_:=⟨_,rfl⟩
        replace H:(if 0≤(ji9) then (if (ji9) < (l0.length:Int) then (if ((Op.bytesLess (((rd_T35 l0 (ji9)).f0).toList) (((rd_T35 l0 x10_1).f0).toList))=true) then (dims_Right.l0 k1 l0 l0 (l0.length:Int) (wrap64 (x10_1+1))) else (some false)) else (none)) else (none))=some r:=by first|(rw [hji9] at H;exact H)|(simp only [hji9] at H ⊢;exact H)
        (try rw [hji9] at A6)
        have hji9w:(IntKind.i64.wrap (x10_1 - 1))=ji9:=(i64_w _).trans hji9;replace H:=ifI H;rcases H with ⟨c10,H⟩|⟨c10,H⟩
        ·have c10b0:decide (0≤(ji9))=true:=decide_eq_true c10;clear c10;replace H:=ifI H;rcases H with ⟨c11,H⟩|⟨c11,H⟩
         ·have c11b0:decide ((ji9) < (l0.length:Int))=true:=decide_eq_true c11;clear c11;replace H:=ifI H;rcases H with ⟨c12,H⟩|⟨c12,H⟩
          ·have c12b0:(Op.bytesLess (((rd_T35 l0 (ji9)).f0).toList) (((rd_T35 l0 x10_1).f0).toList))=true:=c12;have c12b9:=less_le c12b0;clear c12;have H':=sd H;clear H;have p108:0≤(x10_1:Int):=od;have q108:x10_1 < (l0.length:Int):=od;obtain ⟨ad108,e108,hx108_0,hx108_1⟩:=at_T35 HR0.out x10_1 p108 q108
           cases e108
           replace hx108_0:=(HB.out.cell (World.block_lt_of_cell? w _ hx108_0)).trans hx108_0;replace hx108_1:=(HB.out.cell (World.block_lt_of_cell? w _ hx108_1)).trans hx108_1;replace p108:=eq_true p108;replace q108:=eq_true q108;try go_wp2_with (first|((with_reducible refine gate_dst (N:=4) rfl ?_);refine bxA 4 #[.string (⟨#[]⟩:ByteArray),.string (⟨#[]⟩:ByteArray)] 35 ?_;intro gb109 hg w13 hbox hb;have BK109:=sd (hbox);have GW109:=gem hg HB;have GE109:=GW109;replace HB:=hbm HB hb;clear hb hbox hg;obtain ⟨_,_,_,_⟩:=bk2 BK109))
           have n0_:Aside0 (((w13.setCell ⟨gb109,0,none⟩ (.string ((rd_T35 l0 x10_1).f0))).setCell ⟨gb109,1,none⟩ (.string ((rd_T35 l0 x10_1).f1))).heap[gb109]?=some (.cells #[.string ((rd_T35 l0 x10_1).f0),.string ((rd_T35 l0 x10_1).f1)] 35 (0,0))):=⟨zq64⟩
           have n1_:Aside0 (Below w.heap.size w ((w13.setCell ⟨gb109,0,none⟩ (.string ((rd_T35 l0 x10_1).f0))).setCell ⟨gb109,1,none⟩ (.string ((rd_T35 l0 x10_1).f1)))):=⟨zq65⟩
           (try clear BK109)
           (try clear HB)
           generalize ((w13.setCell ⟨gb109,0,none⟩ (.string ((rd_T35 l0 x10_1).f0))).setCell ⟨gb109,1,none⟩ (.string ((rd_T35 l0 x10_1).f1)))=w15 at n0_ n1_ ⊢;have BK109:=n0_;have HB:=n1_;clear n0_ n1_;replace BK109:=sd (blk_drew BK109.out);replace HB:=sd (below_drew1 HB.out);have p111:0≤((ji9):Int):=od;have q111:(ji9) < (l0.length:Int):=od;obtain ⟨ad111,e111,hx111_0,hx111_1⟩:=at_T35 HR0.out (ji9) p111 q111;have hw111_1:=hx111_1;have hw111_0:=hx111_0;obtain rfl:ad108=ad111:=(by injection e111)
           replace hx111_0:=(HB.out.cell (World.block_lt_of_cell? w _ hx111_0)).trans hx111_0;replace hx111_1:=(HB.out.cell (World.block_lt_of_cell? w _ hx111_1)).trans hx111_1;replace p111:=eq_true p111;replace q111:=eq_true q111;refine start_ (n:=18) (S:=fun w'=>w'.cell? ⟨gb109,0,none⟩=some (.string ((rd_T35 l0 x10_1).f0))∧w'.cell? ⟨gb109,1,none⟩=some (.string ((rd_T35 l0 x10_1).f1))∧w'.cell? (ad108.add (((ji9)).toNat * 2))=some (.string ((rd_T35 l0 (ji9)).f0))∧w'.cell? ⟨(ad108.add (((ji9)).toNat * 2)).block,(ad108.add (((ji9)).toNat * 2)).off+1,none⟩=some (.string ((rd_T35 l0 (ji9)).f1))) (ds:=[]) #[false,false,false,false,false,false,false,false,false,false,false,false,false,false,false,false,false,false] (by kernel_rfl) rfl rfl ⟨(blk_cell BK109.out 0).trans rfl,(blk_cell BK109.out 1).trans rfl,((HB.out.cell (World.block_lt_of_cell? w _ hw111_0)).trans hw111_0),((HB.out.cell (World.block_lt_of_cell? w _ hw111_1)).trans hw111_1)⟩ (fun hHeld=>?_);refine with_tabW dims_Right.tab6 dims_Right.bits6 (fun HT_ HW_=>?_);generalize w15.drew=w16 at BK109 HB hx111_0 hx111_1 hHeld ⊢;refine tA 0 15 HT_.out HW_.out hHeld ?_;refine one_ (i:=1) (N:=some 16) #[true,true,false,false,false,false,false,false,false,false,false,false,false,false,false,false,false,false] rfl rfl (one_of HT_.out (by kernel_rfl)) (by decide) (fun K hK=>?_);refine goes_ Tryd.func39 (by kernel_rfl) rfl #[.agg #[.string ((rd_T35 l0 x10_1).f0),.string ((rd_T35 l0 x10_1).f1)]] (by rfl) rfl rfl zq66 ?_;with_reducible refine (dims_codes.calls ((rd_T35 l0 x10_1).f0) ((rd_T35 l0 x10_1).f1) true _ A6.out).mono ?_
           rintro e w17 ⟨rfl,hb⟩;refine ⟨_,rfl,?_⟩;replace BK109:=bkm BK109 hb;replace HB:=hbm HB hb;clear hb;refine hK.out _ _ ⟨(blk_cell BK109.out 0).trans rfl,(blk_cell BK109.out 1).trans rfl,((HB.out.cell (World.block_lt_of_cell? w _ hw111_0)).trans hw111_0),((HB.out.cell (World.block_lt_of_cell? w _ hw111_1)).trans hw111_1)⟩ (fun hHeld=>?_);clear hK K;refine nA 16 ?_;refine pA 2 17 HT_.out ?_;refine pA 3 18 HT_.out ?_;refine pA 4 19 HT_.out ?_;refine pA 5 20 HT_.out ?_;refine pA 6 21 HT_.out ?_;refine pA 7 22 HT_.out ?_;refine pA 8 23 HT_.out ?_;refine pA 9 24 HT_.out ?_;refine pA 10 25 HT_.out ?_;refine pA 11 26 HT_.out ?_;refine pA 13 28 HT_.out ?_;refine tA 12 27 HT_.out HW_.out hHeld ?_;refine tA 14 29 HT_.out HW_.out hHeld ?_;refine pA 15 30 HT_.out ?_;refine pA 16 31 HT_.out ?_;refine pA 17 32 HT_.out ?_;refine done_ (done_of HT_.out (by kernel_rfl)) ?_;try go_wp2
           go_roundg k1
           case measure=>have:=HK1.out;omega
           case rel=>exact ⟨(wrap64 (x10_1+1)),zq7,H',⟨by have:=HK1.out;omega⟩,⟨zq65⟩⟩
          have c12b0:(Op.bytesLess (((rd_T35 l0 (ji9)).f0).toList) (((rd_T35 l0 x10_1).f0).toList))=false:=by simpa using c12
          have c12b9:=less_ge c12b0;clear c12;obtain rfl:=Option.some.inj H;have p108:0≤(x10_1:Int):=od;have q108:x10_1 < (l0.length:Int):=od;obtain ⟨ad108,e108,hx108_0,hx108_1⟩:=at_T35 HR0.out x10_1 p108 q108
          cases e108
          replace hx108_0:=(HB.out.cell (World.block_lt_of_cell? w _ hx108_0)).trans hx108_0;replace hx108_1:=(HB.out.cell (World.block_lt_of_cell? w _ hx108_1)).trans hx108_1;replace p108:=eq_true p108;replace q108:=eq_true q108;try go_wp2_with (first|((with_reducible refine gate_dst (N:=4) rfl ?_);refine bxA 4 #[.string (⟨#[]⟩:ByteArray),.string (⟨#[]⟩:ByteArray)] 35 ?_;intro gb109 hg w18 hbox hb;have BK109:=sd (hbox);have GW109:=gem hg HB;have GE109:=GW109;replace HB:=hbm HB hb;clear hb hbox hg;obtain ⟨_,_,_,_⟩:=bk2 BK109))
          have n0_:Aside0 (((w18.setCell ⟨gb109,0,none⟩ (.string ((rd_T35 l0 x10_1).f0))).setCell ⟨gb109,1,none⟩ (.string ((rd_T35 l0 x10_1).f1))).heap[gb109]?=some (.cells #[.string ((rd_T35 l0 x10_1).f0),.string ((rd_T35 l0 x10_1).f1)] 35 (0,0))):=⟨zq64⟩
          have n1_:Aside0 (Below w.heap.size w ((w18.setCell ⟨gb109,0,none⟩ (.string ((rd_T35 l0 x10_1).f0))).setCell ⟨gb109,1,none⟩ (.string ((rd_T35 l0 x10_1).f1)))):=⟨zq65⟩
          (try clear BK109)
          (try clear HB)
          generalize ((w18.setCell ⟨gb109,0,none⟩ (.string ((rd_T35 l0 x10_1).f0))).setCell ⟨gb109,1,none⟩ (.string ((rd_T35 l0 x10_1).f1)))=w20 at n0_ n1_ ⊢;have BK109:=n0_;have HB:=n1_;clear n0_ n1_;replace BK109:=sd (blk_drew BK109.out);replace HB:=sd (below_drew1 HB.out);have p111:0≤((ji9):Int):=od;have q111:(ji9) < (l0.length:Int):=od;obtain ⟨ad111,e111,hx111_0,hx111_1⟩:=at_T35 HR0.out (ji9) p111 q111;have hw111_1:=hx111_1;have hw111_0:=hx111_0;obtain rfl:ad108=ad111:=(by injection e111)
          replace hx111_0:=(HB.out.cell (World.block_lt_of_cell? w _ hx111_0)).trans hx111_0;replace hx111_1:=(HB.out.cell (World.block_lt_of_cell? w _ hx111_1)).trans hx111_1;replace p111:=eq_true p111;replace q111:=eq_true q111;refine start_ (n:=18) (S:=fun w'=>w'.cell? ⟨gb109,0,none⟩=some (.string ((rd_T35 l0 x10_1).f0))∧w'.cell? ⟨gb109,1,none⟩=some (.string ((rd_T35 l0 x10_1).f1))∧w'.cell? (ad108.add (((ji9)).toNat * 2))=some (.string ((rd_T35 l0 (ji9)).f0))∧w'.cell? ⟨(ad108.add (((ji9)).toNat * 2)).block,(ad108.add (((ji9)).toNat * 2)).off+1,none⟩=some (.string ((rd_T35 l0 (ji9)).f1))) (ds:=[]) #[false,false,false,false,false,false,false,false,false,false,false,false,false,false,false,false,false,false] (by kernel_rfl) rfl rfl ⟨(blk_cell BK109.out 0).trans rfl,(blk_cell BK109.out 1).trans rfl,((HB.out.cell (World.block_lt_of_cell? w _ hw111_0)).trans hw111_0),((HB.out.cell (World.block_lt_of_cell? w _ hw111_1)).trans hw111_1)⟩ (fun hHeld=>?_);refine with_tabW dims_Right.tab6 dims_Right.bits6 (fun HT_ HW_=>?_);generalize w20.drew=w21 at BK109 HB hx111_0 hx111_1 hHeld ⊢;refine tA 0 15 HT_.out HW_.out hHeld ?_;refine one_ (i:=1) (N:=some 16) #[true,true,false,false,false,false,false,false,false,false,false,false,false,false,false,false,false,false] rfl rfl (one_of HT_.out (by kernel_rfl)) (by decide) (fun K hK=>?_);refine goes_ Tryd.func39 (by kernel_rfl) rfl #[.agg #[.string ((rd_T35 l0 x10_1).f0),.string ((rd_T35 l0 x10_1).f1)]] (by rfl) rfl rfl zq66 ?_;with_reducible refine (dims_codes.calls ((rd_T35 l0 x10_1).f0) ((rd_T35 l0 x10_1).f1) true _ A6.out).mono ?_
          rintro e w22 ⟨rfl,hb⟩;refine ⟨_,rfl,?_⟩;replace BK109:=bkm BK109 hb;replace HB:=hbm HB hb;clear hb;refine hK.out _ _ ⟨(blk_cell BK109.out 0).trans rfl,(blk_cell BK109.out 1).trans rfl,((HB.out.cell (World.block_lt_of_cell? w _ hw111_0)).trans hw111_0),((HB.out.cell (World.block_lt_of_cell? w _ hw111_1)).trans hw111_1)⟩ (fun hHeld=>?_);clear hK K;refine nA 16 ?_;refine pA 2 17 HT_.out ?_;refine pA 3 18 HT_.out ?_;refine pA 4 19 HT_.out ?_;refine pA 5 20 HT_.out ?_;refine pA 6 21 HT_.out ?_;refine pA 7 22 HT_.out ?_;refine pA 8 23 HT_.out ?_;refine pA 9 24 HT_.out ?_;refine pA 10 25 HT_.out ?_;refine pA 11 26 HT_.out ?_;refine pA 13 28 HT_.out ?_;refine tA 12 27 HT_.out HW_.out hHeld ?_;refine tA 14 29 HT_.out HW_.out hHeld ?_;refine pA 15 30 HT_.out ?_;refine pA 16 31 HT_.out ?_;refine pA 17 32 HT_.out ?_;refine done_ (done_of HT_.out (by kernel_rfl)) ?_;try go_wp2
          go_ret
          exact ⟨by first|rfl|(simp [errW_none,errW_some] <;> rfl)|(simp only [← hji9];first|rfl|(simp [errW_none,errW_some] <;> rfl))|(simp [*,errW_none,errW_some] <;> rfl),zq65⟩
         exact absurd H (by simp)
        exact absurd H (by simp)
       have c8b0:decide (0 < x10_1)=false:=decide_eq_false c8;clear c8;have H':=sd H;clear H;have p108:0≤(x10_1:Int):=od;have q108:x10_1 < (l0.length:Int):=od;obtain ⟨ad108,e108,hx108_0,hx108_1⟩:=at_T35 HR0.out x10_1 p108 q108
       cases e108
       replace hx108_0:=(HB.out.cell (World.block_lt_of_cell? w _ hx108_0)).trans hx108_0;replace hx108_1:=(HB.out.cell (World.block_lt_of_cell? w _ hx108_1)).trans hx108_1;replace p108:=eq_true p108;replace q108:=eq_true q108;try go_wp2_with (first|((with_reducible refine gate_dst (N:=4) rfl ?_);refine bxA 4 #[.string (⟨#[]⟩:ByteArray),.string (⟨#[]⟩:ByteArray)] 35 ?_;intro gb109 hg w23 hbox hb;have BK109:=sd (hbox);have GW109:=gem hg HB;have GE109:=GW109;replace HB:=hbm HB hb;clear hb hbox hg;obtain ⟨_,_,_,_⟩:=bk2 BK109))
       have n0_:Aside0 (((w23.setCell ⟨gb109,0,none⟩ (.string ((rd_T35 l0 x10_1).f0))).setCell ⟨gb109,1,none⟩ (.string ((rd_T35 l0 x10_1).f1))).heap[gb109]?=some (.cells #[.string ((rd_T35 l0 x10_1).f0),.string ((rd_T35 l0 x10_1).f1)] 35 (0,0))):=⟨zq64⟩
       have n1_:Aside0 (Below w.heap.size w ((w23.setCell ⟨gb109,0,none⟩ (.string ((rd_T35 l0 x10_1).f0))).setCell ⟨gb109,1,none⟩ (.string ((rd_T35 l0 x10_1).f1)))):=⟨zq65⟩
       (try clear BK109)
       (try clear HB)
       generalize ((w23.setCell ⟨gb109,0,none⟩ (.string ((rd_T35 l0 x10_1).f0))).setCell ⟨gb109,1,none⟩ (.string ((rd_T35 l0 x10_1).f1)))=w25 at n0_ n1_ ⊢;have BK109:=n0_;have HB:=n1_;clear n0_ n1_;replace BK109:=sd (blk_drew BK109.out);replace HB:=sd (below_drew1 HB.out);refine start_ (n:=18) (S:=fun w'=>w'.cell? ⟨gb109,0,none⟩=some (.string ((rd_T35 l0 x10_1).f0))∧w'.cell? ⟨gb109,1,none⟩=some (.string ((rd_T35 l0 x10_1).f1))) (ds:=[]) #[false,false,false,false,false,false,false,false,false,false,false,false,false,false,false,false,false,false] (by kernel_rfl) rfl rfl ⟨(blk_cell BK109.out 0).trans rfl,(blk_cell BK109.out 1).trans rfl⟩ (fun hHeld=>?_);refine with_tabW dims_Right.tab6 dims_Right.bits6 (fun HT_ HW_=>?_);generalize w25.drew=w26 at BK109 HB hHeld ⊢;refine tA 0 15 HT_.out HW_.out hHeld ?_;refine one_ (i:=1) (N:=some 16) #[true,true,false,false,false,false,false,false,false,false,false,false,false,false,false,false,false,false] rfl rfl (one_of HT_.out (by kernel_rfl)) (by decide) (fun K hK=>?_);refine goes_ Tryd.func39 (by kernel_rfl) rfl #[.agg #[.string ((rd_T35 l0 x10_1).f0),.string ((rd_T35 l0 x10_1).f1)]] (by rfl) rfl rfl zq66 ?_;with_reducible refine (dims_codes.calls ((rd_T35 l0 x10_1).f0) ((rd_T35 l0 x10_1).f1) true _ A6.out).mono ?_
       rintro e w27 ⟨rfl,hb⟩;refine ⟨_,rfl,?_⟩;replace BK109:=bkm BK109 hb;replace HB:=hbm HB hb;clear hb;refine hK.out _ _ ⟨(blk_cell BK109.out 0).trans rfl,(blk_cell BK109.out 1).trans rfl⟩ (fun hHeld=>?_);clear hK K;refine nA 16 ?_;refine pA 2 17 HT_.out ?_;refine pA 3 18 HT_.out ?_;refine pA 4 19 HT_.out ?_;refine pA 5 20 HT_.out ?_;refine pA 6 21 HT_.out ?_;refine oA 7 22 HT_.out ?_;refine oA 8 23 HT_.out ?_;refine oA 9 24 HT_.out ?_;refine oA 10 25 HT_.out ?_;refine oA 11 26 HT_.out ?_;refine oA 12 27 HT_.out ?_;refine oA 13 28 HT_.out ?_;refine oA 14 29 HT_.out ?_;refine oA 15 30 HT_.out ?_;refine pA 16 31 HT_.out ?_;refine pA 17 32 HT_.out ?_;refine done_ (done_of HT_.out (by kernel_rfl)) ?_;try go_wp2
       go_roundg k1
       case measure=>have:=HK1.out;omega
       case rel=>exact ⟨(wrap64 (x10_1+1)),zq7,H',⟨by have:=HK1.out;omega⟩,⟨zq65⟩⟩
      replace c7:=Bool.eq_false_iff.mpr c7;subst c7;rw [if_neg Bool.false_ne_true] at H;obtain rfl:=Option.some.inj H;have p108:0≤(x10_1:Int):=od;have q108:x10_1 < (l0.length:Int):=od;obtain ⟨ad108,e108,hx108_0,hx108_1⟩:=at_T35 HR0.out x10_1 p108 q108
      cases e108
      replace hx108_0:=(HB.out.cell (World.block_lt_of_cell? w _ hx108_0)).trans hx108_0;replace hx108_1:=(HB.out.cell (World.block_lt_of_cell? w _ hx108_1)).trans hx108_1;replace p108:=eq_true p108;replace q108:=eq_true q108;try go_wp2_with (first|((with_reducible refine gate_dst (N:=4) rfl ?_);refine bxA 4 #[.string (⟨#[]⟩:ByteArray),.string (⟨#[]⟩:ByteArray)] 35 ?_;intro gb109 hg w28 hbox hb;have BK109:=sd (hbox);have GW109:=gem hg HB;have GE109:=GW109;replace HB:=hbm HB hb;clear hb hbox hg;obtain ⟨_,_,_,_⟩:=bk2 BK109))
      have n0_:Aside0 (((w28.setCell ⟨gb109,0,none⟩ (.string ((rd_T35 l0 x10_1).f0))).setCell ⟨gb109,1,none⟩ (.string ((rd_T35 l0 x10_1).f1))).heap[gb109]?=some (.cells #[.string ((rd_T35 l0 x10_1).f0),.string ((rd_T35 l0 x10_1).f1)] 35 (0,0))):=⟨zq64⟩
      have n1_:Aside0 (Below w.heap.size w ((w28.setCell ⟨gb109,0,none⟩ (.string ((rd_T35 l0 x10_1).f0))).setCell ⟨gb109,1,none⟩ (.string ((rd_T35 l0 x10_1).f1)))):=⟨zq65⟩
      (try clear BK109)
      (try clear HB)
      generalize ((w28.setCell ⟨gb109,0,none⟩ (.string ((rd_T35 l0 x10_1).f0))).setCell ⟨gb109,1,none⟩ (.string ((rd_T35 l0 x10_1).f1)))=w30 at n0_ n1_ ⊢;have BK109:=n0_;have HB:=n1_;clear n0_ n1_;replace BK109:=sd (blk_drew BK109.out);replace HB:=sd (below_drew1 HB.out);refine start_ (n:=18) (S:=fun w'=>w'.cell? ⟨gb109,0,none⟩=some (.string ((rd_T35 l0 x10_1).f0))∧w'.cell? ⟨gb109,1,none⟩=some (.string ((rd_T35 l0 x10_1).f1))) (ds:=[]) #[false,false,false,false,false,false,false,false,false,false,false,false,false,false,false,false,false,false] (by kernel_rfl) rfl rfl ⟨(blk_cell BK109.out 0).trans rfl,(blk_cell BK109.out 1).trans rfl⟩ (fun hHeld=>?_);refine with_tabW dims_Right.tab6 dims_Right.bits6 (fun HT_ HW_=>?_);generalize w30.drew=w31 at BK109 HB hHeld ⊢;refine tA 0 15 HT_.out HW_.out hHeld ?_;refine one_ (i:=1) (N:=some 16) #[true,true,false,false,false,false,false,false,false,false,false,false,false,false,false,false,false,false] rfl rfl (one_of HT_.out (by kernel_rfl)) (by decide) (fun K hK=>?_);refine goes_ Tryd.func39 (by kernel_rfl) rfl #[.agg #[.string ((rd_T35 l0 x10_1).f0),.string ((rd_T35 l0 x10_1).f1)]] (by rfl) rfl rfl zq66 ?_;with_reducible refine (dims_codes.calls ((rd_T35 l0 x10_1).f0) ((rd_T35 l0 x10_1).f1) false _ A6.out).mono ?_
      rintro e w32 ⟨rfl,hb⟩;refine ⟨_,rfl,?_⟩;replace BK109:=bkm BK109 hb;replace HB:=hbm HB hb;clear hb;refine hK.out _ _ ⟨(blk_cell BK109.out 0).trans rfl,(blk_cell BK109.out 1).trans rfl⟩ (fun hHeld=>?_);clear hK K;refine nA 16 ?_;refine pA 2 17 HT_.out ?_;refine pA 3 18 HT_.out ?_;refine oA 4 19 HT_.out ?_;refine oA 5 20 HT_.out ?_;refine oA 6 21 HT_.out ?_;refine oA 7 22 HT_.out ?_;refine oA 8 23 HT_.out ?_;refine oA 9 24 HT_.out ?_;refine oA 10 25 HT_.out ?_;refine oA 11 26 HT_.out ?_;refine oA 12 27 HT_.out ?_;refine oA 13 28 HT_.out ?_;refine oA 14 29 HT_.out ?_;refine oA 15 30 HT_.out ?_;refine oA 16 31 HT_.out ?_;refine pA 17 32 HT_.out ?_;refine done_ (done_of HT_.out (by kernel_rfl)) ?_;try go_wp2
      go_ret
      exact ⟨zq4,zq65⟩
     exact absurd H (by simp)
    exact absurd H (by simp)
   have c3b0:decide (x10_1 < (l0.length:Int))=false:=decide_eq_false c3;clear c3;obtain rfl:=Option.some.inj H;go_wp2
   go_ret
   exact ⟨zq4,zq6⟩
theorem words_Plain.calls (a0:ByteArray) (r:Bool) (w:World) (h:words_Plain.f a0=some r) :
  Calls Tryd.prog 41 #[.string a0] w fun e w'=>e=.returned (.bool r)∧Drawn0 w w':=by
 unfold words_Plain.f at h;split at h
 ·rename_i hs
  obtain rfl:=Option.some.inj h;exact plain_w a0 hs w
 ·cases h
theorem rules_cond.calls (k:Nat) (a0_0 a0_1:Int) (a0_2:ByteArray) (a0_3 r:Int) (w:World) (h:rules_cond.f k a0_0 a0_1 a0_2 a0_3=some r) :
  Calls Tryd.prog 16 #[.agg #[.int .i64 a0_0,.int .i64 a0_1,.string a0_2,.int .i64 a0_3]] w fun e w'=>e=.returned (.int .i64 r)∧Below w.heap.size w w':=by
 have hu27:=Tryd.underlying27;have HB:=sd (Below.refl w.heap.size w);have H:=h;clear h;unfold rules_cond.f at H;replace H:=bdI H;obtain ⟨t114,A2,H⟩:=H;(try dsimp only at H)
 by_cases c3:t114=true
 ·subst c3;rw [if_pos rfl] at H;have HC4:=sd H;clear H;go_enter Tryd.func16,Tryd.ntmps16
  go_upto_block 0 with (first|((with_reducible refine gate_dst (N:=1) rfl ?_);refine bxA 1 #[.int .i64 a0_0,.int .i64 a0_1,.string a0_2,.int .i64 a0_3] 27 ?_;intro gb113 hg w5 hbox hb;have BK113:=sd (hbox);have GW113:=gem hg HB;have GE113:=GW113;replace HB:=hbm HB hb;clear hb hbox hg;obtain ⟨_,_,_,_,_,_,_,_⟩:=bk4 BK113)|(go_at_call 40;(with_reducible refine (rules_suits.calls k a0_0 a0_1 true _ A2.out).mono ?_);rintro e w' ⟨rfl,⟨nd,rfl⟩⟩;(try first|exact ⟨rfl,_,World.drewN_drewN _ _ _⟩|exact ⟨rfl,_,Eq.trans (World.drewN_drewN _ _ _) (congrArg (World.drewN _) (Nat.add_assoc _ _ _))⟩)))
  repeat (go_quiet (first|((with_reducible refine gate_dst (N:=1) rfl ?_);refine bxA 1 #[.int .i64 a0_0,.int .i64 a0_1,.string a0_2,.int .i64 a0_3] 27 ?_;intro gb113 hg w5 hbox hb;have BK113:=sd (hbox);have GW113:=gem hg HB;have GE113:=GW113;replace HB:=hbm HB hb;clear hb hbox hg;obtain ⟨_,_,_,_,_,_,_,_⟩:=bk4 BK113)|(go_at_call 40;(with_reducible refine (rules_suits.calls k a0_0 a0_1 true _ A2.out).mono ?_);rintro e w' ⟨rfl,⟨nd,rfl⟩⟩;(try first|exact ⟨rfl,_,World.drewN_drewN _ _ _⟩|exact ⟨rfl,_,Eq.trans (World.drewN_drewN _ _ _) (congrArg (World.drewN _) (Nat.add_assoc _ _ _))⟩)));go_upto_block 0 with (first|((with_reducible refine gate_dst (N:=1) rfl ?_);refine bxA 1 #[.int .i64 a0_0,.int .i64 a0_1,.string a0_2,.int .i64 a0_3] 27 ?_;intro gb113 hg w5 hbox hb;have BK113:=sd (hbox);have GW113:=gem hg HB;have GE113:=GW113;replace HB:=hbm HB hb;clear hb hbox hg;obtain ⟨_,_,_,_,_,_,_,_⟩:=bk4 BK113)|(go_at_call 40;(with_reducible refine (rules_suits.calls k a0_0 a0_1 true _ A2.out).mono ?_);rintro e w' ⟨rfl,⟨nd,rfl⟩⟩;(try first|exact ⟨rfl,_,World.drewN_drewN _ _ _⟩|exact ⟨rfl,_,Eq.trans (World.drewN_drewN _ _ _) (congrArg (World.drewN _) (Nat.add_assoc _ _ _))⟩))))
  (try simp only [Act.put,List.setIfInBounds_toArray,List.set_cons_zero,List.set_cons_succ])
  go_cut [3,4] (fun v3 v4 wc=>∃ (kq:Nat) (x3_3:Bool) (x4_3:Bool),v3=.bool x3_3∧v4=.bool x4_3∧Aside0 (rules_cond.j0 kq x3_3 x4_3=some r)∧Aside0 (kq≤k)∧Aside0 (wc.heap[gb113]?=some (.cells #[.int .i64 a0_0,.int .i64 a0_1,.string a0_2,.int .i64 a0_3] 27 (0,0)))∧Aside0 (Below w.heap.size w wc))
  case first =>
   have H:=HC4.out;clear HC4;replace H:=ifI H;rcases H with ⟨c7,H⟩|⟨c7,H⟩
   ·obtain ⟨c7b0,c7b1⟩:=eqI c7;clear c7;(first|rw [c7b0]|(simp only [i64_w,i32_w];rw [c7b0])|skip)
    replace H:=ifI H;rcases H with ⟨c8,H⟩|⟨c8,H⟩
    ·have c8b0:decide (a0_3≤1000000000000)=true:=decide_eq_true c8;clear c8;have H':=sd H;clear H;obtain ⟨_,_,_,_,_,_,_,_⟩:=bk4 BK113;go_wp2
     repeat (go_quiet (fail);try go_wp2)
     go_meet
     case rel=>exact ⟨_,(decide (a0_3 ≥ (-1000000000000))),((a0_2.toList == ([]:List UInt8))),zq7,zq7,H',⟨by first|omega|exact Nat.le_refl _⟩,⟨zq67⟩,⟨zq68⟩⟩
    have c8b0:decide (a0_3≤1000000000000)=false:=decide_eq_false c8;clear c8;have H':=sd H;clear H;obtain ⟨_,_,_,_,_,_,_,_⟩:=bk4 BK113;go_wp2
    repeat (go_quiet (fail);try go_wp2)
    go_meet
    case rel=>exact ⟨_,(false),((a0_2.toList == ([]:List UInt8))),zq7,zq7,H',⟨by first|omega|exact Nat.le_refl _⟩,⟨zq67⟩,⟨zq68⟩⟩
   obtain ⟨c7b0,c7b1⟩:=neI c7;(first|rw [c7b0]|(simp only [i64_w,i32_w];rw [c7b0])|skip)
   replace H:=ifI H;rcases H with ⟨c11,H⟩|⟨c11,H⟩
   ·obtain ⟨c11b0,c11b1⟩:=eqI c11;clear c11;replace H:=ifI H;rcases H with ⟨c12,H⟩|⟨c12,H⟩
    ·have c12b0:decide (0≤a0_3)=true:=decide_eq_true c12;clear c12;have H':=sd H;clear H;obtain ⟨_,_,_,_,_,_,_,_⟩:=bk4 BK113;go_wp2
     repeat (go_quiet (fail);try go_wp2)
     go_meet
     case rel=>exact ⟨_,(decide (a0_3≤109572)),((a0_2.toList == ([]:List UInt8))),zq7,zq7,H',⟨by first|omega|exact Nat.le_refl _⟩,⟨zq67⟩,⟨zq68⟩⟩
    have c12b0:decide (0≤a0_3)=false:=decide_eq_false c12;clear c12;have H':=sd H;clear H;obtain ⟨_,_,_,_,_,_,_,_⟩:=bk4 BK113;go_wp2
    repeat (go_quiet (fail);try go_wp2)
    go_meet
    case rel=>exact ⟨_,(false),((a0_2.toList == ([]:List UInt8))),zq7,zq7,H',⟨by first|omega|exact Nat.le_refl _⟩,⟨zq67⟩,⟨zq68⟩⟩
   obtain ⟨c11b0,c11b1⟩:=neI c11;replace H:=ifI H;rcases H with ⟨c15,H⟩|⟨c15,H⟩
   ·obtain ⟨c15b0,c15b1⟩:=eqI c15;clear c15;replace H:=bdI H;obtain ⟨t115,A16,H⟩:=H;(try dsimp only at H)
    have H':=sd H;clear H;obtain ⟨_,_,_,_,_,_,_,_⟩:=bk4 BK113;go_wp2_with (first|(go_at_call 41;(with_reducible refine (words_Plain.calls a0_2 t115 _ A16.out).mono ?_);rintro e w' ⟨rfl,⟨nd,rfl⟩⟩;(try first|exact ⟨rfl,_,World.drewN_drewN _ _ _⟩|exact ⟨rfl,_,Eq.trans (World.drewN_drewN _ _ _) (congrArg (World.drewN _) (Nat.add_assoc _ _ _))⟩)))
    repeat (go_quiet (first|(go_at_call 41;(with_reducible refine (words_Plain.calls a0_2 t115 _ A16.out).mono ?_);rintro e w' ⟨rfl,⟨nd,rfl⟩⟩;(try first|exact ⟨rfl,_,World.drewN_drewN _ _ _⟩|exact ⟨rfl,_,Eq.trans (World.drewN_drewN _ _ _) (congrArg (World.drewN _) (Nat.add_assoc _ _ _))⟩)));try go_wp2_with (first|(go_at_call 41;(with_reducible refine (words_Plain.calls a0_2 t115 _ A16.out).mono ?_);rintro e w' ⟨rfl,⟨nd,rfl⟩⟩;(try first|exact ⟨rfl,_,World.drewN_drewN _ _ _⟩|exact ⟨rfl,_,Eq.trans (World.drewN_drewN _ _ _) (congrArg (World.drewN _) (Nat.add_assoc _ _ _))⟩))))
    go_meet
    case rel=>exact ⟨_,((a0_3 == 0)),(t115),zq7,zq7,H',⟨by first|omega|exact Nat.le_refl _⟩,⟨zq67⟩,⟨zq68⟩⟩
   obtain ⟨c15b0,c15b1⟩:=neI c15;replace H:=ifI H;rcases H with ⟨c18,H⟩|⟨c18,H⟩
   ·obtain ⟨c18b0,c18b1⟩:=eqI c18;clear c18;replace H:=bdI H;obtain ⟨t116,A19,H⟩:=H;(try dsimp only at H)
    have H':=sd H;clear H;obtain ⟨_,_,_,_,_,_,_,_⟩:=bk4 BK113;go_wp2_with (first|(go_at_call 41;(with_reducible refine (words_Plain.calls a0_2 t116 _ A19.out).mono ?_);rintro e w' ⟨rfl,⟨nd,rfl⟩⟩;(try first|exact ⟨rfl,_,World.drewN_drewN _ _ _⟩|exact ⟨rfl,_,Eq.trans (World.drewN_drewN _ _ _) (congrArg (World.drewN _) (Nat.add_assoc _ _ _))⟩)))
    repeat (go_quiet (first|(go_at_call 41;(with_reducible refine (words_Plain.calls a0_2 t116 _ A19.out).mono ?_);rintro e w' ⟨rfl,⟨nd,rfl⟩⟩;(try first|exact ⟨rfl,_,World.drewN_drewN _ _ _⟩|exact ⟨rfl,_,Eq.trans (World.drewN_drewN _ _ _) (congrArg (World.drewN _) (Nat.add_assoc _ _ _))⟩)));try go_wp2_with (first|(go_at_call 41;(with_reducible refine (words_Plain.calls a0_2 t116 _ A19.out).mono ?_);rintro e w' ⟨rfl,⟨nd,rfl⟩⟩;(try first|exact ⟨rfl,_,World.drewN_drewN _ _ _⟩|exact ⟨rfl,_,Eq.trans (World.drewN_drewN _ _ _) (congrArg (World.drewN _) (Nat.add_assoc _ _ _))⟩))))
    go_meet
    case rel=>exact ⟨_,((a0_3 == 0)),(t116),zq7,zq7,H',⟨by first|omega|exact Nat.le_refl _⟩,⟨zq67⟩,⟨zq68⟩⟩
   obtain ⟨c18b0,c18b1⟩:=neI c18;have H':=sd H;clear H;go_wp2
   repeat (go_quiet (fail);try go_wp2)
   go_meet
   case rel=>exact ⟨_,((a0_3 == 0)),((a0_2.toList == ([]:List UInt8))),zq7,zq7,H',⟨by first|omega|exact Nat.le_refl _⟩,⟨zq67⟩,⟨zq68⟩⟩
  case rest =>
   clear HC4;try clear c1
   obtain ⟨kq,x3_3,x4_3,rfl,rfl,HA,HJ3,BK113,HB⟩:=hcut
   cases kq with
  |zero=>exact absurd HA.out (by simp [rules_cond.j0])
  |succ kj3 =>
    have H:=HA.out;clear HA;simp only [rules_cond.j0] at H
    by_cases c21:x3_3=true
    ·subst c21;rw [if_pos rfl] at H;by_cases c22:x4_3=true
     ·subst c22;rw [if_pos rfl] at H;obtain rfl:=Option.some.inj H;go_wp2
      repeat (go_quiet (fail);try go_wp2)
      go_ret
      exact ⟨zq4,zq68⟩
     replace c22:=Bool.eq_false_iff.mpr c22;subst c22;rw [if_neg Bool.false_ne_true] at H;obtain rfl:=Option.some.inj H;go_wp2
     repeat (go_quiet (fail);try go_wp2)
     go_ret
     exact ⟨zq4,zq68⟩
    replace c21:=Bool.eq_false_iff.mpr c21;subst c21;rw [if_neg Bool.false_ne_true] at H;obtain rfl:=Option.some.inj H;go_wp2
    repeat (go_quiet (fail);try go_wp2)
    go_ret
    exact ⟨zq4,zq68⟩
 replace c3:=Bool.eq_false_iff.mpr c3;subst c3;rw [if_neg Bool.false_ne_true] at H;obtain rfl:=Option.some.inj H;go_enter Tryd.func16,Tryd.ntmps16
 go_wp2_with (first|((with_reducible refine gate_dst (N:=1) rfl ?_);refine bxA 1 #[.int .i64 a0_0,.int .i64 a0_1,.string a0_2,.int .i64 a0_3] 27 ?_;intro gb113 hg w23 hbox hb;have BK113:=sd (hbox);have GW113:=gem hg HB;have GE113:=GW113;replace HB:=hbm HB hb;clear hb hbox hg;obtain ⟨_,_,_,_,_,_,_,_⟩:=bk4 BK113)|(go_at_call 40;(with_reducible refine (rules_suits.calls k a0_0 a0_1 false _ A2.out).mono ?_);rintro e w' ⟨rfl,⟨nd,rfl⟩⟩;(try first|exact ⟨rfl,_,World.drewN_drewN _ _ _⟩|exact ⟨rfl,_,Eq.trans (World.drewN_drewN _ _ _) (congrArg (World.drewN _) (Nat.add_assoc _ _ _))⟩)))
 repeat (go_quiet (first|((with_reducible refine gate_dst (N:=1) rfl ?_);refine bxA 1 #[.int .i64 a0_0,.int .i64 a0_1,.string a0_2,.int .i64 a0_3] 27 ?_;intro gb113 hg w23 hbox hb;have BK113:=sd (hbox);have GW113:=gem hg HB;have GE113:=GW113;replace HB:=hbm HB hb;clear hb hbox hg;obtain ⟨_,_,_,_,_,_,_,_⟩:=bk4 BK113)|(go_at_call 40;(with_reducible refine (rules_suits.calls k a0_0 a0_1 false _ A2.out).mono ?_);rintro e w' ⟨rfl,⟨nd,rfl⟩⟩;(try first|exact ⟨rfl,_,World.drewN_drewN _ _ _⟩|exact ⟨rfl,_,Eq.trans (World.drewN_drewN _ _ _) (congrArg (World.drewN _) (Nat.add_assoc _ _ _))⟩)));try go_wp2_with (first|((with_reducible refine gate_dst (N:=1) rfl ?_);refine bxA 1 #[.int .i64 a0_0,.int .i64 a0_1,.string a0_2,.int .i64 a0_3] 27 ?_;intro gb113 hg w23 hbox hb;have BK113:=sd (hbox);have GW113:=gem hg HB;have GE113:=GW113;replace HB:=hbm HB hb;clear hb hbox hg;obtain ⟨_,_,_,_,_,_,_,_⟩:=bk4 BK113)|(go_at_call 40;(with_reducible refine (rules_suits.calls k a0_0 a0_1 false _ A2.out).mono ?_);rintro e w' ⟨rfl,⟨nd,rfl⟩⟩;(try first|exact ⟨rfl,_,World.drewN_drewN _ _ _⟩|exact ⟨rfl,_,Eq.trans (World.drewN_drewN _ _ _) (congrArg (World.drewN _) (Nat.add_assoc _ _ _))⟩))))
 go_ret
 exact ⟨zq4,zq68⟩
end A

end Go.Proofs.YtlblkojjpagbkaaDoor