-- By pack.py, a program of this session's.
import Derived.Test.YtmlcdpfcafmmcaaDoorX5
import Derived.Test.YtmlcdpfcafmmcaaDoorX6
import Derived.Test.YtmlcdpfcafmmcaaDoorX7
set_option linter.unusedVariables false
set_option linter.unusedSimpArgs false
namespace Go.Proofs.YtmlcdpfcafmmcaaDoor.A
open Go.RowKit B WW WL WM
attribute [local go_sem] max2_int min2_int max_two min_two max_three min_three max_four min_four
set_option maxHeartbeats 8000000
set_option maxRecDepth 100000
theorem wd_calls (c:UInt8) (w:World):Calls Tryd.prog 51 #[.int .u8 (c.toNat:Int)] w fun e w'=>e=.returned (.bool (isWdB c))∧Drawn0 w w':=by
 have h1:=letter_wd c.toNat c.toNat_lt;have h2:=digit_wd c.toNat c.toNat_lt;have HC1:=sd (fun w=>words_letter.calls _ (isLetB c) w h1);have HC2:=sd (fun w=>words_digit.calls _ (isDigB c) w h2);clear h1 h2;generalize hP:(fun e w'=>e=Ending.returned (.bool (isWdB c))∧Drawn0 w w')=Post;have HP:=sd hP;clear hP
 cases hL:isLetB c
 ·rw [hL] at HC1;go_enter Tryd.func51,Tryd.ntmps51
  go_wp2_with fail
  refine (HC1.out _).mono ?_;rintro e w1 ⟨rfl,hd1⟩;obtain ⟨⟨n1,rfl⟩⟩:=hd1;go_wp2_with fail
  refine (HC2.out _).mono ?_;rintro e w1 ⟨rfl,hd1⟩;obtain ⟨⟨n2,rfl⟩⟩:=hd1;go_wp2_with fail
  rw [← HP.out];exact ⟨by unfold isWdB;rw [hL];(try rfl),⟨⟨_,rfl⟩⟩⟩
 ·rw [hL] at HC1;go_enter Tryd.func51,Tryd.ntmps51
  go_wp2_with fail
  refine (HC1.out _).mono ?_;rintro e w1 ⟨rfl,hd1⟩;obtain ⟨⟨n1,rfl⟩⟩:=hd1;go_wp2_with fail
  rw [← HP.out];exact ⟨by unfold isWdB;rw [hL];(try rfl),⟨⟨_,rfl⟩⟩⟩
theorem code_w (s:ByteArray) (hs:s.size≤140737488351232) (w:World):Calls Tryd.prog 22 #[.string s] w fun e w'=>e=.returned (.bool (codeW s.data.toList))∧Drawn0 w w':=by
 have HE:=sd (fun w=>every_wd wd_calls s hs w);have hsz:=size_eq' s;generalize hP:(fun e w'=>e=Ending.returned (.bool (codeW s.data.toList))∧Drawn0 w w')=Post;have HP:=sd hP;clear hP;by_cases h0:s.size=0
 ·have h1:codeW s.data.toList=false:=by unfold codeW;rw [List.isEmpty_iff_length_eq_zero.mpr (by omega)];rfl
  have HB:=sd h1;obtain rfl:s=⟨#[]⟩:=ba_nil h0;clear h1 hsz h0 HE;go_enter Tryd.func22,Tryd.ntmps22
  go_wp2_with fail
  rw [← HP.out];exact ⟨by rw [HB.out];(try rfl),Drawn0.refl _⟩
 have hne:(s.toList=[])=False:=eq_false (fun h=>h0 (by rw [ByteArray.toList_eq] at h;rw [hsz,h];rfl));by_cases h1:s.size≤12
 ·have h1':(s.size:Int)≤12:=by omega
  have hB:codeW s.data.toList=s.data.toList.all isWdB:=by unfold codeW;rw [decide_eq_true (by omega),Bool.true_and,show s.data.toList.isEmpty=false by rw [Bool.eq_false_iff,Ne,List.isEmpty_iff_length_eq_zero];omega];rfl
  have HB:=sd hB;clear hB hsz;generalize s.data.toList.all isWdB=ab at HE HB;go_enter Tryd.func22,Tryd.ntmps22
  go_wp2_with fail
  refine (HE.out _).mono ?_;rintro e w1 ⟨rfl,hd1⟩;obtain ⟨⟨n1,rfl⟩⟩:=hd1;go_wp2_with fail
  rw [← HP.out];exact ⟨by rw [HB.out];show Ending.returned (Value.bool (!s.toList.isEmpty && ab))=_;rw [show s.toList.isEmpty=false by rw [Bool.eq_false_iff,Ne,List.isEmpty_iff];exact of_eq_false hne];rfl,⟨⟨_,rfl⟩⟩⟩
 have h1':¬ (s.size:Int)≤12:=by omega
 have hB:codeW s.data.toList=false:=by unfold codeW;rw [decide_eq_false (by omega),Bool.false_and,Bool.and_false]
 have HB:=sd hB;clear hB hsz;go_enter Tryd.func22,Tryd.ntmps22
 go_wp2_with fail
 rw [← HP.out];exact ⟨by rw [HB.out];(try rfl),Drawn0.refl _⟩
theorem words_Code.calls (a0:ByteArray) (r:Bool) (w:World) (h:words_Code.f a0=some r) :
  Calls Tryd.prog 22 #[.string a0] w fun e w'=>e=.returned (.bool r)∧Drawn0 w w':=by
 unfold words_Code.f at h;split at h
 ·rename_i hs
  obtain rfl:=Option.some.inj h;exact code_w a0 hs w
 ·cases h
theorem money_Right.calls (k:Nat) (A0:Option Addr) (c0:Nat) (l0:List (S77)) (r:Bool) (w:World) (hr0:Kd.C k77 w A0 l0.length l0) (hc0:l0.length≤c0) (h:money_Right.f k l0=some r) :
  Calls Tryd.prog 30 #[.slice A0 l0.length c0] w fun e w'=>e=.returned (.bool r)∧Below w.heap.size w w':=by
 have hu77:=Tryd.underlying77;have HR0:=sd hr0;have HC0:=sd hc0;clear hr0 hc0;have HB:=sd (Below.refl w.heap.size w);have H:=h;clear h;unfold money_Right.f at H;replace H:=ifI H;rcases H with ⟨c2,H⟩ | ⟨c2,H⟩
 ·have c2b0:decide (40 < (l0.length:Int))=true:=decide_eq_true c2;have c2b1:decide (40 < l0.length)=true:=decide_eq_true (by omega);clear c2;obtain rfl:=Option.some.inj H;go_enter Tryd.func30,Tryd.ntmps30
  go_wp2
  go_ret
  exact ⟨zq10,zq7⟩
 have c2b0:decide (40 < (l0.length:Int))=false:=decide_eq_false c2;have c2b1:decide (40 < l0.length)=false:=decide_eq_false (by omega);clear c2;have H':=sd H;clear H;go_enter Tryd.func30,Tryd.ntmps30
 go_wp2
 go_loopg [10] k (fun kq v10 w'=>∃ (x10_1:Int),v10=.int .i64 x10_1∧Aside0 (money_Right.l0 kq l0 l0 (l0.length:Int) x10_1=some r)∧Aside0 (kq≤k)∧Aside0 (Below w.heap.size w w'))
 case atStart=>exact ⟨(0),zq1,H',⟨Nat.le_refl _⟩,⟨zq7⟩⟩
 case round =>
  clear H';try clear c2
  try clear c2b0
  try clear c2b1
  try clear p2
  obtain ⟨x10_1,rfl,HA,HK1,HB⟩:=hrel
  cases gk with
  | zero=>exact absurd HA.out (by simp [money_Right.l0])
  | succ k1 =>
   have H:=HA.out;clear HA;simp only [money_Right.l0] at H
   replace H:=ifI H;rcases H with ⟨c3,H⟩ | ⟨c3,H⟩
   ·have c3b0:decide (x10_1 < (l0.length:Int))=true:=decide_eq_true c3;clear c3;replace H:=ifI H;rcases H with ⟨c4,H⟩ | ⟨c4,H⟩
    ·have c4b0:decide (0≤x10_1)=true:=decide_eq_true c4;clear c4;replace H:=ifI H;rcases H with ⟨c5,H⟩ | ⟨c5,H⟩
     ·have c5b0:decide (x10_1 < (l0.length:Int))=true:=decide_eq_true c5;clear c5;replace H:=bdI H;obtain ⟨t133,A6,H⟩:=H;(try dsimp only at H)
      by_cases c7:t133=true
      ·subst c7;rw [if_pos rfl] at H;replace H:=bdI H;obtain ⟨t134,A8,H⟩:=H;(try dsimp only at H)
       by_cases c9:t134=true
       ·subst c9;rw [if_pos rfl] at H;replace H:=ifI H;rcases H with ⟨c10,H⟩ | ⟨c10,H⟩
        ·have c10b0:decide (0 < x10_1)=true:=decide_eq_true c10;clear c10;obtain ⟨ji11,hji11⟩:∃ j_:Int,(wrap64 (x10_1 - 1))=j_:=⟨_,rfl⟩
         replace H:(if 0≤(ji11) then (if (ji11) < (l0.length:Int) then (if ((Op.bytesLess (((rd_T77 l0 (ji11)).f0).toList) (((rd_T77 l0 x10_1).f0).toList))=true) then (money_Right.l0 k1 l0 l0 (l0.length:Int) (wrap64 (x10_1+1))) else (some false)) else (none)) else (none))=some r:=by first | (rw [hji11] at H;exact H) | (simp only [hji11] at H ⊢;exact H)
         (try rw [hji11] at A6)
         (try rw [hji11] at A8)
         have hji11w:(IntKind.i64.wrap (x10_1 - 1))=ji11:=(i64_w _).trans hji11;replace H:=ifI H;rcases H with ⟨c12,H⟩ | ⟨c12,H⟩
         ·have c12b0:decide (0≤(ji11))=true:=decide_eq_true c12;clear c12;replace H:=ifI H;rcases H with ⟨c13,H⟩ | ⟨c13,H⟩
          ·have c13b0:decide ((ji11) < (l0.length:Int))=true:=decide_eq_true c13;clear c13;replace H:=ifI H;rcases H with ⟨c14,H⟩ | ⟨c14,H⟩
           ·have c14b0:(Op.bytesLess (((rd_T77 l0 (ji11)).f0).toList) (((rd_T77 l0 x10_1).f0).toList))=true:=c14;clear c14;have H':=sd H;clear H;have p131:0≤(x10_1:Int):=od;have q131:x10_1 < (l0.length:Int):=od;obtain ⟨ad131,e131,hx131_0,hx131_1⟩:=at_T77 HR0.out x10_1 p131 q131
            cases e131
            replace hx131_0:=(HB.out.cell (World.block_lt_of_cell? w _ hx131_0)).trans hx131_0;replace hx131_1:=(HB.out.cell (World.block_lt_of_cell? w _ hx131_1)).trans hx131_1;replace p131:=eq_true p131;replace q131:=eq_true q131;try go_wp2_with (first | ((with_reducible refine gate_dst (N:=4) rfl ?_);refine bxA 4 #[.string (⟨#[]⟩:ByteArray),.int .i64 0] 77 ?_;intro gb132 hg w15 hbox hb;have BK132:=sd (hbox);have GW132:=gem hg HB;have GE132:=GW132;replace HB:=hbm HB hb;clear hb hbox hg;obtain ⟨_,_,_,_⟩:=bk2 BK132))
            have n0_:Aside0 (((w15.setCell ⟨gb132,0,none⟩ (.string ((rd_T77 l0 x10_1).f0))).setCell ⟨gb132,1,none⟩ (.int .i64 ((rd_T77 l0 x10_1).f1))).heap[gb132]?=some (.cells #[.string ((rd_T77 l0 x10_1).f0),.int .i64 ((rd_T77 l0 x10_1).f1)] 77 (0,0))):=⟨zq115⟩
            have n1_:Aside0 (Below w.heap.size w ((w15.setCell ⟨gb132,0,none⟩ (.string ((rd_T77 l0 x10_1).f0))).setCell ⟨gb132,1,none⟩ (.int .i64 ((rd_T77 l0 x10_1).f1)))):=⟨zq116⟩
            (try clear BK132)
            (try clear HB)
            generalize ((w15.setCell ⟨gb132,0,none⟩ (.string ((rd_T77 l0 x10_1).f0))).setCell ⟨gb132,1,none⟩ (.int .i64 ((rd_T77 l0 x10_1).f1)))=w17 at n0_ n1_ ⊢;have BK132:=n0_;have HB:=n1_;clear n0_ n1_;replace BK132:=sd (blk_drew BK132.out);replace HB:=sd (below_drew1 HB.out);have p135:0≤((ji11):Int):=od;have q135:(ji11) < (l0.length:Int):=od;obtain ⟨ad135,e135,hx135_0,hx135_1⟩:=at_T77 HR0.out (ji11) p135 q135;have hw135_1:=hx135_1;have hw135_0:=hx135_0;obtain rfl:ad131=ad135:=(by injection e135)
            replace hx135_0:=(HB.out.cell (World.block_lt_of_cell? w _ hx135_0)).trans hx135_0;replace hx135_1:=(HB.out.cell (World.block_lt_of_cell? w _ hx135_1)).trans hx135_1;replace p135:=eq_true p135;replace q135:=eq_true q135;refine start_ (n:=25) (S:=fun w'=>w'.cell? ⟨gb132,0,none⟩=some (.string ((rd_T77 l0 x10_1).f0))∧w'.cell? ⟨gb132,1,none⟩=some (.int .i64 ((rd_T77 l0 x10_1).f1))∧w'.cell? (ad131.add (((ji11)).toNat * 2))=some (.string ((rd_T77 l0 (ji11)).f0))∧w'.cell? ⟨(ad131.add (((ji11)).toNat * 2)).block,(ad131.add (((ji11)).toNat * 2)).off+1,none⟩=some (.int .i64 ((rd_T77 l0 (ji11)).f1))) (ds:=[]) #[false,false,false,false,false,false,false,false,false,false,false,false,false,false,false,false,false,false,false,false,false,false,false,false,false] (by kernel_rfl) rfl rfl ⟨(blk_cell BK132.out 0).trans rfl,(blk_cell BK132.out 1).trans rfl,((HB.out.cell (World.block_lt_of_cell? w _ hw135_0)).trans hw135_0),((HB.out.cell (World.block_lt_of_cell? w _ hw135_1)).trans hw135_1)⟩ (fun hHeld=>?_);refine with_tabW money_Right.tab6 money_Right.bits6 (fun HT_ HW_=>?_);generalize w17.drew=w18 at BK132 HB hx135_0 hx135_1 hHeld ⊢;refine pA 0 15 HT_.out ?_;refine tA 1 16 HT_.out HW_.out hHeld ?_;refine one_ (i:=2) (N:=some 17) #[true,true,true,false,false,false,false,false,false,false,false,false,false,false,false,false,false,false,false,false,false,false,false,false,false] rfl rfl (one_of HT_.out (by kernel_rfl)) (by decide) (fun K hK=>?_);refine goes_ Tryd.func23 (by kernel_rfl) rfl #[.string ((rd_T77 l0 x10_1).f0)] (by rfl) rfl rfl zq28 ?_;with_reducible refine (money_Code.calls ((rd_T77 l0 x10_1).f0) true _ A6.out).mono ?_
            rintro e w19 ⟨rfl,hb⟩;refine ⟨_,rfl,?_⟩;replace BK132:=bkm BK132 hb;replace HB:=hbm HB hb;clear hb;refine hK.out _ _ ⟨(blk_cell BK132.out 0).trans rfl,(blk_cell BK132.out 1).trans rfl,((HB.out.cell (World.block_lt_of_cell? w _ hw135_0)).trans hw135_0),((HB.out.cell (World.block_lt_of_cell? w _ hw135_1)).trans hw135_1)⟩ (fun hHeld=>?_);clear hK K;refine nA 17 ?_;refine pA 3 18 HT_.out ?_;refine pA 4 19 HT_.out ?_;refine pA 5 20 HT_.out ?_;refine tA 6 21 HT_.out HW_.out hHeld ?_;refine one_ (i:=7) (N:=some 22) #[true,true,true,true,true,true,true,true,false,false,false,false,false,false,false,false,false,false,false,false,false,false,false,false,false] rfl rfl (one_of HT_.out (by kernel_rfl)) (by decide) (fun K hK=>?_);refine goes_ Tryd.func59 (by kernel_rfl) rfl #[.int .i64 ((rd_T77 l0 x10_1).f1)] (by rfl) rfl rfl zq28 ?_;with_reducible refine (money_fits.calls ((rd_T77 l0 x10_1).f1) true _ A8.out).mono ?_
            rintro e w' ⟨rfl,⟨nd,rfl⟩⟩;refine ⟨_,rfl,?_⟩;refine hK.out _ _ ⟨(blk_cell BK132.out 0).trans rfl,(blk_cell BK132.out 1).trans rfl,((HB.out.cell (World.block_lt_of_cell? w _ hw135_0)).trans hw135_0),((HB.out.cell (World.block_lt_of_cell? w _ hw135_1)).trans hw135_1)⟩ (fun hHeld=>?_);clear hK K;refine nA 22 ?_;refine pA 8 23 HT_.out ?_;refine pA 9 24 HT_.out ?_;refine pA 10 25 HT_.out ?_;refine pA 11 26 HT_.out ?_;refine pA 12 27 HT_.out ?_;refine pA 13 28 HT_.out ?_;refine pA 14 29 HT_.out ?_;refine pA 15 30 HT_.out ?_;refine pA 16 31 HT_.out ?_;refine pA 17 32 HT_.out ?_;refine pA 18 33 HT_.out ?_;refine pA 20 35 HT_.out ?_;refine tA 19 34 HT_.out HW_.out hHeld ?_;refine tA 21 36 HT_.out HW_.out hHeld ?_;refine pA 22 37 HT_.out ?_;refine pA 23 38 HT_.out ?_;refine pA 24 39 HT_.out ?_;refine done_ (done_of HT_.out (by kernel_rfl)) ?_;try go_wp2
            go_roundg k1
            case measure=>have:=HK1.out;omega
            case rel=>exact ⟨(wrap64 (x10_1+1)),zq1,H',⟨by have:=HK1.out;omega⟩,⟨zq116⟩⟩
           have c14b0:(Op.bytesLess (((rd_T77 l0 (ji11)).f0).toList) (((rd_T77 l0 x10_1).f0).toList))=false:=by simpa using c14
           clear c14;obtain rfl:=Option.some.inj H;have p131:0≤(x10_1:Int):=od;have q131:x10_1 < (l0.length:Int):=od;obtain ⟨ad131,e131,hx131_0,hx131_1⟩:=at_T77 HR0.out x10_1 p131 q131
           cases e131
           replace hx131_0:=(HB.out.cell (World.block_lt_of_cell? w _ hx131_0)).trans hx131_0;replace hx131_1:=(HB.out.cell (World.block_lt_of_cell? w _ hx131_1)).trans hx131_1;replace p131:=eq_true p131;replace q131:=eq_true q131;try go_wp2_with (first | ((with_reducible refine gate_dst (N:=4) rfl ?_);refine bxA 4 #[.string (⟨#[]⟩:ByteArray),.int .i64 0] 77 ?_;intro gb132 hg w20 hbox hb;have BK132:=sd (hbox);have GW132:=gem hg HB;have GE132:=GW132;replace HB:=hbm HB hb;clear hb hbox hg;obtain ⟨_,_,_,_⟩:=bk2 BK132))
           have n0_:Aside0 (((w20.setCell ⟨gb132,0,none⟩ (.string ((rd_T77 l0 x10_1).f0))).setCell ⟨gb132,1,none⟩ (.int .i64 ((rd_T77 l0 x10_1).f1))).heap[gb132]?=some (.cells #[.string ((rd_T77 l0 x10_1).f0),.int .i64 ((rd_T77 l0 x10_1).f1)] 77 (0,0))):=⟨zq115⟩
           have n1_:Aside0 (Below w.heap.size w ((w20.setCell ⟨gb132,0,none⟩ (.string ((rd_T77 l0 x10_1).f0))).setCell ⟨gb132,1,none⟩ (.int .i64 ((rd_T77 l0 x10_1).f1)))):=⟨zq116⟩
           (try clear BK132)
           (try clear HB)
           generalize ((w20.setCell ⟨gb132,0,none⟩ (.string ((rd_T77 l0 x10_1).f0))).setCell ⟨gb132,1,none⟩ (.int .i64 ((rd_T77 l0 x10_1).f1)))=w22 at n0_ n1_ ⊢;have BK132:=n0_;have HB:=n1_;clear n0_ n1_;replace BK132:=sd (blk_drew BK132.out);replace HB:=sd (below_drew1 HB.out);have p135:0≤((ji11):Int):=od;have q135:(ji11) < (l0.length:Int):=od;obtain ⟨ad135,e135,hx135_0,hx135_1⟩:=at_T77 HR0.out (ji11) p135 q135;have hw135_1:=hx135_1;have hw135_0:=hx135_0;obtain rfl:ad131=ad135:=(by injection e135)
           replace hx135_0:=(HB.out.cell (World.block_lt_of_cell? w _ hx135_0)).trans hx135_0;replace hx135_1:=(HB.out.cell (World.block_lt_of_cell? w _ hx135_1)).trans hx135_1;replace p135:=eq_true p135;replace q135:=eq_true q135;refine start_ (n:=25) (S:=fun w'=>w'.cell? ⟨gb132,0,none⟩=some (.string ((rd_T77 l0 x10_1).f0))∧w'.cell? ⟨gb132,1,none⟩=some (.int .i64 ((rd_T77 l0 x10_1).f1))∧w'.cell? (ad131.add (((ji11)).toNat * 2))=some (.string ((rd_T77 l0 (ji11)).f0))∧w'.cell? ⟨(ad131.add (((ji11)).toNat * 2)).block,(ad131.add (((ji11)).toNat * 2)).off+1,none⟩=some (.int .i64 ((rd_T77 l0 (ji11)).f1))) (ds:=[]) #[false,false,false,false,false,false,false,false,false,false,false,false,false,false,false,false,false,false,false,false,false,false,false,false,false] (by kernel_rfl) rfl rfl ⟨(blk_cell BK132.out 0).trans rfl,(blk_cell BK132.out 1).trans rfl,((HB.out.cell (World.block_lt_of_cell? w _ hw135_0)).trans hw135_0),((HB.out.cell (World.block_lt_of_cell? w _ hw135_1)).trans hw135_1)⟩ (fun hHeld=>?_);refine with_tabW money_Right.tab6 money_Right.bits6 (fun HT_ HW_=>?_);generalize w22.drew=w23 at BK132 HB hx135_0 hx135_1 hHeld ⊢;refine pA 0 15 HT_.out ?_;refine tA 1 16 HT_.out HW_.out hHeld ?_;refine one_ (i:=2) (N:=some 17) #[true,true,true,false,false,false,false,false,false,false,false,false,false,false,false,false,false,false,false,false,false,false,false,false,false] rfl rfl (one_of HT_.out (by kernel_rfl)) (by decide) (fun K hK=>?_);refine goes_ Tryd.func23 (by kernel_rfl) rfl #[.string ((rd_T77 l0 x10_1).f0)] (by rfl) rfl rfl zq28 ?_;with_reducible refine (money_Code.calls ((rd_T77 l0 x10_1).f0) true _ A6.out).mono ?_
           rintro e w24 ⟨rfl,hb⟩;refine ⟨_,rfl,?_⟩;replace BK132:=bkm BK132 hb;replace HB:=hbm HB hb;clear hb;refine hK.out _ _ ⟨(blk_cell BK132.out 0).trans rfl,(blk_cell BK132.out 1).trans rfl,((HB.out.cell (World.block_lt_of_cell? w _ hw135_0)).trans hw135_0),((HB.out.cell (World.block_lt_of_cell? w _ hw135_1)).trans hw135_1)⟩ (fun hHeld=>?_);clear hK K;refine nA 17 ?_;refine pA 3 18 HT_.out ?_;refine pA 4 19 HT_.out ?_;refine pA 5 20 HT_.out ?_;refine tA 6 21 HT_.out HW_.out hHeld ?_;refine one_ (i:=7) (N:=some 22) #[true,true,true,true,true,true,true,true,false,false,false,false,false,false,false,false,false,false,false,false,false,false,false,false,false] rfl rfl (one_of HT_.out (by kernel_rfl)) (by decide) (fun K hK=>?_);refine goes_ Tryd.func59 (by kernel_rfl) rfl #[.int .i64 ((rd_T77 l0 x10_1).f1)] (by rfl) rfl rfl zq28 ?_;with_reducible refine (money_fits.calls ((rd_T77 l0 x10_1).f1) true _ A8.out).mono ?_
           rintro e w' ⟨rfl,⟨nd,rfl⟩⟩;refine ⟨_,rfl,?_⟩;refine hK.out _ _ ⟨(blk_cell BK132.out 0).trans rfl,(blk_cell BK132.out 1).trans rfl,((HB.out.cell (World.block_lt_of_cell? w _ hw135_0)).trans hw135_0),((HB.out.cell (World.block_lt_of_cell? w _ hw135_1)).trans hw135_1)⟩ (fun hHeld=>?_);clear hK K;refine nA 22 ?_;refine pA 8 23 HT_.out ?_;refine pA 9 24 HT_.out ?_;refine pA 10 25 HT_.out ?_;refine pA 11 26 HT_.out ?_;refine pA 12 27 HT_.out ?_;refine pA 13 28 HT_.out ?_;refine pA 14 29 HT_.out ?_;refine pA 15 30 HT_.out ?_;refine pA 16 31 HT_.out ?_;refine pA 17 32 HT_.out ?_;refine pA 18 33 HT_.out ?_;refine pA 20 35 HT_.out ?_;refine tA 19 34 HT_.out HW_.out hHeld ?_;refine tA 21 36 HT_.out HW_.out hHeld ?_;refine pA 22 37 HT_.out ?_;refine pA 23 38 HT_.out ?_;refine pA 24 39 HT_.out ?_;refine done_ (done_of HT_.out (by kernel_rfl)) ?_;try go_wp2
           go_ret
           exact ⟨by first | rfl | (simp [errW_none,errW_some] <;> rfl) | (simp only [← hji11];first | rfl | (simp [errW_none,errW_some] <;> rfl)) | (simp [*,errW_none,errW_some] <;> rfl),zq116⟩
          exact absurd H (by simp)
         exact absurd H (by simp)
        have c10b0:decide (0 < x10_1)=false:=decide_eq_false c10;clear c10;have H':=sd H;clear H;have p131:0≤(x10_1:Int):=od;have q131:x10_1 < (l0.length:Int):=od;obtain ⟨ad131,e131,hx131_0,hx131_1⟩:=at_T77 HR0.out x10_1 p131 q131
        cases e131
        replace hx131_0:=(HB.out.cell (World.block_lt_of_cell? w _ hx131_0)).trans hx131_0;replace hx131_1:=(HB.out.cell (World.block_lt_of_cell? w _ hx131_1)).trans hx131_1;replace p131:=eq_true p131;replace q131:=eq_true q131;try go_wp2_with (first | ((with_reducible refine gate_dst (N:=4) rfl ?_);refine bxA 4 #[.string (⟨#[]⟩:ByteArray),.int .i64 0] 77 ?_;intro gb132 hg w25 hbox hb;have BK132:=sd (hbox);have GW132:=gem hg HB;have GE132:=GW132;replace HB:=hbm HB hb;clear hb hbox hg;obtain ⟨_,_,_,_⟩:=bk2 BK132))
        have n0_:Aside0 (((w25.setCell ⟨gb132,0,none⟩ (.string ((rd_T77 l0 x10_1).f0))).setCell ⟨gb132,1,none⟩ (.int .i64 ((rd_T77 l0 x10_1).f1))).heap[gb132]?=some (.cells #[.string ((rd_T77 l0 x10_1).f0),.int .i64 ((rd_T77 l0 x10_1).f1)] 77 (0,0))):=⟨zq115⟩
        have n1_:Aside0 (Below w.heap.size w ((w25.setCell ⟨gb132,0,none⟩ (.string ((rd_T77 l0 x10_1).f0))).setCell ⟨gb132,1,none⟩ (.int .i64 ((rd_T77 l0 x10_1).f1)))):=⟨zq116⟩
        (try clear BK132)
        (try clear HB)
        generalize ((w25.setCell ⟨gb132,0,none⟩ (.string ((rd_T77 l0 x10_1).f0))).setCell ⟨gb132,1,none⟩ (.int .i64 ((rd_T77 l0 x10_1).f1)))=w27 at n0_ n1_ ⊢;have BK132:=n0_;have HB:=n1_;clear n0_ n1_;replace BK132:=sd (blk_drew BK132.out);replace HB:=sd (below_drew1 HB.out);refine start_ (n:=25) (S:=fun w'=>w'.cell? ⟨gb132,0,none⟩=some (.string ((rd_T77 l0 x10_1).f0))∧w'.cell? ⟨gb132,1,none⟩=some (.int .i64 ((rd_T77 l0 x10_1).f1))) (ds:=[]) #[false,false,false,false,false,false,false,false,false,false,false,false,false,false,false,false,false,false,false,false,false,false,false,false,false] (by kernel_rfl) rfl rfl ⟨(blk_cell BK132.out 0).trans rfl,(blk_cell BK132.out 1).trans rfl⟩ (fun hHeld=>?_);refine with_tabW money_Right.tab6 money_Right.bits6 (fun HT_ HW_=>?_);generalize w27.drew=w28 at BK132 HB hHeld ⊢;refine pA 0 15 HT_.out ?_;refine tA 1 16 HT_.out HW_.out hHeld ?_;refine one_ (i:=2) (N:=some 17) #[true,true,true,false,false,false,false,false,false,false,false,false,false,false,false,false,false,false,false,false,false,false,false,false,false] rfl rfl (one_of HT_.out (by kernel_rfl)) (by decide) (fun K hK=>?_);refine goes_ Tryd.func23 (by kernel_rfl) rfl #[.string ((rd_T77 l0 x10_1).f0)] (by rfl) rfl rfl zq28 ?_;with_reducible refine (money_Code.calls ((rd_T77 l0 x10_1).f0) true _ A6.out).mono ?_
        rintro e w29 ⟨rfl,hb⟩;refine ⟨_,rfl,?_⟩;replace BK132:=bkm BK132 hb;replace HB:=hbm HB hb;clear hb;refine hK.out _ _ ⟨(blk_cell BK132.out 0).trans rfl,(blk_cell BK132.out 1).trans rfl⟩ (fun hHeld=>?_);clear hK K;refine nA 17 ?_;refine pA 3 18 HT_.out ?_;refine pA 4 19 HT_.out ?_;refine pA 5 20 HT_.out ?_;refine tA 6 21 HT_.out HW_.out hHeld ?_;refine one_ (i:=7) (N:=some 22) #[true,true,true,true,true,true,true,true,false,false,false,false,false,false,false,false,false,false,false,false,false,false,false,false,false] rfl rfl (one_of HT_.out (by kernel_rfl)) (by decide) (fun K hK=>?_);refine goes_ Tryd.func59 (by kernel_rfl) rfl #[.int .i64 ((rd_T77 l0 x10_1).f1)] (by rfl) rfl rfl zq28 ?_;with_reducible refine (money_fits.calls ((rd_T77 l0 x10_1).f1) true _ A8.out).mono ?_
        rintro e w' ⟨rfl,⟨nd,rfl⟩⟩;refine ⟨_,rfl,?_⟩;refine hK.out _ _ ⟨(blk_cell BK132.out 0).trans rfl,(blk_cell BK132.out 1).trans rfl⟩ (fun hHeld=>?_);clear hK K;refine nA 22 ?_;refine pA 8 23 HT_.out ?_;refine pA 9 24 HT_.out ?_;refine pA 10 25 HT_.out ?_;refine pA 11 26 HT_.out ?_;refine pA 12 27 HT_.out ?_;refine pA 13 28 HT_.out ?_;refine oA 14 29 HT_.out ?_;refine oA 15 30 HT_.out ?_;refine oA 16 31 HT_.out ?_;refine oA 17 32 HT_.out ?_;refine oA 18 33 HT_.out ?_;refine oA 19 34 HT_.out ?_;refine oA 20 35 HT_.out ?_;refine oA 21 36 HT_.out ?_;refine oA 22 37 HT_.out ?_;refine pA 23 38 HT_.out ?_;refine pA 24 39 HT_.out ?_;refine done_ (done_of HT_.out (by kernel_rfl)) ?_;try go_wp2
        go_roundg k1
        case measure=>have:=HK1.out;omega
        case rel=>exact ⟨(wrap64 (x10_1+1)),zq1,H',⟨by have:=HK1.out;omega⟩,⟨zq116⟩⟩
       replace c9:=Bool.eq_false_iff.mpr c9;subst c9;rw [if_neg Bool.false_ne_true] at H;obtain rfl:=Option.some.inj H;have p131:0≤(x10_1:Int):=od;have q131:x10_1 < (l0.length:Int):=od;obtain ⟨ad131,e131,hx131_0,hx131_1⟩:=at_T77 HR0.out x10_1 p131 q131
       cases e131
       replace hx131_0:=(HB.out.cell (World.block_lt_of_cell? w _ hx131_0)).trans hx131_0;replace hx131_1:=(HB.out.cell (World.block_lt_of_cell? w _ hx131_1)).trans hx131_1;replace p131:=eq_true p131;replace q131:=eq_true q131;try go_wp2_with (first | ((with_reducible refine gate_dst (N:=4) rfl ?_);refine bxA 4 #[.string (⟨#[]⟩:ByteArray),.int .i64 0] 77 ?_;intro gb132 hg w30 hbox hb;have BK132:=sd (hbox);have GW132:=gem hg HB;have GE132:=GW132;replace HB:=hbm HB hb;clear hb hbox hg;obtain ⟨_,_,_,_⟩:=bk2 BK132))
       have n0_:Aside0 (((w30.setCell ⟨gb132,0,none⟩ (.string ((rd_T77 l0 x10_1).f0))).setCell ⟨gb132,1,none⟩ (.int .i64 ((rd_T77 l0 x10_1).f1))).heap[gb132]?=some (.cells #[.string ((rd_T77 l0 x10_1).f0),.int .i64 ((rd_T77 l0 x10_1).f1)] 77 (0,0))):=⟨zq115⟩
       have n1_:Aside0 (Below w.heap.size w ((w30.setCell ⟨gb132,0,none⟩ (.string ((rd_T77 l0 x10_1).f0))).setCell ⟨gb132,1,none⟩ (.int .i64 ((rd_T77 l0 x10_1).f1)))):=⟨zq116⟩
       (try clear BK132)
       (try clear HB)
       generalize ((w30.setCell ⟨gb132,0,none⟩ (.string ((rd_T77 l0 x10_1).f0))).setCell ⟨gb132,1,none⟩ (.int .i64 ((rd_T77 l0 x10_1).f1)))=w32 at n0_ n1_ ⊢;have BK132:=n0_;have HB:=n1_;clear n0_ n1_;replace BK132:=sd (blk_drew BK132.out);replace HB:=sd (below_drew1 HB.out);refine start_ (n:=25) (S:=fun w'=>w'.cell? ⟨gb132,0,none⟩=some (.string ((rd_T77 l0 x10_1).f0))∧w'.cell? ⟨gb132,1,none⟩=some (.int .i64 ((rd_T77 l0 x10_1).f1))) (ds:=[]) #[false,false,false,false,false,false,false,false,false,false,false,false,false,false,false,false,false,false,false,false,false,false,false,false,false] (by kernel_rfl) rfl rfl ⟨(blk_cell BK132.out 0).trans rfl,(blk_cell BK132.out 1).trans rfl⟩ (fun hHeld=>?_);refine with_tabW money_Right.tab6 money_Right.bits6 (fun HT_ HW_=>?_);generalize w32.drew=w33 at BK132 HB hHeld ⊢;refine pA 0 15 HT_.out ?_;refine tA 1 16 HT_.out HW_.out hHeld ?_;refine one_ (i:=2) (N:=some 17) #[true,true,true,false,false,false,false,false,false,false,false,false,false,false,false,false,false,false,false,false,false,false,false,false,false] rfl rfl (one_of HT_.out (by kernel_rfl)) (by decide) (fun K hK=>?_);refine goes_ Tryd.func23 (by kernel_rfl) rfl #[.string ((rd_T77 l0 x10_1).f0)] (by rfl) rfl rfl zq28 ?_;with_reducible refine (money_Code.calls ((rd_T77 l0 x10_1).f0) true _ A6.out).mono ?_
       rintro e w34 ⟨rfl,hb⟩;refine ⟨_,rfl,?_⟩;replace BK132:=bkm BK132 hb;replace HB:=hbm HB hb;clear hb;refine hK.out _ _ ⟨(blk_cell BK132.out 0).trans rfl,(blk_cell BK132.out 1).trans rfl⟩ (fun hHeld=>?_);clear hK K;refine nA 17 ?_;refine pA 3 18 HT_.out ?_;refine pA 4 19 HT_.out ?_;refine pA 5 20 HT_.out ?_;refine tA 6 21 HT_.out HW_.out hHeld ?_;refine one_ (i:=7) (N:=some 22) #[true,true,true,true,true,true,true,true,false,false,false,false,false,false,false,false,false,false,false,false,false,false,false,false,false] rfl rfl (one_of HT_.out (by kernel_rfl)) (by decide) (fun K hK=>?_);refine goes_ Tryd.func59 (by kernel_rfl) rfl #[.int .i64 ((rd_T77 l0 x10_1).f1)] (by rfl) rfl rfl zq28 ?_;with_reducible refine (money_fits.calls ((rd_T77 l0 x10_1).f1) false _ A8.out).mono ?_
       rintro e w' ⟨rfl,⟨nd,rfl⟩⟩;refine ⟨_,rfl,?_⟩;refine hK.out _ _ ⟨(blk_cell BK132.out 0).trans rfl,(blk_cell BK132.out 1).trans rfl⟩ (fun hHeld=>?_);clear hK K;refine nA 22 ?_;refine pA 8 23 HT_.out ?_;refine pA 9 24 HT_.out ?_;refine pA 10 25 HT_.out ?_;refine oA 11 26 HT_.out ?_;refine oA 12 27 HT_.out ?_;refine oA 13 28 HT_.out ?_;refine oA 14 29 HT_.out ?_;refine oA 15 30 HT_.out ?_;refine oA 16 31 HT_.out ?_;refine oA 17 32 HT_.out ?_;refine oA 18 33 HT_.out ?_;refine oA 19 34 HT_.out ?_;refine oA 20 35 HT_.out ?_;refine oA 21 36 HT_.out ?_;refine oA 22 37 HT_.out ?_;refine oA 23 38 HT_.out ?_;refine pA 24 39 HT_.out ?_;refine done_ (done_of HT_.out (by kernel_rfl)) ?_;try go_wp2
       go_ret
       exact ⟨zq10,zq116⟩
      replace c7:=Bool.eq_false_iff.mpr c7;subst c7;rw [if_neg Bool.false_ne_true] at H;obtain rfl:=Option.some.inj H;have p131:0≤(x10_1:Int):=od;have q131:x10_1 < (l0.length:Int):=od;obtain ⟨ad131,e131,hx131_0,hx131_1⟩:=at_T77 HR0.out x10_1 p131 q131
      cases e131
      replace hx131_0:=(HB.out.cell (World.block_lt_of_cell? w _ hx131_0)).trans hx131_0;replace hx131_1:=(HB.out.cell (World.block_lt_of_cell? w _ hx131_1)).trans hx131_1;replace p131:=eq_true p131;replace q131:=eq_true q131;try go_wp2_with (first | ((with_reducible refine gate_dst (N:=4) rfl ?_);refine bxA 4 #[.string (⟨#[]⟩:ByteArray),.int .i64 0] 77 ?_;intro gb132 hg w35 hbox hb;have BK132:=sd (hbox);have GW132:=gem hg HB;have GE132:=GW132;replace HB:=hbm HB hb;clear hb hbox hg;obtain ⟨_,_,_,_⟩:=bk2 BK132))
      have n0_:Aside0 (((w35.setCell ⟨gb132,0,none⟩ (.string ((rd_T77 l0 x10_1).f0))).setCell ⟨gb132,1,none⟩ (.int .i64 ((rd_T77 l0 x10_1).f1))).heap[gb132]?=some (.cells #[.string ((rd_T77 l0 x10_1).f0),.int .i64 ((rd_T77 l0 x10_1).f1)] 77 (0,0))):=⟨zq115⟩
      have n1_:Aside0 (Below w.heap.size w ((w35.setCell ⟨gb132,0,none⟩ (.string ((rd_T77 l0 x10_1).f0))).setCell ⟨gb132,1,none⟩ (.int .i64 ((rd_T77 l0 x10_1).f1)))):=⟨zq116⟩
      (try clear BK132)
      (try clear HB)
      generalize ((w35.setCell ⟨gb132,0,none⟩ (.string ((rd_T77 l0 x10_1).f0))).setCell ⟨gb132,1,none⟩ (.int .i64 ((rd_T77 l0 x10_1).f1)))=w37 at n0_ n1_ ⊢;have BK132:=n0_;have HB:=n1_;clear n0_ n1_;replace BK132:=sd (blk_drew BK132.out);replace HB:=sd (below_drew1 HB.out);refine start_ (n:=25) (S:=fun w'=>w'.cell? ⟨gb132,0,none⟩=some (.string ((rd_T77 l0 x10_1).f0))∧w'.cell? ⟨gb132,1,none⟩=some (.int .i64 ((rd_T77 l0 x10_1).f1))) (ds:=[]) #[false,false,false,false,false,false,false,false,false,false,false,false,false,false,false,false,false,false,false,false,false,false,false,false,false] (by kernel_rfl) rfl rfl ⟨(blk_cell BK132.out 0).trans rfl,(blk_cell BK132.out 1).trans rfl⟩ (fun hHeld=>?_);refine with_tabW money_Right.tab6 money_Right.bits6 (fun HT_ HW_=>?_);generalize w37.drew=w38 at BK132 HB hHeld ⊢;refine pA 0 15 HT_.out ?_;refine tA 1 16 HT_.out HW_.out hHeld ?_;refine one_ (i:=2) (N:=some 17) #[true,true,true,false,false,false,false,false,false,false,false,false,false,false,false,false,false,false,false,false,false,false,false,false,false] rfl rfl (one_of HT_.out (by kernel_rfl)) (by decide) (fun K hK=>?_);refine goes_ Tryd.func23 (by kernel_rfl) rfl #[.string ((rd_T77 l0 x10_1).f0)] (by rfl) rfl rfl zq28 ?_;with_reducible refine (money_Code.calls ((rd_T77 l0 x10_1).f0) false _ A6.out).mono ?_
      rintro e w39 ⟨rfl,hb⟩;refine ⟨_,rfl,?_⟩;replace BK132:=bkm BK132 hb;replace HB:=hbm HB hb;clear hb;refine hK.out _ _ ⟨(blk_cell BK132.out 0).trans rfl,(blk_cell BK132.out 1).trans rfl⟩ (fun hHeld=>?_);clear hK K;refine nA 17 ?_;refine pA 3 18 HT_.out ?_;refine pA 4 19 HT_.out ?_;refine oA 5 20 HT_.out ?_;refine oA 6 21 HT_.out ?_;refine oA 7 22 HT_.out ?_;refine oA 8 23 HT_.out ?_;refine pA 9 24 HT_.out ?_;refine pA 10 25 HT_.out ?_;refine oA 11 26 HT_.out ?_;refine oA 12 27 HT_.out ?_;refine oA 13 28 HT_.out ?_;refine oA 14 29 HT_.out ?_;refine oA 15 30 HT_.out ?_;refine oA 16 31 HT_.out ?_;refine oA 17 32 HT_.out ?_;refine oA 18 33 HT_.out ?_;refine oA 19 34 HT_.out ?_;refine oA 20 35 HT_.out ?_;refine oA 21 36 HT_.out ?_;refine oA 22 37 HT_.out ?_;refine oA 23 38 HT_.out ?_;refine pA 24 39 HT_.out ?_;refine done_ (done_of HT_.out (by kernel_rfl)) ?_;try go_wp2
      go_ret
      exact ⟨zq10,zq116⟩
     exact absurd H (by simp)
    exact absurd H (by simp)
   have c3b0:decide (x10_1 < (l0.length:Int))=false:=decide_eq_false c3;clear c3;obtain rfl:=Option.some.inj H;go_wp2
   go_ret
   exact ⟨zq10,zq7⟩
theorem num_Add_eq (a b:Int) (ha:I64 a) (hb:I64 b):num_Add.f a b=some (fit (a+b)):=by
 unfold num_Add.f;unfold I64 at ha hb;have hw:I64 (a+b)→wrap64 (a+b)=a+b:=by unfold I64;unfold wrap64;omega
 have hlo:a+b < -9223372036854775808→wrap64 (a+b)=a+b+18446744073709551616:=by unfold wrap64;omega
 have hhi:9223372036854775807 < a+b→wrap64 (a+b)=a+b - 18446744073709551616:=by unfold wrap64;omega
 by_cases h:I64 (a+b)
 ·rw [hw h,fit_yes h];by_cases hb0:b=0
  ·subst hb0;simp
  by_cases hb1:b > 0
  ·rw [if_neg (by rw [decide_eq_true (show a+b > a by omega),decide_eq_true hb1];decide)]
  rw [if_neg (by rw [decide_eq_false (show ¬ a+b > a by omega),decide_eq_false hb1];decide)]
 rw [fit_no h];unfold I64 at h;by_cases h1:a+b < -9223372036854775808
 ·rw [hlo h1,if_pos (by rw [decide_eq_true (show a+b+18446744073709551616 > a by omega),decide_eq_false (show ¬ b > 0 by omega)];decide),if_neg (by omega)]
 rw [hhi (by omega),if_pos (by rw [decide_eq_false (show ¬ a+b - 18446744073709551616 > a by omega),decide_eq_true (show b > 0 by omega)];decide),if_neg (by omega)]
theorem num_Sub_eq (a b:Int) (ha:I64 a) (hb:I64 b):num_Sub.f a b=some (fit (a - b)):=by
 unfold num_Sub.f;unfold I64 at ha hb;have hw:I64 (a - b)→wrap64 (a - b)=a - b:=by unfold I64;unfold wrap64;omega
 have hlo:a - b < -9223372036854775808→wrap64 (a - b)=a - b+18446744073709551616:=by unfold wrap64;omega
 have hhi:9223372036854775807 < a - b→wrap64 (a - b)=a - b - 18446744073709551616:=by unfold wrap64;omega
 by_cases h:I64 (a - b)
 ·rw [hw h,fit_yes h];by_cases hb0:b=0
  ·subst hb0;simp
  by_cases hb1:b > 0
  ·rw [if_neg (by rw [decide_eq_true (show a - b < a by omega),decide_eq_true hb1];decide)]
  rw [if_neg (by rw [decide_eq_false (show ¬ a - b < a by omega),decide_eq_false hb1];decide)]
 rw [fit_no h];unfold I64 at h;by_cases h1:a - b < -9223372036854775808
 ·rw [hlo h1,if_pos (by rw [decide_eq_false (show ¬ a - b+18446744073709551616 < a by omega),decide_eq_true (show b > 0 by omega)];decide),if_neg (by omega)]
 rw [hhi (by omega),if_pos (by rw [decide_eq_true (show a - b - 18446744073709551616 < a by omega),decide_eq_false (show ¬ b > 0 by omega)];decide),if_neg (by omega)]
end Go.Proofs.YtmlcdpfcafmmcaaDoor.A
