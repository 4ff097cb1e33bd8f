-- By pack.py, a program of this session's.
import Derived.Test.YtmlcdpfcafmmcaaDoorX21
import Derived.Test.YtmlcdpfcafmmcaaDoorX56
set_option linter.unusedVariables false
set_option linter.unusedSimpArgs false
namespace Go.Proofs.YtmlcdpfcafmmcaaDoor.A
open Go.RowKit B WW WL WM
attribute [local go_sem] max2_int min2_int max_two min_two max_three min_three max_four min_four
set_option maxHeartbeats 8000000
set_option maxRecDepth 100000
theorem rf47_Text.calls (k:Nat) (a0_0 a0_1:ByteArray) (a0_2 a0_3 a0_4:Int) (A0_5:Option Addr) (c0_5:Nat) (l0_5:List (S44)) (A1:Option Addr) (c1:Nat) (l1:List (S77)) (r1:ByteArray) (r2:Int) (w:World) (hr0_5:Kd.C k44 w A0_5 l0_5.length l0_5) (hc0_5:l0_5.length≤c0_5) (hr1:Kd.C k77 w A1 l1.length l1) (hc1:l1.length≤c1) (h:rf47_Text.f k a0_0 a0_1 a0_2 a0_3 a0_4 l0_5 l1=some (r1,r2)) :
  Calls Tryd.prog 17 #[.agg #[.string a0_0,.string a0_1,.int .i64 a0_2,.int .i64 a0_3,.int .i64 a0_4,.slice A0_5 l0_5.length c0_5],.slice A1 l1.length c1] w fun e w'=>e=.returned (.tuple #[.string r1,.int .i64 r2])∧Below w.heap.size w w':=by
 have hu24:=Tryd.underlying24;have hu44:=Tryd.underlying44;have HR0_5:=sd hr0_5;have HC0_5:=sd hc0_5;clear hr0_5 hc0_5;have HR1:=sd hr1;have HC1:=sd hc1;clear hr1 hc1;have HB:=sd (Below.refl w.heap.size w);have H:=h;clear h;unfold rf47_Text.f at H;replace H:=bdI H;obtain ⟨t309,A3,H⟩:=H;(try dsimp only at H)
 by_cases c4:t309=true
 ·subst c4;rw [if_pos rfl] at H;replace H:=bdI H;obtain ⟨t310,A5,H⟩:=H;(try dsimp only at H)
  replace H:=ifI H;rcases H with ⟨c6,H⟩ | ⟨c6,H⟩
  ·obtain ⟨c6b0,c6b1⟩:=eqI c6;clear c6;replace H:=bdI H;obtain ⟨⟨t311,t312⟩,A7,H⟩:=H;(try dsimp only at H)
   by_cases c8:t312=true
   ·subst c8;rw [if_pos rfl] at H;replace H:=bdI H;obtain ⟨⟨t313,t314⟩,A9,H⟩:=H;(try dsimp only at H)
    replace H:=ifI H;rcases H with ⟨c10,H⟩ | ⟨c10,H⟩
    ·have c10b0:=eq_true c10;have c10b1:decide (10+a0_0.size≤9223372036854775807)=true:=decide_eq_true c10;try have c10b2:(9223372036854775807 < 10+a0_0.size)=False:=eq_false (Nat.not_lt.2 c10)
     replace H:=ifI H;rcases H with ⟨c11,H⟩ | ⟨c11,H⟩
     ·have c11b0:=eq_true c11;have c11b1:decide (((⟨#[115,116,97,116,101,109,101,110,116,32]⟩:ByteArray)++a0_0).size+1≤9223372036854775807)=true:=decide_eq_true c11;try have c11b2:(9223372036854775807 < ((⟨#[115,116,97,116,101,109,101,110,116,32]⟩:ByteArray)++a0_0).size+1)=False:=eq_false (Nat.not_lt.2 c11)
      try have c11y:(9223372036854775807 < 10+a0_0.size+1)=False:=by have h_:=c11b2;simp only [ByteArray.size_append] at h_;exact h_
      replace H:=ifI H;rcases H with ⟨c12,H⟩ | ⟨c12,H⟩
      ·have c12b0:=eq_true c12;have c12b1:decide ((((⟨#[115,116,97,116,101,109,101,110,116,32]⟩:ByteArray)++a0_0)++(⟨#[32]⟩:ByteArray)).size+a0_1.size≤9223372036854775807)=true:=decide_eq_true c12;try have c12b2:(9223372036854775807 < (((⟨#[115,116,97,116,101,109,101,110,116,32]⟩:ByteArray)++a0_0)++(⟨#[32]⟩:ByteArray)).size+a0_1.size)=False:=eq_false (Nat.not_lt.2 c12)
       try have c12y:(9223372036854775807 < 10+a0_0.size+1+a0_1.size)=False:=by have h_:=c12b2;simp only [ByteArray.size_append] at h_;exact h_
       replace H:=ifI H;rcases H with ⟨c13,H⟩ | ⟨c13,H⟩
       ·have c13b0:=eq_true c13;have c13b1:decide (((((⟨#[115,116,97,116,101,109,101,110,116,32]⟩:ByteArray)++a0_0)++(⟨#[32]⟩:ByteArray))++a0_1).size+1≤9223372036854775807)=true:=decide_eq_true c13;try have c13b2:(9223372036854775807 < ((((⟨#[115,116,97,116,101,109,101,110,116,32]⟩:ByteArray)++a0_0)++(⟨#[32]⟩:ByteArray))++a0_1).size+1)=False:=eq_false (Nat.not_lt.2 c13)
        try have c13y:(9223372036854775807 < 10+a0_0.size+1+a0_1.size+1)=False:=by have h_:=c13b2;simp only [ByteArray.size_append] at h_;exact h_
        replace H:=bdI H;obtain ⟨t315,A14,H⟩:=H;(try dsimp only at H)
        replace H:=ifI H;rcases H with ⟨c15,H⟩ | ⟨c15,H⟩
        ·have c15b0:=eq_true c15;have c15b1:decide ((((((⟨#[115,116,97,116,101,109,101,110,116,32]⟩:ByteArray)++a0_0)++(⟨#[32]⟩:ByteArray))++a0_1)++(⟨#[32]⟩:ByteArray)).size+t315.size≤9223372036854775807)=true:=decide_eq_true c15;try have c15b2:(9223372036854775807 < (((((⟨#[115,116,97,116,101,109,101,110,116,32]⟩:ByteArray)++a0_0)++(⟨#[32]⟩:ByteArray))++a0_1)++(⟨#[32]⟩:ByteArray)).size+t315.size)=False:=eq_false (Nat.not_lt.2 c15)
         try have c15y:(9223372036854775807 < 10+a0_0.size+1+a0_1.size+1+t315.size)=False:=by have h_:=c15b2;simp only [ByteArray.size_append] at h_;exact h_
         replace H:=ifI H;rcases H with ⟨c16,H⟩ | ⟨c16,H⟩
         ·have c16b0:=eq_true c16;have c16b1:decide (((((((⟨#[115,116,97,116,101,109,101,110,116,32]⟩:ByteArray)++a0_0)++(⟨#[32]⟩:ByteArray))++a0_1)++(⟨#[32]⟩:ByteArray))++t315).size+6≤9223372036854775807)=true:=decide_eq_true c16;try have c16b2:(9223372036854775807 < ((((((⟨#[115,116,97,116,101,109,101,110,116,32]⟩:ByteArray)++a0_0)++(⟨#[32]⟩:ByteArray))++a0_1)++(⟨#[32]⟩:ByteArray))++t315).size+6)=False:=eq_false (Nat.not_lt.2 c16)
          try have c16y:(9223372036854775807 < 10+a0_0.size+1+a0_1.size+1+t315.size+6)=False:=by have h_:=c16b2;simp only [ByteArray.size_append] at h_;exact h_
          replace H:=ifI H;rcases H with ⟨c17,H⟩ | ⟨c17,H⟩
          ·have c17b0:=eq_true c17;have c17b1:decide ((((((((⟨#[115,116,97,116,101,109,101,110,116,32]⟩:ByteArray)++a0_0)++(⟨#[32]⟩:ByteArray))++a0_1)++(⟨#[32]⟩:ByteArray))++t315)++(⟨#[10,111,112,101,110,32]⟩:ByteArray)).size+t313.size≤9223372036854775807)=true:=decide_eq_true c17;try have c17b2:(9223372036854775807 < (((((((⟨#[115,116,97,116,101,109,101,110,116,32]⟩:ByteArray)++a0_0)++(⟨#[32]⟩:ByteArray))++a0_1)++(⟨#[32]⟩:ByteArray))++t315)++(⟨#[10,111,112,101,110,32]⟩:ByteArray)).size+t313.size)=False:=eq_false (Nat.not_lt.2 c17)
           try have c17y:(9223372036854775807 < 10+a0_0.size+1+a0_1.size+1+t315.size+6+t313.size)=False:=by have h_:=c17b2;simp only [ByteArray.size_append] at h_;exact h_
           replace H:=ifI H;rcases H with ⟨c18,H⟩ | ⟨c18,H⟩
           ·have c18b0:=eq_true c18;have c18b1:decide (((((((((⟨#[115,116,97,116,101,109,101,110,116,32]⟩:ByteArray)++a0_0)++(⟨#[32]⟩:ByteArray))++a0_1)++(⟨#[32]⟩:ByteArray))++t315)++(⟨#[10,111,112,101,110,32]⟩:ByteArray))++t313).size+1≤9223372036854775807)=true:=decide_eq_true c18;try have c18b2:(9223372036854775807 < ((((((((⟨#[115,116,97,116,101,109,101,110,116,32]⟩:ByteArray)++a0_0)++(⟨#[32]⟩:ByteArray))++a0_1)++(⟨#[32]⟩:ByteArray))++t315)++(⟨#[10,111,112,101,110,32]⟩:ByteArray))++t313).size+1)=False:=eq_false (Nat.not_lt.2 c18)
            try have c18y:(9223372036854775807 < 10+a0_0.size+1+a0_1.size+1+t315.size+6+t313.size+1)=False:=by have h_:=c18b2;simp only [ByteArray.size_append] at h_;exact h_
            have H':=sd H;clear H;go_enter Tryd.func17,Tryd.ntmps17
            go_wp2_with (first | ((with_reducible refine gate_dst (N:=2) rfl ?_);refine bxA 2 #[.string a0_0,.string a0_1,.int .i64 a0_2,.int .i64 a0_3,.int .i64 a0_4,.slice A0_5 l0_5.length c0_5] 24 ?_;intro gb308 hg w19 hbox hb;have BK308:=sd (hbox);have GW308:=gem hg HB;have GE308:=GW308;replace HB:=hbm HB hb;clear hb hbox hg) | (go_at_call 38;(with_reducible refine (rf07_Right.calls k _ _ l1 true _ ?side1 ?side2 A3.out).mono ?_);(case side1=>exact zq35);(case side2=>exact HC1.out);rintro e w20 ⟨rfl,hb⟩;replace BK308:=bkm BK308 hb;replace HB:=hbm HB hb;clear hb;obtain ⟨_,_,_,_,_,_,_,_,_,_,_,_⟩:=bk6 BK308) | (go_at_call 13;(with_reducible refine (rf47_Check.calls k a0_0 a0_1 a0_2 a0_3 a0_4 _ _ l0_5 t310 _ ?side1 ?side2 A5.out).mono ?_);(case side1=>exact zq25);(case side2=>exact HC0_5.out);rintro e w22 ⟨rfl,hb⟩;replace BK308:=bkm BK308 hb;replace HB:=hbm HB hb;clear hb;obtain ⟨_,_,_,_,_,_,_,_,_,_,_,_⟩:=bk6 BK308) | (go_at_call 39;(with_reducible refine (rf07_Digits.calls k _ _ l1 a0_1 t311 true _ ?side1 ?side2 A7.out).mono ?_);(case side1=>exact zq35);(case side2=>exact HC1.out);rintro e w24 ⟨rfl,hb⟩;replace BK308:=bkm BK308 hb;replace HB:=hbm HB hb;clear hb;obtain ⟨_,_,_,_,_,_,_,_,_,_,_,_⟩:=bk6 BK308) | (go_at_call 40;(with_reducible refine (rf07_Text.calls k a0_3 t311 t313 t314 _ A9.out).mono ?_);rintro e w' ⟨rfl,⟨nd,rfl⟩⟩;(try first | exact ⟨rfl,_,World.drewN_drewN _ _ _⟩ | exact ⟨rfl,_,Eq.trans (World.drewN_drewN _ _ _) (congrArg (World.drewN _) (Nat.add_assoc _ _ _))⟩)) | (go_at_call 41;(with_reducible refine (rf01_Text.calls k a0_2 t315 _ A14.out).mono ?_);rintro e w' ⟨rfl,⟨nd,rfl⟩⟩;(try first | exact ⟨rfl,_,World.drewN_drewN _ _ _⟩ | exact ⟨rfl,_,Eq.trans (World.drewN_drewN _ _ _) (congrArg (World.drewN _) (Nat.add_assoc _ _ _))⟩)))
            repeat (go_quiet (first | ((with_reducible refine gate_dst (N:=2) rfl ?_);refine bxA 2 #[.string a0_0,.string a0_1,.int .i64 a0_2,.int .i64 a0_3,.int .i64 a0_4,.slice A0_5 l0_5.length c0_5] 24 ?_;intro gb308 hg w19 hbox hb;have BK308:=sd (hbox);have GW308:=gem hg HB;have GE308:=GW308;replace HB:=hbm HB hb;clear hb hbox hg) | (go_at_call 38;(with_reducible refine (rf07_Right.calls k _ _ l1 true _ ?side1 ?side2 A3.out).mono ?_);(case side1=>exact zq35);(case side2=>exact HC1.out);rintro e w20 ⟨rfl,hb⟩;replace BK308:=bkm BK308 hb;replace HB:=hbm HB hb;clear hb;obtain ⟨_,_,_,_,_,_,_,_,_,_,_,_⟩:=bk6 BK308) | (go_at_call 13;(with_reducible refine (rf47_Check.calls k a0_0 a0_1 a0_2 a0_3 a0_4 _ _ l0_5 t310 _ ?side1 ?side2 A5.out).mono ?_);(case side1=>exact zq25);(case side2=>exact HC0_5.out);rintro e w22 ⟨rfl,hb⟩;replace BK308:=bkm BK308 hb;replace HB:=hbm HB hb;clear hb;obtain ⟨_,_,_,_,_,_,_,_,_,_,_,_⟩:=bk6 BK308) | (go_at_call 39;(with_reducible refine (rf07_Digits.calls k _ _ l1 a0_1 t311 true _ ?side1 ?side2 A7.out).mono ?_);(case side1=>exact zq35);(case side2=>exact HC1.out);rintro e w24 ⟨rfl,hb⟩;replace BK308:=bkm BK308 hb;replace HB:=hbm HB hb;clear hb;obtain ⟨_,_,_,_,_,_,_,_,_,_,_,_⟩:=bk6 BK308) | (go_at_call 40;(with_reducible refine (rf07_Text.calls k a0_3 t311 t313 t314 _ A9.out).mono ?_);rintro e w' ⟨rfl,⟨nd,rfl⟩⟩;(try first | exact ⟨rfl,_,World.drewN_drewN _ _ _⟩ | exact ⟨rfl,_,Eq.trans (World.drewN_drewN _ _ _) (congrArg (World.drewN _) (Nat.add_assoc _ _ _))⟩)) | (go_at_call 41;(with_reducible refine (rf01_Text.calls k a0_2 t315 _ A14.out).mono ?_);rintro e w' ⟨rfl,⟨nd,rfl⟩⟩;(try first | exact ⟨rfl,_,World.drewN_drewN _ _ _⟩ | exact ⟨rfl,_,Eq.trans (World.drewN_drewN _ _ _) (congrArg (World.drewN _) (Nat.add_assoc _ _ _))⟩)));try go_wp2_with (first | ((with_reducible refine gate_dst (N:=2) rfl ?_);refine bxA 2 #[.string a0_0,.string a0_1,.int .i64 a0_2,.int .i64 a0_3,.int .i64 a0_4,.slice A0_5 l0_5.length c0_5] 24 ?_;intro gb308 hg w19 hbox hb;have BK308:=sd (hbox);have GW308:=gem hg HB;have GE308:=GW308;replace HB:=hbm HB hb;clear hb hbox hg) | (go_at_call 38;(with_reducible refine (rf07_Right.calls k _ _ l1 true _ ?side1 ?side2 A3.out).mono ?_);(case side1=>exact zq35);(case side2=>exact HC1.out);rintro e w20 ⟨rfl,hb⟩;replace BK308:=bkm BK308 hb;replace HB:=hbm HB hb;clear hb;obtain ⟨_,_,_,_,_,_,_,_,_,_,_,_⟩:=bk6 BK308) | (go_at_call 13;(with_reducible refine (rf47_Check.calls k a0_0 a0_1 a0_2 a0_3 a0_4 _ _ l0_5 t310 _ ?side1 ?side2 A5.out).mono ?_);(case side1=>exact zq25);(case side2=>exact HC0_5.out);rintro e w22 ⟨rfl,hb⟩;replace BK308:=bkm BK308 hb;replace HB:=hbm HB hb;clear hb;obtain ⟨_,_,_,_,_,_,_,_,_,_,_,_⟩:=bk6 BK308) | (go_at_call 39;(with_reducible refine (rf07_Digits.calls k _ _ l1 a0_1 t311 true _ ?side1 ?side2 A7.out).mono ?_);(case side1=>exact zq35);(case side2=>exact HC1.out);rintro e w24 ⟨rfl,hb⟩;replace BK308:=bkm BK308 hb;replace HB:=hbm HB hb;clear hb;obtain ⟨_,_,_,_,_,_,_,_,_,_,_,_⟩:=bk6 BK308) | (go_at_call 40;(with_reducible refine (rf07_Text.calls k a0_3 t311 t313 t314 _ A9.out).mono ?_);rintro e w' ⟨rfl,⟨nd,rfl⟩⟩;(try first | exact ⟨rfl,_,World.drewN_drewN _ _ _⟩ | exact ⟨rfl,_,Eq.trans (World.drewN_drewN _ _ _) (congrArg (World.drewN _) (Nat.add_assoc _ _ _))⟩)) | (go_at_call 41;(with_reducible refine (rf01_Text.calls k a0_2 t315 _ A14.out).mono ?_);rintro e w' ⟨rfl,⟨nd,rfl⟩⟩;(try first | exact ⟨rfl,_,World.drewN_drewN _ _ _⟩ | exact ⟨rfl,_,Eq.trans (World.drewN_drewN _ _ _) (congrArg (World.drewN _) (Nat.add_assoc _ _ _))⟩))))
            go_loopg [11,12] k (fun kq v11 v12 w'=>∃ (x11_1:ByteArray) (x12_1:Int),v11=.string x11_1∧v12=.int .i64 x12_1∧Aside0 (rf47_Text.l0 kq t311 x11_1 x12_1 a0_0 a0_1 a0_2 a0_3 a0_4 l0_5=some (r1,r2))∧Aside0 (kq≤k)∧Aside0 (w'.heap[gb308]?=some (.cells #[.string a0_0,.string a0_1,.int .i64 a0_2,.int .i64 a0_3,.int .i64 a0_4,(.slice A0_5 l0_5.length c0_5)] 24 (0,0)))∧Aside0 (Below w.heap.size w w'))
            case atStart=>exact ⟨(((((((((⟨#[115,116,97,116,101,109,101,110,116,32]⟩:ByteArray)++a0_0)++(⟨#[32]⟩:ByteArray))++a0_1)++(⟨#[32]⟩:ByteArray))++t315)++(⟨#[10,111,112,101,110,32]⟩:ByteArray))++t313)++(⟨#[10]⟩:ByteArray)),(0),zq1,zq1,H',⟨Nat.le_refl _⟩,⟨by (with_reducible repeat (first | refine blk_drewN ?_ _ | refine blk_drew ?_ | refine blk_alloc ?_ _));exact BK308.out⟩,⟨zq36⟩⟩
            case round =>
             clear H';try clear c1
             try clear p2
             try clear c4
             try clear c6
             try clear c6b0
             try clear c6b1
             try clear c8
             try clear c10
             try clear c10b0
             try clear c10b1
             try clear c10b2
             try clear c11
             try clear c11b0
             try clear c11b1
             try clear c11b2
             try clear c12
             try clear c12b0
             try clear c12b1
             try clear c12b2
             try clear c13
             try clear c13b0
             try clear c13b1
             try clear c13b2
             try clear c15
             try clear c15b0
             try clear c15b1
             try clear c15b2
             try clear c16
             try clear c16b0
             try clear c16b1
             try clear c16b2
             try clear c17
             try clear c17b0
             try clear c17b1
             try clear c17b2
             try clear c18
             try clear c18b0
             try clear c18b1
             try clear c18b2
             try clear hcz21_0
             try clear hcz21_1
             try clear hcz21_2
             try clear hcz21_3
             try clear hcz21_4
             try clear hcz21_5
             try clear hcz23_0
             try clear hcz23_1
             try clear hcz23_2
             try clear hcz23_3
             try clear hcz23_4
             try clear hcz23_5
             try clear hcz25_0
             try clear hcz25_1
             try clear hcz25_2
             try clear hcz25_3
             try clear hcz25_4
             try clear hcz25_5
             try clear hfz21_0
             try clear hfz21_1
             try clear hfz21_2
             try clear hfz21_3
             try clear hfz21_4
             try clear hfz21_5
             try clear hfz23_0
             try clear hfz23_1
             try clear hfz23_2
             try clear hfz23_3
             try clear hfz23_4
             try clear hfz23_5
             try clear hfz25_0
             try clear hfz25_1
             try clear hfz25_2
             try clear hfz25_3
             try clear hfz25_4
             try clear hfz25_5
             obtain ⟨x11_1,x12_1,rfl,rfl,HA,HK1,BK308,HB⟩:=hrel
             cases gk with
             | zero=>exact absurd HA.out (by simp [rf47_Text.l0])
             | succ k1 =>
              have H:=HA.out;clear HA;simp only [rf47_Text.l0] at H
              replace H:=ifI H;rcases H with ⟨c26,H⟩ | ⟨c26,H⟩
              ·have c26b0:decide (x12_1 < (l0_5.length:Int))=true:=decide_eq_true c26;clear c26;replace H:=ifI H;rcases H with ⟨c27,H⟩ | ⟨c27,H⟩
               ·have c27b0:decide (0≤x12_1)=true:=decide_eq_true c27;clear c27;replace H:=bdI H;obtain ⟨⟨t320,t321⟩,A28,H⟩:=H;(try dsimp only at H)
                replace H:=bdI H;obtain ⟨⟨t322,t323⟩,A29,H⟩:=H;(try dsimp only at H)
                replace H:=bdI H;obtain ⟨⟨t324,t325⟩,A30,H⟩:=H;(try dsimp only at H)
                replace H:=bdI H;obtain ⟨⟨t326,t327⟩,A31,H⟩:=H;(try dsimp only at H)
                replace H:=ifI H;rcases H with ⟨c32,H⟩ | ⟨c32,H⟩
                ·have c32b0:=eq_true c32;have c32b1:decide (5+t320.size≤9223372036854775807)=true:=decide_eq_true c32;try have c32b2:(9223372036854775807 < 5+t320.size)=False:=eq_false (Nat.not_lt.2 c32)
                 replace H:=ifI H;rcases H with ⟨c33,H⟩ | ⟨c33,H⟩
                 ·have c33b0:=eq_true c33;have c33b1:decide (((⟨#[108,105,110,101,32]⟩:ByteArray)++t320).size+1≤9223372036854775807)=true:=decide_eq_true c33;try have c33b2:(9223372036854775807 < ((⟨#[108,105,110,101,32]⟩:ByteArray)++t320).size+1)=False:=eq_false (Nat.not_lt.2 c33)
                  try have c33y:(9223372036854775807 < 5+t320.size+1)=False:=by have h_:=c33b2;simp only [ByteArray.size_append] at h_;exact h_
                  replace H:=ifI H;rcases H with ⟨c34,H⟩ | ⟨c34,H⟩
                  ·have c34b0:=eq_true c34;have c34b1:decide ((((⟨#[108,105,110,101,32]⟩:ByteArray)++t320)++(⟨#[32]⟩:ByteArray)).size+t322.size≤9223372036854775807)=true:=decide_eq_true c34;try have c34b2:(9223372036854775807 < (((⟨#[108,105,110,101,32]⟩:ByteArray)++t320)++(⟨#[32]⟩:ByteArray)).size+t322.size)=False:=eq_false (Nat.not_lt.2 c34)
                   try have c34y:(9223372036854775807 < 5+t320.size+1+t322.size)=False:=by have h_:=c34b2;simp only [ByteArray.size_append] at h_;exact h_
                   replace H:=ifI H;rcases H with ⟨c35,H⟩ | ⟨c35,H⟩
                   ·have c35b0:=eq_true c35;have c35b1:decide (((((⟨#[108,105,110,101,32]⟩:ByteArray)++t320)++(⟨#[32]⟩:ByteArray))++t322).size+1≤9223372036854775807)=true:=decide_eq_true c35;try have c35b2:(9223372036854775807 < ((((⟨#[108,105,110,101,32]⟩:ByteArray)++t320)++(⟨#[32]⟩:ByteArray))++t322).size+1)=False:=eq_false (Nat.not_lt.2 c35)
                    try have c35y:(9223372036854775807 < 5+t320.size+1+t322.size+1)=False:=by have h_:=c35b2;simp only [ByteArray.size_append] at h_;exact h_
                    replace H:=ifI H;rcases H with ⟨c36,H⟩ | ⟨c36,H⟩
                    ·have c36b0:=eq_true c36;have c36b1:decide ((((((⟨#[108,105,110,101,32]⟩:ByteArray)++t320)++(⟨#[32]⟩:ByteArray))++t322)++(⟨#[32]⟩:ByteArray)).size+t324.size≤9223372036854775807)=true:=decide_eq_true c36;try have c36b2:(9223372036854775807 < (((((⟨#[108,105,110,101,32]⟩:ByteArray)++t320)++(⟨#[32]⟩:ByteArray))++t322)++(⟨#[32]⟩:ByteArray)).size+t324.size)=False:=eq_false (Nat.not_lt.2 c36)
                     try have c36y:(9223372036854775807 < 5+t320.size+1+t322.size+1+t324.size)=False:=by have h_:=c36b2;simp only [ByteArray.size_append] at h_;exact h_
                     replace H:=ifI H;rcases H with ⟨c37,H⟩ | ⟨c37,H⟩
                     ·have c37b0:=eq_true c37;have c37b1:decide (((((((⟨#[108,105,110,101,32]⟩:ByteArray)++t320)++(⟨#[32]⟩:ByteArray))++t322)++(⟨#[32]⟩:ByteArray))++t324).size+1≤9223372036854775807)=true:=decide_eq_true c37;try have c37b2:(9223372036854775807 < ((((((⟨#[108,105,110,101,32]⟩:ByteArray)++t320)++(⟨#[32]⟩:ByteArray))++t322)++(⟨#[32]⟩:ByteArray))++t324).size+1)=False:=eq_false (Nat.not_lt.2 c37)
                      try have c37y:(9223372036854775807 < 5+t320.size+1+t322.size+1+t324.size+1)=False:=by have h_:=c37b2;simp only [ByteArray.size_append] at h_;exact h_
                      replace H:=ifI H;rcases H with ⟨c38,H⟩ | ⟨c38,H⟩
                      ·have c38b0:=eq_true c38;have c38b1:decide ((((((((⟨#[108,105,110,101,32]⟩:ByteArray)++t320)++(⟨#[32]⟩:ByteArray))++t322)++(⟨#[32]⟩:ByteArray))++t324)++(⟨#[32]⟩:ByteArray)).size+t326.size≤9223372036854775807)=true:=decide_eq_true c38;try have c38b2:(9223372036854775807 < (((((((⟨#[108,105,110,101,32]⟩:ByteArray)++t320)++(⟨#[32]⟩:ByteArray))++t322)++(⟨#[32]⟩:ByteArray))++t324)++(⟨#[32]⟩:ByteArray)).size+t326.size)=False:=eq_false (Nat.not_lt.2 c38)
                       try have c38y:(9223372036854775807 < 5+t320.size+1+t322.size+1+t324.size+1+t326.size)=False:=by have h_:=c38b2;simp only [ByteArray.size_append] at h_;exact h_
                       replace H:=ifI H;rcases H with ⟨c39,H⟩ | ⟨c39,H⟩
                       ·have c39b0:=eq_true c39;have c39b1:decide (((((((((⟨#[108,105,110,101,32]⟩:ByteArray)++t320)++(⟨#[32]⟩:ByteArray))++t322)++(⟨#[32]⟩:ByteArray))++t324)++(⟨#[32]⟩:ByteArray))++t326).size+1≤9223372036854775807)=true:=decide_eq_true c39;try have c39b2:(9223372036854775807 < ((((((((⟨#[108,105,110,101,32]⟩:ByteArray)++t320)++(⟨#[32]⟩:ByteArray))++t322)++(⟨#[32]⟩:ByteArray))++t324)++(⟨#[32]⟩:ByteArray))++t326).size+1)=False:=eq_false (Nat.not_lt.2 c39)
                        try have c39y:(9223372036854775807 < 5+t320.size+1+t322.size+1+t324.size+1+t326.size+1)=False:=by have h_:=c39b2;simp only [ByteArray.size_append] at h_;exact h_
                        replace H:=ifI H;rcases H with ⟨c40,H⟩ | ⟨c40,H⟩
                        ·have c40b0:=eq_true c40;have c40b1:decide (x11_1.size+(((((((((⟨#[108,105,110,101,32]⟩:ByteArray)++t320)++(⟨#[32]⟩:ByteArray))++t322)++(⟨#[32]⟩:ByteArray))++t324)++(⟨#[32]⟩:ByteArray))++t326)++(⟨#[10]⟩:ByteArray)).size≤9223372036854775807)=true:=decide_eq_true c40;try have c40b2:(9223372036854775807 < x11_1.size+(((((((((⟨#[108,105,110,101,32]⟩:ByteArray)++t320)++(⟨#[32]⟩:ByteArray))++t322)++(⟨#[32]⟩:ByteArray))++t324)++(⟨#[32]⟩:ByteArray))++t326)++(⟨#[10]⟩:ByteArray)).size)=False:=eq_false (Nat.not_lt.2 c40)
                         try have c40y:(9223372036854775807 < x11_1.size+(5+t320.size+1+t322.size+1+t324.size+1+t326.size+1))=False:=by have h_:=c40b2;simp only [ByteArray.size_append] at h_;exact h_
                         have H':=sd H;clear H;obtain ⟨_,_,_,_,_,_,_,_,_,_,_,_⟩:=bk6 BK308;have p318:0≤(x12_1:Int):=od;have q318:x12_1 < (l0_5.length:Int):=od;obtain ⟨ad318,e318,hx318_0,hx318_1,hx318_2,hx318_3⟩:=at_T44 HR0_5.out x12_1 p318 q318
                         cases e318
                         replace hx318_0:=(HB.out.cell (World.block_lt_of_cell? w _ hx318_0)).trans hx318_0;replace hx318_1:=(HB.out.cell (World.block_lt_of_cell? w _ hx318_1)).trans hx318_1;replace hx318_2:=(HB.out.cell (World.block_lt_of_cell? w _ hx318_2)).trans hx318_2;replace hx318_3:=(HB.out.cell (World.block_lt_of_cell? w _ hx318_3)).trans hx318_3;replace p318:=eq_true p318;replace q318:=eq_true q318;go_wp2_with (first | ((with_reducible refine gate_dst (N:=13) rfl ?_);refine bxA 13 #[.int .i64 0,.int .i64 0,.string (⟨#[]⟩:ByteArray),.string (⟨#[]⟩:ByteArray)] 44 ?_;intro gb319 hg w42 hbox hb;have BK319:=sd (hbox);have GW319:=gem hg HB;have GE319:=GW319;have NB308_319:=nlm hg BK308;have NB319_308:=ngm hg BK308;replace BK308:=bkm BK308 hb;replace HB:=hbm HB hb;clear hb hbox hg;have hnb43:=NB319_308.out;have hnc43:=NB308_319.out;obtain ⟨_,_,_,_,_,_,_,_⟩:=bk4 BK319) | (go_at_call 42;(with_reducible refine (rf04_Text.calls k1 ((rd_T44 l0_5 x12_1).f0) t320 t321 _ A28.out).mono ?_);rintro e w45 ⟨rfl,hb⟩;replace BK308:=sd (blk_below (g:=gb308) (o:=.cells #[.string a0_0,.string a0_1,.int .i64 a0_2,.int .i64 a0_3,.int .i64 a0_4,.slice (some ad318) l0_5.length c0_5] 24 (0,0)) zq37 hb);replace BK319:=sd (blk_below (g:=gb319) (o:=.cells #[.int .i64 ((rd_T44 l0_5 x12_1).f0),.int .i64 ((rd_T44 l0_5 x12_1).f1),.string ((rd_T44 l0_5 x12_1).f2),.string ((rd_T44 l0_5 x12_1).f3)] 44 (0,0)) zq38 hb);replace HB:=hbm HB hb;clear hb;obtain ⟨_,_,_,_,_,_,_,_⟩:=bk4 BK319) | (go_at_call 40;(with_reducible refine (rf07_Text.calls k1 ((rd_T44 l0_5 x12_1).f1) t311 t322 t323 _ A29.out).mono ?_);rintro e w' ⟨rfl,⟨nd,rfl⟩⟩;(try first | exact ⟨rfl,_,World.drewN_drewN _ _ _⟩ | exact ⟨rfl,_,Eq.trans (World.drewN_drewN _ _ _) (congrArg (World.drewN _) (Nat.add_assoc _ _ _))⟩)) | (go_at_call 43;(with_reducible refine (rf06_Quote.calls k1 ((rd_T44 l0_5 x12_1).f2) t324 t325 _ A30.out).mono ?_);rintro e w47 ⟨rfl,hb⟩;replace BK308:=bkm BK308 hb;replace BK319:=bkm BK319 hb;replace HB:=hbm HB hb;clear hb;obtain ⟨_,_,_,_,_,_,_,_⟩:=bk4 BK319) | (go_at_call 43;(with_reducible refine (rf06_Quote.calls k1 ((rd_T44 l0_5 x12_1).f3) t326 t327 _ A31.out).mono ?_);rintro e w49 ⟨rfl,hb⟩;replace BK308:=bkm BK308 hb;replace BK319:=bkm BK319 hb;replace HB:=hbm HB hb;clear hb))
                         repeat (go_quiet (first | ((with_reducible refine gate_dst (N:=13) rfl ?_);refine bxA 13 #[.int .i64 0,.int .i64 0,.string (⟨#[]⟩:ByteArray),.string (⟨#[]⟩:ByteArray)] 44 ?_;intro gb319 hg w42 hbox hb;have BK319:=sd (hbox);have GW319:=gem hg HB;have GE319:=GW319;have NB308_319:=nlm hg BK308;have NB319_308:=ngm hg BK308;replace BK308:=bkm BK308 hb;replace HB:=hbm HB hb;clear hb hbox hg;have hnb43:=NB319_308.out;have hnc43:=NB308_319.out;obtain ⟨_,_,_,_,_,_,_,_⟩:=bk4 BK319) | (go_at_call 42;(with_reducible refine (rf04_Text.calls k1 ((rd_T44 l0_5 x12_1).f0) t320 t321 _ A28.out).mono ?_);rintro e w45 ⟨rfl,hb⟩;replace BK308:=sd (blk_below (g:=gb308) (o:=.cells #[.string a0_0,.string a0_1,.int .i64 a0_2,.int .i64 a0_3,.int .i64 a0_4,.slice (some ad318) l0_5.length c0_5] 24 (0,0)) zq37 hb);replace BK319:=sd (blk_below (g:=gb319) (o:=.cells #[.int .i64 ((rd_T44 l0_5 x12_1).f0),.int .i64 ((rd_T44 l0_5 x12_1).f1),.string ((rd_T44 l0_5 x12_1).f2),.string ((rd_T44 l0_5 x12_1).f3)] 44 (0,0)) zq38 hb);replace HB:=hbm HB hb;clear hb;obtain ⟨_,_,_,_,_,_,_,_⟩:=bk4 BK319) | (go_at_call 40;(with_reducible refine (rf07_Text.calls k1 ((rd_T44 l0_5 x12_1).f1) t311 t322 t323 _ A29.out).mono ?_);rintro e w' ⟨rfl,⟨nd,rfl⟩⟩;(try first | exact ⟨rfl,_,World.drewN_drewN _ _ _⟩ | exact ⟨rfl,_,Eq.trans (World.drewN_drewN _ _ _) (congrArg (World.drewN _) (Nat.add_assoc _ _ _))⟩)) | (go_at_call 43;(with_reducible refine (rf06_Quote.calls k1 ((rd_T44 l0_5 x12_1).f2) t324 t325 _ A30.out).mono ?_);rintro e w47 ⟨rfl,hb⟩;replace BK308:=bkm BK308 hb;replace BK319:=bkm BK319 hb;replace HB:=hbm HB hb;clear hb;obtain ⟨_,_,_,_,_,_,_,_⟩:=bk4 BK319) | (go_at_call 43;(with_reducible refine (rf06_Quote.calls k1 ((rd_T44 l0_5 x12_1).f3) t326 t327 _ A31.out).mono ?_);rintro e w49 ⟨rfl,hb⟩;replace BK308:=bkm BK308 hb;replace BK319:=bkm BK319 hb;replace HB:=hbm HB hb;clear hb));try go_wp2_with (first | ((with_reducible refine gate_dst (N:=13) rfl ?_);refine bxA 13 #[.int .i64 0,.int .i64 0,.string (⟨#[]⟩:ByteArray),.string (⟨#[]⟩:ByteArray)] 44 ?_;intro gb319 hg w42 hbox hb;have BK319:=sd (hbox);have GW319:=gem hg HB;have GE319:=GW319;have NB308_319:=nlm hg BK308;have NB319_308:=ngm hg BK308;replace BK308:=bkm BK308 hb;replace HB:=hbm HB hb;clear hb hbox hg;have hnb43:=NB319_308.out;have hnc43:=NB308_319.out;obtain ⟨_,_,_,_,_,_,_,_⟩:=bk4 BK319) | (go_at_call 42;(with_reducible refine (rf04_Text.calls k1 ((rd_T44 l0_5 x12_1).f0) t320 t321 _ A28.out).mono ?_);rintro e w45 ⟨rfl,hb⟩;replace BK308:=sd (blk_below (g:=gb308) (o:=.cells #[.string a0_0,.string a0_1,.int .i64 a0_2,.int .i64 a0_3,.int .i64 a0_4,.slice (some ad318) l0_5.length c0_5] 24 (0,0)) zq37 hb);replace BK319:=sd (blk_below (g:=gb319) (o:=.cells #[.int .i64 ((rd_T44 l0_5 x12_1).f0),.int .i64 ((rd_T44 l0_5 x12_1).f1),.string ((rd_T44 l0_5 x12_1).f2),.string ((rd_T44 l0_5 x12_1).f3)] 44 (0,0)) zq38 hb);replace HB:=hbm HB hb;clear hb;obtain ⟨_,_,_,_,_,_,_,_⟩:=bk4 BK319) | (go_at_call 40;(with_reducible refine (rf07_Text.calls k1 ((rd_T44 l0_5 x12_1).f1) t311 t322 t323 _ A29.out).mono ?_);rintro e w' ⟨rfl,⟨nd,rfl⟩⟩;(try first | exact ⟨rfl,_,World.drewN_drewN _ _ _⟩ | exact ⟨rfl,_,Eq.trans (World.drewN_drewN _ _ _) (congrArg (World.drewN _) (Nat.add_assoc _ _ _))⟩)) | (go_at_call 43;(with_reducible refine (rf06_Quote.calls k1 ((rd_T44 l0_5 x12_1).f2) t324 t325 _ A30.out).mono ?_);rintro e w47 ⟨rfl,hb⟩;replace BK308:=bkm BK308 hb;replace BK319:=bkm BK319 hb;replace HB:=hbm HB hb;clear hb;obtain ⟨_,_,_,_,_,_,_,_⟩:=bk4 BK319) | (go_at_call 43;(with_reducible refine (rf06_Quote.calls k1 ((rd_T44 l0_5 x12_1).f3) t326 t327 _ A31.out).mono ?_);rintro e w49 ⟨rfl,hb⟩;replace BK308:=bkm BK308 hb;replace BK319:=bkm BK319 hb;replace HB:=hbm HB hb;clear hb)))
                         go_roundg k1
                         case measure=>have:=HK1.out;omega
                         case rel=>exact ⟨(x11_1++(((((((((⟨#[108,105,110,101,32]⟩:ByteArray)++t320)++(⟨#[32]⟩:ByteArray))++t322)++(⟨#[32]⟩:ByteArray))++t324)++(⟨#[32]⟩:ByteArray))++t326)++(⟨#[10]⟩:ByteArray))),(wrap64 (x12_1+1)),zq1,zq1,H',⟨by have:=HK1.out;omega⟩,⟨by (with_reducible repeat (first | refine blk_drewN ?_ _ | refine blk_drew ?_ | refine blk_alloc ?_ _));exact BK308.out⟩,⟨by repeat (first | (with_reducible first | exact HB.out | apply below_alloc | apply pw_below_drewN | apply below_drew1 | refine below_set ?_ GE308.out | refine below_set ?_ GE319.out) | exact HB.out)⟩⟩
                        exact absurd H (by simp)
                       exact absurd H (by simp)
                      exact absurd H (by simp)
                     exact absurd H (by simp)
                    exact absurd H (by simp)
                   exact absurd H (by simp)
                  exact absurd H (by simp)
                 exact absurd H (by simp)
                exact absurd H (by simp)
               exact absurd H (by simp)
              have c26b0:decide (x12_1 < (l0_5.length:Int))=false:=decide_eq_false c26;clear c26;replace H:=bdI H;obtain ⟨⟨t316,t317⟩,A50,H⟩:=H;(try dsimp only at H)
              replace H:=ifI H;rcases H with ⟨c51,H⟩ | ⟨c51,H⟩
              ·have c51b0:=eq_true c51;have c51b1:decide (x11_1.size+6≤9223372036854775807)=true:=decide_eq_true c51;try have c51b2:(9223372036854775807 < x11_1.size+6)=False:=eq_false (Nat.not_lt.2 c51)
               replace H:=ifI H;rcases H with ⟨c52,H⟩ | ⟨c52,H⟩
               ·have c52b0:=eq_true c52;have c52b1:decide ((x11_1++(⟨#[99,108,111,115,101,32]⟩:ByteArray)).size+t316.size≤9223372036854775807)=true:=decide_eq_true c52;try have c52b2:(9223372036854775807 < (x11_1++(⟨#[99,108,111,115,101,32]⟩:ByteArray)).size+t316.size)=False:=eq_false (Nat.not_lt.2 c52)
                try have c52y:(9223372036854775807 < x11_1.size+6+t316.size)=False:=by have h_:=c52b2;simp only [ByteArray.size_append] at h_;exact h_
                replace H:=ifI H;rcases H with ⟨c53,H⟩ | ⟨c53,H⟩
                ·have c53b0:=eq_true c53;have c53b1:decide (((x11_1++(⟨#[99,108,111,115,101,32]⟩:ByteArray))++t316).size+1≤9223372036854775807)=true:=decide_eq_true c53;try have c53b2:(9223372036854775807 < ((x11_1++(⟨#[99,108,111,115,101,32]⟩:ByteArray))++t316).size+1)=False:=eq_false (Nat.not_lt.2 c53)
                 try have c53y:(9223372036854775807 < x11_1.size+6+t316.size+1)=False:=by have h_:=c53b2;simp only [ByteArray.size_append] at h_;exact h_
                 simp only [Option.some.injEq,Prod.mk.injEq] at H
                 obtain ⟨rfl,rfl⟩:=H;obtain ⟨_,_,_,_,_,_,_,_,_,_,_,_⟩:=bk6 BK308;go_wp2_with (first | (go_at_call 40;(with_reducible refine (rf07_Text.calls k1 a0_4 t311 t316 t317 _ A50.out).mono ?_);rintro e w' ⟨rfl,⟨nd,rfl⟩⟩;(try first | exact ⟨rfl,_,World.drewN_drewN _ _ _⟩ | exact ⟨rfl,_,Eq.trans (World.drewN_drewN _ _ _) (congrArg (World.drewN _) (Nat.add_assoc _ _ _))⟩)))
                 repeat (go_quiet (first | (go_at_call 40;(with_reducible refine (rf07_Text.calls k1 a0_4 t311 t316 t317 _ A50.out).mono ?_);rintro e w' ⟨rfl,⟨nd,rfl⟩⟩;(try first | exact ⟨rfl,_,World.drewN_drewN _ _ _⟩ | exact ⟨rfl,_,Eq.trans (World.drewN_drewN _ _ _) (congrArg (World.drewN _) (Nat.add_assoc _ _ _))⟩)));try go_wp2_with (first | (go_at_call 40;(with_reducible refine (rf07_Text.calls k1 a0_4 t311 t316 t317 _ A50.out).mono ?_);rintro e w' ⟨rfl,⟨nd,rfl⟩⟩;(try first | exact ⟨rfl,_,World.drewN_drewN _ _ _⟩ | exact ⟨rfl,_,Eq.trans (World.drewN_drewN _ _ _) (congrArg (World.drewN _) (Nat.add_assoc _ _ _))⟩))))
                 go_ret2
                 exact ⟨zq10,zq36⟩
                exact absurd H (by simp)
               exact absurd H (by simp)
              exact absurd H (by simp)
           exact absurd H (by simp)
          exact absurd H (by simp)
         exact absurd H (by simp)
        exact absurd H (by simp)
       exact absurd H (by simp)
      exact absurd H (by simp)
     exact absurd H (by simp)
    exact absurd H (by simp)
   replace c8:=Bool.eq_false_iff.mpr c8;subst c8;rw [if_neg Bool.false_ne_true] at H;simp only [Option.some.injEq,Prod.mk.injEq] at H
   obtain ⟨rfl,rfl⟩:=H;go_enter Tryd.func17,Tryd.ntmps17
   go_wp2_with (first | ((with_reducible refine gate_dst (N:=2) rfl ?_);refine bxA 2 #[.string a0_0,.string a0_1,.int .i64 a0_2,.int .i64 a0_3,.int .i64 a0_4,.slice A0_5 l0_5.length c0_5] 24 ?_;intro gb308 hg w55 hbox hb;have BK308:=sd (hbox);have GW308:=gem hg HB;have GE308:=GW308;replace HB:=hbm HB hb;clear hb hbox hg) | (go_at_call 38;(with_reducible refine (rf07_Right.calls k _ _ l1 true _ ?side1 ?side2 A3.out).mono ?_);(case side1=>exact zq35);(case side2=>exact HC1.out);rintro e w56 ⟨rfl,hb⟩;replace BK308:=bkm BK308 hb;replace HB:=hbm HB hb;clear hb;obtain ⟨_,_,_,_,_,_,_,_,_,_,_,_⟩:=bk6 BK308) | (go_at_call 13;(with_reducible refine (rf47_Check.calls k a0_0 a0_1 a0_2 a0_3 a0_4 _ _ l0_5 t310 _ ?side1 ?side2 A5.out).mono ?_);(case side1=>exact zq25);(case side2=>exact HC0_5.out);rintro e w58 ⟨rfl,hb⟩;replace BK308:=bkm BK308 hb;replace HB:=hbm HB hb;clear hb;obtain ⟨_,_,_,_,_,_,_,_,_,_,_,_⟩:=bk6 BK308) | (go_at_call 39;(with_reducible refine (rf07_Digits.calls k _ _ l1 a0_1 t311 false _ ?side1 ?side2 A7.out).mono ?_);(case side1=>exact zq35);(case side2=>exact HC1.out);rintro e w60 ⟨rfl,hb⟩;replace BK308:=bkm BK308 hb;replace HB:=hbm HB hb;clear hb))
   repeat (go_quiet (first | ((with_reducible refine gate_dst (N:=2) rfl ?_);refine bxA 2 #[.string a0_0,.string a0_1,.int .i64 a0_2,.int .i64 a0_3,.int .i64 a0_4,.slice A0_5 l0_5.length c0_5] 24 ?_;intro gb308 hg w55 hbox hb;have BK308:=sd (hbox);have GW308:=gem hg HB;have GE308:=GW308;replace HB:=hbm HB hb;clear hb hbox hg) | (go_at_call 38;(with_reducible refine (rf07_Right.calls k _ _ l1 true _ ?side1 ?side2 A3.out).mono ?_);(case side1=>exact zq35);(case side2=>exact HC1.out);rintro e w56 ⟨rfl,hb⟩;replace BK308:=bkm BK308 hb;replace HB:=hbm HB hb;clear hb;obtain ⟨_,_,_,_,_,_,_,_,_,_,_,_⟩:=bk6 BK308) | (go_at_call 13;(with_reducible refine (rf47_Check.calls k a0_0 a0_1 a0_2 a0_3 a0_4 _ _ l0_5 t310 _ ?side1 ?side2 A5.out).mono ?_);(case side1=>exact zq25);(case side2=>exact HC0_5.out);rintro e w58 ⟨rfl,hb⟩;replace BK308:=bkm BK308 hb;replace HB:=hbm HB hb;clear hb;obtain ⟨_,_,_,_,_,_,_,_,_,_,_,_⟩:=bk6 BK308) | (go_at_call 39;(with_reducible refine (rf07_Digits.calls k _ _ l1 a0_1 t311 false _ ?side1 ?side2 A7.out).mono ?_);(case side1=>exact zq35);(case side2=>exact HC1.out);rintro e w60 ⟨rfl,hb⟩;replace BK308:=bkm BK308 hb;replace HB:=hbm HB hb;clear hb));try go_wp2_with (first | ((with_reducible refine gate_dst (N:=2) rfl ?_);refine bxA 2 #[.string a0_0,.string a0_1,.int .i64 a0_2,.int .i64 a0_3,.int .i64 a0_4,.slice A0_5 l0_5.length c0_5] 24 ?_;intro gb308 hg w55 hbox hb;have BK308:=sd (hbox);have GW308:=gem hg HB;have GE308:=GW308;replace HB:=hbm HB hb;clear hb hbox hg) | (go_at_call 38;(with_reducible refine (rf07_Right.calls k _ _ l1 true _ ?side1 ?side2 A3.out).mono ?_);(case side1=>exact zq35);(case side2=>exact HC1.out);rintro e w56 ⟨rfl,hb⟩;replace BK308:=bkm BK308 hb;replace HB:=hbm HB hb;clear hb;obtain ⟨_,_,_,_,_,_,_,_,_,_,_,_⟩:=bk6 BK308) | (go_at_call 13;(with_reducible refine (rf47_Check.calls k a0_0 a0_1 a0_2 a0_3 a0_4 _ _ l0_5 t310 _ ?side1 ?side2 A5.out).mono ?_);(case side1=>exact zq25);(case side2=>exact HC0_5.out);rintro e w58 ⟨rfl,hb⟩;replace BK308:=bkm BK308 hb;replace HB:=hbm HB hb;clear hb;obtain ⟨_,_,_,_,_,_,_,_,_,_,_,_⟩:=bk6 BK308) | (go_at_call 39;(with_reducible refine (rf07_Digits.calls k _ _ l1 a0_1 t311 false _ ?side1 ?side2 A7.out).mono ?_);(case side1=>exact zq35);(case side2=>exact HC1.out);rintro e w60 ⟨rfl,hb⟩;replace BK308:=bkm BK308 hb;replace HB:=hbm HB hb;clear hb)))
   go_ret2
   exact ⟨zq10,zq36⟩
  obtain ⟨c6b0,c6b1⟩:=neI c6;simp only [Option.some.injEq,Prod.mk.injEq] at H
  obtain ⟨rfl,rfl⟩:=H;go_enter Tryd.func17,Tryd.ntmps17
  go_wp2_with (first | ((with_reducible refine gate_dst (N:=2) rfl ?_);refine bxA 2 #[.string a0_0,.string a0_1,.int .i64 a0_2,.int .i64 a0_3,.int .i64 a0_4,.slice A0_5 l0_5.length c0_5] 24 ?_;intro gb308 hg w61 hbox hb;have BK308:=sd (hbox);have GW308:=gem hg HB;have GE308:=GW308;replace HB:=hbm HB hb;clear hb hbox hg) | (go_at_call 38;(with_reducible refine (rf07_Right.calls k _ _ l1 true _ ?side1 ?side2 A3.out).mono ?_);(case side1=>exact zq35);(case side2=>exact HC1.out);rintro e w62 ⟨rfl,hb⟩;replace BK308:=bkm BK308 hb;replace HB:=hbm HB hb;clear hb;obtain ⟨_,_,_,_,_,_,_,_,_,_,_,_⟩:=bk6 BK308) | (go_at_call 13;(with_reducible refine (rf47_Check.calls k a0_0 a0_1 a0_2 a0_3 a0_4 _ _ l0_5 t310 _ ?side1 ?side2 A5.out).mono ?_);(case side1=>exact zq25);(case side2=>exact HC0_5.out);rintro e w64 ⟨rfl,hb⟩;replace BK308:=bkm BK308 hb;replace HB:=hbm HB hb;clear hb))
  repeat (go_quiet (first | ((with_reducible refine gate_dst (N:=2) rfl ?_);refine bxA 2 #[.string a0_0,.string a0_1,.int .i64 a0_2,.int .i64 a0_3,.int .i64 a0_4,.slice A0_5 l0_5.length c0_5] 24 ?_;intro gb308 hg w61 hbox hb;have BK308:=sd (hbox);have GW308:=gem hg HB;have GE308:=GW308;replace HB:=hbm HB hb;clear hb hbox hg) | (go_at_call 38;(with_reducible refine (rf07_Right.calls k _ _ l1 true _ ?side1 ?side2 A3.out).mono ?_);(case side1=>exact zq35);(case side2=>exact HC1.out);rintro e w62 ⟨rfl,hb⟩;replace BK308:=bkm BK308 hb;replace HB:=hbm HB hb;clear hb;obtain ⟨_,_,_,_,_,_,_,_,_,_,_,_⟩:=bk6 BK308) | (go_at_call 13;(with_reducible refine (rf47_Check.calls k a0_0 a0_1 a0_2 a0_3 a0_4 _ _ l0_5 t310 _ ?side1 ?side2 A5.out).mono ?_);(case side1=>exact zq25);(case side2=>exact HC0_5.out);rintro e w64 ⟨rfl,hb⟩;replace BK308:=bkm BK308 hb;replace HB:=hbm HB hb;clear hb));try go_wp2_with (first | ((with_reducible refine gate_dst (N:=2) rfl ?_);refine bxA 2 #[.string a0_0,.string a0_1,.int .i64 a0_2,.int .i64 a0_3,.int .i64 a0_4,.slice A0_5 l0_5.length c0_5] 24 ?_;intro gb308 hg w61 hbox hb;have BK308:=sd (hbox);have GW308:=gem hg HB;have GE308:=GW308;replace HB:=hbm HB hb;clear hb hbox hg) | (go_at_call 38;(with_reducible refine (rf07_Right.calls k _ _ l1 true _ ?side1 ?side2 A3.out).mono ?_);(case side1=>exact zq35);(case side2=>exact HC1.out);rintro e w62 ⟨rfl,hb⟩;replace BK308:=bkm BK308 hb;replace HB:=hbm HB hb;clear hb;obtain ⟨_,_,_,_,_,_,_,_,_,_,_,_⟩:=bk6 BK308) | (go_at_call 13;(with_reducible refine (rf47_Check.calls k a0_0 a0_1 a0_2 a0_3 a0_4 _ _ l0_5 t310 _ ?side1 ?side2 A5.out).mono ?_);(case side1=>exact zq25);(case side2=>exact HC0_5.out);rintro e w64 ⟨rfl,hb⟩;replace BK308:=bkm BK308 hb;replace HB:=hbm HB hb;clear hb)))
  go_ret2
  exact ⟨zq10,zq36⟩
 replace c4:=Bool.eq_false_iff.mpr c4;subst c4;rw [if_neg Bool.false_ne_true] at H;simp only [Option.some.injEq,Prod.mk.injEq] at H
 obtain ⟨rfl,rfl⟩:=H;go_enter Tryd.func17,Tryd.ntmps17
 go_wp2_with (first | ((with_reducible refine gate_dst (N:=2) rfl ?_);refine bxA 2 #[.string a0_0,.string a0_1,.int .i64 a0_2,.int .i64 a0_3,.int .i64 a0_4,.slice A0_5 l0_5.length c0_5] 24 ?_;intro gb308 hg w65 hbox hb;have BK308:=sd (hbox);have GW308:=gem hg HB;have GE308:=GW308;replace HB:=hbm HB hb;clear hb hbox hg) | (go_at_call 38;(with_reducible refine (rf07_Right.calls k _ _ l1 false _ ?side1 ?side2 A3.out).mono ?_);(case side1=>exact zq35);(case side2=>exact HC1.out);rintro e w66 ⟨rfl,hb⟩;replace BK308:=bkm BK308 hb;replace HB:=hbm HB hb;clear hb))
 repeat (go_quiet (first | ((with_reducible refine gate_dst (N:=2) rfl ?_);refine bxA 2 #[.string a0_0,.string a0_1,.int .i64 a0_2,.int .i64 a0_3,.int .i64 a0_4,.slice A0_5 l0_5.length c0_5] 24 ?_;intro gb308 hg w65 hbox hb;have BK308:=sd (hbox);have GW308:=gem hg HB;have GE308:=GW308;replace HB:=hbm HB hb;clear hb hbox hg) | (go_at_call 38;(with_reducible refine (rf07_Right.calls k _ _ l1 false _ ?side1 ?side2 A3.out).mono ?_);(case side1=>exact zq35);(case side2=>exact HC1.out);rintro e w66 ⟨rfl,hb⟩;replace BK308:=bkm BK308 hb;replace HB:=hbm HB hb;clear hb));try go_wp2_with (first | ((with_reducible refine gate_dst (N:=2) rfl ?_);refine bxA 2 #[.string a0_0,.string a0_1,.int .i64 a0_2,.int .i64 a0_3,.int .i64 a0_4,.slice A0_5 l0_5.length c0_5] 24 ?_;intro gb308 hg w65 hbox hb;have BK308:=sd (hbox);have GW308:=gem hg HB;have GE308:=GW308;replace HB:=hbm HB hb;clear hb hbox hg) | (go_at_call 38;(with_reducible refine (rf07_Right.calls k _ _ l1 false _ ?side1 ?side2 A3.out).mono ?_);(case side1=>exact zq35);(case side2=>exact HC1.out);rintro e w66 ⟨rfl,hb⟩;replace BK308:=bkm BK308 hb;replace HB:=hbm HB hb;clear hb)))
 go_ret2
 exact ⟨zq10,zq36⟩
end Go.Proofs.YtmlcdpfcafmmcaaDoor.A
