-- By pack.py, a program of this session's.
import Derived.Test.YtmlcdpfcafmmcaaDoorX9
import Derived.Test.YtmlcdpfcafmmcaaDoorX10
set_option linter.unusedVariables false
set_option linter.unusedSimpArgs false
namespace Go.Proofs.YtmlcdpfcafmmcaaDoor.A
open Go.RowKit B WW WL WM
attribute [local go_sem] max2_int min2_int max_two min_two max_three min_three max_four min_four
set_option maxHeartbeats 8000000
set_option maxRecDepth 100000
theorem stmt_Check.calls (k:Nat) (a0_0 a0_1:ByteArray) (a0_2 a0_3 a0_4:Int) (A0_5:Option Addr) (c0_5:Nat) (l0_5:List (S44)) (r:Int) (w:World) (hr0_5:Kd.C k44 w A0_5 l0_5.length l0_5) (hc0_5:l0_5.length≤c0_5) (h:stmt_Check.f k a0_0 a0_1 a0_2 a0_3 a0_4 l0_5=some r) (hG:Gl w) :
  Calls Tryd.prog 12 #[.agg #[.string a0_0,.string a0_1,.int .i64 a0_2,.int .i64 a0_3,.int .i64 a0_4,.slice A0_5 l0_5.length c0_5]] w fun e w'=>e=.returned (.int .i64 r)∧Below w.heap.size w w':=by
 have HG:=sd hG;clear hG;have hu24:=Tryd.underlying24;have hu44:=Tryd.underlying44;have HR0_5:=sd hr0_5;have HC0_5:=sd hc0_5;clear hr0_5 hc0_5;have HB:=sd (Below.refl w.heap.size w);have H:=h;clear h;unfold stmt_Check.f at H;replace H:=bdI H;obtain ⟨t120,A2,H⟩:=H;(try dsimp only at H)
 by_cases c3:t120=true
 ·subst c3;rw [if_pos rfl] at H;replace H:=bdI H;obtain ⟨t121,A4,H⟩:=H;(try dsimp only at H)
  by_cases c5:t121=true
  ·subst c5;rw [if_pos rfl] at H;have HC6:=sd H;clear H;go_enter Tryd.func12,Tryd.ntmps12
   go_upto_region 5 with (first | ((with_reducible refine gate_dst (N:=1) rfl ?_);refine bxA 1 #[.string a0_0,.string a0_1,.int .i64 a0_2,.int .i64 a0_3,.int .i64 a0_4,.slice A0_5 l0_5.length c0_5] 24 ?_;intro gb119 hg w7 hbox hb;have BK119:=sd (hbox);have GW119:=gem hg HB;have GE119:=GW119;replace HB:=hbm HB hb;clear hb hbox hg;obtain ⟨_,_,_,_,_,_,_,_,_,_,_,_⟩:=bk6 BK119) | (go_at_call 22;(with_reducible refine (words_Code.calls a0_0 true _ A2.out).mono ?_);rintro e w' ⟨rfl,⟨nd,rfl⟩⟩;(try first | exact ⟨rfl,_,World.drewN_drewN _ _ _⟩ | exact ⟨rfl,_,Eq.trans (World.drewN_drewN _ _ _) (congrArg (World.drewN _) (Nat.add_assoc _ _ _))⟩)) | (go_at_call 23;(with_reducible refine (money_Code.calls a0_1 true _ A4.out).mono ?_);rintro e w9 ⟨rfl,hb⟩;replace BK119:=bkm BK119 hb;replace HB:=hbm HB hb;clear hb))
   repeat (go_quiet (first | ((with_reducible refine gate_dst (N:=1) rfl ?_);refine bxA 1 #[.string a0_0,.string a0_1,.int .i64 a0_2,.int .i64 a0_3,.int .i64 a0_4,.slice A0_5 l0_5.length c0_5] 24 ?_;intro gb119 hg w7 hbox hb;have BK119:=sd (hbox);have GW119:=gem hg HB;have GE119:=GW119;replace HB:=hbm HB hb;clear hb hbox hg;obtain ⟨_,_,_,_,_,_,_,_,_,_,_,_⟩:=bk6 BK119) | (go_at_call 22;(with_reducible refine (words_Code.calls a0_0 true _ A2.out).mono ?_);rintro e w' ⟨rfl,⟨nd,rfl⟩⟩;(try first | exact ⟨rfl,_,World.drewN_drewN _ _ _⟩ | exact ⟨rfl,_,Eq.trans (World.drewN_drewN _ _ _) (congrArg (World.drewN _) (Nat.add_assoc _ _ _))⟩)) | (go_at_call 23;(with_reducible refine (money_Code.calls a0_1 true _ A4.out).mono ?_);rintro e w9 ⟨rfl,hb⟩;replace BK119:=bkm BK119 hb;replace HB:=hbm HB hb;clear hb));go_upto_region 5 with (first | ((with_reducible refine gate_dst (N:=1) rfl ?_);refine bxA 1 #[.string a0_0,.string a0_1,.int .i64 a0_2,.int .i64 a0_3,.int .i64 a0_4,.slice A0_5 l0_5.length c0_5] 24 ?_;intro gb119 hg w7 hbox hb;have BK119:=sd (hbox);have GW119:=gem hg HB;have GE119:=GW119;replace HB:=hbm HB hb;clear hb hbox hg;obtain ⟨_,_,_,_,_,_,_,_,_,_,_,_⟩:=bk6 BK119) | (go_at_call 22;(with_reducible refine (words_Code.calls a0_0 true _ A2.out).mono ?_);rintro e w' ⟨rfl,⟨nd,rfl⟩⟩;(try first | exact ⟨rfl,_,World.drewN_drewN _ _ _⟩ | exact ⟨rfl,_,Eq.trans (World.drewN_drewN _ _ _) (congrArg (World.drewN _) (Nat.add_assoc _ _ _))⟩)) | (go_at_call 23;(with_reducible refine (money_Code.calls a0_1 true _ A4.out).mono ?_);rintro e w9 ⟨rfl,hb⟩;replace BK119:=bkm BK119 hb;replace HB:=hbm HB hb;clear hb)))
   (try simp only [Act.put,List.setIfInBounds_toArray,List.set_cons_zero,List.set_cons_succ])
   go_cut [18] (fun v18 wc=>∃ (kq:Nat) (x18_5:Bool),v18=.bool x18_5∧Aside0 (stmt_Check.j0 kq x18_5 a0_0 a0_1 a0_2 a0_3 a0_4 l0_5=some r)∧Aside0 (kq≤k)∧Aside0 (wc.heap[gb119]?=some (.cells #[.string a0_0,.string a0_1,.int .i64 a0_2,.int .i64 a0_3,.int .i64 a0_4,(.slice A0_5 l0_5.length c0_5)] 24 (0,0)))∧Aside0 (Below w.heap.size w wc))
   case first =>
    have H:=HC6.out;clear HC6;replace H:=ifI H;rcases H with ⟨c10,H⟩ | ⟨c10,H⟩
    ·have c10b0:decide (a0_2 < 1)=true:=decide_eq_true c10;clear c10;(first | rw [c10b0] | (simp only [i64_w,i32_w];rw [c10b0]) | skip)
     have H':=sd H;clear H;obtain ⟨_,_,_,_,_,_,_,_,_,_,_,_⟩:=bk6 BK119;go_wp2
     repeat (go_quiet (fail);try go_wp2)
     go_meet
     case rel=>exact ⟨_,(true),zq1,H',⟨by first | omega | exact Nat.le_refl _⟩,⟨zq66⟩,⟨zq67⟩⟩
    have c10b0:decide (a0_2 < 1)=false:=decide_eq_false c10;clear c10;(first | rw [c10b0] | (simp only [i64_w,i32_w];rw [c10b0]) | skip)
    have H':=sd H;clear H;obtain ⟨_,_,_,_,_,_,_,_,_,_,_,_⟩:=bk6 BK119;go_wp2
    repeat (go_quiet (fail);try go_wp2)
    go_meet
    case rel=>exact ⟨_,(decide (a0_2 > 4000)),zq1,H',⟨by first | omega | exact Nat.le_refl _⟩,⟨zq66⟩,⟨zq67⟩⟩
   case rest =>
    clear HC6;try clear c1
    try clear p2
    try clear c3
    try clear c5
    try clear c10
    try clear c10b0
    try clear c12
    try clear hcz11_0
    try clear hcz11_1
    try clear hcz11_2
    try clear hcz11_3
    try clear hcz11_4
    try clear hcz11_5
    try clear hcz12_0
    try clear hcz12_1
    try clear hcz12_2
    try clear hcz12_3
    try clear hcz12_4
    try clear hcz12_5
    try clear hcz8_0
    try clear hcz8_1
    try clear hcz8_2
    try clear hcz8_3
    try clear hcz8_4
    try clear hcz8_5
    try clear hfz11_0
    try clear hfz11_1
    try clear hfz11_2
    try clear hfz11_3
    try clear hfz11_4
    try clear hfz11_5
    try clear hfz12_0
    try clear hfz12_1
    try clear hfz12_2
    try clear hfz12_3
    try clear hfz12_4
    try clear hfz12_5
    try clear hfz8_0
    try clear hfz8_1
    try clear hfz8_2
    try clear hfz8_3
    try clear hfz8_4
    try clear hfz8_5
    obtain ⟨kq,x18_5,rfl,HA,HJ5,BK119,HB⟩:=hcut
    cases kq with
    | zero=>exact absurd HA.out (by simp [stmt_Check.j0])
    | succ kj5 =>
     have H:=HA.out;clear HA;simp only [stmt_Check.j0] at H
     by_cases c13:x18_5=true
     ·subst c13;rw [if_pos rfl] at H;obtain rfl:=Option.some.inj H;go_wp2
      repeat (go_quiet (fail);try go_wp2)
      go_ret
      exact ⟨zq10,zq67⟩
     replace c13:=Bool.eq_false_iff.mpr c13;subst c13;rw [if_neg Bool.false_ne_true] at H;have HC14:=sd H;clear H;go_upto_region 7 with (fail)
     repeat (go_quiet (fail);go_upto_region 7 with (fail))
     go_cut [27] (fun v27 wc=>∃ (kq:Nat) (x27_13:Bool),v27=.bool x27_13∧Aside0 (stmt_Check.j1 kq x27_13 a0_0 a0_1 a0_2 a0_3 a0_4 l0_5=some r)∧Aside0 (kq≤kj5)∧Aside0 (wc.heap[gb119]?=some (.cells #[.string a0_0,.string a0_1,.int .i64 a0_2,.int .i64 a0_3,.int .i64 a0_4,(.slice A0_5 l0_5.length c0_5)] 24 (0,0)))∧Aside0 (Below w.heap.size w wc))
     case first =>
      have H:=HC14.out;clear HC14;replace H:=bdI H;obtain ⟨t122,A15,H⟩:=H;(try dsimp only at H)
      by_cases c16:t122=true
      ·subst c16;rw [if_pos rfl] at H;replace H:=bdI H;obtain ⟨t123,A17,H⟩:=H;(try dsimp only at H)
       have H':=sd H;clear H;obtain ⟨_,_,_,_,_,_,_,_,_,_,_,_⟩:=bk6 BK119;go_wp2_with (first | (go_at_call 24;(with_reducible refine (stmt_within.calls a0_3 1000000000000000 true _ A15.out).mono ?_);rintro e w' ⟨rfl,⟨nd,rfl⟩⟩;(try first | exact ⟨rfl,_,World.drewN_drewN _ _ _⟩ | exact ⟨rfl,_,Eq.trans (World.drewN_drewN _ _ _) (congrArg (World.drewN _) (Nat.add_assoc _ _ _))⟩)) | (go_at_call 24;(with_reducible refine (stmt_within.calls a0_4 1000000000000000 t123 _ A17.out).mono ?_);rintro e w' ⟨rfl,⟨nd,rfl⟩⟩;(try first | exact ⟨rfl,_,World.drewN_drewN _ _ _⟩ | exact ⟨rfl,_,Eq.trans (World.drewN_drewN _ _ _) (congrArg (World.drewN _) (Nat.add_assoc _ _ _))⟩)))
       repeat (go_quiet (first | (go_at_call 24;(with_reducible refine (stmt_within.calls a0_3 1000000000000000 true _ A15.out).mono ?_);rintro e w' ⟨rfl,⟨nd,rfl⟩⟩;(try first | exact ⟨rfl,_,World.drewN_drewN _ _ _⟩ | exact ⟨rfl,_,Eq.trans (World.drewN_drewN _ _ _) (congrArg (World.drewN _) (Nat.add_assoc _ _ _))⟩)) | (go_at_call 24;(with_reducible refine (stmt_within.calls a0_4 1000000000000000 t123 _ A17.out).mono ?_);rintro e w' ⟨rfl,⟨nd,rfl⟩⟩;(try first | exact ⟨rfl,_,World.drewN_drewN _ _ _⟩ | exact ⟨rfl,_,Eq.trans (World.drewN_drewN _ _ _) (congrArg (World.drewN _) (Nat.add_assoc _ _ _))⟩)));try go_wp2_with (first | (go_at_call 24;(with_reducible refine (stmt_within.calls a0_3 1000000000000000 true _ A15.out).mono ?_);rintro e w' ⟨rfl,⟨nd,rfl⟩⟩;(try first | exact ⟨rfl,_,World.drewN_drewN _ _ _⟩ | exact ⟨rfl,_,Eq.trans (World.drewN_drewN _ _ _) (congrArg (World.drewN _) (Nat.add_assoc _ _ _))⟩)) | (go_at_call 24;(with_reducible refine (stmt_within.calls a0_4 1000000000000000 t123 _ A17.out).mono ?_);rintro e w' ⟨rfl,⟨nd,rfl⟩⟩;(try first | exact ⟨rfl,_,World.drewN_drewN _ _ _⟩ | exact ⟨rfl,_,Eq.trans (World.drewN_drewN _ _ _) (congrArg (World.drewN _) (Nat.add_assoc _ _ _))⟩))))
       go_meet
       case rel=>exact ⟨_,(!t123),zq1,H',⟨zq24⟩,⟨zq66⟩,⟨zq67⟩⟩
      replace c16:=Bool.eq_false_iff.mpr c16;subst c16;rw [if_neg Bool.false_ne_true] at H;have H':=sd H;clear H;obtain ⟨_,_,_,_,_,_,_,_,_,_,_,_⟩:=bk6 BK119;go_wp2_with (first | (go_at_call 24;(with_reducible refine (stmt_within.calls a0_3 1000000000000000 false _ A15.out).mono ?_);rintro e w' ⟨rfl,⟨nd,rfl⟩⟩;(try first | exact ⟨rfl,_,World.drewN_drewN _ _ _⟩ | exact ⟨rfl,_,Eq.trans (World.drewN_drewN _ _ _) (congrArg (World.drewN _) (Nat.add_assoc _ _ _))⟩)))
      repeat (go_quiet (first | (go_at_call 24;(with_reducible refine (stmt_within.calls a0_3 1000000000000000 false _ A15.out).mono ?_);rintro e w' ⟨rfl,⟨nd,rfl⟩⟩;(try first | exact ⟨rfl,_,World.drewN_drewN _ _ _⟩ | exact ⟨rfl,_,Eq.trans (World.drewN_drewN _ _ _) (congrArg (World.drewN _) (Nat.add_assoc _ _ _))⟩)));try go_wp2_with (first | (go_at_call 24;(with_reducible refine (stmt_within.calls a0_3 1000000000000000 false _ A15.out).mono ?_);rintro e w' ⟨rfl,⟨nd,rfl⟩⟩;(try first | exact ⟨rfl,_,World.drewN_drewN _ _ _⟩ | exact ⟨rfl,_,Eq.trans (World.drewN_drewN _ _ _) (congrArg (World.drewN _) (Nat.add_assoc _ _ _))⟩))))
      go_meet
      case rel=>exact ⟨_,(true),zq1,H',⟨zq24⟩,⟨zq66⟩,⟨zq67⟩⟩
     case rest =>
      clear HC14;try clear c1
      try clear p2
      try clear c3
      try clear c5
      try clear c10
      try clear c10b0
      try clear c12
      try clear c13
      try clear c16
      try clear hcz11_0
      try clear hcz11_1
      try clear hcz11_2
      try clear hcz11_3
      try clear hcz11_4
      try clear hcz11_5
      try clear hcz12_0
      try clear hcz12_1
      try clear hcz12_2
      try clear hcz12_3
      try clear hcz12_4
      try clear hcz12_5
      try clear hcz18_0
      try clear hcz18_1
      try clear hcz18_2
      try clear hcz18_3
      try clear hcz18_4
      try clear hcz18_5
      try clear hcz19_0
      try clear hcz19_1
      try clear hcz19_2
      try clear hcz19_3
      try clear hcz19_4
      try clear hcz19_5
      try clear hcz8_0
      try clear hcz8_1
      try clear hcz8_2
      try clear hcz8_3
      try clear hcz8_4
      try clear hcz8_5
      try clear hfz11_0
      try clear hfz11_1
      try clear hfz11_2
      try clear hfz11_3
      try clear hfz11_4
      try clear hfz11_5
      try clear hfz12_0
      try clear hfz12_1
      try clear hfz12_2
      try clear hfz12_3
      try clear hfz12_4
      try clear hfz12_5
      try clear hfz18_0
      try clear hfz18_1
      try clear hfz18_2
      try clear hfz18_3
      try clear hfz18_4
      try clear hfz18_5
      try clear hfz19_0
      try clear hfz19_1
      try clear hfz19_2
      try clear hfz19_3
      try clear hfz19_4
      try clear hfz19_5
      try clear hfz8_0
      try clear hfz8_1
      try clear hfz8_2
      try clear hfz8_3
      try clear hfz8_4
      try clear hfz8_5
      try clear p2
      obtain ⟨kq,x27_13,rfl,HA,HJ13,BK119,HB⟩:=hcut
      cases kq with
      | zero=>exact absurd HA.out (by simp [stmt_Check.j1])
      | succ kj13 =>
       have H:=HA.out;clear HA;simp only [stmt_Check.j1] at H
       by_cases c20:x27_13=true
       ·subst c20;rw [if_pos rfl] at H;obtain rfl:=Option.some.inj H;go_wp2
        repeat (go_quiet (fail);try go_wp2)
        go_ret
        exact ⟨zq10,zq67⟩
       replace c20:=Bool.eq_false_iff.mpr c20;subst c20;rw [if_neg Bool.false_ne_true] at H;replace H:=ifI H;rcases H with ⟨c21,H⟩ | ⟨c21,H⟩
       ·have c21b0:decide (200 < (l0_5.length:Int))=true:=decide_eq_true c21;have c21b1:decide (200 < l0_5.length)=true:=decide_eq_true (by omega);clear c21;obtain rfl:=Option.some.inj H;obtain ⟨_,_,_,_,_,_,_,_,_,_,_,_⟩:=bk6 BK119;go_wp2
        repeat (go_quiet (fail);try go_wp2)
        go_ret
        exact ⟨zq10,zq67⟩
       have c21b0:decide (200 < (l0_5.length:Int))=false:=decide_eq_false c21;have c21b1:decide (200 < l0_5.length)=false:=decide_eq_false (by omega);clear c21;have H':=sd H;clear H;obtain ⟨_,_,_,_,_,_,_,_,_,_,_,_⟩:=bk6 BK119;go_wp2
       repeat (go_quiet (fail);try go_wp2)
       go_loopg [3,4,48] kj13 (fun kq v3 v4 v48 w'=>∃ (x3_3:Int) (x4_3:Int) (x48_3:Int),v3=.int .i64 x3_3∧v4=.int .i64 x4_3∧v48=.int .i64 x48_3∧Aside0 (stmt_Check.l0 kq x3_3 x4_3 l0_5 (l0_5.length:Int) x48_3 a0_0 a0_1 a0_2 a0_3 a0_4 l0_5=some r)∧Aside0 (kq≤kj13)∧Aside0 (w'.heap[gb119]?=some (.cells #[.string a0_0,.string a0_1,.int .i64 a0_2,.int .i64 a0_3,.int .i64 a0_4,(.slice A0_5 l0_5.length c0_5)] 24 (0,0)))∧Aside0 (Below w.heap.size w w'))
       case atStart=>exact ⟨(a0_3),(0),(0),zq1,zq1,zq1,H',⟨Nat.le_refl _⟩,⟨zq66⟩,⟨zq67⟩⟩
       case round =>
        clear H';try clear c1
        try clear c2
        try clear p2
        try clear c3
        try clear c5
        try clear c10
        try clear c10b0
        try clear c12
        try clear c13
        try clear c16
        try clear c20
        try clear c21
        try clear c21b0
        try clear c21b1
        try clear hcz11_0
        try clear hcz11_1
        try clear hcz11_2
        try clear hcz11_3
        try clear hcz11_4
        try clear hcz11_5
        try clear hcz12_0
        try clear hcz12_1
        try clear hcz12_2
        try clear hcz12_3
        try clear hcz12_4
        try clear hcz12_5
        try clear hcz18_0
        try clear hcz18_1
        try clear hcz18_2
        try clear hcz18_3
        try clear hcz18_4
        try clear hcz18_5
        try clear hcz19_0
        try clear hcz19_1
        try clear hcz19_2
        try clear hcz19_3
        try clear hcz19_4
        try clear hcz19_5
        try clear hcz22_0
        try clear hcz22_1
        try clear hcz22_2
        try clear hcz22_3
        try clear hcz22_4
        try clear hcz22_5
        try clear hcz23_0
        try clear hcz23_1
        try clear hcz23_2
        try clear hcz23_3
        try clear hcz23_4
        try clear hcz23_5
        try clear hcz8_0
        try clear hcz8_1
        try clear hcz8_2
        try clear hcz8_3
        try clear hcz8_4
        try clear hcz8_5
        try clear hfz11_0
        try clear hfz11_1
        try clear hfz11_2
        try clear hfz11_3
        try clear hfz11_4
        try clear hfz11_5
        try clear hfz12_0
        try clear hfz12_1
        try clear hfz12_2
        try clear hfz12_3
        try clear hfz12_4
        try clear hfz12_5
        try clear hfz18_0
        try clear hfz18_1
        try clear hfz18_2
        try clear hfz18_3
        try clear hfz18_4
        try clear hfz18_5
        try clear hfz19_0
        try clear hfz19_1
        try clear hfz19_2
        try clear hfz19_3
        try clear hfz19_4
        try clear hfz19_5
        try clear hfz22_0
        try clear hfz22_1
        try clear hfz22_2
        try clear hfz22_3
        try clear hfz22_4
        try clear hfz22_5
        try clear hfz23_0
        try clear hfz23_1
        try clear hfz23_2
        try clear hfz23_3
        try clear hfz23_4
        try clear hfz23_5
        try clear hfz8_0
        try clear hfz8_1
        try clear hfz8_2
        try clear hfz8_3
        try clear hfz8_4
        try clear hfz8_5
        try clear p2
        obtain ⟨x3_3,x4_3,x48_3,rfl,rfl,rfl,HA,HK3,BK119,HB⟩:=hrel
        cases gk with
        | zero=>exact absurd HA.out (by simp [stmt_Check.l0])
        | succ k3 =>
         have H:=HA.out;clear HA;simp only [stmt_Check.l0] at H
         replace H:=ifI H;rcases H with ⟨c24,H⟩ | ⟨c24,H⟩
         ·have c24b0:decide (x48_3 < (l0_5.length:Int))=true:=decide_eq_true c24;clear c24;replace H:=ifI H;rcases H with ⟨c25,H⟩ | ⟨c25,H⟩
          ·have c25b0:decide (0≤x48_3)=true:=decide_eq_true c25;clear c25;replace H:=ifI H;rcases H with ⟨c26,H⟩ | ⟨c26,H⟩
           ·have c26b0:decide (x48_3 < (l0_5.length:Int))=true:=decide_eq_true c26;clear c26;replace H:=bdI H;obtain ⟨t126,A27,H⟩:=H;(try dsimp only at H)
            replace H:=ifI H;rcases H with ⟨c28,H⟩ | ⟨c28,H⟩
            ·obtain ⟨c28b0,c28b1⟩:=eqI c28;clear c28;have H':=sd H;clear H;have p124:0≤(x48_3:Int):=od;have q124:x48_3 < (l0_5.length:Int):=od;obtain ⟨ad124,e124,hx124_0,hx124_1,hx124_2,hx124_3⟩:=at_T44 HR0_5.out x48_3 p124 q124
             cases e124
             replace hx124_0:=(HB.out.cell (World.block_lt_of_cell? w _ hx124_0)).trans hx124_0;replace hx124_1:=(HB.out.cell (World.block_lt_of_cell? w _ hx124_1)).trans hx124_1;replace hx124_2:=(HB.out.cell (World.block_lt_of_cell? w _ hx124_2)).trans hx124_2;replace hx124_3:=(HB.out.cell (World.block_lt_of_cell? w _ hx124_3)).trans hx124_3;replace p124:=eq_true p124;replace q124:=eq_true q124;go_wp2_with (first | ((with_reducible refine gate_dst (N:=6) rfl ?_);refine bxA 6 #[.int .i64 0,.int .i64 0,.string (⟨#[]⟩:ByteArray),.string (⟨#[]⟩:ByteArray)] 44 ?_;intro gb125 hg w29 hbox hb;have BK125:=sd (hbox);have GW125:=gem hg HB;have GE125:=GW125;have NB119_125:=nlm hg BK119;have NB125_119:=ngm hg BK119;replace BK119:=bkm BK119 hb;replace HB:=hbm HB hb;clear hb hbox hg;have hnb30:=NB125_119.out;have hnc30:=NB119_125.out;obtain ⟨_,_,_,_,_,_,_,_⟩:=bk4 BK125) | (go_at_call 25;(with_reducible refine (stmt_one.calls k3 ((rd_T44 l0_5 x48_3).f0) ((rd_T44 l0_5 x48_3).f1) ((rd_T44 l0_5 x48_3).f2) ((rd_T44 l0_5 x48_3).f3) x4_3 t126 _ A27.out (gl_below HG.out zq68)).mono ?_);rintro e w32 ⟨rfl,hb⟩;replace BK119:=sd (blk_below (g:=gb119) (o:=.cells #[.string a0_0,.string a0_1,.int .i64 a0_2,.int .i64 a0_3,.int .i64 a0_4,.slice (some ad124) l0_5.length c0_5] 24 (0,0)) zq69 hb);replace BK125:=sd (blk_below (g:=gb125) (o:=.cells #[.int .i64 ((rd_T44 l0_5 x48_3).f0),.int .i64 ((rd_T44 l0_5 x48_3).f1),.string ((rd_T44 l0_5 x48_3).f2),.string ((rd_T44 l0_5 x48_3).f3)] 44 (0,0)) zq70 hb);replace HB:=hbm HB hb;clear hb;obtain ⟨_,_,_,_,_,_,_,_⟩:=bk4 BK125))
             repeat (go_quiet (first | ((with_reducible refine gate_dst (N:=6) rfl ?_);refine bxA 6 #[.int .i64 0,.int .i64 0,.string (⟨#[]⟩:ByteArray),.string (⟨#[]⟩:ByteArray)] 44 ?_;intro gb125 hg w29 hbox hb;have BK125:=sd (hbox);have GW125:=gem hg HB;have GE125:=GW125;have NB119_125:=nlm hg BK119;have NB125_119:=ngm hg BK119;replace BK119:=bkm BK119 hb;replace HB:=hbm HB hb;clear hb hbox hg;have hnb30:=NB125_119.out;have hnc30:=NB119_125.out;obtain ⟨_,_,_,_,_,_,_,_⟩:=bk4 BK125) | (go_at_call 25;(with_reducible refine (stmt_one.calls k3 ((rd_T44 l0_5 x48_3).f0) ((rd_T44 l0_5 x48_3).f1) ((rd_T44 l0_5 x48_3).f2) ((rd_T44 l0_5 x48_3).f3) x4_3 t126 _ A27.out (gl_below HG.out zq68)).mono ?_);rintro e w32 ⟨rfl,hb⟩;replace BK119:=sd (blk_below (g:=gb119) (o:=.cells #[.string a0_0,.string a0_1,.int .i64 a0_2,.int .i64 a0_3,.int .i64 a0_4,.slice (some ad124) l0_5.length c0_5] 24 (0,0)) zq69 hb);replace BK125:=sd (blk_below (g:=gb125) (o:=.cells #[.int .i64 ((rd_T44 l0_5 x48_3).f0),.int .i64 ((rd_T44 l0_5 x48_3).f1),.string ((rd_T44 l0_5 x48_3).f2),.string ((rd_T44 l0_5 x48_3).f3)] 44 (0,0)) zq70 hb);replace HB:=hbm HB hb;clear hb;obtain ⟨_,_,_,_,_,_,_,_⟩:=bk4 BK125));try go_wp2_with (first | ((with_reducible refine gate_dst (N:=6) rfl ?_);refine bxA 6 #[.int .i64 0,.int .i64 0,.string (⟨#[]⟩:ByteArray),.string (⟨#[]⟩:ByteArray)] 44 ?_;intro gb125 hg w29 hbox hb;have BK125:=sd (hbox);have GW125:=gem hg HB;have GE125:=GW125;have NB119_125:=nlm hg BK119;have NB125_119:=ngm hg BK119;replace BK119:=bkm BK119 hb;replace HB:=hbm HB hb;clear hb hbox hg;have hnb30:=NB125_119.out;have hnc30:=NB119_125.out;obtain ⟨_,_,_,_,_,_,_,_⟩:=bk4 BK125) | (go_at_call 25;(with_reducible refine (stmt_one.calls k3 ((rd_T44 l0_5 x48_3).f0) ((rd_T44 l0_5 x48_3).f1) ((rd_T44 l0_5 x48_3).f2) ((rd_T44 l0_5 x48_3).f3) x4_3 t126 _ A27.out (gl_below HG.out zq68)).mono ?_);rintro e w32 ⟨rfl,hb⟩;replace BK119:=sd (blk_below (g:=gb119) (o:=.cells #[.string a0_0,.string a0_1,.int .i64 a0_2,.int .i64 a0_3,.int .i64 a0_4,.slice (some ad124) l0_5.length c0_5] 24 (0,0)) zq69 hb);replace BK125:=sd (blk_below (g:=gb125) (o:=.cells #[.int .i64 ((rd_T44 l0_5 x48_3).f0),.int .i64 ((rd_T44 l0_5 x48_3).f1),.string ((rd_T44 l0_5 x48_3).f2),.string ((rd_T44 l0_5 x48_3).f3)] 44 (0,0)) zq70 hb);replace HB:=hbm HB hb;clear hb;obtain ⟨_,_,_,_,_,_,_,_⟩:=bk4 BK125)))
             go_roundg k3
             case measure=>have:=HJ5.out;have:=HJ13.out;have:=HK3.out;omega
             case rel=>exact ⟨(wrap64 (x3_3+((rd_T44 l0_5 x48_3).f1))),((rd_T44 l0_5 x48_3).f0),(wrap64 (x48_3+1)),zq1,zq1,zq1,H',⟨by have:=HJ5.out;have:=HJ13.out;have:=HK3.out;omega⟩,⟨zq66⟩,⟨by repeat (first | (with_reducible first | exact HB.out | apply below_alloc | apply pw_below_drewN | apply below_drew1 | refine below_set ?_ GE119.out | refine below_set ?_ GE125.out) | exact HB.out)⟩⟩
            obtain ⟨c28b0,c28b1⟩:=neI c28;obtain rfl:=Option.some.inj H;have p124:0≤(x48_3:Int):=od;have q124:x48_3 < (l0_5.length:Int):=od;obtain ⟨ad124,e124,hx124_0,hx124_1,hx124_2,hx124_3⟩:=at_T44 HR0_5.out x48_3 p124 q124
            cases e124
            replace hx124_0:=(HB.out.cell (World.block_lt_of_cell? w _ hx124_0)).trans hx124_0;replace hx124_1:=(HB.out.cell (World.block_lt_of_cell? w _ hx124_1)).trans hx124_1;replace hx124_2:=(HB.out.cell (World.block_lt_of_cell? w _ hx124_2)).trans hx124_2;replace hx124_3:=(HB.out.cell (World.block_lt_of_cell? w _ hx124_3)).trans hx124_3;replace p124:=eq_true p124;replace q124:=eq_true q124;go_wp2_with (first | ((with_reducible refine gate_dst (N:=6) rfl ?_);refine bxA 6 #[.int .i64 0,.int .i64 0,.string (⟨#[]⟩:ByteArray),.string (⟨#[]⟩:ByteArray)] 44 ?_;intro gb125 hg w34 hbox hb;have BK125:=sd (hbox);have GW125:=gem hg HB;have GE125:=GW125;have NB119_125:=nlm hg BK119;have NB125_119:=ngm hg BK119;replace BK119:=bkm BK119 hb;replace HB:=hbm HB hb;clear hb hbox hg;have hnb35:=NB125_119.out;have hnc35:=NB119_125.out;obtain ⟨_,_,_,_,_,_,_,_⟩:=bk4 BK125) | (go_at_call 25;(with_reducible refine (stmt_one.calls k3 ((rd_T44 l0_5 x48_3).f0) ((rd_T44 l0_5 x48_3).f1) ((rd_T44 l0_5 x48_3).f2) ((rd_T44 l0_5 x48_3).f3) x4_3 t126 _ A27.out (gl_below HG.out zq68)).mono ?_);rintro e w37 ⟨rfl,hb⟩;replace BK119:=sd (blk_below (g:=gb119) (o:=.cells #[.string a0_0,.string a0_1,.int .i64 a0_2,.int .i64 a0_3,.int .i64 a0_4,.slice (some ad124) l0_5.length c0_5] 24 (0,0)) zq69 hb);replace BK125:=sd (blk_below (g:=gb125) (o:=.cells #[.int .i64 ((rd_T44 l0_5 x48_3).f0),.int .i64 ((rd_T44 l0_5 x48_3).f1),.string ((rd_T44 l0_5 x48_3).f2),.string ((rd_T44 l0_5 x48_3).f3)] 44 (0,0)) zq70 hb);replace HB:=hbm HB hb;clear hb))
            repeat (go_quiet (first | ((with_reducible refine gate_dst (N:=6) rfl ?_);refine bxA 6 #[.int .i64 0,.int .i64 0,.string (⟨#[]⟩:ByteArray),.string (⟨#[]⟩:ByteArray)] 44 ?_;intro gb125 hg w34 hbox hb;have BK125:=sd (hbox);have GW125:=gem hg HB;have GE125:=GW125;have NB119_125:=nlm hg BK119;have NB125_119:=ngm hg BK119;replace BK119:=bkm BK119 hb;replace HB:=hbm HB hb;clear hb hbox hg;have hnb35:=NB125_119.out;have hnc35:=NB119_125.out;obtain ⟨_,_,_,_,_,_,_,_⟩:=bk4 BK125) | (go_at_call 25;(with_reducible refine (stmt_one.calls k3 ((rd_T44 l0_5 x48_3).f0) ((rd_T44 l0_5 x48_3).f1) ((rd_T44 l0_5 x48_3).f2) ((rd_T44 l0_5 x48_3).f3) x4_3 t126 _ A27.out (gl_below HG.out zq68)).mono ?_);rintro e w37 ⟨rfl,hb⟩;replace BK119:=sd (blk_below (g:=gb119) (o:=.cells #[.string a0_0,.string a0_1,.int .i64 a0_2,.int .i64 a0_3,.int .i64 a0_4,.slice (some ad124) l0_5.length c0_5] 24 (0,0)) zq69 hb);replace BK125:=sd (blk_below (g:=gb125) (o:=.cells #[.int .i64 ((rd_T44 l0_5 x48_3).f0),.int .i64 ((rd_T44 l0_5 x48_3).f1),.string ((rd_T44 l0_5 x48_3).f2),.string ((rd_T44 l0_5 x48_3).f3)] 44 (0,0)) zq70 hb);replace HB:=hbm HB hb;clear hb));try go_wp2_with (first | ((with_reducible refine gate_dst (N:=6) rfl ?_);refine bxA 6 #[.int .i64 0,.int .i64 0,.string (⟨#[]⟩:ByteArray),.string (⟨#[]⟩:ByteArray)] 44 ?_;intro gb125 hg w34 hbox hb;have BK125:=sd (hbox);have GW125:=gem hg HB;have GE125:=GW125;have NB119_125:=nlm hg BK119;have NB125_119:=ngm hg BK119;replace BK119:=bkm BK119 hb;replace HB:=hbm HB hb;clear hb hbox hg;have hnb35:=NB125_119.out;have hnc35:=NB119_125.out;obtain ⟨_,_,_,_,_,_,_,_⟩:=bk4 BK125) | (go_at_call 25;(with_reducible refine (stmt_one.calls k3 ((rd_T44 l0_5 x48_3).f0) ((rd_T44 l0_5 x48_3).f1) ((rd_T44 l0_5 x48_3).f2) ((rd_T44 l0_5 x48_3).f3) x4_3 t126 _ A27.out (gl_below HG.out zq68)).mono ?_);rintro e w37 ⟨rfl,hb⟩;replace BK119:=sd (blk_below (g:=gb119) (o:=.cells #[.string a0_0,.string a0_1,.int .i64 a0_2,.int .i64 a0_3,.int .i64 a0_4,.slice (some ad124) l0_5.length c0_5] 24 (0,0)) zq69 hb);replace BK125:=sd (blk_below (g:=gb125) (o:=.cells #[.int .i64 ((rd_T44 l0_5 x48_3).f0),.int .i64 ((rd_T44 l0_5 x48_3).f1),.string ((rd_T44 l0_5 x48_3).f2),.string ((rd_T44 l0_5 x48_3).f3)] 44 (0,0)) zq70 hb);replace HB:=hbm HB hb;clear hb)))
            go_ret
            exact ⟨zq10,by repeat (first | (with_reducible first | exact HB.out | apply below_alloc | apply pw_below_drewN | apply below_drew1 | refine below_set ?_ GE119.out | refine below_set ?_ GE125.out) | exact HB.out)⟩
           exact absurd H (by simp)
          exact absurd H (by simp)
         have c24b0:decide (x48_3 < (l0_5.length:Int))=false:=decide_eq_false c24;clear c24;replace H:=ifI H;rcases H with ⟨c38,H⟩ | ⟨c38,H⟩
         ·obtain ⟨c38b0,c38b1⟩:=eqI c38;clear c38;obtain rfl:=Option.some.inj H;obtain ⟨_,_,_,_,_,_,_,_,_,_,_,_⟩:=bk6 BK119;go_wp2
          repeat (go_quiet (fail);try go_wp2)
          go_ret
          exact ⟨zq10,zq67⟩
         obtain ⟨c38b0,c38b1⟩:=neI c38;obtain rfl:=Option.some.inj H;obtain ⟨_,_,_,_,_,_,_,_,_,_,_,_⟩:=bk6 BK119;go_wp2
         repeat (go_quiet (fail);try go_wp2)
         go_ret
         exact ⟨zq10,zq67⟩
  replace c5:=Bool.eq_false_iff.mpr c5;subst c5;rw [if_neg Bool.false_ne_true] at H;obtain rfl:=Option.some.inj H;go_enter Tryd.func12,Tryd.ntmps12
  go_wp2_with (first | ((with_reducible refine gate_dst (N:=1) rfl ?_);refine bxA 1 #[.string a0_0,.string a0_1,.int .i64 a0_2,.int .i64 a0_3,.int .i64 a0_4,.slice A0_5 l0_5.length c0_5] 24 ?_;intro gb119 hg w41 hbox hb;have BK119:=sd (hbox);have GW119:=gem hg HB;have GE119:=GW119;replace HB:=hbm HB hb;clear hb hbox hg;obtain ⟨_,_,_,_,_,_,_,_,_,_,_,_⟩:=bk6 BK119) | (go_at_call 22;(with_reducible refine (words_Code.calls a0_0 true _ A2.out).mono ?_);rintro e w' ⟨rfl,⟨nd,rfl⟩⟩;(try first | exact ⟨rfl,_,World.drewN_drewN _ _ _⟩ | exact ⟨rfl,_,Eq.trans (World.drewN_drewN _ _ _) (congrArg (World.drewN _) (Nat.add_assoc _ _ _))⟩)) | (go_at_call 23;(with_reducible refine (money_Code.calls a0_1 false _ A4.out).mono ?_);rintro e w43 ⟨rfl,hb⟩;replace BK119:=bkm BK119 hb;replace HB:=hbm HB hb;clear hb))
  repeat (go_quiet (first | ((with_reducible refine gate_dst (N:=1) rfl ?_);refine bxA 1 #[.string a0_0,.string a0_1,.int .i64 a0_2,.int .i64 a0_3,.int .i64 a0_4,.slice A0_5 l0_5.length c0_5] 24 ?_;intro gb119 hg w41 hbox hb;have BK119:=sd (hbox);have GW119:=gem hg HB;have GE119:=GW119;replace HB:=hbm HB hb;clear hb hbox hg;obtain ⟨_,_,_,_,_,_,_,_,_,_,_,_⟩:=bk6 BK119) | (go_at_call 22;(with_reducible refine (words_Code.calls a0_0 true _ A2.out).mono ?_);rintro e w' ⟨rfl,⟨nd,rfl⟩⟩;(try first | exact ⟨rfl,_,World.drewN_drewN _ _ _⟩ | exact ⟨rfl,_,Eq.trans (World.drewN_drewN _ _ _) (congrArg (World.drewN _) (Nat.add_assoc _ _ _))⟩)) | (go_at_call 23;(with_reducible refine (money_Code.calls a0_1 false _ A4.out).mono ?_);rintro e w43 ⟨rfl,hb⟩;replace BK119:=bkm BK119 hb;replace HB:=hbm HB hb;clear hb));try go_wp2_with (first | ((with_reducible refine gate_dst (N:=1) rfl ?_);refine bxA 1 #[.string a0_0,.string a0_1,.int .i64 a0_2,.int .i64 a0_3,.int .i64 a0_4,.slice A0_5 l0_5.length c0_5] 24 ?_;intro gb119 hg w41 hbox hb;have BK119:=sd (hbox);have GW119:=gem hg HB;have GE119:=GW119;replace HB:=hbm HB hb;clear hb hbox hg;obtain ⟨_,_,_,_,_,_,_,_,_,_,_,_⟩:=bk6 BK119) | (go_at_call 22;(with_reducible refine (words_Code.calls a0_0 true _ A2.out).mono ?_);rintro e w' ⟨rfl,⟨nd,rfl⟩⟩;(try first | exact ⟨rfl,_,World.drewN_drewN _ _ _⟩ | exact ⟨rfl,_,Eq.trans (World.drewN_drewN _ _ _) (congrArg (World.drewN _) (Nat.add_assoc _ _ _))⟩)) | (go_at_call 23;(with_reducible refine (money_Code.calls a0_1 false _ A4.out).mono ?_);rintro e w43 ⟨rfl,hb⟩;replace BK119:=bkm BK119 hb;replace HB:=hbm HB hb;clear hb)))
  go_ret
  exact ⟨zq10,zq67⟩
 replace c3:=Bool.eq_false_iff.mpr c3;subst c3;rw [if_neg Bool.false_ne_true] at H;obtain rfl:=Option.some.inj H;go_enter Tryd.func12,Tryd.ntmps12
 go_wp2_with (first | ((with_reducible refine gate_dst (N:=1) rfl ?_);refine bxA 1 #[.string a0_0,.string a0_1,.int .i64 a0_2,.int .i64 a0_3,.int .i64 a0_4,.slice A0_5 l0_5.length c0_5] 24 ?_;intro gb119 hg w44 hbox hb;have BK119:=sd (hbox);have GW119:=gem hg HB;have GE119:=GW119;replace HB:=hbm HB hb;clear hb hbox hg;obtain ⟨_,_,_,_,_,_,_,_,_,_,_,_⟩:=bk6 BK119) | (go_at_call 22;(with_reducible refine (words_Code.calls a0_0 false _ A2.out).mono ?_);rintro e w' ⟨rfl,⟨nd,rfl⟩⟩;(try first | exact ⟨rfl,_,World.drewN_drewN _ _ _⟩ | exact ⟨rfl,_,Eq.trans (World.drewN_drewN _ _ _) (congrArg (World.drewN _) (Nat.add_assoc _ _ _))⟩)))
 repeat (go_quiet (first | ((with_reducible refine gate_dst (N:=1) rfl ?_);refine bxA 1 #[.string a0_0,.string a0_1,.int .i64 a0_2,.int .i64 a0_3,.int .i64 a0_4,.slice A0_5 l0_5.length c0_5] 24 ?_;intro gb119 hg w44 hbox hb;have BK119:=sd (hbox);have GW119:=gem hg HB;have GE119:=GW119;replace HB:=hbm HB hb;clear hb hbox hg;obtain ⟨_,_,_,_,_,_,_,_,_,_,_,_⟩:=bk6 BK119) | (go_at_call 22;(with_reducible refine (words_Code.calls a0_0 false _ A2.out).mono ?_);rintro e w' ⟨rfl,⟨nd,rfl⟩⟩;(try first | exact ⟨rfl,_,World.drewN_drewN _ _ _⟩ | exact ⟨rfl,_,Eq.trans (World.drewN_drewN _ _ _) (congrArg (World.drewN _) (Nat.add_assoc _ _ _))⟩)));try go_wp2_with (first | ((with_reducible refine gate_dst (N:=1) rfl ?_);refine bxA 1 #[.string a0_0,.string a0_1,.int .i64 a0_2,.int .i64 a0_3,.int .i64 a0_4,.slice A0_5 l0_5.length c0_5] 24 ?_;intro gb119 hg w44 hbox hb;have BK119:=sd (hbox);have GW119:=gem hg HB;have GE119:=GW119;replace HB:=hbm HB hb;clear hb hbox hg;obtain ⟨_,_,_,_,_,_,_,_,_,_,_,_⟩:=bk6 BK119) | (go_at_call 22;(with_reducible refine (words_Code.calls a0_0 false _ A2.out).mono ?_);rintro e w' ⟨rfl,⟨nd,rfl⟩⟩;(try first | exact ⟨rfl,_,World.drewN_drewN _ _ _⟩ | exact ⟨rfl,_,Eq.trans (World.drewN_drewN _ _ _) (congrArg (World.drewN _) (Nat.add_assoc _ _ _))⟩))))
 go_ret
 exact ⟨zq10,zq67⟩
theorem parse_pos (s:ByteArray) (lo hi:Int) (hs:s.size≤140737488351232) (w:World) (hf:formedL s.data.toList=true) (hn:negOf s.data.toList=false) :
  Calls Tryd.prog 87 #[.string s,.int .i64 lo,.int .i64 hi] w fun e w'=>e=.returned (.tuple #[.int .i64 (parseL s.data.toList lo hi).1,.int .i64 (parseL s.data.toList lo hi).2])∧Drawn0 w w':=by
 have hF:=formed_calls s hs;rw [hf] at hF;have hsz:=size_eq' s;have hm:magOf s.data.toList=s.data.toList:=by simp [magOf,hn]
 have hne:=formed_some hf;have hdg:=formed_digits hf;rw [hm] at hne hdg;have h0:0 < s.size:=by rw [hsz];exact List.length_pos_iff.mpr hne
 have hat:∀ j,(h:j < s.size)→(h':j < s.data.toList.length)→s.data.toList[j]=s[j]:=fun j h h'=>by simp;rfl
 have hb:((s[0].toNat:Int) == 45)=false:=by
  rw [beq_eq_false_iff_ne];intro h;have:=(byte_is s[0] 45).mp h;rw [← hat 0 h0 (by omega)] at this;unfold negOf at hn;rw [List.head?_eq_getElem?,List.getElem?_eq_getElem (by omega),this] at hn;simp at hn
 have HS:=fun j n h=>@parse_stop s.data.toList hf j n h lo hi
 have HW:=fun j n h hj=>@parse_whole s.data.toList hf j n h hj lo hi
 have H0:=sd (PInv.start (negOf s.data.toList) s.data.toList);rw [hm] at HS HW;rw [hn] at HS HW H0;have HS:=sd HS;have HW:=sd HW;have HFc:=sd hF
 have HD:∀ j,(h:j < s.size)→isDig s[j]=true:=fun j h=>by
  rw [← hat j h (by omega)];exact List.all_eq_true.mp hdg _ (List.getElem_mem _)
 have HD:=sd HD;have HA:=sd hat;have HZ:=sd hsz;clear hf hn hF hm hne hdg hat hsz;generalize hP:(fun e w'=>e=Ending.returned (.tuple #[.int .i64 (parseL s.data.toList lo hi).1,.int .i64 (parseL s.data.toList lo hi).2])∧Drawn0 w w')=Post;have HP:=sd hP;clear hP;go_enter Tryd.func87,Tryd.ntmps87
 go_wp2_with fail
 refine (HFc.out _).mono ?_;rintro e w1 ⟨rfl,hd1⟩;obtain ⟨⟨n1,rfl⟩⟩:=hd1;go_wp2_with fail
 go_loopw [6,9,10] (fun n_ at_ ok_ wr=>∃ (p:Nat) (n:Int) (ok:Bool),p≤s.size∧n_=.int .i64 n∧at_=.int .i64 p∧ok_=.bool ok∧Aside0 (PInv false s.data.toList p n ok)∧Drawn0 w wr) (fun _ at_ _ _=>(s.size - (RowKit.intOf at_).toNat))
 case atStart=>exact ⟨0,0,true,by omega,rfl,rfl,rfl,H0,(Drawn0.refl _).step _⟩
 case round =>
  obtain ⟨p,n,ok,hp,rfl,rfl,rfl,HI,HDr⟩:=hrel;rename World=>wr
  cases ok
  ·have hr:=HS.out _ _ HI.out;have HR:=sd hr;clear hr;by_cases hlt:p < s.size
   ·go_wp2_with fail
    rw [← HP.out];exact ⟨by rw [HR.out];(try rfl),HDr⟩
   go_wp2_with fail
   rw [← HP.out];exact ⟨by rw [HR.out];(try rfl),HDr⟩
  ·by_cases hlt:p < s.size
   ·have hd:=(isDig_iff _).mp (HD.out p hlt);obtain ⟨hd1,hd2⟩:=hd;have hj:p < s.data.toList.length:=by rw [← HZ.out];exact hlt
    have HJ:=sd hj;clear hj;have hI:=(slot_ok HI.out).2;have hM:num_Mul.f n 10=some (fit (n * 10)):=by unfold num_Mul.f;rw [if_pos ⟨hI,by unfold I64;omega⟩]
    have hIn:-9223372036854775808≤n∧n≤9223372036854775807:=hI;obtain ⟨hIn1,hIn2⟩:=hIn;clear hI;by_cases hm:I64 (n * 10)
    ·rw [fit_yes hm] at hM;have hA:=num_Add_eq (n * 10) ((s[p].toNat:Int) - 48) hm (by unfold I64;omega);have hN:=PInv.next HI.out HJ.out (by rw [HA.out p hlt HJ.out];exact HD.out p hlt) (x:=n * 10+((s[p].toNat:Int) - 48)) (by rw [HA.out p hlt HJ.out];rfl);generalize fit (n * 10+((s[p].toNat:Int) - 48))=q at hA hN;obtain ⟨q1,q2⟩:=q;have HM:=sd hM;have HAd:=sd hA;have HN:=sd hN;have hm':-9223372036854775808≤n * 10∧n * 10≤9223372036854775807:=hm;obtain ⟨hm1,hm2⟩:=hm';clear hM hA hN hm;go_wp2_with fail
     refine (num_Mul.calls _ _ _ _ _ HM.out).mono ?_;rintro e w1 ⟨rfl,hd3⟩;obtain ⟨⟨n3,rfl⟩⟩:=hd3;go_wp2_with fail
     refine (num_Add.calls _ _ _ _ _ HAd.out).mono ?_;rintro e w1 ⟨rfl,hd4⟩;obtain ⟨⟨n4,rfl⟩⟩:=hd4;go_wp2_with fail
     go_roundw
     case rel=>exact ⟨p+1,q1,q2,by omega,rfl,by go_num,rfl,HN,HDr.step _⟩
     case measure=>simp [RowKit.intOf];omega
    rw [fit_no hm] at hM;have hN:=PInv.over HI.out HJ.out hm;have HM:=sd hM;have HN:=sd hN;clear hM hN hm;go_wp2_with fail
    refine (num_Mul.calls _ _ _ _ _ HM.out).mono ?_;rintro e w1 ⟨rfl,hd3⟩;obtain ⟨⟨n3,rfl⟩⟩:=hd3;go_wp2_with fail
    go_roundw
    case rel=>exact ⟨p+1,0,false,by omega,rfl,by go_num,rfl,HN,HDr.step _⟩
    case measure=>simp [RowKit.intOf];omega
   have hr:=HW.out _ _ HI.out (by rw [← HZ.out];omega);have HR:=sd hr;clear hr;by_cases h1:n < lo
   ·go_wp2_with fail
    rw [← HP.out];exact ⟨zq4,HDr⟩
   by_cases h2:hi < n
   ·go_wp2_with fail
    rw [← HP.out];exact ⟨zq4,HDr⟩
   go_wp2_with fail
   rw [← HP.out];exact ⟨by rw [HR.out,if_neg (by omega)];(try rfl),HDr⟩
theorem parse_neg (s:ByteArray) (lo hi:Int) (hs:s.size≤140737488351232) (w:World) (hf:formedL s.data.toList=true) (hn:negOf s.data.toList=true) :
  Calls Tryd.prog 87 #[.string s,.int .i64 lo,.int .i64 hi] w fun e w'=>e=.returned (.tuple #[.int .i64 (parseL s.data.toList lo hi).1,.int .i64 (parseL s.data.toList lo hi).2])∧Drawn0 w w':=by
 have hF:=formed_calls s hs;rw [hf] at hF;have hsz:=size_eq' s;have hm:magOf s.data.toList=s.data.toList.drop 1:=by simp [magOf,hn]
 have hne:=formed_some hf;have hdg:=formed_digits hf;rw [hm] at hne hdg
 have h0:1 < s.size:=by
  rw [hsz];rcases Nat.lt_or_ge 1 s.data.toList.length with h | h
  ·exact h
  ·exact absurd (List.drop_eq_nil_of_le h) hne
 have h00:0 < s.size:=by omega
 have hat:∀ j,(h:j+1 < s.size)→(h':j < (s.data.toList.drop 1).length)→(s.data.toList.drop 1)[j]=s[j+1]:=fun j h h'=>by simp [Nat.add_comm 1 j];rfl
 have hb:((s[0].toNat:Int) == 45)=true:=by
  rw [beq_iff_eq];refine (byte_is s[0] 45).mpr ?_;unfold negOf at hn;rw [List.head?_eq_getElem?,List.getElem?_eq_getElem (by omega),beq_iff_eq,Option.some_inj] at hn;rw [← hn];simp;(try rfl)
 have HS:=fun j n h=>@parse_stop s.data.toList hf j n h lo hi
 have HW:=fun j n h hj=>@parse_whole s.data.toList hf j n h hj lo hi
 have H0:=sd (PInv.start (negOf s.data.toList) (s.data.toList.drop 1));rw [hm] at HS HW;rw [hn] at HS HW H0;have HS:=sd HS;have HW:=sd HW;have HFc:=sd hF
 have HD:∀ j,(h:j+1 < s.size)→isDig s[j+1]=true:=fun j h=>by
  rw [← hat j h (by rw [List.length_drop];omega)];exact List.all_eq_true.mp hdg _ (List.getElem_mem _)
 have HD:=sd HD;have HA:=sd hat;have HZ:=sd hsz;clear hf hn hF hm hne hdg hat hsz;generalize hP:(fun e w'=>e=Ending.returned (.tuple #[.int .i64 (parseL s.data.toList lo hi).1,.int .i64 (parseL s.data.toList lo hi).2])∧Drawn0 w w')=Post;have HP:=sd hP;clear hP;go_enter Tryd.func87,Tryd.ntmps87
 go_wp2_with fail
 refine (HFc.out _).mono ?_;rintro e w1 ⟨rfl,hd1⟩;obtain ⟨⟨n1,rfl⟩⟩:=hd1;go_wp2_with fail
 go_loopw [6,9,10] (fun n_ at_ ok_ wr=>∃ (p:Nat) (n:Int) (ok:Bool),p+1≤s.size∧n_=.int .i64 n∧at_=.int .i64 ((p:Int)+1)∧ok_=.bool ok∧Aside0 (PInv true (s.data.toList.drop 1) p n ok)∧Drawn0 w wr) (fun _ at_ _ _=>(s.size - (RowKit.intOf at_).toNat))
 case atStart=>exact ⟨0,0,true,by omega,rfl,rfl,rfl,H0,(Drawn0.refl _).step _⟩
 case round =>
  obtain ⟨p,n,ok,hp,rfl,rfl,rfl,HI,HDr⟩:=hrel;rename World=>wr
  cases ok
  ·have hr:=HS.out _ _ HI.out;have HR:=sd hr;clear hr;by_cases hlt:p+1 < s.size
   ·go_wp2_with fail
    rw [← HP.out];exact ⟨by rw [HR.out];(try rfl),HDr⟩
   go_wp2_with fail
   rw [← HP.out];exact ⟨by rw [HR.out];(try rfl),HDr⟩
  ·by_cases hlt:p+1 < s.size
   ·have hd:=(isDig_iff _).mp (HD.out p hlt);obtain ⟨hd1,hd2⟩:=hd;have hj:p < (s.data.toList.drop 1).length:=by rw [List.length_drop,← HZ.out];omega
    have HJ:=sd hj;clear hj;have hI:=(slot_ok HI.out).2;have hM:num_Mul.f n 10=some (fit (n * 10)):=by unfold num_Mul.f;rw [if_pos ⟨hI,by unfold I64;omega⟩]
    have hIn:-9223372036854775808≤n∧n≤9223372036854775807:=hI;obtain ⟨hIn1,hIn2⟩:=hIn;clear hI;by_cases hm:I64 (n * 10)
    ·rw [fit_yes hm] at hM;have hA:=num_Sub_eq (n * 10) ((s[p+1].toNat:Int) - 48) hm (by unfold I64;omega);have hN:=PInv.next HI.out HJ.out (by rw [HA.out p hlt HJ.out];exact HD.out p hlt) (x:=n * 10 - ((s[p+1].toNat:Int) - 48)) (by rw [HA.out p hlt HJ.out];rfl);generalize fit (n * 10 - ((s[p+1].toNat:Int) - 48))=q at hA hN;obtain ⟨q1,q2⟩:=q;have HM:=sd hM;have HAd:=sd hA;have HN:=sd hN;have hm':-9223372036854775808≤n * 10∧n * 10≤9223372036854775807:=hm;obtain ⟨hm1,hm2⟩:=hm';clear hM hA hN hm;go_wp2_with fail
     refine (num_Mul.calls _ _ _ _ _ HM.out).mono ?_;rintro e w1 ⟨rfl,hd3⟩;obtain ⟨⟨n3,rfl⟩⟩:=hd3;go_wp2_with fail
     refine (num_Sub.calls _ _ _ _ _ HAd.out).mono ?_;rintro e w1 ⟨rfl,hd4⟩;obtain ⟨⟨n4,rfl⟩⟩:=hd4;go_wp2_with fail
     go_roundw
     case rel=>exact ⟨p+1,q1,q2,by omega,rfl,by go_num,rfl,HN,HDr.step _⟩
     case measure=>simp [RowKit.intOf];omega
    rw [fit_no hm] at hM;have hN:=PInv.over HI.out HJ.out hm;have HM:=sd hM;have HN:=sd hN;clear hM hN hm;go_wp2_with fail
    refine (num_Mul.calls _ _ _ _ _ HM.out).mono ?_;rintro e w1 ⟨rfl,hd3⟩;obtain ⟨⟨n3,rfl⟩⟩:=hd3;go_wp2_with fail
    go_roundw
    case rel=>exact ⟨p+1,0,false,by omega,rfl,by go_num,rfl,HN,HDr.step _⟩
    case measure=>simp [RowKit.intOf];omega
   have hr:=HW.out _ _ HI.out (by rw [List.length_drop,← HZ.out];omega);have HR:=sd hr;clear hr;by_cases h1:n < lo
   ·go_wp2_with fail
    rw [← HP.out];exact ⟨zq4,HDr⟩
   by_cases h2:hi < n
   ·go_wp2_with fail
    rw [← HP.out];exact ⟨zq4,HDr⟩
   go_wp2_with fail
   rw [← HP.out];exact ⟨by rw [HR.out,if_neg (by omega)];(try rfl),HDr⟩
theorem num_Parse.calls (a0:ByteArray) (a1 a2 r1 r2:Int) (w:World) (h:num_Parse.f a0 a1 a2=some (r1,r2)) :
  Calls Tryd.prog 87 #[.string a0,.int .i64 a1,.int .i64 a2] w fun e w'=>e=.returned (.tuple #[.int .i64 r1,.int .i64 r2])∧Drawn0 w w':=by
 unfold num_Parse.f at h;split at h <;> simp only [Option.some.injEq,reduceCtorEq] at h
 rename_i hs
 have e1:r1=(parseL a0.data.toList a1 a2).1:=by rw [h]
 have e2:r2=(parseL a0.data.toList a1 a2).2:=by rw [h]
 subst e1 e2;clear h
 cases hf:formedL a0.data.toList
 ·have hF:=formed_calls a0 hs;rw [hf] at hF;have hp:parseL a0.data.toList a1 a2=(0,5):=by unfold parseL;rw [hf];rfl
  have HP:=sd hp;have HFc:=sd hF;clear hf hF hp;generalize hP:(fun e w'=>e=Ending.returned (.tuple #[.int .i64 (parseL a0.data.toList a1 a2).1,.int .i64 (parseL a0.data.toList a1 a2).2])∧Drawn0 w w')=Post;rw [HP.out] at hP;have HPo:=sd hP;clear hP;go_enter Tryd.func87,Tryd.ntmps87
  go_wp2_with fail
  refine (HFc.out _).mono ?_;rintro e w1 ⟨rfl,hd1⟩;obtain ⟨⟨n1,rfl⟩⟩:=hd1;go_wp2_with fail
  rw [← HPo.out];exact ⟨rfl,(Drawn0.refl _).step _⟩
 ·cases hn:negOf a0.data.toList
  ·exact parse_pos a0 a1 a2 hs w hf hn
  ·exact parse_neg a0 a1 a2 hs w hf hn
theorem money_Parse.calls (k:Nat) (a0:ByteArray) (a1 r1 r2:Int) (w:World) (h:money_Parse.f k a0 a1=some (r1,r2)) :
  Calls Tryd.prog 69 #[.string a0,.int .i64 a1] w fun e w'=>e=.returned (.tuple #[.int .i64 r1,.int .i64 r2])∧Below w.heap.size w w':=by
 have HB:=sd (Below.refl w.heap.size w);have H:=h;clear h;unfold money_Parse.f at H;replace H:=bdI H;obtain ⟨t200,A3,H⟩:=H;(try dsimp only at H)
 by_cases c4:t200=true
 ·subst c4;rw [if_pos rfl] at H;have HC5:=sd H;clear H;go_enter Tryd.func69,Tryd.ntmps69
  go_upto_region 4 with (first | (go_at_call 59;(with_reducible refine (money_fits.calls a1 true _ A3.out).mono ?_);rintro e w' ⟨rfl,⟨nd,rfl⟩⟩;(try first | exact ⟨rfl,_,World.drewN_drewN _ _ _⟩ | exact ⟨rfl,_,Eq.trans (World.drewN_drewN _ _ _) (congrArg (World.drewN _) (Nat.add_assoc _ _ _))⟩)))
  repeat (go_quiet (first | (go_at_call 59;(with_reducible refine (money_fits.calls a1 true _ A3.out).mono ?_);rintro e w' ⟨rfl,⟨nd,rfl⟩⟩;(try first | exact ⟨rfl,_,World.drewN_drewN _ _ _⟩ | exact ⟨rfl,_,Eq.trans (World.drewN_drewN _ _ _) (congrArg (World.drewN _) (Nat.add_assoc _ _ _))⟩)));go_upto_region 4 with (first | (go_at_call 59;(with_reducible refine (money_fits.calls a1 true _ A3.out).mono ?_);rintro e w' ⟨rfl,⟨nd,rfl⟩⟩;(try first | exact ⟨rfl,_,World.drewN_drewN _ _ _⟩ | exact ⟨rfl,_,Eq.trans (World.drewN_drewN _ _ _) (congrArg (World.drewN _) (Nat.add_assoc _ _ _))⟩))))
  (try simp only [Act.put,List.setIfInBounds_toArray,List.set_cons_zero,List.set_cons_succ])
  go_cut [19] (fun v19 wc=>∃ (kq:Nat) (x19_4:Bool),v19=.bool x19_4∧Aside0 (money_Parse.j0 kq a0 a1 (⟨#[]⟩:ByteArray) x19_4=some (r1,r2))∧Aside0 (kq≤k)∧Aside0 (Below w.heap.size w wc))
  case first =>
   have H:=HC5.out;clear HC5;replace H:=ifI H;rcases H with ⟨c6,H⟩ | ⟨c6,H⟩
   ·obtain ⟨c6b0,c6b1⟩:=eqI c6;clear c6;(first | rw [c6b0] | (simp only [i64_w,i32_w];rw [c6b0]) | skip)
    have H':=sd H;clear H;go_wp2
    repeat (go_quiet (fail);try go_wp2)
    go_meet
    case rel=>exact ⟨_,(false),zq1,H',⟨by first | omega | exact Nat.le_refl _⟩,⟨zq7⟩⟩
   obtain ⟨c6b0,c6b1⟩:=neI c6;(first | rw [c6b0] | (simp only [i64_w,i32_w];rw [c6b0]) | skip)
   replace H:=ifI H;rcases H with ⟨c7,H⟩ | ⟨c7,H⟩
   ·have c7b0:decide (0 < (a0.size:Int))=true:=decide_eq_true c7;have c7b1:decide (0 < a0.size)=true:=decide_eq_true (by omega);clear c7;have H':=sd H;clear H;have p8:0≤(0:Int):=(by omega)
    have q8:0 < a0.size:=(by have:(0:Int) < (a0.size:Int):=od;omega)
    have hx8:∀ h:0 < a0.size,((a0[0]'h).toNat:Int)=bt a0 0:=bt_at a0 0;clear p8;have qi8:(0 < (a0.size:Int))=True:=eq_true (od);replace q8:=eq_true q8;go_wp2
    repeat (go_quiet (fail);try go_wp2)
    go_meet
    case rel=>exact ⟨_,(((bt a0 0) == 45)),zq1,H',⟨by first | omega | exact Nat.le_refl _⟩,⟨zq7⟩⟩
   exact absurd H (by simp)
  case rest =>
   clear HC5;try clear p2
   try clear c4
   try clear c6
   try clear c6b0
   try clear c6b1
   try clear c7
   try clear c7b0
   try clear c7b1
   try clear p8
   try clear q8
   try clear hx8
   try clear qi8
   try clear p8
   try clear q8
   obtain ⟨kq,x19_4,rfl,HA,HJ4,HB⟩:=hcut
   cases kq with
   | zero=>exact absurd HA.out (by simp [money_Parse.j0])
   | succ kj4 =>
    have H:=HA.out;clear HA;simp only [money_Parse.j0] at H
    have HC9:=sd H;clear H;go_upto_if 19 with (fail)
    repeat (go_quiet (fail);go_upto_if 19 with (fail))
    go_cut [0,6] (fun v0 v6 wc=>∃ (kq:Nat) (x0_8:ByteArray) (x6_8:ByteArray),v0=.string x0_8∧v6=.string x6_8∧Aside0 (money_Parse.j1 kq x0_8 a1 x6_8=some (r1,r2))∧Aside0 (kq≤kj4)∧Aside0 (Below w.heap.size w wc))
    case first =>
     have H:=HC9.out;clear HC9;by_cases c10:x19_4=true
     ·subst c10;rw [if_pos rfl] at H;replace H:=ifI H;rcases H with ⟨c11,H⟩ | ⟨c11,H⟩
      ·have c11b0:=eq_true c11;have c11b1:decide (1≤(a0.size:Int))=true:=decide_eq_true c11;clear c11;have H':=sd H;clear H;go_wp2
       repeat (go_quiet (fail);try go_wp2)
       go_meet
       case rel=>exact ⟨_,(a0.extract 1 a0.size),((⟨#[45]⟩:ByteArray)),zq1,zq1,H',⟨zq8⟩,⟨zq7⟩⟩
      exact absurd H (by simp)
     replace c10:=Bool.eq_false_iff.mpr c10;subst c10;rw [if_neg Bool.false_ne_true] at H;have H':=sd H;clear H;go_wp2
     repeat (go_quiet (fail);try go_wp2)
     go_meet
     case rel=>exact ⟨_,(a0),((⟨#[]⟩:ByteArray)),zq1,zq1,H',⟨zq8⟩,⟨zq7⟩⟩
    case rest =>
     clear HC9;try clear c1
     try clear p2
     try clear c4
     try clear c6
     try clear c6b0
     try clear c6b1
     try clear c7
     try clear c7b0
     try clear c7b1
     try clear p8
     try clear q8
     try clear hx8
     try clear qi8
     try clear c10
     try clear c11
     try clear c11b0
     try clear c11b1
     try clear p2
     try clear p8
     try clear q8
     obtain ⟨kq,x0_8,x6_8,rfl,rfl,HA,HJ8,HB⟩:=hcut
     cases kq with
     | zero=>exact absurd HA.out (by simp [money_Parse.j1])
     | succ kj8 =>
      have H:=HA.out;clear HA;simp only [money_Parse.j1] at H
      replace H:=bdI H;obtain ⟨⟨t201,t202,t203⟩,A12,H⟩:=H;(try dsimp only at H)
      have HC13:=sd H;clear H;go_upto_region 7 with (first | (go_at_call 88;(with_reducible refine (money_split.calls x0_8 t201 t202 t203 _ A12.out).mono ?_);rintro e w14 ⟨rfl,hb⟩;replace HB:=hbm HB hb;clear hb))
      repeat (go_quiet (first | (go_at_call 88;(with_reducible refine (money_split.calls x0_8 t201 t202 t203 _ A12.out).mono ?_);rintro e w14 ⟨rfl,hb⟩;replace HB:=hbm HB hb;clear hb));go_upto_region 7 with (first | (go_at_call 88;(with_reducible refine (money_split.calls x0_8 t201 t202 t203 _ A12.out).mono ?_);rintro e w14 ⟨rfl,hb⟩;replace HB:=hbm HB hb;clear hb)))
      (try simp only [Act.put,List.setIfInBounds_toArray,List.set_cons_zero,List.set_cons_succ])
      go_cut [41] (fun v41 wc=>∃ (kq:Nat) (x41_12:Bool),v41=.bool x41_12∧Aside0 (money_Parse.j2 kq x6_8 t201 t202 x41_12=some (r1,r2))∧Aside0 (kq≤kj8)∧Aside0 (Below w.heap.size w wc))
      case first =>
       have H:=HC13.out;clear HC13;by_cases c15:t203=true
       ·subst c15;rw [if_pos rfl] at H;replace H:=ifI H;rcases H with ⟨c16,H⟩ | ⟨c16,H⟩
        ·obtain ⟨c16b0,c16b1⟩:=eqI c16;clear c16;(first | rw [c16b0] | (simp only [i64_w,i32_w];rw [c16b0]) | skip)
         replace H:=bdI H;obtain ⟨t204,A17,H⟩:=H;(try dsimp only at H)
         have H':=sd H;clear H;go_wp2_with (first | (go_at_call 89;(with_reducible refine (money_plain.calls kj8 t201 t204 _ A17.out).mono ?_);rintro e w' ⟨rfl,⟨nd,rfl⟩⟩;(try first | exact ⟨rfl,_,World.drewN_drewN _ _ _⟩ | exact ⟨rfl,_,Eq.trans (World.drewN_drewN _ _ _) (congrArg (World.drewN _) (Nat.add_assoc _ _ _))⟩)))
         repeat (go_quiet (first | (go_at_call 89;(with_reducible refine (money_plain.calls kj8 t201 t204 _ A17.out).mono ?_);rintro e w' ⟨rfl,⟨nd,rfl⟩⟩;(try first | exact ⟨rfl,_,World.drewN_drewN _ _ _⟩ | exact ⟨rfl,_,Eq.trans (World.drewN_drewN _ _ _) (congrArg (World.drewN _) (Nat.add_assoc _ _ _))⟩)));try go_wp2_with (first | (go_at_call 89;(with_reducible refine (money_plain.calls kj8 t201 t204 _ A17.out).mono ?_);rintro e w' ⟨rfl,⟨nd,rfl⟩⟩;(try first | exact ⟨rfl,_,World.drewN_drewN _ _ _⟩ | exact ⟨rfl,_,Eq.trans (World.drewN_drewN _ _ _) (congrArg (World.drewN _) (Nat.add_assoc _ _ _))⟩))))
         go_meet
         case rel=>exact ⟨_,((t201.toList != t204.toList)),zq1,H',⟨zq9⟩,⟨zq7⟩⟩
        obtain ⟨c16b0,c16b1⟩:=neI c16;(first | rw [c16b0] | (simp only [i64_w,i32_w];rw [c16b0]) | skip)
        have H':=sd H;clear H;go_wp2
        repeat (go_quiet (fail);try go_wp2)
        go_meet
        case rel=>exact ⟨_,(true),zq1,H',⟨zq9⟩,⟨zq7⟩⟩
       replace c15:=Bool.eq_false_iff.mpr c15;subst c15;rw [if_neg Bool.false_ne_true] at H;have H':=sd H;clear H;go_wp2
       repeat (go_quiet (fail);try go_wp2)
       go_meet
       case rel=>exact ⟨_,(true),zq1,H',⟨zq9⟩,⟨zq7⟩⟩
      case rest =>
       clear HC13;try clear c1
       try clear p2
       try clear c4
       try clear c6
       try clear c6b0
       try clear c6b1
       try clear c7
       try clear c7b0
       try clear c7b1
       try clear p8
       try clear q8
       try clear hx8
       try clear qi8
       try clear c10
       try clear c11
       try clear c11b0
       try clear c11b1
       try clear c15
       try clear c16
       try clear c16b0
       try clear c16b1
       try clear p2
       try clear p8
       try clear q8
       obtain ⟨kq,x41_12,rfl,HA,HJ12,HB⟩:=hcut
       cases kq with
       | zero=>exact absurd HA.out (by simp [money_Parse.j2])
       | succ kj12 =>
        have H:=HA.out;clear HA;simp only [money_Parse.j2] at H
        by_cases c18:x41_12=true
        ·subst c18;rw [if_pos rfl] at H;simp only [Option.some.injEq,Prod.mk.injEq] at H
         obtain ⟨rfl,rfl⟩:=H;go_wp2
         repeat (go_quiet (fail);try go_wp2)
         go_ret2
         exact ⟨zq10,zq7⟩
        replace c18:=Bool.eq_false_iff.mpr c18;subst c18;rw [if_neg Bool.false_ne_true] at H;replace H:=ifI H;rcases H with ⟨c19,H⟩ | ⟨c19,H⟩
        ·have c19b0:=eq_true c19;have c19b1:decide (t201.size+t202.size≤9223372036854775807)=true:=decide_eq_true c19;try have c19b2:(9223372036854775807 < t201.size+t202.size)=False:=eq_false (Nat.not_lt.2 c19)
         replace H:=bdI H;obtain ⟨t205,A20,H⟩:=H;(try dsimp only at H)
         replace H:=ifI H;rcases H with ⟨c21,H⟩ | ⟨c21,H⟩
         ·have c21b0:=eq_true c21;have c21b1:decide (x6_8.size+t205.size≤9223372036854775807)=true:=decide_eq_true c21;try have c21b2:(9223372036854775807 < x6_8.size+t205.size)=False:=eq_false (Nat.not_lt.2 c21)
          replace H:=bdI H;obtain ⟨⟨t206,t207⟩,A22,H⟩:=H;(try dsimp only at H)
          replace H:=ifI H;rcases H with ⟨c23,H⟩ | ⟨c23,H⟩
          ·obtain ⟨c23b0,c23b1⟩:=eqI c23;clear c23;simp only [Option.some.injEq,Prod.mk.injEq] at H
           obtain ⟨rfl,rfl⟩:=H;go_wp2_with (first | (go_at_call 89;(with_reducible refine (money_plain.calls kj12 (t201++t202) t205 _ A20.out).mono ?_);rintro e w' ⟨rfl,⟨nd,rfl⟩⟩;(try first | exact ⟨rfl,_,World.drewN_drewN _ _ _⟩ | exact ⟨rfl,_,Eq.trans (World.drewN_drewN _ _ _) (congrArg (World.drewN _) (Nat.add_assoc _ _ _))⟩)) | (go_at_call 87;(with_reducible refine (num_Parse.calls (x6_8++t205) (-1000000000000000) 1000000000000000 t206 t207 _ A22.out).mono ?_);rintro e w' ⟨rfl,⟨nd,rfl⟩⟩;(try first | exact ⟨rfl,_,World.drewN_drewN _ _ _⟩ | exact ⟨rfl,_,Eq.trans (World.drewN_drewN _ _ _) (congrArg (World.drewN _) (Nat.add_assoc _ _ _))⟩)))
           repeat (go_quiet (first | (go_at_call 89;(with_reducible refine (money_plain.calls kj12 (t201++t202) t205 _ A20.out).mono ?_);rintro e w' ⟨rfl,⟨nd,rfl⟩⟩;(try first | exact ⟨rfl,_,World.drewN_drewN _ _ _⟩ | exact ⟨rfl,_,Eq.trans (World.drewN_drewN _ _ _) (congrArg (World.drewN _) (Nat.add_assoc _ _ _))⟩)) | (go_at_call 87;(with_reducible refine (num_Parse.calls (x6_8++t205) (-1000000000000000) 1000000000000000 t206 t207 _ A22.out).mono ?_);rintro e w' ⟨rfl,⟨nd,rfl⟩⟩;(try first | exact ⟨rfl,_,World.drewN_drewN _ _ _⟩ | exact ⟨rfl,_,Eq.trans (World.drewN_drewN _ _ _) (congrArg (World.drewN _) (Nat.add_assoc _ _ _))⟩)));try go_wp2_with (first | (go_at_call 89;(with_reducible refine (money_plain.calls kj12 (t201++t202) t205 _ A20.out).mono ?_);rintro e w' ⟨rfl,⟨nd,rfl⟩⟩;(try first | exact ⟨rfl,_,World.drewN_drewN _ _ _⟩ | exact ⟨rfl,_,Eq.trans (World.drewN_drewN _ _ _) (congrArg (World.drewN _) (Nat.add_assoc _ _ _))⟩)) | (go_at_call 87;(with_reducible refine (num_Parse.calls (x6_8++t205) (-1000000000000000) 1000000000000000 t206 t207 _ A22.out).mono ?_);rintro e w' ⟨rfl,⟨nd,rfl⟩⟩;(try first | exact ⟨rfl,_,World.drewN_drewN _ _ _⟩ | exact ⟨rfl,_,Eq.trans (World.drewN_drewN _ _ _) (congrArg (World.drewN _) (Nat.add_assoc _ _ _))⟩))))
           go_ret2
           exact ⟨zq10,zq7⟩
          obtain ⟨c23b0,c23b1⟩:=neI c23;simp only [Option.some.injEq,Prod.mk.injEq] at H
          obtain ⟨rfl,rfl⟩:=H;go_wp2_with (first | (go_at_call 89;(with_reducible refine (money_plain.calls kj12 (t201++t202) t205 _ A20.out).mono ?_);rintro e w' ⟨rfl,⟨nd,rfl⟩⟩;(try first | exact ⟨rfl,_,World.drewN_drewN _ _ _⟩ | exact ⟨rfl,_,Eq.trans (World.drewN_drewN _ _ _) (congrArg (World.drewN _) (Nat.add_assoc _ _ _))⟩)) | (go_at_call 87;(with_reducible refine (num_Parse.calls (x6_8++t205) (-1000000000000000) 1000000000000000 t206 t207 _ A22.out).mono ?_);rintro e w' ⟨rfl,⟨nd,rfl⟩⟩;(try first | exact ⟨rfl,_,World.drewN_drewN _ _ _⟩ | exact ⟨rfl,_,Eq.trans (World.drewN_drewN _ _ _) (congrArg (World.drewN _) (Nat.add_assoc _ _ _))⟩)))
          repeat (go_quiet (first | (go_at_call 89;(with_reducible refine (money_plain.calls kj12 (t201++t202) t205 _ A20.out).mono ?_);rintro e w' ⟨rfl,⟨nd,rfl⟩⟩;(try first | exact ⟨rfl,_,World.drewN_drewN _ _ _⟩ | exact ⟨rfl,_,Eq.trans (World.drewN_drewN _ _ _) (congrArg (World.drewN _) (Nat.add_assoc _ _ _))⟩)) | (go_at_call 87;(with_reducible refine (num_Parse.calls (x6_8++t205) (-1000000000000000) 1000000000000000 t206 t207 _ A22.out).mono ?_);rintro e w' ⟨rfl,⟨nd,rfl⟩⟩;(try first | exact ⟨rfl,_,World.drewN_drewN _ _ _⟩ | exact ⟨rfl,_,Eq.trans (World.drewN_drewN _ _ _) (congrArg (World.drewN _) (Nat.add_assoc _ _ _))⟩)));try go_wp2_with (first | (go_at_call 89;(with_reducible refine (money_plain.calls kj12 (t201++t202) t205 _ A20.out).mono ?_);rintro e w' ⟨rfl,⟨nd,rfl⟩⟩;(try first | exact ⟨rfl,_,World.drewN_drewN _ _ _⟩ | exact ⟨rfl,_,Eq.trans (World.drewN_drewN _ _ _) (congrArg (World.drewN _) (Nat.add_assoc _ _ _))⟩)) | (go_at_call 87;(with_reducible refine (num_Parse.calls (x6_8++t205) (-1000000000000000) 1000000000000000 t206 t207 _ A22.out).mono ?_);rintro e w' ⟨rfl,⟨nd,rfl⟩⟩;(try first | exact ⟨rfl,_,World.drewN_drewN _ _ _⟩ | exact ⟨rfl,_,Eq.trans (World.drewN_drewN _ _ _) (congrArg (World.drewN _) (Nat.add_assoc _ _ _))⟩))))
          go_ret2
          exact ⟨zq10,zq7⟩
         exact absurd H (by simp)
        exact absurd H (by simp)
 replace c4:=Bool.eq_false_iff.mpr c4;subst c4;rw [if_neg Bool.false_ne_true] at H;simp only [Option.some.injEq,Prod.mk.injEq] at H
 obtain ⟨rfl,rfl⟩:=H;go_enter Tryd.func69,Tryd.ntmps69
 go_wp2_with (first | (go_at_call 59;(with_reducible refine (money_fits.calls a1 false _ A3.out).mono ?_);rintro e w' ⟨rfl,⟨nd,rfl⟩⟩;(try first | exact ⟨rfl,_,World.drewN_drewN _ _ _⟩ | exact ⟨rfl,_,Eq.trans (World.drewN_drewN _ _ _) (congrArg (World.drewN _) (Nat.add_assoc _ _ _))⟩)))
 repeat (go_quiet (first | (go_at_call 59;(with_reducible refine (money_fits.calls a1 false _ A3.out).mono ?_);rintro e w' ⟨rfl,⟨nd,rfl⟩⟩;(try first | exact ⟨rfl,_,World.drewN_drewN _ _ _⟩ | exact ⟨rfl,_,Eq.trans (World.drewN_drewN _ _ _) (congrArg (World.drewN _) (Nat.add_assoc _ _ _))⟩)));try go_wp2_with (first | (go_at_call 59;(with_reducible refine (money_fits.calls a1 false _ A3.out).mono ?_);rintro e w' ⟨rfl,⟨nd,rfl⟩⟩;(try first | exact ⟨rfl,_,World.drewN_drewN _ _ _⟩ | exact ⟨rfl,_,Eq.trans (World.drewN_drewN _ _ _) (congrArg (World.drewN _) (Nat.add_assoc _ _ _))⟩))))
 go_ret2
 exact ⟨zq10,zq7⟩
end Go.Proofs.YtmlcdpfcafmmcaaDoor.A
