-- By pack.py, a program of this session's.
import Derived.Test.YtmlcdpfcafmmcaaDoorX29
import Derived.Test.YtmlcdpfcafmmcaaDoorX31
import Derived.Test.YtmlcdpfcafmmcaaDoorX37
set_option linter.unusedVariables false
set_option linter.unusedSimpArgs false
namespace Go.Proofs.YtmlcdpfcafmmcaaDoor.A
open Go.RowKit B WW WL WM
attribute [local go_sem] max2_int min2_int max_two min_two max_three min_three max_four min_four
set_option maxHeartbeats 8000000
set_option maxRecDepth 100000
theorem rf07_Parse.calls (k:Nat) (a0:ByteArray) (a1 r1 r2:Int) (w:World) (h:rf07_Parse.f k a0 a1=some (r1,r2)) :
  Calls Tryd.prog 74 #[.string a0,.int .i64 a1] w fun e w'=>e=.returned (.tuple #[.int .i64 r1,.int .i64 r2])∧Drawn0 w w':=by
 have H:=h;clear h;unfold rf07_Parse.f at H;have HC3:=sd H;clear H;go_enter Tryd.func74,Tryd.ntmps74
 go_upto_region 1 with (fail)
 repeat (go_quiet (fail);go_upto_region 1 with (fail))
 go_cut [18] (fun v18 wc=>∃ (kq:Nat) (x18_2:Bool),v18=.bool x18_2∧Aside0 (rf07_Parse.j0 kq a0 a1 x18_2=some (r1,r2))∧Aside0 (kq≤k)∧Drawn0 w wc)
 case first =>
  have H:=HC3.out;clear HC3;replace H:=ifI H;rcases H with ⟨c4,H⟩ | ⟨c4,H⟩
  ·have c4b0:decide (a1 < 0)=true:=decide_eq_true c4;clear c4;(first | rw [c4b0] | (simp only [i64_w,i32_w];rw [c4b0]) | skip)
   have H':=sd H;clear H;go_wp2
   repeat (go_quiet (fail);try go_wp2)
   go_meet
   case rel=>exact ⟨_,(true),zq1,H',⟨by first | omega | exact Nat.le_refl _⟩,zq2⟩
  have c4b0:decide (a1 < 0)=false:=decide_eq_false c4;clear c4;(first | rw [c4b0] | (simp only [i64_w,i32_w];rw [c4b0]) | skip)
  have H':=sd H;clear H;go_wp2
  repeat (go_quiet (fail);try go_wp2)
  go_meet
  case rel=>exact ⟨_,(decide (a1 > 4)),zq1,H',⟨by first | omega | exact Nat.le_refl _⟩,zq2⟩
 case rest =>
  clear HC3;try clear p2
  try clear c4
  try clear c4b0
  obtain ⟨kq,x18_2,rfl,HA,HJ2,⟨mc2,rfl⟩⟩:=hcut
  cases kq with
  | zero=>exact absurd HA.out (by simp [rf07_Parse.j0])
  | succ kj2 =>
   have H:=HA.out;clear HA;simp only [rf07_Parse.j0] at H
   by_cases c5:x18_2=true
   ·subst c5;rw [if_pos rfl] at H;simp only [Option.some.injEq,Prod.mk.injEq] at H
    obtain ⟨rfl,rfl⟩:=H;go_wp2
    repeat (go_quiet (fail);try go_wp2)
    go_ret2
    exact ⟨zq1,zq2⟩
   replace c5:=Bool.eq_false_iff.mpr c5;subst c5;rw [if_neg Bool.false_ne_true] at H;have HC6:=sd H;clear H;go_upto_region 4 with (fail)
   repeat (go_quiet (fail);go_upto_region 4 with (fail))
   go_cut [26] (fun v26 wc=>∃ (kq:Nat) (x26_5:Bool),v26=.bool x26_5∧Aside0 (rf07_Parse.j1 kq a1 a0 (⟨#[]⟩:ByteArray) (⟨#[]⟩:ByteArray) x26_5=some (r1,r2))∧Aside0 (kq≤kj2)∧Drawn0 w wc)
   case first =>
    have H:=HC6.out;clear HC6;replace H:=ifI H;rcases H with ⟨c7,H⟩ | ⟨c7,H⟩
    ·obtain ⟨c7b0,c7b1⟩:=eqI c7;clear c7;(first | rw [c7b0] | (simp only [i64_w,i32_w];rw [c7b0]) | skip)
     have H':=sd H;clear H;go_wp2
     repeat (go_quiet (fail);try go_wp2)
     go_meet
     case rel=>exact ⟨_,(false),zq1,H',⟨zq30⟩,zq2⟩
    obtain ⟨c7b0,c7b1⟩:=neI c7;(first | rw [c7b0] | (simp only [i64_w,i32_w];rw [c7b0]) | skip)
    replace H:=ifI H;rcases H with ⟨c8,H⟩ | ⟨c8,H⟩
    ·have c8b0:decide (0 < (a0.size:Int))=true:=decide_eq_true c8;have c8b1:decide (0 < a0.size)=true:=decide_eq_true (by omega);clear c8;have H':=sd H;clear H;have p9:0≤(0:Int):=(by omega)
     have q9:0 < a0.size:=(by have:(0:Int) < (a0.size:Int):=od;omega)
     have hx9:∀ h:0 < a0.size,((a0[0]'h).toNat:Int)=bt a0 0:=bt_at a0 0;clear p9;have qi9:(0 < (a0.size:Int))=True:=eq_true (od);replace q9:=eq_true q9;go_wp2
     repeat (go_quiet (fail);try go_wp2)
     go_meet
     case rel=>exact ⟨_,(((bt a0 0) == 45)),zq1,H',⟨zq30⟩,zq2⟩
    exact absurd H (by simp)
   case rest =>
    clear HC6;try clear c2
    try clear p2
    try clear c4
    try clear c4b0
    try clear c5
    try clear c7
    try clear c7b0
    try clear c7b1
    try clear c8
    try clear c8b0
    try clear c8b1
    try clear p9
    try clear q9
    try clear hx9
    try clear qi9
    try clear p2
    try clear p9
    try clear q9
    obtain ⟨kq,x26_5,rfl,HA,HJ5,⟨mc5,rfl⟩⟩:=hcut
    cases kq with
    | zero=>exact absurd HA.out (by simp [rf07_Parse.j1])
    | succ kj5 =>
     have H:=HA.out;clear HA;simp only [rf07_Parse.j1] at H
     have HC10:=sd H;clear H;go_upto_if 26 with (fail)
     repeat (go_quiet (fail);go_upto_if 26 with (fail))
     go_cut [6,8] (fun v6 v8 wc=>∃ (kq:Nat) (x6_9:ByteArray) (x8_9:ByteArray),v6=.string x6_9∧v8=.string x8_9∧Aside0 (rf07_Parse.j2 kq a1 x6_9 (⟨#[]⟩:ByteArray) x8_9=some (r1,r2))∧Aside0 (kq≤kj5)∧Drawn0 w wc)
     case first =>
      have H:=HC10.out;clear HC10;by_cases c11:x26_5=true
      ·subst c11;rw [if_pos rfl] at H;replace H:=ifI H;rcases H with ⟨c12,H⟩ | ⟨c12,H⟩
       ·have c12b0:=eq_true c12;have c12b1:decide (1≤(a0.size:Int))=true:=decide_eq_true c12;clear c12;have H':=sd H;clear H;go_wp2
        repeat (go_quiet (fail);try go_wp2)
        go_meet
        case rel=>exact ⟨_,(a0.extract 1 a0.size),((⟨#[45]⟩:ByteArray)),zq1,zq1,H',⟨by have:=HJ2.out;have:=HJ5.out;first | omega | exact Nat.le_refl _⟩,zq2⟩
       exact absurd H (by simp)
      replace c11:=Bool.eq_false_iff.mpr c11;subst c11;rw [if_neg Bool.false_ne_true] at H;have H':=sd H;clear H;go_wp2
      repeat (go_quiet (fail);try go_wp2)
      go_meet
      case rel=>exact ⟨_,(a0),((⟨#[]⟩:ByteArray)),zq1,zq1,H',⟨by have:=HJ2.out;have:=HJ5.out;first | omega | exact Nat.le_refl _⟩,zq2⟩
     case rest =>
      clear HC10;try clear c1
      try clear c2
      try clear p2
      try clear c4
      try clear c4b0
      try clear c5
      try clear c7
      try clear c7b0
      try clear c7b1
      try clear c8
      try clear c8b0
      try clear c8b1
      try clear p9
      try clear q9
      try clear hx9
      try clear qi9
      try clear c11
      try clear c12
      try clear c12b0
      try clear c12b1
      try clear p2
      try clear p9
      try clear q9
      obtain ⟨kq,x6_9,x8_9,rfl,rfl,HA,HJ9,⟨mc9,rfl⟩⟩:=hcut
      cases kq with
      | zero=>exact absurd HA.out (by simp [rf07_Parse.j2])
      | succ kj9 =>
       have H:=HA.out;clear HA;simp only [rf07_Parse.j2] at H
       have HC13:=sd H;clear H;go_upto_if 30 with (fail)
       repeat (go_quiet (fail);go_upto_if 30 with (fail))
       go_cut [6,7] (fun v6 v7 wc=>∃ (kq:Nat) (x6_12:ByteArray) (x7_12:ByteArray),v6=.string x6_12∧v7=.string x7_12∧Aside0 (rf07_Parse.j3 kq a1 x6_12 x7_12 x8_9=some (r1,r2))∧Aside0 (kq≤kj9)∧Drawn0 w wc)
       case first =>
        have H:=HC13.out;clear HC13;replace H:=ifI H;rcases H with ⟨c14,H⟩ | ⟨c14,H⟩
        ·have c14b0:decide (0 < a1)=true:=decide_eq_true c14;clear c14;(first | rw [c14b0] | (simp only [i64_w,i32_w];rw [c14b0]) | skip)
         replace H:=ifI H;rcases H with ⟨c15,H⟩ | ⟨c15,H⟩
         ·have c15b0:decide ((wrap64 ((wrap64 ((x6_9.size:Int) - a1)) - 1)) < 1)=true:=decide_eq_true c15;clear c15;simp only [Option.some.injEq,Prod.mk.injEq] at H
          obtain ⟨rfl,rfl⟩:=H;go_wp2
          repeat (go_quiet (fail);try go_wp2)
          go_ret2
          exact ⟨zq1,zq2⟩
         have c15b0:decide ((wrap64 ((wrap64 ((x6_9.size:Int) - a1)) - 1)) < 1)=false:=decide_eq_false c15;clear c15;obtain ⟨ji16,hji16⟩:∃ j_:Int,(wrap64 ((wrap64 ((x6_9.size:Int) - a1)) - 1))=j_:=⟨_,rfl⟩
         replace H:(if 0≤(ji16) then (if (ji16) < (x6_9.size:Int) then (if (bt x6_9 (ji16))=46 then (if (ji16)≤(x6_9.size:Int) then (if 0≤(wrap64 ((ji16)+1)) then (if (wrap64 ((ji16)+1))≤(x6_9.size:Int) then (rf07_Parse.j3 kj9 a1 (x6_9.extract 0 ((ji16):Int).toNat) (x6_9.extract ((wrap64 ((ji16)+1)):Int).toNat x6_9.size) x8_9) else (none)) else (none)) else (none)) else (some (0,5))) else (none)) else (none))=some (r1,r2):=by first | (rw [hji16] at H;exact H) | (simp only [hji16] at H ⊢;exact H)
         (try rw [hji16] at c15b0)
         have hji16w:(IntKind.i64.wrap ((wrap64 ((x6_9.size:Int) - a1)) - 1))=ji16:=(i64_w _).trans hji16;replace H:=ifI H;rcases H with ⟨c17,H⟩ | ⟨c17,H⟩
         ·have c17b0:decide (0≤(ji16))=true:=decide_eq_true c17;clear c17;replace H:=ifI H;rcases H with ⟨c18,H⟩ | ⟨c18,H⟩
          ·have c18b0:decide ((ji16) < (x6_9.size:Int))=true:=decide_eq_true c18;clear c18;replace H:=ifI H;rcases H with ⟨c20,H⟩ | ⟨c20,H⟩
           ·obtain ⟨c20b0,c20b1⟩:=eqI c20;clear c20;have c21b0:=eq_true (od:0≤(ji16));replace H:=ifI H;rcases H with ⟨c22,H⟩ | ⟨c22,H⟩
            ·have c22b0:=eq_true c22;have c22b1:decide ((ji16)≤(x6_9.size:Int))=true:=decide_eq_true c22;clear c22;obtain ⟨ji23,hji23⟩:∃ j_:Int,(wrap64 ((ji16)+1))=j_:=⟨_,rfl⟩
             replace H:(if 0≤(ji23) then (if (ji23)≤(x6_9.size:Int) then (rf07_Parse.j3 kj9 a1 (x6_9.extract 0 ((ji16):Int).toNat) (x6_9.extract ((ji23):Int).toNat x6_9.size) x8_9) else (none)) else (none))=some (r1,r2):=by first | (rw [hji23] at H;exact H) | (simp only [hji23] at H ⊢;exact H)
             have hji23w:(IntKind.i64.wrap ((ji16)+1))=ji23:=(i64_w _).trans hji23;replace H:=ifI H;rcases H with ⟨c24,H⟩ | ⟨c24,H⟩
             ·have c24b0:=eq_true c24;have c24b1:decide (0≤(ji23))=true:=decide_eq_true c24;clear c24;replace H:=ifI H;rcases H with ⟨c25,H⟩ | ⟨c25,H⟩
              ·have c25b0:=eq_true c25;have c25b1:decide ((ji23)≤(x6_9.size:Int))=true:=decide_eq_true c25;clear c25;have H':=sd H;clear H;have p19:0≤((ji16):Int):=od;have q19:(ji16) < (x6_9.size:Int):=od;have hx19:=bt_at x6_9 (ji16);replace p19:=eq_true p19;replace q19:=eq_true q19;go_wp2
               repeat (go_quiet (fail);try go_wp2)
               go_meet
               case rel=>exact ⟨_,(x6_9.extract 0 ((ji16):Int).toNat),(x6_9.extract ((ji23):Int).toNat x6_9.size),zq31,(by first | rfl | (simp;done) | (simp only [← hji23] <;> (first | rfl | simp)) | (simp [*];done)),H',⟨by have:=HJ2.out;have:=HJ5.out;have:=HJ9.out;first | omega | exact Nat.le_refl _⟩,zq2⟩
              exact absurd H (by simp)
             exact absurd H (by simp)
            exact absurd H (by simp)
           obtain ⟨c20b0,c20b1⟩:=neI c20;simp only [Option.some.injEq,Prod.mk.injEq] at H
           obtain ⟨rfl,rfl⟩:=H;have p19:0≤((ji16):Int):=od;have q19:(ji16) < (x6_9.size:Int):=od;have hx19:=bt_at x6_9 (ji16);replace p19:=eq_true p19;replace q19:=eq_true q19;go_wp2
           repeat (go_quiet (fail);try go_wp2)
           go_ret2
           exact ⟨zq31,zq2⟩
          exact absurd H (by simp)
         exact absurd H (by simp)
        have c14b0:decide (0 < a1)=false:=decide_eq_false c14;clear c14;(first | rw [c14b0] | (simp only [i64_w,i32_w];rw [c14b0]) | skip)
        have H':=sd H;clear H;go_wp2
        repeat (go_quiet (fail);try go_wp2)
        go_meet
        case rel=>exact ⟨_,(x6_9),((⟨#[]⟩:ByteArray)),zq1,zq1,H',⟨by have:=HJ2.out;have:=HJ5.out;have:=HJ9.out;first | omega | exact Nat.le_refl _⟩,zq2⟩
       case rest =>
        clear HC13;try clear c1
        try clear p1
        try clear q1
        try clear hx1
        try clear c2
        try clear p2
        try clear c4
        try clear c4b0
        try clear c5
        try clear p6
        try clear c7
        try clear c7b0
        try clear c7b1
        try clear c8
        try clear c8b0
        try clear c8b1
        try clear c9
        try clear p9
        try clear q9
        try clear hx9
        try clear qi9
        try clear c11
        try clear c12
        try clear c12b0
        try clear c12b1
        try clear c14
        try clear c14b0
        try clear c15
        try clear c15b0
        try clear c17
        try clear c17b0
        try clear c18
        try clear c18b0
        try clear p19
        try clear q19
        try clear hx19
        try clear c20
        try clear c20b0
        try clear c20b1
        try clear c21
        try clear c21b0
        try clear c22
        try clear c22b0
        try clear c22b1
        try clear c24
        try clear c24b0
        try clear c24b1
        try clear c25
        try clear c25b0
        try clear c25b1
        try clear p19
        try clear p2
        try clear p9
        try clear q19
        try clear q9
        obtain ⟨kq,x6_12,x7_12,rfl,rfl,HA,HJ12,⟨mc12,rfl⟩⟩:=hcut
        cases kq with
        | zero=>exact absurd HA.out (by simp [rf07_Parse.j3])
        | succ kj12 =>
         have H:=HA.out;clear HA;simp only [rf07_Parse.j3] at H
         have HC26:=sd H;clear H;go_upto_region 11 with (fail)
         repeat (go_quiet (fail);go_upto_region 11 with (fail))
         go_cut [72] (fun v72 wc=>∃ (kq:Nat) (x72_25:Bool),v72=.bool x72_25∧Aside0 (rf07_Parse.j4 kq x6_12 x7_12 x8_9 x72_25=some (r1,r2))∧Aside0 (kq≤kj12)∧Drawn0 w wc)
         case first =>
          have H:=HC26.out;clear HC26;replace H:=bdI H;obtain ⟨t402,A27,H⟩:=H;(try dsimp only at H)
          by_cases c28:t402=true
          ·subst c28;rw [if_pos rfl] at H;replace H:=ifI H;rcases H with ⟨c29,H⟩ | ⟨c29,H⟩
           ·have c29b0:decide (1 < (x6_12.size:Int))=true:=decide_eq_true c29;have c29b1:decide (1 < x6_12.size)=true:=decide_eq_true (by omega);clear c29;(first | rw [c29b0] | (simp only [i64_w,i32_w];rw [c29b0]) | skip)
            replace H:=ifI H;rcases H with ⟨c30,H⟩ | ⟨c30,H⟩
            ·have c30b0:decide (0 < (x6_12.size:Int))=true:=decide_eq_true c30;have c30b1:decide (0 < x6_12.size)=true:=decide_eq_true (by omega);clear c30;replace H:=ifI H;rcases H with ⟨c32,H⟩ | ⟨c32,H⟩
             ·obtain ⟨c32b0,c32b1⟩:=eqI c32;clear c32;have H':=sd H;clear H;go_wp2_with (first | (go_at_call 97;(with_reducible refine (rf01_Digits.calls kj12 x6_12 true _ A27.out).mono ?_);rintro e w' ⟨rfl,⟨nd,rfl⟩⟩;(try first | exact ⟨rfl,_,World.drewN_drewN _ _ _⟩ | exact ⟨rfl,_,Eq.trans (World.drewN_drewN _ _ _) (congrArg (World.drewN _) (Nat.add_assoc _ _ _))⟩);have p31:0≤(0:Int):=(by omega);have q31:0 < x6_12.size:=(by have:(0:Int) < (x6_12.size:Int):=od;omega);have hx31:∀ h:0 < x6_12.size,((x6_12[0]'h).toNat:Int)=bt x6_12 0:=bt_at x6_12 0;clear p31;have qi31:(0 < (x6_12.size:Int))=True:=eq_true (od);replace q31:=eq_true q31))
              repeat (go_quiet (first | (go_at_call 97;(with_reducible refine (rf01_Digits.calls kj12 x6_12 true _ A27.out).mono ?_);rintro e w' ⟨rfl,⟨nd,rfl⟩⟩;(try first | exact ⟨rfl,_,World.drewN_drewN _ _ _⟩ | exact ⟨rfl,_,Eq.trans (World.drewN_drewN _ _ _) (congrArg (World.drewN _) (Nat.add_assoc _ _ _))⟩);have p31:0≤(0:Int):=(by omega);have q31:0 < x6_12.size:=(by have:(0:Int) < (x6_12.size:Int):=od;omega);have hx31:∀ h:0 < x6_12.size,((x6_12[0]'h).toNat:Int)=bt x6_12 0:=bt_at x6_12 0;clear p31;have qi31:(0 < (x6_12.size:Int))=True:=eq_true (od);replace q31:=eq_true q31));try go_wp2_with (first | (go_at_call 97;(with_reducible refine (rf01_Digits.calls kj12 x6_12 true _ A27.out).mono ?_);rintro e w' ⟨rfl,⟨nd,rfl⟩⟩;(try first | exact ⟨rfl,_,World.drewN_drewN _ _ _⟩ | exact ⟨rfl,_,Eq.trans (World.drewN_drewN _ _ _) (congrArg (World.drewN _) (Nat.add_assoc _ _ _))⟩);have p31:0≤(0:Int):=(by omega);have q31:0 < x6_12.size:=(by have:(0:Int) < (x6_12.size:Int):=od;omega);have hx31:∀ h:0 < x6_12.size,((x6_12[0]'h).toNat:Int)=bt x6_12 0:=bt_at x6_12 0;clear p31;have qi31:(0 < (x6_12.size:Int))=True:=eq_true (od);replace q31:=eq_true q31)))
              go_meet
              case rel=>exact ⟨_,(true),zq1,H',⟨zq57⟩,zq2⟩
             obtain ⟨c32b0,c32b1⟩:=neI c32;replace H:=ifI H;rcases H with ⟨c33,H⟩ | ⟨c33,H⟩
             ·have c33b0:decide (0 < a1)=true:=decide_eq_true c33;clear c33;replace H:=bdI H;obtain ⟨t403,A34,H⟩:=H;(try dsimp only at H)
              have H':=sd H;clear H;go_wp2_with (first | (go_at_call 97;(with_reducible refine (rf01_Digits.calls kj12 x6_12 true _ A27.out).mono ?_);rintro e w' ⟨rfl,⟨nd,rfl⟩⟩;(try first | exact ⟨rfl,_,World.drewN_drewN _ _ _⟩ | exact ⟨rfl,_,Eq.trans (World.drewN_drewN _ _ _) (congrArg (World.drewN _) (Nat.add_assoc _ _ _))⟩);have p31:0≤(0:Int):=(by omega);have q31:0 < x6_12.size:=(by have:(0:Int) < (x6_12.size:Int):=od;omega);have hx31:∀ h:0 < x6_12.size,((x6_12[0]'h).toNat:Int)=bt x6_12 0:=bt_at x6_12 0;clear p31;have qi31:(0 < (x6_12.size:Int))=True:=eq_true (od);replace q31:=eq_true q31) | (go_at_call 97;(with_reducible refine (rf01_Digits.calls kj12 x7_12 t403 _ A34.out).mono ?_);rintro e w' ⟨rfl,⟨nd,rfl⟩⟩;(try first | exact ⟨rfl,_,World.drewN_drewN _ _ _⟩ | exact ⟨rfl,_,Eq.trans (World.drewN_drewN _ _ _) (congrArg (World.drewN _) (Nat.add_assoc _ _ _))⟩)))
              repeat (go_quiet (first | (go_at_call 97;(with_reducible refine (rf01_Digits.calls kj12 x6_12 true _ A27.out).mono ?_);rintro e w' ⟨rfl,⟨nd,rfl⟩⟩;(try first | exact ⟨rfl,_,World.drewN_drewN _ _ _⟩ | exact ⟨rfl,_,Eq.trans (World.drewN_drewN _ _ _) (congrArg (World.drewN _) (Nat.add_assoc _ _ _))⟩);have p31:0≤(0:Int):=(by omega);have q31:0 < x6_12.size:=(by have:(0:Int) < (x6_12.size:Int):=od;omega);have hx31:∀ h:0 < x6_12.size,((x6_12[0]'h).toNat:Int)=bt x6_12 0:=bt_at x6_12 0;clear p31;have qi31:(0 < (x6_12.size:Int))=True:=eq_true (od);replace q31:=eq_true q31) | (go_at_call 97;(with_reducible refine (rf01_Digits.calls kj12 x7_12 t403 _ A34.out).mono ?_);rintro e w' ⟨rfl,⟨nd,rfl⟩⟩;(try first | exact ⟨rfl,_,World.drewN_drewN _ _ _⟩ | exact ⟨rfl,_,Eq.trans (World.drewN_drewN _ _ _) (congrArg (World.drewN _) (Nat.add_assoc _ _ _))⟩)));try go_wp2_with (first | (go_at_call 97;(with_reducible refine (rf01_Digits.calls kj12 x6_12 true _ A27.out).mono ?_);rintro e w' ⟨rfl,⟨nd,rfl⟩⟩;(try first | exact ⟨rfl,_,World.drewN_drewN _ _ _⟩ | exact ⟨rfl,_,Eq.trans (World.drewN_drewN _ _ _) (congrArg (World.drewN _) (Nat.add_assoc _ _ _))⟩);have p31:0≤(0:Int):=(by omega);have q31:0 < x6_12.size:=(by have:(0:Int) < (x6_12.size:Int):=od;omega);have hx31:∀ h:0 < x6_12.size,((x6_12[0]'h).toNat:Int)=bt x6_12 0:=bt_at x6_12 0;clear p31;have qi31:(0 < (x6_12.size:Int))=True:=eq_true (od);replace q31:=eq_true q31) | (go_at_call 97;(with_reducible refine (rf01_Digits.calls kj12 x7_12 t403 _ A34.out).mono ?_);rintro e w' ⟨rfl,⟨nd,rfl⟩⟩;(try first | exact ⟨rfl,_,World.drewN_drewN _ _ _⟩ | exact ⟨rfl,_,Eq.trans (World.drewN_drewN _ _ _) (congrArg (World.drewN _) (Nat.add_assoc _ _ _))⟩))))
              go_meet
              case rel=>exact ⟨_,(!t403),zq1,H',⟨zq57⟩,zq2⟩
             have c33b0:decide (0 < a1)=false:=decide_eq_false c33;clear c33;have H':=sd H;clear H;go_wp2_with (first | (go_at_call 97;(with_reducible refine (rf01_Digits.calls kj12 x6_12 true _ A27.out).mono ?_);rintro e w' ⟨rfl,⟨nd,rfl⟩⟩;(try first | exact ⟨rfl,_,World.drewN_drewN _ _ _⟩ | exact ⟨rfl,_,Eq.trans (World.drewN_drewN _ _ _) (congrArg (World.drewN _) (Nat.add_assoc _ _ _))⟩);have p31:0≤(0:Int):=(by omega);have q31:0 < x6_12.size:=(by have:(0:Int) < (x6_12.size:Int):=od;omega);have hx31:∀ h:0 < x6_12.size,((x6_12[0]'h).toNat:Int)=bt x6_12 0:=bt_at x6_12 0;clear p31;have qi31:(0 < (x6_12.size:Int))=True:=eq_true (od);replace q31:=eq_true q31))
             repeat (go_quiet (first | (go_at_call 97;(with_reducible refine (rf01_Digits.calls kj12 x6_12 true _ A27.out).mono ?_);rintro e w' ⟨rfl,⟨nd,rfl⟩⟩;(try first | exact ⟨rfl,_,World.drewN_drewN _ _ _⟩ | exact ⟨rfl,_,Eq.trans (World.drewN_drewN _ _ _) (congrArg (World.drewN _) (Nat.add_assoc _ _ _))⟩);have p31:0≤(0:Int):=(by omega);have q31:0 < x6_12.size:=(by have:(0:Int) < (x6_12.size:Int):=od;omega);have hx31:∀ h:0 < x6_12.size,((x6_12[0]'h).toNat:Int)=bt x6_12 0:=bt_at x6_12 0;clear p31;have qi31:(0 < (x6_12.size:Int))=True:=eq_true (od);replace q31:=eq_true q31));try go_wp2_with (first | (go_at_call 97;(with_reducible refine (rf01_Digits.calls kj12 x6_12 true _ A27.out).mono ?_);rintro e w' ⟨rfl,⟨nd,rfl⟩⟩;(try first | exact ⟨rfl,_,World.drewN_drewN _ _ _⟩ | exact ⟨rfl,_,Eq.trans (World.drewN_drewN _ _ _) (congrArg (World.drewN _) (Nat.add_assoc _ _ _))⟩);have p31:0≤(0:Int):=(by omega);have q31:0 < x6_12.size:=(by have:(0:Int) < (x6_12.size:Int):=od;omega);have hx31:∀ h:0 < x6_12.size,((x6_12[0]'h).toNat:Int)=bt x6_12 0:=bt_at x6_12 0;clear p31;have qi31:(0 < (x6_12.size:Int))=True:=eq_true (od);replace q31:=eq_true q31)))
             go_meet
             case rel=>exact ⟨_,(false),zq1,H',⟨zq57⟩,zq2⟩
            exact absurd H (by simp)
           have c29b0:decide (1 < (x6_12.size:Int))=false:=decide_eq_false c29;have c29b1:decide (1 < x6_12.size)=false:=decide_eq_false (by omega);clear c29;(first | rw [c29b0] | (simp only [i64_w,i32_w];rw [c29b0]) | skip)
           replace H:=ifI H;rcases H with ⟨c35,H⟩ | ⟨c35,H⟩
           ·have c35b0:decide (0 < a1)=true:=decide_eq_true c35;clear c35;replace H:=bdI H;obtain ⟨t404,A36,H⟩:=H;(try dsimp only at H)
            have H':=sd H;clear H;go_wp2_with (first | (go_at_call 97;(with_reducible refine (rf01_Digits.calls kj12 x6_12 true _ A27.out).mono ?_);rintro e w' ⟨rfl,⟨nd,rfl⟩⟩;(try first | exact ⟨rfl,_,World.drewN_drewN _ _ _⟩ | exact ⟨rfl,_,Eq.trans (World.drewN_drewN _ _ _) (congrArg (World.drewN _) (Nat.add_assoc _ _ _))⟩)) | (go_at_call 97;(with_reducible refine (rf01_Digits.calls kj12 x7_12 t404 _ A36.out).mono ?_);rintro e w' ⟨rfl,⟨nd,rfl⟩⟩;(try first | exact ⟨rfl,_,World.drewN_drewN _ _ _⟩ | exact ⟨rfl,_,Eq.trans (World.drewN_drewN _ _ _) (congrArg (World.drewN _) (Nat.add_assoc _ _ _))⟩)))
            repeat (go_quiet (first | (go_at_call 97;(with_reducible refine (rf01_Digits.calls kj12 x6_12 true _ A27.out).mono ?_);rintro e w' ⟨rfl,⟨nd,rfl⟩⟩;(try first | exact ⟨rfl,_,World.drewN_drewN _ _ _⟩ | exact ⟨rfl,_,Eq.trans (World.drewN_drewN _ _ _) (congrArg (World.drewN _) (Nat.add_assoc _ _ _))⟩)) | (go_at_call 97;(with_reducible refine (rf01_Digits.calls kj12 x7_12 t404 _ A36.out).mono ?_);rintro e w' ⟨rfl,⟨nd,rfl⟩⟩;(try first | exact ⟨rfl,_,World.drewN_drewN _ _ _⟩ | exact ⟨rfl,_,Eq.trans (World.drewN_drewN _ _ _) (congrArg (World.drewN _) (Nat.add_assoc _ _ _))⟩)));try go_wp2_with (first | (go_at_call 97;(with_reducible refine (rf01_Digits.calls kj12 x6_12 true _ A27.out).mono ?_);rintro e w' ⟨rfl,⟨nd,rfl⟩⟩;(try first | exact ⟨rfl,_,World.drewN_drewN _ _ _⟩ | exact ⟨rfl,_,Eq.trans (World.drewN_drewN _ _ _) (congrArg (World.drewN _) (Nat.add_assoc _ _ _))⟩)) | (go_at_call 97;(with_reducible refine (rf01_Digits.calls kj12 x7_12 t404 _ A36.out).mono ?_);rintro e w' ⟨rfl,⟨nd,rfl⟩⟩;(try first | exact ⟨rfl,_,World.drewN_drewN _ _ _⟩ | exact ⟨rfl,_,Eq.trans (World.drewN_drewN _ _ _) (congrArg (World.drewN _) (Nat.add_assoc _ _ _))⟩))))
            go_meet
            case rel=>exact ⟨_,(!t404),zq1,H',⟨zq57⟩,zq2⟩
           have c35b0:decide (0 < a1)=false:=decide_eq_false c35;clear c35;have H':=sd H;clear H;go_wp2_with (first | (go_at_call 97;(with_reducible refine (rf01_Digits.calls kj12 x6_12 true _ A27.out).mono ?_);rintro e w' ⟨rfl,⟨nd,rfl⟩⟩;(try first | exact ⟨rfl,_,World.drewN_drewN _ _ _⟩ | exact ⟨rfl,_,Eq.trans (World.drewN_drewN _ _ _) (congrArg (World.drewN _) (Nat.add_assoc _ _ _))⟩)))
           repeat (go_quiet (first | (go_at_call 97;(with_reducible refine (rf01_Digits.calls kj12 x6_12 true _ A27.out).mono ?_);rintro e w' ⟨rfl,⟨nd,rfl⟩⟩;(try first | exact ⟨rfl,_,World.drewN_drewN _ _ _⟩ | exact ⟨rfl,_,Eq.trans (World.drewN_drewN _ _ _) (congrArg (World.drewN _) (Nat.add_assoc _ _ _))⟩)));try go_wp2_with (first | (go_at_call 97;(with_reducible refine (rf01_Digits.calls kj12 x6_12 true _ A27.out).mono ?_);rintro e w' ⟨rfl,⟨nd,rfl⟩⟩;(try first | exact ⟨rfl,_,World.drewN_drewN _ _ _⟩ | exact ⟨rfl,_,Eq.trans (World.drewN_drewN _ _ _) (congrArg (World.drewN _) (Nat.add_assoc _ _ _))⟩))))
           go_meet
           case rel=>exact ⟨_,(false),zq1,H',⟨zq57⟩,zq2⟩
          replace c28:=Bool.eq_false_iff.mpr c28;subst c28;rw [if_neg Bool.false_ne_true] at H;have H':=sd H;clear H;go_wp2_with (first | (go_at_call 97;(with_reducible refine (rf01_Digits.calls kj12 x6_12 false _ A27.out).mono ?_);rintro e w' ⟨rfl,⟨nd,rfl⟩⟩;(try first | exact ⟨rfl,_,World.drewN_drewN _ _ _⟩ | exact ⟨rfl,_,Eq.trans (World.drewN_drewN _ _ _) (congrArg (World.drewN _) (Nat.add_assoc _ _ _))⟩)))
          repeat (go_quiet (first | (go_at_call 97;(with_reducible refine (rf01_Digits.calls kj12 x6_12 false _ A27.out).mono ?_);rintro e w' ⟨rfl,⟨nd,rfl⟩⟩;(try first | exact ⟨rfl,_,World.drewN_drewN _ _ _⟩ | exact ⟨rfl,_,Eq.trans (World.drewN_drewN _ _ _) (congrArg (World.drewN _) (Nat.add_assoc _ _ _))⟩)));try go_wp2_with (first | (go_at_call 97;(with_reducible refine (rf01_Digits.calls kj12 x6_12 false _ A27.out).mono ?_);rintro e w' ⟨rfl,⟨nd,rfl⟩⟩;(try first | exact ⟨rfl,_,World.drewN_drewN _ _ _⟩ | exact ⟨rfl,_,Eq.trans (World.drewN_drewN _ _ _) (congrArg (World.drewN _) (Nat.add_assoc _ _ _))⟩))))
          go_meet
          case rel=>exact ⟨_,(true),zq1,H',⟨zq57⟩,zq2⟩
         case rest =>
          clear HC26;try clear c1
          try clear p1
          try clear q1
          try clear hx1
          try clear c2
          try clear p2
          try clear c3
          try clear p3
          try clear q3
          try clear hx3
          try clear qi3
          try clear c4
          try clear c4b0
          try clear c5
          try clear p6
          try clear c7
          try clear c7b0
          try clear c7b1
          try clear c8
          try clear c8b0
          try clear c8b1
          try clear c9
          try clear p9
          try clear q9
          try clear hx9
          try clear qi9
          try clear c11
          try clear c12
          try clear c12b0
          try clear c12b1
          try clear c14
          try clear c14b0
          try clear c15
          try clear c15b0
          try clear c17
          try clear c17b0
          try clear c18
          try clear c18b0
          try clear p19
          try clear q19
          try clear hx19
          try clear c20
          try clear c20b0
          try clear c20b1
          try clear c21
          try clear c21b0
          try clear c22
          try clear c22b0
          try clear c22b1
          try clear c24
          try clear c24b0
          try clear c24b1
          try clear c25
          try clear c25b0
          try clear c25b1
          try clear c28
          try clear c29
          try clear c29b0
          try clear c29b1
          try clear c30
          try clear c30b0
          try clear c30b1
          try clear p31
          try clear q31
          try clear hx31
          try clear qi31
          try clear c32
          try clear c32b0
          try clear c32b1
          try clear c33
          try clear c33b0
          try clear c35
          try clear c35b0
          try clear p1
          try clear p19
          try clear p2
          try clear p31
          try clear p6
          try clear p9
          try clear q1
          try clear q19
          try clear q31
          try clear q9
          obtain ⟨kq,x72_25,rfl,HA,HJ25,⟨mc25,rfl⟩⟩:=hcut
          cases kq with
          | zero=>exact absurd HA.out (by simp [rf07_Parse.j4])
          | succ kj25 =>
           have H:=HA.out;clear HA;simp only [rf07_Parse.j4] at H
           by_cases c37:x72_25=true
           ·subst c37;rw [if_pos rfl] at H;simp only [Option.some.injEq,Prod.mk.injEq] at H
            obtain ⟨rfl,rfl⟩:=H;go_wp2
            repeat (go_quiet (fail);try go_wp2)
            go_ret2
            exact ⟨zq1,zq2⟩
           replace c37:=Bool.eq_false_iff.mpr c37;subst c37;rw [if_neg Bool.false_ne_true] at H;replace H:=ifI H;rcases H with ⟨c38,H⟩ | ⟨c38,H⟩
           ·have c38b0:=eq_true c38;have c38b1:decide (x6_12.size+x7_12.size≤9223372036854775807)=true:=decide_eq_true c38;try have c38b2:(9223372036854775807 < x6_12.size+x7_12.size)=False:=eq_false (Nat.not_lt.2 c38)
            have HC39:=sd H;clear H;go_upto_block 0 with (fail)
            repeat (go_quiet (fail);go_upto_block 0 with (fail))
            go_cut [10] (fun v10 wc=>∃ (kq:Nat) (x10_38:ByteArray),v10=.string x10_38∧Aside0 (rf07_Parse.j6 kq x8_9 x10_38=some (r1,r2))∧Aside0 (kq≤kj25)∧Drawn0 w wc)
            case first =>
             have H:=HC39.out;clear HC39;have H':=sd H;clear H;go_wp2
             repeat (go_quiet (fail);try go_wp2)
             go_loopg [10] kj25 (fun kq v10 w'=>∃ (x10_6:ByteArray),v10=.string x10_6∧Aside0 (rf07_Parse.l0 kq x8_9 x10_6=some (r1,r2))∧Aside0 (kq≤kj25)∧Drawn0 w w')
             case atStart=>exact ⟨(x6_12++x7_12),zq1,H',⟨Nat.le_refl _⟩,zq2⟩
             case round =>
              clear H';try clear c1
              try clear p1
              try clear q1
              try clear hx1
              try clear c2
              try clear p2
              try clear c3
              try clear p3
              try clear q3
              try clear hx3
              try clear qi3
              try clear c4
              try clear c4b0
              try clear c5
              try clear p6
              try clear c7
              try clear c7b0
              try clear c7b1
              try clear c8
              try clear c8b0
              try clear c8b1
              try clear c9
              try clear p9
              try clear q9
              try clear hx9
              try clear qi9
              try clear c11
              try clear c12
              try clear c12b0
              try clear c12b1
              try clear c14
              try clear c14b0
              try clear c15
              try clear c15b0
              try clear c17
              try clear c17b0
              try clear c18
              try clear c18b0
              try clear p19
              try clear q19
              try clear hx19
              try clear c20
              try clear c20b0
              try clear c20b1
              try clear c21
              try clear c21b0
              try clear c22
              try clear c22b0
              try clear c22b1
              try clear c24
              try clear c24b0
              try clear c24b1
              try clear c25
              try clear c25b0
              try clear c25b1
              try clear c28
              try clear c29
              try clear c29b0
              try clear c29b1
              try clear c30
              try clear c30b0
              try clear c30b1
              try clear p31
              try clear q31
              try clear hx31
              try clear qi31
              try clear c32
              try clear c32b0
              try clear c32b1
              try clear c33
              try clear c33b0
              try clear c35
              try clear c35b0
              try clear c37
              try clear c38
              try clear c38b0
              try clear c38b1
              try clear c38b2
              try clear p1
              try clear p19
              try clear p2
              try clear p3
              try clear p31
              try clear p6
              try clear p9
              try clear q1
              try clear q19
              try clear q3
              try clear q31
              try clear q9
              obtain ⟨x10_6,rfl,HA,HK6,⟨m6,rfl⟩⟩:=hrel
              cases gk with
              | zero=>exact absurd HA.out (by simp [rf07_Parse.l0])
              | succ k6 =>
               have H:=HA.out;clear HA;simp only [rf07_Parse.l0] at H
               replace H:=ifI H;rcases H with ⟨c40,H⟩ | ⟨c40,H⟩
               ·have c40b0:decide (1 < (x10_6.size:Int))=true:=decide_eq_true c40;have c40b1:decide (1 < x10_6.size)=true:=decide_eq_true (by omega);clear c40;(first | rw [c40b0] | (simp only [i64_w,i32_w];rw [c40b0]) | skip)
                replace H:=ifI H;rcases H with ⟨c41,H⟩ | ⟨c41,H⟩
                ·have c41b0:decide (0 < (x10_6.size:Int))=true:=decide_eq_true c41;have c41b1:decide (0 < x10_6.size)=true:=decide_eq_true (by omega);clear c41;replace H:=ifI H;rcases H with ⟨c43,H⟩ | ⟨c43,H⟩
                 ·obtain ⟨c43b0,c43b1⟩:=eqI c43;clear c43;replace H:=ifI H;rcases H with ⟨c44,H⟩ | ⟨c44,H⟩
                  ·have c44b0:=eq_true c44;have c44b1:decide (1≤(x10_6.size:Int))=true:=decide_eq_true c44;clear c44;have H':=sd H;clear H;have p42:0≤(0:Int):=(by omega)
                   have q42:0 < x10_6.size:=(by have:(0:Int) < (x10_6.size:Int):=od;omega)
                   have hx42:∀ h:0 < x10_6.size,((x10_6[0]'h).toNat:Int)=bt x10_6 0:=bt_at x10_6 0;clear p42;have qi42:(0 < (x10_6.size:Int))=True:=eq_true (od);replace q42:=eq_true q42;go_wp2
                   repeat (go_quiet (fail);try go_wp2)
                   go_roundg k6
                   case measure=>have:=HJ2.out;have:=HJ5.out;have:=HJ9.out;have:=HJ12.out;have:=HJ25.out;have:=HK6.out;omega
                   case rel=>exact ⟨(x10_6.extract 1 x10_6.size),zq1,H',⟨by have:=HJ2.out;have:=HJ5.out;have:=HJ9.out;have:=HJ12.out;have:=HJ25.out;have:=HK6.out;omega⟩,zq2⟩
                  exact absurd H (by simp)
                 obtain ⟨c43b0,c43b1⟩:=neI c43;have H':=sd H;clear H;have p42:0≤(0:Int):=(by omega)
                 have q42:0 < x10_6.size:=(by have:(0:Int) < (x10_6.size:Int):=od;omega)
                 have hx42:∀ h:0 < x10_6.size,((x10_6[0]'h).toNat:Int)=bt x10_6 0:=bt_at x10_6 0;clear p42;have qi42:(0 < (x10_6.size:Int))=True:=eq_true (od);replace q42:=eq_true q42;go_wp2
                 repeat (go_quiet (fail);try go_wp2)
                 go_meet
                 case rel=>exact ⟨_,(x10_6),zq1,H',⟨by have:=HJ2.out;have:=HJ5.out;have:=HJ9.out;have:=HJ12.out;have:=HJ25.out;have:=HK6.out;first | omega | exact Nat.le_refl _⟩,zq2⟩
                exact absurd H (by simp)
               have c40b0:decide (1 < (x10_6.size:Int))=false:=decide_eq_false c40;have c40b1:decide (1 < x10_6.size)=false:=decide_eq_false (by omega);clear c40;(first | rw [c40b0] | (simp only [i64_w,i32_w];rw [c40b0]) | skip)
               have H':=sd H;clear H;go_wp2
               repeat (go_quiet (fail);try go_wp2)
               go_meet
               case rel=>exact ⟨_,(x10_6),zq1,H',⟨by have:=HJ2.out;have:=HJ5.out;have:=HJ9.out;have:=HJ12.out;have:=HJ25.out;have:=HK6.out;first | omega | exact Nat.le_refl _⟩,zq2⟩
            case rest =>
             clear HC39;try clear c1
             try clear p1
             try clear q1
             try clear hx1
             try clear c2
             try clear p2
             try clear c3
             try clear p3
             try clear q3
             try clear hx3
             try clear qi3
             try clear c4
             try clear c4b0
             try clear p4
             try clear q4
             try clear hx4
             try clear qi4
             try clear c5
             try clear p6
             try clear c7
             try clear c7b0
             try clear c7b1
             try clear c8
             try clear c8b0
             try clear c8b1
             try clear c9
             try clear p9
             try clear q9
             try clear hx9
             try clear qi9
             try clear c11
             try clear c12
             try clear c12b0
             try clear c12b1
             try clear c14
             try clear c14b0
             try clear c15
             try clear c15b0
             try clear c17
             try clear c17b0
             try clear c18
             try clear c18b0
             try clear p19
             try clear q19
             try clear hx19
             try clear c20
             try clear c20b0
             try clear c20b1
             try clear c21
             try clear c21b0
             try clear c22
             try clear c22b0
             try clear c22b1
             try clear c24
             try clear c24b0
             try clear c24b1
             try clear c25
             try clear c25b0
             try clear c25b1
             try clear c28
             try clear c29
             try clear c29b0
             try clear c29b1
             try clear c30
             try clear c30b0
             try clear c30b1
             try clear p31
             try clear q31
             try clear hx31
             try clear qi31
             try clear c32
             try clear c32b0
             try clear c32b1
             try clear c33
             try clear c33b0
             try clear c35
             try clear c35b0
             try clear c37
             try clear c38
             try clear c38b0
             try clear c38b1
             try clear c38b2
             try clear c40
             try clear c40b0
             try clear c40b1
             try clear c41
             try clear c41b0
             try clear c41b1
             try clear p42
             try clear q42
             try clear hx42
             try clear qi42
             try clear c43
             try clear c43b0
             try clear c43b1
             try clear c44
             try clear c44b0
             try clear c44b1
             try clear p1
             try clear p19
             try clear p2
             try clear p3
             try clear p31
             try clear p42
             try clear p6
             try clear p9
             try clear q1
             try clear q19
             try clear q3
             try clear q31
             try clear q42
             try clear q9
             obtain ⟨kq,x10_38,rfl,HA,HJ38,⟨mc38,rfl⟩⟩:=hcut
             cases kq with
             | zero=>exact absurd HA.out (by simp [rf07_Parse.j6])
             | succ kj38 =>
              have H:=HA.out;clear HA;simp only [rf07_Parse.j6] at H
              have HC45:=sd H;clear H;go_upto_region 16 with (fail)
              repeat (go_quiet (fail);go_upto_region 16 with (fail))
              go_cut [91] (fun v91 wc=>∃ (kq:Nat) (x91_44:Bool),v91=.bool x91_44∧Aside0 (rf07_Parse.j7 kq x8_9 x10_38 x91_44=some (r1,r2))∧Aside0 (kq≤kj38)∧Drawn0 w wc)
              case first =>
               have H:=HC45.out;clear HC45;replace H:=ifI H;rcases H with ⟨c46,H⟩ | ⟨c46,H⟩
               ·obtain ⟨c46b0,c46b1⟩:=eqI c46;clear c46;(first | rw [c46b0] | (simp only [i64_w,i32_w];rw [c46b0]) | skip)
                have H':=sd H;clear H;go_wp2
                repeat (go_quiet (fail);try go_wp2)
                go_meet
                case rel=>exact ⟨_,((x10_38.toList == ([48]:List UInt8))),zq1,H',⟨by have:=HJ2.out;have:=HJ5.out;have:=HJ9.out;have:=HJ12.out;have:=HJ25.out;have:=HJ38.out;first | omega | exact Nat.le_refl _⟩,zq2⟩
               obtain ⟨c46b0,c46b1⟩:=neI c46;(first | rw [c46b0] | (simp only [i64_w,i32_w];rw [c46b0]) | skip)
               have H':=sd H;clear H;go_wp2
               repeat (go_quiet (fail);try go_wp2)
               go_meet
               case rel=>exact ⟨_,(false),zq1,H',⟨by have:=HJ2.out;have:=HJ5.out;have:=HJ9.out;have:=HJ12.out;have:=HJ25.out;have:=HJ38.out;first | omega | exact Nat.le_refl _⟩,zq2⟩
              case rest =>
               clear HC45;try clear c1
               try clear p1
               try clear q1
               try clear hx1
               try clear c2
               try clear p2
               try clear c3
               try clear p3
               try clear q3
               try clear hx3
               try clear qi3
               try clear c4
               try clear c4b0
               try clear p4
               try clear q4
               try clear hx4
               try clear qi4
               try clear c5
               try clear p6
               try clear c7
               try clear c7b0
               try clear c7b1
               try clear c8
               try clear c8b0
               try clear c8b1
               try clear c9
               try clear p9
               try clear q9
               try clear hx9
               try clear qi9
               try clear c11
               try clear c12
               try clear c12b0
               try clear c12b1
               try clear c14
               try clear c14b0
               try clear c15
               try clear c15b0
               try clear c17
               try clear c17b0
               try clear c18
               try clear c18b0
               try clear p19
               try clear q19
               try clear hx19
               try clear c20
               try clear c20b0
               try clear c20b1
               try clear c21
               try clear c21b0
               try clear c22
               try clear c22b0
               try clear c22b1
               try clear c24
               try clear c24b0
               try clear c24b1
               try clear c25
               try clear c25b0
               try clear c25b1
               try clear c28
               try clear c29
               try clear c29b0
               try clear c29b1
               try clear c30
               try clear c30b0
               try clear c30b1
               try clear p31
               try clear q31
               try clear hx31
               try clear qi31
               try clear c32
               try clear c32b0
               try clear c32b1
               try clear c33
               try clear c33b0
               try clear c35
               try clear c35b0
               try clear c37
               try clear c38
               try clear c38b0
               try clear c38b1
               try clear c38b2
               try clear c40
               try clear c40b0
               try clear c40b1
               try clear c41
               try clear c41b0
               try clear c41b1
               try clear p42
               try clear q42
               try clear hx42
               try clear qi42
               try clear c43
               try clear c43b0
               try clear c43b1
               try clear c44
               try clear c44b0
               try clear c44b1
               try clear c46
               try clear c46b0
               try clear c46b1
               try clear p1
               try clear p19
               try clear p2
               try clear p3
               try clear p31
               try clear p4
               try clear p42
               try clear p6
               try clear p9
               try clear q1
               try clear q19
               try clear q3
               try clear q31
               try clear q4
               try clear q42
               try clear q9
               obtain ⟨kq,x91_44,rfl,HA,HJ44,⟨mc44,rfl⟩⟩:=hcut
               cases kq with
               | zero=>exact absurd HA.out (by simp [rf07_Parse.j7])
               | succ kj44 =>
                have H:=HA.out;clear HA;simp only [rf07_Parse.j7] at H
                by_cases c47:x91_44=true
                ·subst c47;rw [if_pos rfl] at H;simp only [Option.some.injEq,Prod.mk.injEq] at H
                 obtain ⟨rfl,rfl⟩:=H;go_wp2
                 repeat (go_quiet (fail);try go_wp2)
                 go_ret2
                 exact ⟨zq1,zq2⟩
                replace c47:=Bool.eq_false_iff.mpr c47;subst c47;rw [if_neg Bool.false_ne_true] at H;replace H:=ifI H;rcases H with ⟨c48,H⟩ | ⟨c48,H⟩
                ·have c48b0:=eq_true c48;have c48b1:decide (x8_9.size+x10_38.size≤9223372036854775807)=true:=decide_eq_true c48;try have c48b2:(9223372036854775807 < x8_9.size+x10_38.size)=False:=eq_false (Nat.not_lt.2 c48)
                 replace H:=bdI H;obtain ⟨⟨t405,t406⟩,A49,H⟩:=H;(try dsimp only at H)
                 replace H:=ifI H;rcases H with ⟨c50,H⟩ | ⟨c50,H⟩
                 ·obtain ⟨c50b0,c50b1⟩:=eqI c50;clear c50;simp only [Option.some.injEq,Prod.mk.injEq] at H
                  obtain ⟨rfl,rfl⟩:=H;go_wp2_with (first | (go_at_call 96;(with_reducible refine (rf01_Parse.calls kj44 (x8_9++x10_38) (-1000000000000000) 1000000000000000 t405 t406 _ A49.out).mono ?_);rintro e w' ⟨rfl,⟨nd,rfl⟩⟩;(try first | exact ⟨rfl,_,World.drewN_drewN _ _ _⟩ | exact ⟨rfl,_,Eq.trans (World.drewN_drewN _ _ _) (congrArg (World.drewN _) (Nat.add_assoc _ _ _))⟩)))
                  repeat (go_quiet (first | (go_at_call 96;(with_reducible refine (rf01_Parse.calls kj44 (x8_9++x10_38) (-1000000000000000) 1000000000000000 t405 t406 _ A49.out).mono ?_);rintro e w' ⟨rfl,⟨nd,rfl⟩⟩;(try first | exact ⟨rfl,_,World.drewN_drewN _ _ _⟩ | exact ⟨rfl,_,Eq.trans (World.drewN_drewN _ _ _) (congrArg (World.drewN _) (Nat.add_assoc _ _ _))⟩)));try go_wp2_with (first | (go_at_call 96;(with_reducible refine (rf01_Parse.calls kj44 (x8_9++x10_38) (-1000000000000000) 1000000000000000 t405 t406 _ A49.out).mono ?_);rintro e w' ⟨rfl,⟨nd,rfl⟩⟩;(try first | exact ⟨rfl,_,World.drewN_drewN _ _ _⟩ | exact ⟨rfl,_,Eq.trans (World.drewN_drewN _ _ _) (congrArg (World.drewN _) (Nat.add_assoc _ _ _))⟩))))
                  go_ret2
                  exact ⟨zq1,zq2⟩
                 obtain ⟨c50b0,c50b1⟩:=neI c50;simp only [Option.some.injEq,Prod.mk.injEq] at H
                 obtain ⟨rfl,rfl⟩:=H;go_wp2_with (first | (go_at_call 96;(with_reducible refine (rf01_Parse.calls kj44 (x8_9++x10_38) (-1000000000000000) 1000000000000000 t405 t406 _ A49.out).mono ?_);rintro e w' ⟨rfl,⟨nd,rfl⟩⟩;(try first | exact ⟨rfl,_,World.drewN_drewN _ _ _⟩ | exact ⟨rfl,_,Eq.trans (World.drewN_drewN _ _ _) (congrArg (World.drewN _) (Nat.add_assoc _ _ _))⟩)))
                 repeat (go_quiet (first | (go_at_call 96;(with_reducible refine (rf01_Parse.calls kj44 (x8_9++x10_38) (-1000000000000000) 1000000000000000 t405 t406 _ A49.out).mono ?_);rintro e w' ⟨rfl,⟨nd,rfl⟩⟩;(try first | exact ⟨rfl,_,World.drewN_drewN _ _ _⟩ | exact ⟨rfl,_,Eq.trans (World.drewN_drewN _ _ _) (congrArg (World.drewN _) (Nat.add_assoc _ _ _))⟩)));try go_wp2_with (first | (go_at_call 96;(with_reducible refine (rf01_Parse.calls kj44 (x8_9++x10_38) (-1000000000000000) 1000000000000000 t405 t406 _ A49.out).mono ?_);rintro e w' ⟨rfl,⟨nd,rfl⟩⟩;(try first | exact ⟨rfl,_,World.drewN_drewN _ _ _⟩ | exact ⟨rfl,_,Eq.trans (World.drewN_drewN _ _ _) (congrArg (World.drewN _) (Nat.add_assoc _ _ _))⟩))))
                 go_ret2
                 exact ⟨zq1,zq2⟩
                exact absurd H (by simp)
           exact absurd H (by simp)
end Go.Proofs.YtmlcdpfcafmmcaaDoor.A
