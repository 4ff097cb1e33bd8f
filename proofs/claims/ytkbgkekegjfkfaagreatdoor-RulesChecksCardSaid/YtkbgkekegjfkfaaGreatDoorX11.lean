-- By pack.py, a program of this session's.
import Derived.Test.YtkbgkekegjfkfaaGreatDoorX5
import Derived.Test.YtkbgkekegjfkfaaGreatDoorX6
set_option linter.unusedVariables false
set_option linter.unusedSimpArgs false
namespace Go.Proofs.YtkbgkekegjfkfaaGreatDoor.A
open Go.RowKit B WW WL WM
attribute [local go_sem] max2_int min2_int max_two min_two max_three min_three max_four min_four
set_option maxHeartbeats 8000000
set_option maxRecDepth 100000
theorem num_formed.calls (k:Nat) (a0:ByteArray) (r:Bool) (w:World) (h:num_formed.f k a0=some r) :
  Calls Tryz.prog 116 #[.string a0] w fun e w'=>e=.returned (.bool r)∧Drawn0 w w':=by
 have H:=h;clear h;unfold num_formed.f at H;have HC2:=sd H;clear H;go_enter Tryz.func116,Tryz.ntmps116
 go_upto_region 1 with (fail)
 go_cut [3] (fun v3 wc=>∃ (kq:Nat) (x3_1:Bool),v3=.bool x3_1∧Aside0 (num_formed.j0 kq a0 x3_1=some r)∧Aside0 (kq≤k)∧Drawn0 w wc)
 case first =>
  have H:=HC2.out;clear HC2;replace H:=ifI H;rcases H with ⟨c3,H⟩ | ⟨c3,H⟩
  ·have c3b0:decide (0 < (a0.size:Int))=true:=decide_eq_true c3;have c3b1:decide (0 < a0.size)=true:=decide_eq_true (by omega);clear c3;(first | rw [c3b0] | (simp only [i64_w,i32_w];rw [c3b0]) | skip)
   replace H:=ifI H;rcases H with ⟨c4,H⟩ | ⟨c4,H⟩
   ·have c4b0:decide (0 < (a0.size:Int))=true:=decide_eq_true c4;have c4b1:decide (0 < a0.size)=true:=decide_eq_true (by omega);clear c4;have H':=sd H;clear H;have p5:0≤(0:Int):=(by omega)
    have q5:0 < a0.size:=(by have:(0:Int) < (a0.size:Int):=od;omega)
    have hx5:∀ h:0 < a0.size,((a0[0]'h).toNat:Int)=bt a0 0:=bt_at a0 0;clear p5;have qi5:(0 < (a0.size:Int))=True:=eq_true (od);replace q5:=eq_true q5;go_wp2
    go_meet
    case rel=>exact ⟨_,(((bt a0 0) == 45)),zq7,H',⟨by first | omega | exact Nat.le_refl _⟩,zq16⟩
   exact absurd H (by simp)
  have c3b0:decide (0 < (a0.size:Int))=false:=decide_eq_false c3;have c3b1:decide (0 < a0.size)=false:=decide_eq_false (by omega);clear c3;(first | rw [c3b0] | (simp only [i64_w,i32_w];rw [c3b0]) | skip)
  have H':=sd H;clear H;go_wp2
  go_meet
  case rel=>exact ⟨_,(false),zq7,H',⟨by first | omega | exact Nat.le_refl _⟩,zq16⟩
 case rest =>
  clear HC2;try clear c1
  try clear p2
  try clear c3
  try clear c3b0
  try clear c3b1
  try clear c4
  try clear c4b0
  try clear c4b1
  try clear p5
  try clear q5
  try clear hx5
  try clear qi5
  try clear p5
  try clear q5
  obtain ⟨kq,x3_1,rfl,HA,HJ1,⟨mc1,rfl⟩⟩:=hcut
  cases kq with
  | zero=>exact absurd HA.out (by simp [num_formed.j0])
  | succ kj1 =>
   have H:=HA.out;clear HA;simp only [num_formed.j0] at H
   have HC6:=sd H;clear H;go_upto_if 13 with (fail)
   go_cut [0] (fun v0 wc=>∃ (kq:Nat) (x0_5:ByteArray),v0=.string x0_5∧Aside0 (num_formed.j1 kq x0_5 x3_1=some r)∧Aside0 (kq≤kj1)∧Drawn0 w wc)
   case first =>
    have H:=HC6.out;clear HC6;by_cases c7:x3_1=true
    ·subst c7;rw [if_pos rfl] at H;replace H:=ifI H;rcases H with ⟨c8,H⟩ | ⟨c8,H⟩
     ·have c8b0:=eq_true c8;have c8b1:decide (1≤(a0.size:Int))=true:=decide_eq_true c8;clear c8;have H':=sd H;clear H;go_wp2
      go_meet
      case rel=>exact ⟨_,(a0.extract 1 a0.size),zq7,H',⟨zq17⟩,zq16⟩
     exact absurd H (by simp)
    replace c7:=Bool.eq_false_iff.mpr c7;subst c7;rw [if_neg Bool.false_ne_true] at H;have H':=sd H;clear H;go_wp2
    go_meet
    case rel=>exact ⟨_,(a0),zq7,H',⟨zq17⟩,zq16⟩
   case rest =>
    clear HC6;try clear c1
    try clear p2
    try clear c3
    try clear c3b0
    try clear c3b1
    try clear c4
    try clear c4b0
    try clear c4b1
    try clear p5
    try clear q5
    try clear hx5
    try clear qi5
    try clear c7
    try clear c8
    try clear c8b0
    try clear c8b1
    try clear p2
    try clear p5
    try clear q5
    obtain ⟨kq,x0_5,rfl,HA,HJ5,⟨mc5,rfl⟩⟩:=hcut
    cases kq with
    | zero=>exact absurd HA.out (by simp [num_formed.j1])
    | succ kj5 =>
     have H:=HA.out;clear HA;simp only [num_formed.j1] at H
     have HC9:=sd H;clear H;go_upto_region 4 with (fail)
     go_cut [30] (fun v30 wc=>∃ (kq:Nat) (x30_8:Bool),v30=.bool x30_8∧Aside0 (num_formed.j2 kq x0_5 x30_8=some r)∧Aside0 (kq≤kj5)∧Drawn0 w wc)
     case first =>
      have H:=HC9.out;clear HC9;replace H:=ifI H;rcases H with ⟨c10,H⟩ | ⟨c10,H⟩
      ·obtain ⟨c10b0,c10b1⟩:=eqI c10;clear c10;(first | rw [c10b0] | (simp only [i64_w,i32_w];rw [c10b0]) | skip)
       have H':=sd H;clear H;go_wp2
       go_meet
       case rel=>exact ⟨_,(true),zq7,H',⟨zq18⟩,zq16⟩
      obtain ⟨c10b0,c10b1⟩:=neI c10;(first | rw [c10b0] | (simp only [i64_w,i32_w];rw [c10b0]) | skip)
      replace H:=ifI H;rcases H with ⟨c11,H⟩ | ⟨c11,H⟩
      ·have c11b0:decide (0 < (x0_5.size:Int))=true:=decide_eq_true c11;have c11b1:decide (0 < x0_5.size)=true:=decide_eq_true (by omega);clear c11;replace H:=ifI H;rcases H with ⟨c13,H⟩ | ⟨c13,H⟩
       ·obtain ⟨c13b0,c13b1⟩:=eqI c13;clear c13;by_cases c14:x3_1=true
        ·subst c14;rw [if_pos rfl] at H;have H':=sd H;clear H;have p12:0≤(0:Int):=(by omega)
         have q12:0 < x0_5.size:=(by have:(0:Int) < (x0_5.size:Int):=od;omega)
         have hx12:∀ h:0 < x0_5.size,((x0_5[0]'h).toNat:Int)=bt x0_5 0:=bt_at x0_5 0;clear p12;have qi12:(0 < (x0_5.size:Int))=True:=eq_true (od);replace q12:=eq_true q12;go_wp2
         go_meet
         case rel=>exact ⟨_,(true),zq7,H',⟨zq18⟩,zq16⟩
        replace c14:=Bool.eq_false_iff.mpr c14;subst c14;rw [if_neg Bool.false_ne_true] at H;have H':=sd H;clear H;have p12:0≤(0:Int):=(by omega)
        have q12:0 < x0_5.size:=(by have:(0:Int) < (x0_5.size:Int):=od;omega)
        have hx12:∀ h:0 < x0_5.size,((x0_5[0]'h).toNat:Int)=bt x0_5 0:=bt_at x0_5 0;clear p12;have qi12:(0 < (x0_5.size:Int))=True:=eq_true (od);replace q12:=eq_true q12;go_wp2
        go_meet
        case rel=>exact ⟨_,(decide ((x0_5.size:Int) > 1)),zq7,H',⟨zq18⟩,zq16⟩
       obtain ⟨c13b0,c13b1⟩:=neI c13;have H':=sd H;clear H;have p12:0≤(0:Int):=(by omega)
       have q12:0 < x0_5.size:=(by have:(0:Int) < (x0_5.size:Int):=od;omega)
       have hx12:∀ h:0 < x0_5.size,((x0_5[0]'h).toNat:Int)=bt x0_5 0:=bt_at x0_5 0;clear p12;have qi12:(0 < (x0_5.size:Int))=True:=eq_true (od);replace q12:=eq_true q12;go_wp2
       go_meet
       case rel=>exact ⟨_,(false),zq7,H',⟨zq18⟩,zq16⟩
      exact absurd H (by simp)
     case rest =>
      clear HC9;try clear c1
      try clear p1
      try clear q1
      try clear hx1
      try clear qi1
      try clear p2
      try clear c3
      try clear c3b0
      try clear c3b1
      try clear c4
      try clear c4b0
      try clear c4b1
      try clear c5
      try clear p5
      try clear q5
      try clear hx5
      try clear qi5
      try clear c7
      try clear c8
      try clear c8b0
      try clear c8b1
      try clear c10
      try clear c10b0
      try clear c10b1
      try clear c11
      try clear c11b0
      try clear c11b1
      try clear p12
      try clear q12
      try clear hx12
      try clear qi12
      try clear c13
      try clear c13b0
      try clear c13b1
      try clear c14
      try clear p12
      try clear p2
      try clear p5
      try clear q12
      try clear q5
      obtain ⟨kq,x30_8,rfl,HA,HJ8,⟨mc8,rfl⟩⟩:=hcut
      cases kq with
      | zero=>exact absurd HA.out (by simp [num_formed.j2])
      | succ kj8 =>
       have H:=HA.out;clear HA;simp only [num_formed.j2] at H
       by_cases c15:x30_8=true
       ·subst c15;rw [if_pos rfl] at H;obtain rfl:=Option.some.inj H;go_wp2
        go_ret
        exact ⟨zq7,zq16⟩
       replace c15:=Bool.eq_false_iff.mpr c15;subst c15;rw [if_neg Bool.false_ne_true] at H;have H':=sd H;clear H;go_wp2
       go_loopg [33] kj8 (fun kq v33 w'=>∃ (x33_4:Int),v33=.int .i64 x33_4∧Aside0 (num_formed.l0 kq x0_5 (x0_5.size:Int) x33_4=some r)∧Aside0 (kq≤kj8)∧Drawn0 w w')
       case atStart=>exact ⟨(0),zq7,H',⟨Nat.le_refl _⟩,zq16⟩
       case round =>
        clear H';try clear c1
        try clear p1
        try clear q1
        try clear hx1
        try clear qi1
        try clear p2
        try clear c3
        try clear c3b0
        try clear c3b1
        try clear c4
        try clear c4b0
        try clear c4b1
        try clear c5
        try clear p5
        try clear q5
        try clear hx5
        try clear qi5
        try clear c7
        try clear c8
        try clear c8b0
        try clear c8b1
        try clear c10
        try clear c10b0
        try clear c10b1
        try clear c11
        try clear c11b0
        try clear c11b1
        try clear p12
        try clear q12
        try clear hx12
        try clear qi12
        try clear c13
        try clear c13b0
        try clear c13b1
        try clear c14
        try clear c15
        try clear p1
        try clear p12
        try clear p2
        try clear p5
        try clear q1
        try clear q12
        try clear q5
        obtain ⟨x33_4,rfl,HA,HK4,⟨m4,rfl⟩⟩:=hrel
        cases gk with
        | zero=>exact absurd HA.out (by simp [num_formed.l0])
        | succ k4 =>
         have H:=HA.out;clear HA;simp only [num_formed.l0] at H
         replace H:=ifI H;rcases H with ⟨c16,H⟩ | ⟨c16,H⟩
         ·have c16b0:decide (x33_4 < (x0_5.size:Int))=true:=decide_eq_true c16;clear c16;replace H:=ifI H;rcases H with ⟨c17,H⟩ | ⟨c17,H⟩
          ·have c17b0:decide (0≤x33_4)=true:=decide_eq_true c17;clear c17;replace H:=ifI H;rcases H with ⟨c18,H⟩ | ⟨c18,H⟩
           ·have c18b0:decide (x33_4 < (x0_5.size:Int))=true:=decide_eq_true c18;clear c18;replace H:=ifI H;rcases H with ⟨c20,H⟩ | ⟨c20,H⟩
            ·have c20b0:decide ((bt x0_5 x33_4) < 48)=true:=decide_eq_true c20;clear c20;obtain rfl:=Option.some.inj H;have p19:0≤(x33_4:Int):=od;have q19:x33_4 < (x0_5.size:Int):=od;have hx19:=bt_at x0_5 x33_4;replace p19:=eq_true p19;replace q19:=eq_true q19;go_wp2
             go_ret
             exact ⟨zq7,zq16⟩
            have c20b0:decide ((bt x0_5 x33_4) < 48)=false:=decide_eq_false c20;clear c20;replace H:=ifI H;rcases H with ⟨c22,H⟩ | ⟨c22,H⟩
            ·have c22b0:decide (57 < (bt x0_5 x33_4))=true:=decide_eq_true c22;clear c22;obtain rfl:=Option.some.inj H;have p19:0≤(x33_4:Int):=od;have q19:x33_4 < (x0_5.size:Int):=od;have hx19:=bt_at x0_5 x33_4;replace p19:=eq_true p19;replace q19:=eq_true q19;have p21:0≤(x33_4:Int):=od;have q21:x33_4 < (x0_5.size:Int):=od;have hx21:=bt_at x0_5 x33_4;replace p21:=eq_true p21;replace q21:=eq_true q21;go_wp2
             go_ret
             exact ⟨zq7,zq16⟩
            have c22b0:decide (57 < (bt x0_5 x33_4))=false:=decide_eq_false c22;clear c22;have H':=sd H;clear H;have p19:0≤(x33_4:Int):=od;have q19:x33_4 < (x0_5.size:Int):=od;have hx19:=bt_at x0_5 x33_4;replace p19:=eq_true p19;replace q19:=eq_true q19;have p21:0≤(x33_4:Int):=od;have q21:x33_4 < (x0_5.size:Int):=od;have hx21:=bt_at x0_5 x33_4;replace p21:=eq_true p21;replace q21:=eq_true q21;go_wp2
            go_roundg k4
            case measure=>have:=HJ1.out;have:=HJ5.out;have:=HJ8.out;have:=HK4.out;omega
            case rel=>exact ⟨(wrap64 (x33_4+1)),zq7,H',⟨by have:=HJ1.out;have:=HJ5.out;have:=HJ8.out;have:=HK4.out;omega⟩,zq16⟩
           exact absurd H (by simp)
          exact absurd H (by simp)
         have c16b0:decide (x33_4 < (x0_5.size:Int))=false:=decide_eq_false c16;clear c16;obtain rfl:=Option.some.inj H;go_wp2
         go_ret
         exact ⟨zq7,zq16⟩
theorem rf48_number.calls (a0:Int) (r:Bool) (w:World) (h:rf48_number.f a0=some r) :
  Calls Tryz.prog 35 #[.int .i64 a0] w fun e w'=>e=.returned (.bool r)∧Drawn0 w w':=by
 have H:=h;clear h;unfold rf48_number.f at H;replace H:=ifI H;rcases H with ⟨c2,H⟩ | ⟨c2,H⟩
 ·obtain ⟨c2b0,c2b1⟩:=eqI c2;clear c2;obtain rfl:=Option.some.inj H;go_enter Tryz.func35,Tryz.ntmps35
  go_wp2
  go_ret
  exact ⟨zq7,zq16⟩
 obtain ⟨c2b0,c2b1⟩:=neI c2;obtain rfl:=Option.some.inj H;go_enter Tryz.func35,Tryz.ntmps35
 go_wp2
 go_ret
 exact ⟨zq7,zq16⟩
theorem rf04_Is.calls (a0:Int) (r:Bool) (w:World) (h:rf04_Is.f a0=some r) :
  Calls Tryz.prog 57 #[.int .i64 a0] w fun e w'=>e=.returned (.bool r)∧Drawn0 w w':=by
 have H:=h;clear h;unfold rf04_Is.f at H;replace H:=ifI H;rcases H with ⟨c2,H⟩ | ⟨c2,H⟩
 ·have c2b0:decide (0≤a0)=true:=decide_eq_true c2;clear c2;obtain rfl:=Option.some.inj H;go_enter Tryz.func57,Tryz.ntmps57
  go_wp2
  go_ret
  exact ⟨zq7,zq16⟩
 have c2b0:decide (0≤a0)=false:=decide_eq_false c2;clear c2;obtain rfl:=Option.some.inj H;go_enter Tryz.func57,Tryz.ntmps57
 go_wp2
 go_ret
 exact ⟨zq7,zq16⟩
theorem rf06_Plain.calls (k:Nat) (a0:ByteArray) (r:Bool) (w:World) (h:rf06_Plain.f k a0=some r) :
  Calls Tryz.prog 58 #[.string a0] w fun e w'=>e=.returned (.bool r)∧Drawn0 w w':=by
 have H:=h;clear h;unfold rf06_Plain.f at H;have H':=sd H;clear H;go_enter Tryz.func58,Tryz.ntmps58
 go_wp2
 go_loopg [3] k (fun kq v3 w'=>∃ (x3_1:Int),v3=.int .i64 x3_1∧Aside0 (rf06_Plain.l0 kq a0 x3_1=some r)∧Aside0 (kq≤k)∧Drawn0 w w')
 case atStart=>exact ⟨(0),zq7,H',⟨Nat.le_refl _⟩,zq16⟩
 case round =>
  clear H';obtain ⟨x3_1,rfl,HA,HK1,⟨m1,rfl⟩⟩:=hrel
  cases gk with
  | zero=>exact absurd HA.out (by simp [rf06_Plain.l0])
  | succ k1 =>
   have H:=HA.out;clear HA;simp only [rf06_Plain.l0] at H
   replace H:=ifI H;rcases H with ⟨c2,H⟩ | ⟨c2,H⟩
   ·have c2b0:decide (x3_1 < (a0.size:Int))=true:=decide_eq_true c2;clear c2;replace H:=ifI H;rcases H with ⟨c3,H⟩ | ⟨c3,H⟩
    ·have c3b0:decide (0≤x3_1)=true:=decide_eq_true c3;clear c3;replace H:=ifI H;rcases H with ⟨c5,H⟩ | ⟨c5,H⟩
     ·have c5b0:decide ((bt a0 x3_1) < 32)=true:=decide_eq_true c5;clear c5;obtain rfl:=Option.some.inj H;have p4:0≤(x3_1:Int):=od;have q4:x3_1 < (a0.size:Int):=od;have hx4:=bt_at a0 x3_1;replace p4:=eq_true p4;replace q4:=eq_true q4;go_wp2
      go_ret
      exact ⟨zq7,zq16⟩
     have c5b0:decide ((bt a0 x3_1) < 32)=false:=decide_eq_false c5;clear c5;replace H:=ifI H;rcases H with ⟨c7,H⟩ | ⟨c7,H⟩
     ·have c7b0:decide (126 < (bt a0 x3_1))=true:=decide_eq_true c7;clear c7;obtain rfl:=Option.some.inj H;have p4:0≤(x3_1:Int):=od;have q4:x3_1 < (a0.size:Int):=od;have hx4:=bt_at a0 x3_1;replace p4:=eq_true p4;replace q4:=eq_true q4;have p6:0≤(x3_1:Int):=od;have q6:x3_1 < (a0.size:Int):=od;have hx6:=bt_at a0 x3_1;replace p6:=eq_true p6;replace q6:=eq_true q6;go_wp2
      go_ret
      exact ⟨zq7,zq16⟩
     have c7b0:decide (126 < (bt a0 x3_1))=false:=decide_eq_false c7;clear c7;have H':=sd H;clear H;have p4:0≤(x3_1:Int):=od;have q4:x3_1 < (a0.size:Int):=od;have hx4:=bt_at a0 x3_1;replace p4:=eq_true p4;replace q4:=eq_true q4;have p6:0≤(x3_1:Int):=od;have q6:x3_1 < (a0.size:Int):=od;have hx6:=bt_at a0 x3_1;replace p6:=eq_true p6;replace q6:=eq_true q6;go_wp2
     go_roundg k1
     case measure=>have:=HK1.out;omega
     case rel=>exact ⟨(wrap64 (x3_1+1)),zq7,H',⟨by have:=HK1.out;omega⟩,zq16⟩
    exact absurd H (by simp)
   have c2b0:decide (x3_1 < (a0.size:Int))=false:=decide_eq_false c2;clear c2;obtain rfl:=Option.some.inj H;go_wp2
   go_ret
   exact ⟨zq7,zq16⟩
theorem rf48_condition.calls (k:Nat) (a0_0 a0_1:Int) (a0_2:ByteArray) (a0_3 r:Int) (w:World) (h:rf48_condition.f k a0_0 a0_1 a0_2 a0_3=some r) :
  Calls Tryz.prog 26 #[.agg #[.int .i64 a0_0,.int .i64 a0_1,.string a0_2,.int .i64 a0_3]] w fun e w'=>e=.returned (.int .i64 r)∧Below w.heap.size w w':=by
 have hu48:=Tryz.underlying48;have HB:=sd (Below.refl w.heap.size w);have H:=h;clear h;unfold rf48_condition.f at H;have HC2:=sd H;clear H;go_enter Tryz.func26,Tryz.ntmps26
 go_upto_region 1 with (first | ((with_reducible refine gate_dst (N:=1) rfl ?_);refine bxA 1 #[.int .i64 a0_0,.int .i64 a0_1,.string a0_2,.int .i64 a0_3] 48 ?_;intro gb134 hg w3 hbox hb;have BK134:=sd (hbox);have GW134:=gem hg HB;have GE134:=GW134;replace HB:=hbm HB hb;clear hb hbox hg))
 (try simp only [Act.put,List.setIfInBounds_toArray,List.set_cons_zero,List.set_cons_succ])
 go_cut [10] (fun v10 wc=>∃ (kq:Nat) (x10_1:Bool),v10=.bool x10_1∧Aside0 (rf48_condition.j0 kq x10_1 a0_0 a0_1 a0_2 a0_3=some r)∧Aside0 (kq≤k)∧Aside0 (wc.heap[gb134]?=some (.cells #[.int .i64 a0_0,.int .i64 a0_1,.string a0_2,.int .i64 a0_3] 48 (0,0)))∧Aside0 (Below w.heap.size w wc))
 case first =>
  have H:=HC2.out;clear HC2;replace H:=ifI H;rcases H with ⟨c4,H⟩ | ⟨c4,H⟩
  ·have c4b0:decide (a0_0 < 1)=true:=decide_eq_true c4;clear c4;(first | rw [c4b0] | (simp only [i64_w,i32_w];rw [c4b0]) | skip)
   have H':=sd H;clear H;obtain ⟨_,_,_,_,_,_,_,_⟩:=bk4 BK134;go_wp2
   go_meet
   case rel=>exact ⟨_,(true),zq7,H',⟨by first | omega | exact Nat.le_refl _⟩,⟨zq35⟩,⟨zq36⟩⟩
  have c4b0:decide (a0_0 < 1)=false:=decide_eq_false c4;clear c4;(first | rw [c4b0] | (simp only [i64_w,i32_w];rw [c4b0]) | skip)
  have H':=sd H;clear H;obtain ⟨_,_,_,_,_,_,_,_⟩:=bk4 BK134;go_wp2
  go_meet
  case rel=>exact ⟨_,(decide (a0_0 > 4)),zq7,H',⟨by first | omega | exact Nat.le_refl _⟩,⟨zq35⟩,⟨zq36⟩⟩
 case rest =>
  clear HC2;try clear c2
  try clear p2
  try clear c4
  try clear c4b0
  try clear hcz5_0
  try clear hcz5_1
  try clear hcz5_2
  try clear hcz5_3
  try clear hcz6_0
  try clear hcz6_1
  try clear hcz6_2
  try clear hcz6_3
  try clear hfz5_0
  try clear hfz5_1
  try clear hfz5_2
  try clear hfz5_3
  try clear hfz6_0
  try clear hfz6_1
  try clear hfz6_2
  try clear hfz6_3
  obtain ⟨kq,x10_1,rfl,HA,HJ1,BK134,HB⟩:=hcut
  cases kq with
  | zero=>exact absurd HA.out (by simp [rf48_condition.j0])
  | succ kj1 =>
   have H:=HA.out;clear HA;simp only [rf48_condition.j0] at H
   by_cases c7:x10_1=true
   ·subst c7;rw [if_pos rfl] at H;obtain rfl:=Option.some.inj H;go_wp2
    go_ret
    exact ⟨zq4,zq36⟩
   replace c7:=Bool.eq_false_iff.mpr c7;subst c7;rw [if_neg Bool.false_ne_true] at H;have HC8:=sd H;clear H;go_upto_region 3 with (fail)
   go_cut [44] (fun v44 wc=>∃ (kq:Nat) (x44_7:Bool),v44=.bool x44_7∧Aside0 (rf48_condition.j1 kq x44_7 a0_0 a0_1 a0_2 a0_3=some r)∧Aside0 (kq≤kj1)∧Aside0 (wc.heap[gb134]?=some (.cells #[.int .i64 a0_0,.int .i64 a0_1,.string a0_2,.int .i64 a0_3] 48 (0,0)))∧Aside0 (Below w.heap.size w wc))
   case first =>
    have H:=HC8.out;clear HC8;replace H:=bdI H;obtain ⟨t135,A9,H⟩:=H;(try dsimp only at H)
    by_cases c10:t135=true
    ·subst c10;rw [if_pos rfl] at H;replace H:=ifI H;rcases H with ⟨c11,H⟩ | ⟨c11,H⟩
     ·have c11b0:decide (a0_1 < 1)=true:=decide_eq_true c11;clear c11;(first | rw [c11b0] | (simp only [i64_w,i32_w];rw [c11b0]) | skip)
      have H':=sd H;clear H;obtain ⟨_,_,_,_,_,_,_,_⟩:=bk4 BK134;go_wp2_with (first | ((with_reducible refine gate_callee (f:=35) rfl ?_);refine gL 13 Tryz.func35 #[.int .i64 a0_0] ?_;(with_reducible refine (rf48_number.calls a0_0 true _ A9.out).mono ?_);rintro e w' ⟨rfl,⟨nd,rfl⟩⟩;refine ⟨_,rfl,?_⟩))
      go_meet
      case rel=>exact ⟨_,(true),zq7,H',⟨zq17⟩,⟨zq35⟩,⟨zq36⟩⟩
     have c11b0:decide (a0_1 < 1)=false:=decide_eq_false c11;clear c11;(first | rw [c11b0] | (simp only [i64_w,i32_w];rw [c11b0]) | skip)
     replace H:=ifI H;rcases H with ⟨c13,H⟩ | ⟨c13,H⟩
     ·have c13b0:decide (3 < a0_1)=true:=decide_eq_true c13;clear c13;have H':=sd H;clear H;obtain ⟨_,_,_,_,_,_,_,_⟩:=bk4 BK134;go_wp2_with (first | ((with_reducible refine gate_callee (f:=35) rfl ?_);refine gL 13 Tryz.func35 #[.int .i64 a0_0] ?_;(with_reducible refine (rf48_number.calls a0_0 true _ A9.out).mono ?_);rintro e w' ⟨rfl,⟨nd,rfl⟩⟩;refine ⟨_,rfl,?_⟩))
      go_meet
      case rel=>exact ⟨_,(true),zq7,H',⟨zq17⟩,⟨zq35⟩,⟨zq36⟩⟩
     have c13b0:decide (3 < a0_1)=false:=decide_eq_false c13;clear c13;replace H:=bdI H;obtain ⟨t136,A15,H⟩:=H;(try dsimp only at H)
     by_cases c16:t136=true
     ·subst c16;rw [if_pos rfl] at H;have H':=sd H;clear H;obtain ⟨_,_,_,_,_,_,_,_⟩:=bk4 BK134;go_wp2_with (first | ((with_reducible refine gate_callee (f:=35) rfl ?_);refine gL 13 Tryz.func35 #[.int .i64 a0_0] ?_;(with_reducible refine (rf48_number.calls a0_0 true _ A9.out).mono ?_);rintro e w' ⟨rfl,⟨nd,rfl⟩⟩;refine ⟨_,rfl,?_⟩) | (go_at_call 35;(with_reducible refine (rf48_number.calls a0_0 true _ A15.out).mono ?_);rintro e w' ⟨rfl,⟨nd,rfl⟩⟩))
      go_meet
      case rel=>exact ⟨_,(false),zq7,H',⟨zq17⟩,⟨zq35⟩,⟨zq36⟩⟩
     replace c16:=Bool.eq_false_iff.mpr c16;subst c16;rw [if_neg Bool.false_ne_true] at H;replace H:=ifI H;rcases H with ⟨c18,H⟩ | ⟨c18,H⟩
     ·obtain ⟨c18b0,c18b1⟩:=eqI c18;clear c18;have H':=sd H;clear H;obtain ⟨_,_,_,_,_,_,_,_⟩:=bk4 BK134;go_wp2_with (first | ((with_reducible refine gate_callee (f:=35) rfl ?_);refine gL 13 Tryz.func35 #[.int .i64 a0_0] ?_;(with_reducible refine (rf48_number.calls a0_0 true _ A9.out).mono ?_);rintro e w' ⟨rfl,⟨nd,rfl⟩⟩;refine ⟨_,rfl,?_⟩) | (go_at_call 35;(with_reducible refine (rf48_number.calls a0_0 false _ A15.out).mono ?_);rintro e w' ⟨rfl,⟨nd,rfl⟩⟩))
      go_meet
      case rel=>exact ⟨_,(false),zq7,H',⟨zq17⟩,⟨zq35⟩,⟨zq36⟩⟩
     obtain ⟨c18b0,c18b1⟩:=neI c18;replace H:=ifI H;rcases H with ⟨c20,H⟩ | ⟨c20,H⟩
     ·obtain ⟨c20b0,c20b1⟩:=eqI c20;clear c20;have H':=sd H;clear H;obtain ⟨_,_,_,_,_,_,_,_⟩:=bk4 BK134;go_wp2_with (first | ((with_reducible refine gate_callee (f:=35) rfl ?_);refine gL 13 Tryz.func35 #[.int .i64 a0_0] ?_;(with_reducible refine (rf48_number.calls a0_0 true _ A9.out).mono ?_);rintro e w' ⟨rfl,⟨nd,rfl⟩⟩;refine ⟨_,rfl,?_⟩) | (go_at_call 35;(with_reducible refine (rf48_number.calls a0_0 false _ A15.out).mono ?_);rintro e w' ⟨rfl,⟨nd,rfl⟩⟩))
      go_meet
      case rel=>exact ⟨_,(false),zq7,H',⟨zq17⟩,⟨zq35⟩,⟨zq36⟩⟩
     obtain ⟨c20b0,c20b1⟩:=neI c20;have H':=sd H;clear H;obtain ⟨_,_,_,_,_,_,_,_⟩:=bk4 BK134;go_wp2_with (first | ((with_reducible refine gate_callee (f:=35) rfl ?_);refine gL 13 Tryz.func35 #[.int .i64 a0_0] ?_;(with_reducible refine (rf48_number.calls a0_0 true _ A9.out).mono ?_);rintro e w' ⟨rfl,⟨nd,rfl⟩⟩;refine ⟨_,rfl,?_⟩) | (go_at_call 35;(with_reducible refine (rf48_number.calls a0_0 false _ A15.out).mono ?_);rintro e w' ⟨rfl,⟨nd,rfl⟩⟩))
     go_meet
     case rel=>exact ⟨_,((a0_1 != 5)),zq7,H',⟨zq17⟩,⟨zq35⟩,⟨zq36⟩⟩
    replace c10:=Bool.eq_false_iff.mpr c10;subst c10;rw [if_neg Bool.false_ne_true] at H;replace H:=bdI H;obtain ⟨t137,A23,H⟩:=H;(try dsimp only at H)
    by_cases c24:t137=true
    ·subst c24;rw [if_pos rfl] at H;have H':=sd H;clear H;obtain ⟨_,_,_,_,_,_,_,_⟩:=bk4 BK134;go_wp2_with (first | ((with_reducible refine gate_callee (f:=35) rfl ?_);refine gL 13 Tryz.func35 #[.int .i64 a0_0] ?_;(with_reducible refine (rf48_number.calls a0_0 false _ A9.out).mono ?_);rintro e w' ⟨rfl,⟨nd,rfl⟩⟩;refine ⟨_,rfl,?_⟩) | (go_at_call 35;(with_reducible refine (rf48_number.calls a0_0 true _ A23.out).mono ?_);rintro e w' ⟨rfl,⟨nd,rfl⟩⟩))
     go_meet
     case rel=>exact ⟨_,(false),zq7,H',⟨zq17⟩,⟨zq35⟩,⟨zq36⟩⟩
    replace c24:=Bool.eq_false_iff.mpr c24;subst c24;rw [if_neg Bool.false_ne_true] at H;replace H:=ifI H;rcases H with ⟨c26,H⟩ | ⟨c26,H⟩
    ·obtain ⟨c26b0,c26b1⟩:=eqI c26;clear c26;have H':=sd H;clear H;obtain ⟨_,_,_,_,_,_,_,_⟩:=bk4 BK134;go_wp2_with (first | ((with_reducible refine gate_callee (f:=35) rfl ?_);refine gL 13 Tryz.func35 #[.int .i64 a0_0] ?_;(with_reducible refine (rf48_number.calls a0_0 false _ A9.out).mono ?_);rintro e w' ⟨rfl,⟨nd,rfl⟩⟩;refine ⟨_,rfl,?_⟩) | (go_at_call 35;(with_reducible refine (rf48_number.calls a0_0 false _ A23.out).mono ?_);rintro e w' ⟨rfl,⟨nd,rfl⟩⟩))
     go_meet
     case rel=>exact ⟨_,(false),zq7,H',⟨zq17⟩,⟨zq35⟩,⟨zq36⟩⟩
    obtain ⟨c26b0,c26b1⟩:=neI c26;replace H:=ifI H;rcases H with ⟨c28,H⟩ | ⟨c28,H⟩
    ·obtain ⟨c28b0,c28b1⟩:=eqI c28;clear c28;have H':=sd H;clear H;obtain ⟨_,_,_,_,_,_,_,_⟩:=bk4 BK134;go_wp2_with (first | ((with_reducible refine gate_callee (f:=35) rfl ?_);refine gL 13 Tryz.func35 #[.int .i64 a0_0] ?_;(with_reducible refine (rf48_number.calls a0_0 false _ A9.out).mono ?_);rintro e w' ⟨rfl,⟨nd,rfl⟩⟩;refine ⟨_,rfl,?_⟩) | (go_at_call 35;(with_reducible refine (rf48_number.calls a0_0 false _ A23.out).mono ?_);rintro e w' ⟨rfl,⟨nd,rfl⟩⟩))
     go_meet
     case rel=>exact ⟨_,(false),zq7,H',⟨zq17⟩,⟨zq35⟩,⟨zq36⟩⟩
    obtain ⟨c28b0,c28b1⟩:=neI c28;have H':=sd H;clear H;obtain ⟨_,_,_,_,_,_,_,_⟩:=bk4 BK134;go_wp2_with (first | ((with_reducible refine gate_callee (f:=35) rfl ?_);refine gL 13 Tryz.func35 #[.int .i64 a0_0] ?_;(with_reducible refine (rf48_number.calls a0_0 false _ A9.out).mono ?_);rintro e w' ⟨rfl,⟨nd,rfl⟩⟩;refine ⟨_,rfl,?_⟩) | (go_at_call 35;(with_reducible refine (rf48_number.calls a0_0 false _ A23.out).mono ?_);rintro e w' ⟨rfl,⟨nd,rfl⟩⟩))
    go_meet
    case rel=>exact ⟨_,((a0_1 != 5)),zq7,H',⟨zq17⟩,⟨zq35⟩,⟨zq36⟩⟩
   case rest =>
    clear HC8;try clear c1
    try clear c2
    try clear p2
    try clear c3
    try clear c4
    try clear c4b0
    try clear c7
    try clear c10
    try clear c11
    try clear c11b0
    try clear c13
    try clear c13b0
    try clear c16
    try clear c18
    try clear c18b0
    try clear c18b1
    try clear c20
    try clear c20b0
    try clear c20b1
    try clear c24
    try clear c26
    try clear c26b0
    try clear c26b1
    try clear c28
    try clear c28b0
    try clear c28b1
    try clear hcz12_0
    try clear hcz12_1
    try clear hcz12_2
    try clear hcz12_3
    try clear hcz14_0
    try clear hcz14_1
    try clear hcz14_2
    try clear hcz14_3
    try clear hcz17_0
    try clear hcz17_1
    try clear hcz17_2
    try clear hcz17_3
    try clear hcz19_0
    try clear hcz19_1
    try clear hcz19_2
    try clear hcz19_3
    try clear hcz21_0
    try clear hcz21_1
    try clear hcz21_2
    try clear hcz21_3
    try clear hcz22_0
    try clear hcz22_1
    try clear hcz22_2
    try clear hcz22_3
    try clear hcz25_0
    try clear hcz25_1
    try clear hcz25_2
    try clear hcz25_3
    try clear hcz27_0
    try clear hcz27_1
    try clear hcz27_2
    try clear hcz27_3
    try clear hcz29_0
    try clear hcz29_1
    try clear hcz29_2
    try clear hcz29_3
    try clear hcz30_0
    try clear hcz30_1
    try clear hcz30_2
    try clear hcz30_3
    try clear hcz5_0
    try clear hcz5_1
    try clear hcz5_2
    try clear hcz5_3
    try clear hcz6_0
    try clear hcz6_1
    try clear hcz6_2
    try clear hcz6_3
    try clear hfz12_0
    try clear hfz12_1
    try clear hfz12_2
    try clear hfz12_3
    try clear hfz14_0
    try clear hfz14_1
    try clear hfz14_2
    try clear hfz14_3
    try clear hfz17_0
    try clear hfz17_1
    try clear hfz17_2
    try clear hfz17_3
    try clear hfz19_0
    try clear hfz19_1
    try clear hfz19_2
    try clear hfz19_3
    try clear hfz21_0
    try clear hfz21_1
    try clear hfz21_2
    try clear hfz21_3
    try clear hfz22_0
    try clear hfz22_1
    try clear hfz22_2
    try clear hfz22_3
    try clear hfz25_0
    try clear hfz25_1
    try clear hfz25_2
    try clear hfz25_3
    try clear hfz27_0
    try clear hfz27_1
    try clear hfz27_2
    try clear hfz27_3
    try clear hfz29_0
    try clear hfz29_1
    try clear hfz29_2
    try clear hfz29_3
    try clear hfz30_0
    try clear hfz30_1
    try clear hfz30_2
    try clear hfz30_3
    try clear hfz5_0
    try clear hfz5_1
    try clear hfz5_2
    try clear hfz5_3
    try clear hfz6_0
    try clear hfz6_1
    try clear hfz6_2
    try clear hfz6_3
    try clear p2
    obtain ⟨kq,x44_7,rfl,HA,HJ7,BK134,HB⟩:=hcut
    cases kq with
    | zero=>exact absurd HA.out (by simp [rf48_condition.j1])
    | succ kj7 =>
     have H:=HA.out;clear HA;simp only [rf48_condition.j1] at H
     by_cases c31:x44_7=true
     ·subst c31;rw [if_pos rfl] at H;obtain rfl:=Option.some.inj H;go_wp2
      go_ret
      exact ⟨zq4,zq36⟩
     replace c31:=Bool.eq_false_iff.mpr c31;subst c31;rw [if_neg Bool.false_ne_true] at H;have HC32:=sd H;clear H;go_upto_region 5 with (fail)
     go_cut [79] (fun v79 wc=>∃ (kq:Nat) (x79_31:Bool),v79=.bool x79_31∧Aside0 (rf48_condition.j2 kq x79_31 a0_0 a0_1 a0_2 a0_3=some r)∧Aside0 (kq≤kj7)∧Aside0 (wc.heap[gb134]?=some (.cells #[.int .i64 a0_0,.int .i64 a0_1,.string a0_2,.int .i64 a0_3] 48 (0,0)))∧Aside0 (Below w.heap.size w wc))
     case first =>
      have H:=HC32.out;clear HC32;replace H:=ifI H;rcases H with ⟨c33,H⟩ | ⟨c33,H⟩
      ·obtain ⟨c33b0,c33b1⟩:=eqI c33;clear c33;(first | rw [c33b0] | (simp only [i64_w,i32_w];rw [c33b0]) | skip)
       replace H:=ifI H;rcases H with ⟨c34,H⟩ | ⟨c34,H⟩
       ·have c34b0:decide (1000000000000 < a0_3)=true:=decide_eq_true c34;clear c34;have H':=sd H;clear H;obtain ⟨_,_,_,_,_,_,_,_⟩:=bk4 BK134;go_wp2
        go_meet
        case rel=>exact ⟨_,(true),zq7,H',⟨zq37⟩,⟨zq35⟩,⟨zq36⟩⟩
       have c34b0:decide (1000000000000 < a0_3)=false:=decide_eq_false c34;clear c34;replace H:=ifI H;rcases H with ⟨c36,H⟩ | ⟨c36,H⟩
       ·have c36b0:decide (a0_3 < (-1000000000000))=true:=decide_eq_true c36;clear c36;have H':=sd H;clear H;obtain ⟨_,_,_,_,_,_,_,_⟩:=bk4 BK134;go_wp2
        go_meet
        case rel=>exact ⟨_,(true),zq7,H',⟨zq37⟩,⟨zq35⟩,⟨zq36⟩⟩
       have c36b0:decide (a0_3 < (-1000000000000))=false:=decide_eq_false c36;clear c36;replace H:=ifI H;rcases H with ⟨c38,H⟩ | ⟨c38,H⟩
       ·obtain ⟨c38b0,c38b1⟩:=eqI c38;clear c38;replace H:=bdI H;obtain ⟨t138,A39,H⟩:=H;(try dsimp only at H)
        by_cases c40:t138=true
        ·subst c40;rw [if_pos rfl] at H;replace H:=bdI H;obtain ⟨t139,A41,H⟩:=H;(try dsimp only at H)
         by_cases c42:t139=true
         ·subst c42;rw [if_pos rfl] at H;have H':=sd H;clear H;obtain ⟨_,_,_,_,_,_,_,_⟩:=bk4 BK134;go_wp2_with (first | (go_at_call 57;(with_reducible refine (rf04_Is.calls a0_3 true _ A39.out).mono ?_);rintro e w' ⟨rfl,⟨nd,rfl⟩⟩) | (go_at_call 35;(with_reducible refine (rf48_number.calls a0_0 true _ A41.out).mono ?_);rintro e w' ⟨rfl,⟨nd,rfl⟩⟩))
          go_meet
          case rel=>exact ⟨_,(false),zq7,H',⟨zq37⟩,⟨zq35⟩,⟨zq36⟩⟩
         replace c42:=Bool.eq_false_iff.mpr c42;subst c42;rw [if_neg Bool.false_ne_true] at H;have H':=sd H;clear H;obtain ⟨_,_,_,_,_,_,_,_⟩:=bk4 BK134;go_wp2_with (first | (go_at_call 57;(with_reducible refine (rf04_Is.calls a0_3 true _ A39.out).mono ?_);rintro e w' ⟨rfl,⟨nd,rfl⟩⟩) | (go_at_call 35;(with_reducible refine (rf48_number.calls a0_0 false _ A41.out).mono ?_);rintro e w' ⟨rfl,⟨nd,rfl⟩⟩))
         go_meet
         case rel=>exact ⟨_,((a0_3 != 0)),zq7,H',⟨zq37⟩,⟨zq35⟩,⟨zq36⟩⟩
        replace c40:=Bool.eq_false_iff.mpr c40;subst c40;rw [if_neg Bool.false_ne_true] at H;have H':=sd H;clear H;obtain ⟨_,_,_,_,_,_,_,_⟩:=bk4 BK134;go_wp2_with (first | (go_at_call 57;(with_reducible refine (rf04_Is.calls a0_3 false _ A39.out).mono ?_);rintro e w' ⟨rfl,⟨nd,rfl⟩⟩))
        go_meet
        case rel=>exact ⟨_,(true),zq7,H',⟨zq37⟩,⟨zq35⟩,⟨zq36⟩⟩
       obtain ⟨c38b0,c38b1⟩:=neI c38;replace H:=bdI H;obtain ⟨t140,A46,H⟩:=H;(try dsimp only at H)
       by_cases c47:t140=true
       ·subst c47;rw [if_pos rfl] at H;have H':=sd H;clear H;obtain ⟨_,_,_,_,_,_,_,_⟩:=bk4 BK134;go_wp2_with (first | (go_at_call 35;(with_reducible refine (rf48_number.calls a0_0 true _ A46.out).mono ?_);rintro e w' ⟨rfl,⟨nd,rfl⟩⟩))
        go_meet
        case rel=>exact ⟨_,(false),zq7,H',⟨zq37⟩,⟨zq35⟩,⟨zq36⟩⟩
       replace c47:=Bool.eq_false_iff.mpr c47;subst c47;rw [if_neg Bool.false_ne_true] at H;have H':=sd H;clear H;obtain ⟨_,_,_,_,_,_,_,_⟩:=bk4 BK134;go_wp2_with (first | (go_at_call 35;(with_reducible refine (rf48_number.calls a0_0 false _ A46.out).mono ?_);rintro e w' ⟨rfl,⟨nd,rfl⟩⟩))
       go_meet
       case rel=>exact ⟨_,((a0_3 != 0)),zq7,H',⟨zq37⟩,⟨zq35⟩,⟨zq36⟩⟩
      obtain ⟨c33b0,c33b1⟩:=neI c33;(first | rw [c33b0] | (simp only [i64_w,i32_w];rw [c33b0]) | skip)
      replace H:=ifI H;rcases H with ⟨c50,H⟩ | ⟨c50,H⟩
      ·obtain ⟨c50b0,c50b1⟩:=eqI c50;clear c50;replace H:=bdI H;obtain ⟨t141,A51,H⟩:=H;(try dsimp only at H)
       by_cases c52:t141=true
       ·subst c52;rw [if_pos rfl] at H;replace H:=bdI H;obtain ⟨t142,A53,H⟩:=H;(try dsimp only at H)
        by_cases c54:t142=true
        ·subst c54;rw [if_pos rfl] at H;have H':=sd H;clear H;obtain ⟨_,_,_,_,_,_,_,_⟩:=bk4 BK134;go_wp2_with (first | (go_at_call 57;(with_reducible refine (rf04_Is.calls a0_3 true _ A51.out).mono ?_);rintro e w' ⟨rfl,⟨nd,rfl⟩⟩) | (go_at_call 35;(with_reducible refine (rf48_number.calls a0_0 true _ A53.out).mono ?_);rintro e w' ⟨rfl,⟨nd,rfl⟩⟩))
         go_meet
         case rel=>exact ⟨_,(false),zq7,H',⟨zq37⟩,⟨zq35⟩,⟨zq36⟩⟩
        replace c54:=Bool.eq_false_iff.mpr c54;subst c54;rw [if_neg Bool.false_ne_true] at H;have H':=sd H;clear H;obtain ⟨_,_,_,_,_,_,_,_⟩:=bk4 BK134;go_wp2_with (first | (go_at_call 57;(with_reducible refine (rf04_Is.calls a0_3 true _ A51.out).mono ?_);rintro e w' ⟨rfl,⟨nd,rfl⟩⟩) | (go_at_call 35;(with_reducible refine (rf48_number.calls a0_0 false _ A53.out).mono ?_);rintro e w' ⟨rfl,⟨nd,rfl⟩⟩))
        go_meet
        case rel=>exact ⟨_,((a0_3 != 0)),zq7,H',⟨zq37⟩,⟨zq35⟩,⟨zq36⟩⟩
       replace c52:=Bool.eq_false_iff.mpr c52;subst c52;rw [if_neg Bool.false_ne_true] at H;have H':=sd H;clear H;obtain ⟨_,_,_,_,_,_,_,_⟩:=bk4 BK134;go_wp2_with (first | (go_at_call 57;(with_reducible refine (rf04_Is.calls a0_3 false _ A51.out).mono ?_);rintro e w' ⟨rfl,⟨nd,rfl⟩⟩))
       go_meet
       case rel=>exact ⟨_,(true),zq7,H',⟨zq37⟩,⟨zq35⟩,⟨zq36⟩⟩
      obtain ⟨c50b0,c50b1⟩:=neI c50;replace H:=bdI H;obtain ⟨t143,A58,H⟩:=H;(try dsimp only at H)
      by_cases c59:t143=true
      ·subst c59;rw [if_pos rfl] at H;have H':=sd H;clear H;obtain ⟨_,_,_,_,_,_,_,_⟩:=bk4 BK134;go_wp2_with (first | (go_at_call 35;(with_reducible refine (rf48_number.calls a0_0 true _ A58.out).mono ?_);rintro e w' ⟨rfl,⟨nd,rfl⟩⟩))
       go_meet
       case rel=>exact ⟨_,(false),zq7,H',⟨zq37⟩,⟨zq35⟩,⟨zq36⟩⟩
      replace c59:=Bool.eq_false_iff.mpr c59;subst c59;rw [if_neg Bool.false_ne_true] at H;have H':=sd H;clear H;obtain ⟨_,_,_,_,_,_,_,_⟩:=bk4 BK134;go_wp2_with (first | (go_at_call 35;(with_reducible refine (rf48_number.calls a0_0 false _ A58.out).mono ?_);rintro e w' ⟨rfl,⟨nd,rfl⟩⟩))
      go_meet
      case rel=>exact ⟨_,((a0_3 != 0)),zq7,H',⟨zq37⟩,⟨zq35⟩,⟨zq36⟩⟩
     case rest =>
      clear HC32;try clear c1
      try clear c2
      try clear p2
      try clear c3
      try clear c4
      try clear c4b0
      try clear c5
      try clear c7
      try clear c10
      try clear c11
      try clear c11b0
      try clear c13
      try clear c13b0
      try clear c16
      try clear c18
      try clear c18b0
      try clear c18b1
      try clear c20
      try clear c20b0
      try clear c20b1
      try clear c24
      try clear c26
      try clear c26b0
      try clear c26b1
      try clear c28
      try clear c28b0
      try clear c28b1
      try clear c31
      try clear c33
      try clear c33b0
      try clear c33b1
      try clear c34
      try clear c34b0
      try clear c35
      try clear c36
      try clear c36b0
      try clear c38
      try clear c38b0
      try clear c38b1
      try clear c40
      try clear c42
      try clear c47
      try clear c50
      try clear c50b0
      try clear c50b1
      try clear c52
      try clear c54
      try clear c59
      try clear hcz12_0
      try clear hcz12_1
      try clear hcz12_2
      try clear hcz12_3
      try clear hcz14_0
      try clear hcz14_1
      try clear hcz14_2
      try clear hcz14_3
      try clear hcz17_0
      try clear hcz17_1
      try clear hcz17_2
      try clear hcz17_3
      try clear hcz19_0
      try clear hcz19_1
      try clear hcz19_2
      try clear hcz19_3
      try clear hcz21_0
      try clear hcz21_1
      try clear hcz21_2
      try clear hcz21_3
      try clear hcz22_0
      try clear hcz22_1
      try clear hcz22_2
      try clear hcz22_3
      try clear hcz25_0
      try clear hcz25_1
      try clear hcz25_2
      try clear hcz25_3
      try clear hcz27_0
      try clear hcz27_1
      try clear hcz27_2
      try clear hcz27_3
      try clear hcz29_0
      try clear hcz29_1
      try clear hcz29_2
      try clear hcz29_3
      try clear hcz30_0
      try clear hcz30_1
      try clear hcz30_2
      try clear hcz30_3
      try clear hcz35_0
      try clear hcz35_1
      try clear hcz35_2
      try clear hcz35_3
      try clear hcz37_0
      try clear hcz37_1
      try clear hcz37_2
      try clear hcz37_3
      try clear hcz43_0
      try clear hcz43_1
      try clear hcz43_2
      try clear hcz43_3
      try clear hcz44_0
      try clear hcz44_1
      try clear hcz44_2
      try clear hcz44_3
      try clear hcz45_0
      try clear hcz45_1
      try clear hcz45_2
      try clear hcz45_3
      try clear hcz48_0
      try clear hcz48_1
      try clear hcz48_2
      try clear hcz48_3
      try clear hcz49_0
      try clear hcz49_1
      try clear hcz49_2
      try clear hcz49_3
      try clear hcz55_0
      try clear hcz55_1
      try clear hcz55_2
      try clear hcz55_3
      try clear hcz56_0
      try clear hcz56_1
      try clear hcz56_2
      try clear hcz56_3
      try clear hcz57_0
      try clear hcz57_1
      try clear hcz57_2
      try clear hcz57_3
      try clear hcz5_0
      try clear hcz5_1
      try clear hcz5_2
      try clear hcz5_3
      try clear hcz60_0
      try clear hcz60_1
      try clear hcz60_2
      try clear hcz60_3
      try clear hcz61_0
      try clear hcz61_1
      try clear hcz61_2
      try clear hcz61_3
      try clear hcz6_0
      try clear hcz6_1
      try clear hcz6_2
      try clear hcz6_3
      try clear hfz12_0
      try clear hfz12_1
      try clear hfz12_2
      try clear hfz12_3
      try clear hfz14_0
      try clear hfz14_1
      try clear hfz14_2
      try clear hfz14_3
      try clear hfz17_0
      try clear hfz17_1
      try clear hfz17_2
      try clear hfz17_3
      try clear hfz19_0
      try clear hfz19_1
      try clear hfz19_2
      try clear hfz19_3
      try clear hfz21_0
      try clear hfz21_1
      try clear hfz21_2
      try clear hfz21_3
      try clear hfz22_0
      try clear hfz22_1
      try clear hfz22_2
      try clear hfz22_3
      try clear hfz25_0
      try clear hfz25_1
      try clear hfz25_2
      try clear hfz25_3
      try clear hfz27_0
      try clear hfz27_1
      try clear hfz27_2
      try clear hfz27_3
      try clear hfz29_0
      try clear hfz29_1
      try clear hfz29_2
      try clear hfz29_3
      try clear hfz30_0
      try clear hfz30_1
      try clear hfz30_2
      try clear hfz30_3
      try clear hfz35_0
      try clear hfz35_1
      try clear hfz35_2
      try clear hfz35_3
      try clear hfz37_0
      try clear hfz37_1
      try clear hfz37_2
      try clear hfz37_3
      try clear hfz43_0
      try clear hfz43_1
      try clear hfz43_2
      try clear hfz43_3
      try clear hfz44_0
      try clear hfz44_1
      try clear hfz44_2
      try clear hfz44_3
      try clear hfz45_0
      try clear hfz45_1
      try clear hfz45_2
      try clear hfz45_3
      try clear hfz48_0
      try clear hfz48_1
      try clear hfz48_2
      try clear hfz48_3
      try clear hfz49_0
      try clear hfz49_1
      try clear hfz49_2
      try clear hfz49_3
      try clear hfz55_0
      try clear hfz55_1
      try clear hfz55_2
      try clear hfz55_3
      try clear hfz56_0
      try clear hfz56_1
      try clear hfz56_2
      try clear hfz56_3
      try clear hfz57_0
      try clear hfz57_1
      try clear hfz57_2
      try clear hfz57_3
      try clear hfz5_0
      try clear hfz5_1
      try clear hfz5_2
      try clear hfz5_3
      try clear hfz60_0
      try clear hfz60_1
      try clear hfz60_2
      try clear hfz60_3
      try clear hfz61_0
      try clear hfz61_1
      try clear hfz61_2
      try clear hfz61_3
      try clear hfz6_0
      try clear hfz6_1
      try clear hfz6_2
      try clear hfz6_3
      try clear p2
      obtain ⟨kq,x79_31,rfl,HA,HJ31,BK134,HB⟩:=hcut
      cases kq with
      | zero=>exact absurd HA.out (by simp [rf48_condition.j2])
      | succ kj31 =>
       have H:=HA.out;clear HA;simp only [rf48_condition.j2] at H
       by_cases c62:x79_31=true
       ·subst c62;rw [if_pos rfl] at H;obtain rfl:=Option.some.inj H;go_wp2
        go_ret
        exact ⟨zq4,zq36⟩
       replace c62:=Bool.eq_false_iff.mpr c62;subst c62;rw [if_neg Bool.false_ne_true] at H;replace H:=bdI H;obtain ⟨t144,A63,H⟩:=H;(try dsimp only at H)
       by_cases c64:t144=true
       ·subst c64;rw [if_pos rfl] at H;replace H:=ifI H;rcases H with ⟨c65,H⟩ | ⟨c65,H⟩
        ·obtain ⟨c65b0,c65b1⟩:=eqI c65;clear c65;replace H:=bdI H;obtain ⟨t145,A66,H⟩:=H;(try dsimp only at H)
         by_cases c67:t145=true
         ·subst c67;rw [if_pos rfl] at H;obtain rfl:=Option.some.inj H;obtain ⟨_,_,_,_,_,_,_,_⟩:=bk4 BK134;go_wp2_with (first | ((with_reducible refine gate_callee (f:=35) rfl ?_);refine gL 82 Tryz.func35 #[.int .i64 a0_0] ?_;(with_reducible refine (rf48_number.calls a0_0 true _ A63.out).mono ?_);rintro e w' ⟨rfl,⟨nd,rfl⟩⟩;refine ⟨_,rfl,?_⟩) | (go_at_call 35;(with_reducible refine (rf48_number.calls a0_0 true _ A66.out).mono ?_);rintro e w' ⟨rfl,⟨nd,rfl⟩⟩))
          go_ret
          exact ⟨zq4,zq36⟩
         replace c67:=Bool.eq_false_iff.mpr c67;subst c67;rw [if_neg Bool.false_ne_true] at H;replace H:=bdI H;obtain ⟨t146,A69,H⟩:=H;(try dsimp only at H)
         by_cases c70:t146=true
         ·subst c70;rw [if_pos rfl] at H;obtain rfl:=Option.some.inj H;obtain ⟨_,_,_,_,_,_,_,_⟩:=bk4 BK134;go_wp2_with (first | ((with_reducible refine gate_callee (f:=35) rfl ?_);refine gL 82 Tryz.func35 #[.int .i64 a0_0] ?_;(with_reducible refine (rf48_number.calls a0_0 true _ A63.out).mono ?_);rintro e w' ⟨rfl,⟨nd,rfl⟩⟩;refine ⟨_,rfl,?_⟩) | (go_at_call 35;(with_reducible refine (rf48_number.calls a0_0 false _ A66.out).mono ?_);rintro e w' ⟨rfl,⟨nd,rfl⟩⟩) | (go_at_call 58;(with_reducible refine (rf06_Plain.calls kj31 a0_2 true _ A69.out).mono ?_);rintro e w' ⟨rfl,⟨nd,rfl⟩⟩))
          go_ret
          exact ⟨zq4,zq36⟩
         replace c70:=Bool.eq_false_iff.mpr c70;subst c70;rw [if_neg Bool.false_ne_true] at H;obtain rfl:=Option.some.inj H;obtain ⟨_,_,_,_,_,_,_,_⟩:=bk4 BK134;go_wp2_with (first | ((with_reducible refine gate_callee (f:=35) rfl ?_);refine gL 82 Tryz.func35 #[.int .i64 a0_0] ?_;(with_reducible refine (rf48_number.calls a0_0 true _ A63.out).mono ?_);rintro e w' ⟨rfl,⟨nd,rfl⟩⟩;refine ⟨_,rfl,?_⟩) | (go_at_call 35;(with_reducible refine (rf48_number.calls a0_0 false _ A66.out).mono ?_);rintro e w' ⟨rfl,⟨nd,rfl⟩⟩) | (go_at_call 58;(with_reducible refine (rf06_Plain.calls kj31 a0_2 false _ A69.out).mono ?_);rintro e w' ⟨rfl,⟨nd,rfl⟩⟩))
         go_ret
         exact ⟨zq4,zq36⟩
        obtain ⟨c65b0,c65b1⟩:=neI c65;obtain rfl:=Option.some.inj H;obtain ⟨_,_,_,_,_,_,_,_⟩:=bk4 BK134;go_wp2_with (first | ((with_reducible refine gate_callee (f:=35) rfl ?_);refine gL 82 Tryz.func35 #[.int .i64 a0_0] ?_;(with_reducible refine (rf48_number.calls a0_0 true _ A63.out).mono ?_);rintro e w' ⟨rfl,⟨nd,rfl⟩⟩;refine ⟨_,rfl,?_⟩))
        go_ret
        exact ⟨zq4,zq36⟩
       replace c64:=Bool.eq_false_iff.mpr c64;subst c64;rw [if_neg Bool.false_ne_true] at H;replace H:=bdI H;obtain ⟨t147,A74,H⟩:=H;(try dsimp only at H)
       by_cases c75:t147=true
       ·subst c75;rw [if_pos rfl] at H;obtain rfl:=Option.some.inj H;obtain ⟨_,_,_,_,_,_,_,_⟩:=bk4 BK134;go_wp2_with (first | ((with_reducible refine gate_callee (f:=35) rfl ?_);refine gL 82 Tryz.func35 #[.int .i64 a0_0] ?_;(with_reducible refine (rf48_number.calls a0_0 false _ A63.out).mono ?_);rintro e w' ⟨rfl,⟨nd,rfl⟩⟩;refine ⟨_,rfl,?_⟩) | (go_at_call 35;(with_reducible refine (rf48_number.calls a0_0 true _ A74.out).mono ?_);rintro e w' ⟨rfl,⟨nd,rfl⟩⟩))
        go_ret
        exact ⟨zq4,zq36⟩
       replace c75:=Bool.eq_false_iff.mpr c75;subst c75;rw [if_neg Bool.false_ne_true] at H;replace H:=bdI H;obtain ⟨t148,A77,H⟩:=H;(try dsimp only at H)
       by_cases c78:t148=true
       ·subst c78;rw [if_pos rfl] at H;obtain rfl:=Option.some.inj H;obtain ⟨_,_,_,_,_,_,_,_⟩:=bk4 BK134;go_wp2_with (first | ((with_reducible refine gate_callee (f:=35) rfl ?_);refine gL 82 Tryz.func35 #[.int .i64 a0_0] ?_;(with_reducible refine (rf48_number.calls a0_0 false _ A63.out).mono ?_);rintro e w' ⟨rfl,⟨nd,rfl⟩⟩;refine ⟨_,rfl,?_⟩) | (go_at_call 35;(with_reducible refine (rf48_number.calls a0_0 false _ A74.out).mono ?_);rintro e w' ⟨rfl,⟨nd,rfl⟩⟩) | (go_at_call 58;(with_reducible refine (rf06_Plain.calls kj31 a0_2 true _ A77.out).mono ?_);rintro e w' ⟨rfl,⟨nd,rfl⟩⟩))
        go_ret
        exact ⟨zq4,zq36⟩
       replace c78:=Bool.eq_false_iff.mpr c78;subst c78;rw [if_neg Bool.false_ne_true] at H;obtain rfl:=Option.some.inj H;obtain ⟨_,_,_,_,_,_,_,_⟩:=bk4 BK134;go_wp2_with (first | ((with_reducible refine gate_callee (f:=35) rfl ?_);refine gL 82 Tryz.func35 #[.int .i64 a0_0] ?_;(with_reducible refine (rf48_number.calls a0_0 false _ A63.out).mono ?_);rintro e w' ⟨rfl,⟨nd,rfl⟩⟩;refine ⟨_,rfl,?_⟩) | (go_at_call 35;(with_reducible refine (rf48_number.calls a0_0 false _ A74.out).mono ?_);rintro e w' ⟨rfl,⟨nd,rfl⟩⟩) | (go_at_call 58;(with_reducible refine (rf06_Plain.calls kj31 a0_2 false _ A77.out).mono ?_);rintro e w' ⟨rfl,⟨nd,rfl⟩⟩))
       go_ret
       exact ⟨zq4,zq36⟩
end Go.Proofs.YtkbgkekegjfkfaaGreatDoor.A
