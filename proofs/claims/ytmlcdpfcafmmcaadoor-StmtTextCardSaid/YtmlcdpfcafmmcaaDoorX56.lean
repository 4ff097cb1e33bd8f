-- By pack.py, a program of this session's.
import Derived.Test.YtmlcdpfcafmmcaaDoorX29
import Derived.Test.YtmlcdpfcafmmcaaDoorX54
import Derived.Test.YtmlcdpfcafmmcaaDoorX55
set_option linter.unusedVariables false
set_option linter.unusedSimpArgs false
namespace Go.Proofs.YtmlcdpfcafmmcaaDoor.A
open Go.RowKit B WW WL WM
attribute [local go_sem] max2_int min2_int max_two min_two max_three min_three max_four min_four
set_option maxHeartbeats 8000000
set_option maxRecDepth 100000
mutual
def rf07_Text.j0:Nat→Int→Int→Bool→Option (ByteArray×Int)
 | 0,_,_,_=>none
 | k+1,x0,x1,x13=>if x13=true then (some ((⟨#[]⟩:ByteArray),2)) else ((rf07_large.f x0).bind fun t261=>(if t261=true then (some ((⟨#[]⟩:ByteArray),4)) else ((rf01_Text.f k x0).bind fun t262=>(if x0 < 0 then (if 1≤(t262.size:Int) then (rf07_Text.j1 k x1 (t262.extract 1 t262.size) (⟨#[45]⟩:ByteArray)) else (none)) else (rf07_Text.j1 k x1 t262 (⟨#[]⟩:ByteArray))))))
def rf07_Text.j1:Nat→Int→ByteArray→ByteArray→Option (ByteArray×Int)
 | 0,_,_,_=>none
 | k+1,x1,x6,x7=>rf07_Text.l0 k x1 x6 x7
def rf07_Text.l0:Nat→Int→ByteArray→ByteArray→Option (ByteArray×Int)
 | 0,_,_,_=>none
 | k+1,x1,x6,x7=>if (x6.size:Int)≤x1 then (if 1+x6.size≤9223372036854775807 then (rf07_Text.l0 k x1 ((⟨#[48]⟩:ByteArray)++x6) x7) else (none)) else (if x1=0 then (if x7.size+x6.size≤9223372036854775807 then (some (x7++x6,0)) else (none)) else (if 0≤(wrap64 ((x6.size:Int) - x1)) then (if (wrap64 ((x6.size:Int) - x1))≤(x6.size:Int) then (if x7.size+(x6.extract 0 ((wrap64 ((x6.size:Int) - x1)):Int).toNat).size≤9223372036854775807 then (if (x7++(x6.extract 0 ((wrap64 ((x6.size:Int) - x1)):Int).toNat)).size+1≤9223372036854775807 then (if ((x7++(x6.extract 0 ((wrap64 ((x6.size:Int) - x1)):Int).toNat))++(⟨#[46]⟩:ByteArray)).size+(x6.extract ((wrap64 ((x6.size:Int) - x1)):Int).toNat x6.size).size≤9223372036854775807 then (some (((x7++(x6.extract 0 ((wrap64 ((x6.size:Int) - x1)):Int).toNat))++(⟨#[46]⟩:ByteArray))++(x6.extract ((wrap64 ((x6.size:Int) - x1)):Int).toNat x6.size),0)) else (none)) else (none)) else (none)) else (none)) else (none)))
end
def rf07_Text.f (k:Nat) (a0:Int) (a1:Int):Option (ByteArray×Int):=if a1 < 0 then (rf07_Text.j0 k a0 a1 true) else (rf07_Text.j0 k a0 a1 (decide (a1 > 4)))
theorem rf07_Text.calls (k:Nat) (a0 a1:Int) (r1:ByteArray) (r2:Int) (w:World) (h:rf07_Text.f k a0 a1=some (r1,r2)) :
  Calls Tryd.prog 40 #[.int .i64 a0,.int .i64 a1] w fun e w'=>e=.returned (.tuple #[.string r1,.int .i64 r2])∧Drawn0 w w':=by
 have H:=h;clear h;unfold rf07_Text.f at H;have HC3:=sd H;clear H;go_enter Tryd.func40,Tryd.ntmps40
 go_upto_region 1 with (fail)
 repeat (go_quiet (fail);go_upto_region 1 with (fail))
 go_cut [13] (fun v13 wc=>∃ (kq:Nat) (x13_2:Bool),v13=.bool x13_2∧Aside0 (rf07_Text.j0 kq a0 a1 x13_2=some (r1,r2))∧Aside0 (kq≤k)∧Drawn0 w wc)
 case first =>
  have H:=HC3.out;clear HC3;replace H:=ifI H;rcases H with ⟨c4,H⟩ | ⟨c4,H⟩
  ·have c4b0:decide (a1 < 0)=true:=decide_eq_true c4;clear c4;(first | rw [c4b0] | (simp only [i64_w,i32_w];rw [c4b0]) | skip)
   have H':=sd H;clear H;go_wp2
   repeat (go_quiet (fail);try go_wp2)
   go_meet
   case rel=>exact ⟨_,(true),zq1,H',⟨by first | omega | exact Nat.le_refl _⟩,zq2⟩
  have c4b0:decide (a1 < 0)=false:=decide_eq_false c4;clear c4;(first | rw [c4b0] | (simp only [i64_w,i32_w];rw [c4b0]) | skip)
  have H':=sd H;clear H;go_wp2
  repeat (go_quiet (fail);try go_wp2)
  go_meet
  case rel=>exact ⟨_,(decide (a1 > 4)),zq1,H',⟨by first | omega | exact Nat.le_refl _⟩,zq2⟩
 case rest =>
  clear HC3;try clear p2
  try clear c4
  try clear c4b0
  obtain ⟨kq,x13_2,rfl,HA,HJ2,⟨mc2,rfl⟩⟩:=hcut
  cases kq with
  | zero=>exact absurd HA.out (by simp [rf07_Text.j0])
  | succ kj2 =>
   have H:=HA.out;clear HA;simp only [rf07_Text.j0] at H
   by_cases c5:x13_2=true
   ·subst c5;rw [if_pos rfl] at H;simp only [Option.some.injEq,Prod.mk.injEq] at H
    obtain ⟨rfl,rfl⟩:=H;go_wp2
    repeat (go_quiet (fail);try go_wp2)
    go_ret2
    exact ⟨zq1,zq2⟩
   replace c5:=Bool.eq_false_iff.mpr c5;subst c5;rw [if_neg Bool.false_ne_true] at H;replace H:=bdI H;obtain ⟨t261,A6,H⟩:=H;(try dsimp only at H)
   by_cases c7:t261=true
   ·subst c7;rw [if_pos rfl] at H;simp only [Option.some.injEq,Prod.mk.injEq] at H
    obtain ⟨rfl,rfl⟩:=H;go_wp2_with (first | (go_at_call 63;(with_reducible refine (rf07_large.calls a0 true _ A6.out).mono ?_);rintro e w' ⟨rfl,⟨nd,rfl⟩⟩;(try first | exact ⟨rfl,_,World.drewN_drewN _ _ _⟩ | exact ⟨rfl,_,Eq.trans (World.drewN_drewN _ _ _) (congrArg (World.drewN _) (Nat.add_assoc _ _ _))⟩)))
    repeat (go_quiet (first | (go_at_call 63;(with_reducible refine (rf07_large.calls a0 true _ A6.out).mono ?_);rintro e w' ⟨rfl,⟨nd,rfl⟩⟩;(try first | exact ⟨rfl,_,World.drewN_drewN _ _ _⟩ | exact ⟨rfl,_,Eq.trans (World.drewN_drewN _ _ _) (congrArg (World.drewN _) (Nat.add_assoc _ _ _))⟩)));try go_wp2_with (first | (go_at_call 63;(with_reducible refine (rf07_large.calls a0 true _ A6.out).mono ?_);rintro e w' ⟨rfl,⟨nd,rfl⟩⟩;(try first | exact ⟨rfl,_,World.drewN_drewN _ _ _⟩ | exact ⟨rfl,_,Eq.trans (World.drewN_drewN _ _ _) (congrArg (World.drewN _) (Nat.add_assoc _ _ _))⟩))))
    go_ret2
    exact ⟨zq1,zq2⟩
   replace c7:=Bool.eq_false_iff.mpr c7;subst c7;rw [if_neg Bool.false_ne_true] at H;replace H:=bdI H;obtain ⟨t262,A8,H⟩:=H;(try dsimp only at H)
   have HC9:=sd H;clear H;go_upto_if 19 with (first | (go_at_call 63;(with_reducible refine (rf07_large.calls a0 false _ A6.out).mono ?_);rintro e w' ⟨rfl,⟨nd,rfl⟩⟩;(try first | exact ⟨rfl,_,World.drewN_drewN _ _ _⟩ | exact ⟨rfl,_,Eq.trans (World.drewN_drewN _ _ _) (congrArg (World.drewN _) (Nat.add_assoc _ _ _))⟩)) | (go_at_call 41;(with_reducible refine (rf01_Text.calls kj2 a0 t262 _ A8.out).mono ?_);rintro e w' ⟨rfl,⟨nd,rfl⟩⟩;(try first | exact ⟨rfl,_,World.drewN_drewN _ _ _⟩ | exact ⟨rfl,_,Eq.trans (World.drewN_drewN _ _ _) (congrArg (World.drewN _) (Nat.add_assoc _ _ _))⟩)))
   repeat (go_quiet (first | (go_at_call 63;(with_reducible refine (rf07_large.calls a0 false _ A6.out).mono ?_);rintro e w' ⟨rfl,⟨nd,rfl⟩⟩;(try first | exact ⟨rfl,_,World.drewN_drewN _ _ _⟩ | exact ⟨rfl,_,Eq.trans (World.drewN_drewN _ _ _) (congrArg (World.drewN _) (Nat.add_assoc _ _ _))⟩)) | (go_at_call 41;(with_reducible refine (rf01_Text.calls kj2 a0 t262 _ A8.out).mono ?_);rintro e w' ⟨rfl,⟨nd,rfl⟩⟩;(try first | exact ⟨rfl,_,World.drewN_drewN _ _ _⟩ | exact ⟨rfl,_,Eq.trans (World.drewN_drewN _ _ _) (congrArg (World.drewN _) (Nat.add_assoc _ _ _))⟩)));go_upto_if 19 with (first | (go_at_call 63;(with_reducible refine (rf07_large.calls a0 false _ A6.out).mono ?_);rintro e w' ⟨rfl,⟨nd,rfl⟩⟩;(try first | exact ⟨rfl,_,World.drewN_drewN _ _ _⟩ | exact ⟨rfl,_,Eq.trans (World.drewN_drewN _ _ _) (congrArg (World.drewN _) (Nat.add_assoc _ _ _))⟩)) | (go_at_call 41;(with_reducible refine (rf01_Text.calls kj2 a0 t262 _ A8.out).mono ?_);rintro e w' ⟨rfl,⟨nd,rfl⟩⟩;(try first | exact ⟨rfl,_,World.drewN_drewN _ _ _⟩ | exact ⟨rfl,_,Eq.trans (World.drewN_drewN _ _ _) (congrArg (World.drewN _) (Nat.add_assoc _ _ _))⟩))))
   (try simp only [Act.put,List.setIfInBounds_toArray,List.set_cons_zero,List.set_cons_succ])
   go_cut [6,7] (fun v6 v7 wc=>∃ (kq:Nat) (x6_8:ByteArray) (x7_8:ByteArray),v6=.string x6_8∧v7=.string x7_8∧Aside0 (rf07_Text.j1 kq a1 x6_8 x7_8=some (r1,r2))∧Aside0 (kq≤kj2)∧Drawn0 w wc)
   case first =>
    have H:=HC9.out;clear HC9;replace H:=ifI H;rcases H with ⟨c10,H⟩ | ⟨c10,H⟩
    ·have c10b0:decide (a0 < 0)=true:=decide_eq_true c10;clear c10;(first | rw [c10b0] | (simp only [i64_w,i32_w];rw [c10b0]) | skip)
     replace H:=ifI H;rcases H with ⟨c11,H⟩ | ⟨c11,H⟩
     ·have c11b0:=eq_true c11;have c11b1:decide (1≤(t262.size:Int))=true:=decide_eq_true c11;clear c11;have H':=sd H;clear H;go_wp2
      repeat (go_quiet (fail);try go_wp2)
      go_meet
      case rel=>exact ⟨_,(t262.extract 1 t262.size),((⟨#[45]⟩:ByteArray)),zq1,zq1,H',⟨zq30⟩,zq2⟩
     exact absurd H (by simp)
    have c10b0:decide (a0 < 0)=false:=decide_eq_false c10;clear c10;(first | rw [c10b0] | (simp only [i64_w,i32_w];rw [c10b0]) | skip)
    have H':=sd H;clear H;go_wp2
    repeat (go_quiet (fail);try go_wp2)
    go_meet
    case rel=>exact ⟨_,(t262),((⟨#[]⟩:ByteArray)),zq1,zq1,H',⟨zq30⟩,zq2⟩
   case rest =>
    clear HC9;try clear c1
    try clear c2
    try clear p2
    try clear c4
    try clear c4b0
    try clear c5
    try clear c7
    try clear c10
    try clear c10b0
    try clear c11
    try clear c11b0
    try clear c11b1
    try clear p2
    obtain ⟨kq,x6_8,x7_8,rfl,rfl,HA,HJ8,⟨mc8,rfl⟩⟩:=hcut
    cases kq with
    | zero=>exact absurd HA.out (by simp [rf07_Text.j1])
    | succ kj8 =>
     have H:=HA.out;clear HA;simp only [rf07_Text.j1] at H
     have H':=sd H;clear H;go_wp2
     repeat (go_quiet (fail);try go_wp2)
     go_loopg [6] kj8 (fun kq v6 w'=>∃ (x6_3:ByteArray),v6=.string x6_3∧Aside0 (rf07_Text.l0 kq a1 x6_3 x7_8=some (r1,r2))∧Aside0 (kq≤kj8)∧Drawn0 w w')
     case atStart=>exact ⟨(x6_8),zq1,H',⟨Nat.le_refl _⟩,zq2⟩
     case round =>
      clear H';try clear c1
      try clear c2
      try clear p2
      try clear c4
      try clear c4b0
      try clear c5
      try clear c7
      try clear c8
      try clear c10
      try clear c10b0
      try clear c11
      try clear c11b0
      try clear c11b1
      try clear p2
      obtain ⟨x6_3,rfl,HA,HK3,⟨m3,rfl⟩⟩:=hrel
      cases gk with
      | zero=>exact absurd HA.out (by simp [rf07_Text.l0])
      | succ k3 =>
       have H:=HA.out;clear HA;simp only [rf07_Text.l0] at H
       replace H:=ifI H;rcases H with ⟨c12,H⟩ | ⟨c12,H⟩
       ·have c12b0:decide ((x6_3.size:Int)≤a1)=true:=decide_eq_true c12;clear c12;replace H:=ifI H;rcases H with ⟨c13,H⟩ | ⟨c13,H⟩
        ·have c13b0:=eq_true c13;have c13b1:decide (1+x6_3.size≤9223372036854775807)=true:=decide_eq_true c13;try have c13b2:(9223372036854775807 < 1+x6_3.size)=False:=eq_false (Nat.not_lt.2 c13)
         have H':=sd H;clear H;go_wp2
         repeat (go_quiet (fail);try go_wp2)
         go_roundg k3
         case measure=>have:=HJ2.out;have:=HJ8.out;have:=HK3.out;omega
         case rel=>exact ⟨((⟨#[48]⟩:ByteArray)++x6_3),zq1,H',⟨by have:=HJ2.out;have:=HJ8.out;have:=HK3.out;omega⟩,zq2⟩
        exact absurd H (by simp)
       have c12b0:decide ((x6_3.size:Int)≤a1)=false:=decide_eq_false c12;clear c12;replace H:=ifI H;rcases H with ⟨c14,H⟩ | ⟨c14,H⟩
       ·obtain ⟨c14b0,c14b1⟩:=eqI c14;clear c14;replace H:=ifI H;rcases H with ⟨c15,H⟩ | ⟨c15,H⟩
        ·have c15b0:=eq_true c15;have c15b1:decide (x7_8.size+x6_3.size≤9223372036854775807)=true:=decide_eq_true c15;try have c15b2:(9223372036854775807 < x7_8.size+x6_3.size)=False:=eq_false (Nat.not_lt.2 c15)
         simp only [Option.some.injEq,Prod.mk.injEq] at H
         obtain ⟨rfl,rfl⟩:=H;go_wp2
         repeat (go_quiet (fail);try go_wp2)
         go_ret2
         exact ⟨zq1,zq2⟩
        exact absurd H (by simp)
       obtain ⟨c14b0,c14b1⟩:=neI c14;obtain ⟨ji16,hji16⟩:∃ j_:Int,(wrap64 ((x6_3.size:Int) - a1))=j_:=⟨_,rfl⟩
       replace H:(if 0≤(ji16) then (if (ji16)≤(x6_3.size:Int) then (if x7_8.size+(x6_3.extract 0 ((ji16):Int).toNat).size≤9223372036854775807 then (if (x7_8++(x6_3.extract 0 ((ji16):Int).toNat)).size+1≤9223372036854775807 then (if ((x7_8++(x6_3.extract 0 ((ji16):Int).toNat))++(⟨#[46]⟩:ByteArray)).size+(x6_3.extract ((ji16):Int).toNat x6_3.size).size≤9223372036854775807 then (some (((x7_8++(x6_3.extract 0 ((ji16):Int).toNat))++(⟨#[46]⟩:ByteArray))++(x6_3.extract ((ji16):Int).toNat x6_3.size),0)) else (none)) else (none)) else (none)) else (none)) else (none))=some (r1,r2):=by first | (rw [hji16] at H;exact H) | (simp only [hji16] at H ⊢;exact H)
       have hji16w:(IntKind.i64.wrap ((x6_3.size:Int) - a1))=ji16:=(i64_w _).trans hji16;replace H:=ifI H;rcases H with ⟨c17,H⟩ | ⟨c17,H⟩
       ·have c17b0:=eq_true c17;have c17b1:decide (0≤(ji16))=true:=decide_eq_true c17;clear c17;replace H:=ifI H;rcases H with ⟨c18,H⟩ | ⟨c18,H⟩
        ·have c18b0:=eq_true c18;have c18b1:decide ((ji16)≤(x6_3.size:Int))=true:=decide_eq_true c18;clear c18;replace H:=ifI H;rcases H with ⟨c19,H⟩ | ⟨c19,H⟩
         ·have c19b0:=eq_true c19;have c19b1:decide (x7_8.size+(x6_3.extract 0 ((ji16):Int).toNat).size≤9223372036854775807)=true:=decide_eq_true c19;try have c19b2:(9223372036854775807 < x7_8.size+(x6_3.extract 0 ((ji16):Int).toNat).size)=False:=eq_false (Nat.not_lt.2 c19)
          try (have c19z:=c19;simp [*] at c19z;have c19z1:=eq_false (Nat.not_lt.2 c19z))
          replace H:=ifI H;rcases H with ⟨c20,H⟩ | ⟨c20,H⟩
          ·have c20b0:=eq_true c20;have c20b1:decide ((x7_8++(x6_3.extract 0 ((ji16):Int).toNat)).size+1≤9223372036854775807)=true:=decide_eq_true c20;try have c20b2:(9223372036854775807 < (x7_8++(x6_3.extract 0 ((ji16):Int).toNat)).size+1)=False:=eq_false (Nat.not_lt.2 c20)
           try (have c20z:=c20;simp [*] at c20z;have c20z1:=eq_false (Nat.not_lt.2 c20z))
           try have c20y:(9223372036854775807 < (x7_8.size+x6_3.extract 0 ((ji16):Int).toNat.size)+1)=False:=by have h_:=c20b2;simp only [ByteArray.size_append] at h_;exact h_
           have c21b0:=eq_true (od:0≤(ji16));have c22b0:=eq_true (od:(ji16)≤(x6_3.size:Int));replace H:=ifI H;rcases H with ⟨c23,H⟩ | ⟨c23,H⟩
           ·have c23b0:=eq_true c23;have c23b1:decide (((x7_8++(x6_3.extract 0 ((ji16):Int).toNat))++(⟨#[46]⟩:ByteArray)).size+(x6_3.extract ((ji16):Int).toNat x6_3.size).size≤9223372036854775807)=true:=decide_eq_true c23;try have c23b2:(9223372036854775807 < ((x7_8++(x6_3.extract 0 ((ji16):Int).toNat))++(⟨#[46]⟩:ByteArray)).size+(x6_3.extract ((ji16):Int).toNat x6_3.size).size)=False:=eq_false (Nat.not_lt.2 c23)
            try (have c23z:=c23;simp [*] at c23z;have c23z1:=eq_false (Nat.not_lt.2 c23z))
            try have c23y:(9223372036854775807 < (x7_8.size+x6_3.extract 0 ((ji16):Int).toNat.size+1)+(x6_3.extract ((ji16):Int).toNat x6_3.size).size)=False:=by have h_:=c23b2;simp only [ByteArray.size_append] at h_;exact h_
            simp only [Option.some.injEq,Prod.mk.injEq] at H
            obtain ⟨rfl,rfl⟩:=H;go_wp2
            repeat (go_quiet (fail);try go_wp2)
            go_ret2
            exact ⟨zq31,zq2⟩
           exact absurd H (by simp)
          exact absurd H (by simp)
         exact absurd H (by simp)
        exact absurd H (by simp)
       exact absurd H (by simp)
def rf47_Text.l0:Nat→Int→ByteArray→Int→ByteArray→ByteArray→Int→Int→Int→List (S44)→Option (ByteArray×Int)
 | 0,_,_,_,_,_,_,_,_,_=>none
 | k+1,x7,x11,x12,x309000,x309001,x309002,x309003,x309004,x309005=>if x12 < (x309005.length:Int) then (if 0≤x12 then ((rf04_Text.f k ((rd_T44 x309005 x12).f0)).bind fun bt320=>((rf07_Text.f k ((rd_T44 x309005 x12).f1) x7).bind fun bt322=>((rf06_Quote.f k ((rd_T44 x309005 x12).f2)).bind fun bt324=>((rf06_Quote.f k ((rd_T44 x309005 x12).f3)).bind fun bt326=>(if 5+bt320.1.size≤9223372036854775807 then (if ((⟨#[108,105,110,101,32]⟩:ByteArray)++bt320.1).size+1≤9223372036854775807 then (if (((⟨#[108,105,110,101,32]⟩:ByteArray)++bt320.1)++(⟨#[32]⟩:ByteArray)).size+bt322.1.size≤9223372036854775807 then (if ((((⟨#[108,105,110,101,32]⟩:ByteArray)++bt320.1)++(⟨#[32]⟩:ByteArray))++bt322.1).size+1≤9223372036854775807 then (if (((((⟨#[108,105,110,101,32]⟩:ByteArray)++bt320.1)++(⟨#[32]⟩:ByteArray))++bt322.1)++(⟨#[32]⟩:ByteArray)).size+bt324.1.size≤9223372036854775807 then (if ((((((⟨#[108,105,110,101,32]⟩:ByteArray)++bt320.1)++(⟨#[32]⟩:ByteArray))++bt322.1)++(⟨#[32]⟩:ByteArray))++bt324.1).size+1≤9223372036854775807 then (if (((((((⟨#[108,105,110,101,32]⟩:ByteArray)++bt320.1)++(⟨#[32]⟩:ByteArray))++bt322.1)++(⟨#[32]⟩:ByteArray))++bt324.1)++(⟨#[32]⟩:ByteArray)).size+bt326.1.size≤9223372036854775807 then (if ((((((((⟨#[108,105,110,101,32]⟩:ByteArray)++bt320.1)++(⟨#[32]⟩:ByteArray))++bt322.1)++(⟨#[32]⟩:ByteArray))++bt324.1)++(⟨#[32]⟩:ByteArray))++bt326.1).size+1≤9223372036854775807 then (if x11.size+(((((((((⟨#[108,105,110,101,32]⟩:ByteArray)++bt320.1)++(⟨#[32]⟩:ByteArray))++bt322.1)++(⟨#[32]⟩:ByteArray))++bt324.1)++(⟨#[32]⟩:ByteArray))++bt326.1)++(⟨#[10]⟩:ByteArray)).size≤9223372036854775807 then (rf47_Text.l0 k x7 (x11++(((((((((⟨#[108,105,110,101,32]⟩:ByteArray)++bt320.1)++(⟨#[32]⟩:ByteArray))++bt322.1)++(⟨#[32]⟩:ByteArray))++bt324.1)++(⟨#[32]⟩:ByteArray))++bt326.1)++(⟨#[10]⟩:ByteArray))) (wrap64 (x12+1)) x309000 x309001 x309002 x309003 x309004 x309005) else (none)) else (none)) else (none)) else (none)) else (none)) else (none)) else (none)) else (none)) else (none)))))) else (none)) else ((rf07_Text.f k x309004 x7).bind fun bt316=>(if x11.size+6≤9223372036854775807 then (if (x11++(⟨#[99,108,111,115,101,32]⟩:ByteArray)).size+bt316.1.size≤9223372036854775807 then (if ((x11++(⟨#[99,108,111,115,101,32]⟩:ByteArray))++bt316.1).size+1≤9223372036854775807 then (some (((x11++(⟨#[99,108,111,115,101,32]⟩:ByteArray))++bt316.1)++(⟨#[10]⟩:ByteArray),0)) else (none)) else (none)) else (none)))
def rf47_Text.f (k:Nat) (a0_0:ByteArray) (a0_1:ByteArray) (a0_2:Int) (a0_3:Int) (a0_4:Int) (l0_5:List (S44)) (l1:List (S77)):Option (ByteArray×Int):=(rf07_Right.f k l1).bind fun t309=>(if t309=true then ((rf47_Check.f k a0_0 a0_1 a0_2 a0_3 a0_4 l0_5).bind fun t310=>(if t310=0 then ((rf07_Digits.f k l1 a0_1).bind fun bt311=>(if bt311.2=true then ((rf07_Text.f k a0_3 bt311.1).bind fun bt313=>(if 10+a0_0.size≤9223372036854775807 then (if ((⟨#[115,116,97,116,101,109,101,110,116,32]⟩:ByteArray)++a0_0).size+1≤9223372036854775807 then (if (((⟨#[115,116,97,116,101,109,101,110,116,32]⟩:ByteArray)++a0_0)++(⟨#[32]⟩:ByteArray)).size+a0_1.size≤9223372036854775807 then (if ((((⟨#[115,116,97,116,101,109,101,110,116,32]⟩:ByteArray)++a0_0)++(⟨#[32]⟩:ByteArray))++a0_1).size+1≤9223372036854775807 then ((rf01_Text.f k a0_2).bind fun t315=>(if (((((⟨#[115,116,97,116,101,109,101,110,116,32]⟩:ByteArray)++a0_0)++(⟨#[32]⟩:ByteArray))++a0_1)++(⟨#[32]⟩:ByteArray)).size+t315.size≤9223372036854775807 then (if ((((((⟨#[115,116,97,116,101,109,101,110,116,32]⟩:ByteArray)++a0_0)++(⟨#[32]⟩:ByteArray))++a0_1)++(⟨#[32]⟩:ByteArray))++t315).size+6≤9223372036854775807 then (if (((((((⟨#[115,116,97,116,101,109,101,110,116,32]⟩:ByteArray)++a0_0)++(⟨#[32]⟩:ByteArray))++a0_1)++(⟨#[32]⟩:ByteArray))++t315)++(⟨#[10,111,112,101,110,32]⟩:ByteArray)).size+bt313.1.size≤9223372036854775807 then (if ((((((((⟨#[115,116,97,116,101,109,101,110,116,32]⟩:ByteArray)++a0_0)++(⟨#[32]⟩:ByteArray))++a0_1)++(⟨#[32]⟩:ByteArray))++t315)++(⟨#[10,111,112,101,110,32]⟩:ByteArray))++bt313.1).size+1≤9223372036854775807 then (rf47_Text.l0 k bt311.1 (((((((((⟨#[115,116,97,116,101,109,101,110,116,32]⟩:ByteArray)++a0_0)++(⟨#[32]⟩:ByteArray))++a0_1)++(⟨#[32]⟩:ByteArray))++t315)++(⟨#[10,111,112,101,110,32]⟩:ByteArray))++bt313.1)++(⟨#[10]⟩:ByteArray)) 0 a0_0 a0_1 a0_2 a0_3 a0_4 l0_5) else (none)) else (none)) else (none)) else (none))) else (none)) else (none)) else (none)) else (none))) else (some ((⟨#[]⟩:ByteArray),13)))) else (some ((⟨#[]⟩:ByteArray),t310)))) else (some ((⟨#[]⟩:ByteArray),2)))
end Go.Proofs.YtmlcdpfcafmmcaaDoor.A
