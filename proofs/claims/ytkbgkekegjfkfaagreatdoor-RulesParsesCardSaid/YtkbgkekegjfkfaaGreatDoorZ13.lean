-- By pack.py, a program of this session's.
import Derived.Test.YtkbgkekegjfkfaaGreatDoorZ5
import Derived.Test.YtkbgkekegjfkfaaGreatDoorZ6
import Derived.Test.YtkbgkekegjfkfaaGreatDoorZ7
set_option linter.unusedVariables false
set_option linter.unusedSimpArgs false
namespace Go.Proofs.YtkbgkekegjfkfaaGreatDoor
namespace A
open Go.RowKit B WW WL WM
attribute [local go_sem] max2_int min2_int max_two min_two max_three min_three max_four min_four
set_option maxHeartbeats 8000000
set_option maxRecDepth 100000
theorem every_print (hF:∀ (c:UInt8) (w:World),Calls Tryz.prog 95 #[.int .u8 (c.toNat:Int)] w fun e w'=>e=.returned (.bool (isPrn c))∧Drawn0 w w') (s:ByteArray) (hs:s.size≤140737488351232) (w:World) :
  Calls Tryz.prog 47 #[.string s,.func (.func 95) #[] #[]] w fun e w'=>e=.returned (.bool (s.data.toList.all isPrn))∧Drawn0 w w':=by
 have HSZ:=sd (size_eq' s);have HF:=sd hF;clear hF;generalize hP:(fun e w'=>e=Ending.returned (.bool (s.data.toList.all isPrn))∧Drawn0 w w')=Post;have HP:=sd hP;clear hP;go_enter Tryz.func47,Tryz.ntmps47
 go_wp2_with fail
 go_loopw [8] (fun n_ wr=>∃ (i:Nat),i≤s.size∧n_=.int .i64 (i:Int)∧Aside0 (∀ j,(h:j < i)→(h':j < s.size)→isPrn s[j]=true)∧Drawn0 w wr) (fun n_ _=>(s.size - (RowKit.intOf n_).toNat))
 case atStart=>exact ⟨0,by omega,rfl,⟨fun j h=>by omega⟩,Drawn0.refl _⟩
 case round =>
  obtain ⟨i,hi,rfl,HU,HDr⟩:=hrel;rename World=>wr
  by_cases hlt:i < s.size
  ·have hlt':(i:Int) < (s.size:Int):=by omega
   go_wp2_with fail
   have HC:=HF.out s[i] wr
   cases hp:isPrn s[i]
   ·rw [hp] at HC;have HB:=sd (show s.data.toList.all isPrn=false from all_bad (by rw [← HSZ.out];exact hlt) (by rw [list_at s i hlt];exact hp));refine HC.mono ?_;rintro e w1 ⟨rfl,hd1⟩;obtain ⟨⟨n1,rfl⟩⟩:=hd1;clear HC;go_wp2_with fail
    rw [← HP.out];exact ⟨by rw [HB.out];(try rfl),HDr.step _⟩
   ·rw [hp] at HC
    have HU2:=sd (show ∀ j,(h:j < i+1)→(h':j < s.size)→isPrn s[j]=true from fun j h h'=>by
     rcases Nat.lt_or_ge j i with h1|h1
     ·exact HU.out j h1 h'
     ·obtain rfl:j=i:=by omega
      exact hp)
    refine HC.mono ?_;rintro e w1 ⟨rfl,hd1⟩;obtain ⟨⟨n1,rfl⟩⟩:=hd1;clear HC HU;go_wp2_with fail
    go_roundw
    case rel=>exact ⟨i+1,by omega,by go_num,HU2,HDr.step _⟩
    case measure=>simp [RowKit.intOf];omega
  have hlt':¬ (i:Int) < (s.size:Int):=by omega
  obtain rfl:i=s.size:=by omega
  have hall:s.data.toList.all isPrn=true:=by
   rw [List.all_eq_true];intro x hx;obtain ⟨j,hj,rfl⟩:=List.getElem_of_mem hx;have hj2:j < s.size:=by rw [HSZ.out];exact hj
   rw [list_at s j hj2];exact HU.out j hj2 hj2
  have HL:=sd hall;clear hall;go_wp2_with fail
  rw [← HP.out];exact ⟨by rw [HL.out];(try rfl),HDr⟩
theorem plain_w (s:ByteArray) (hs:s.size≤140737488351232) (w:World):Calls Tryz.prog 53 #[.string s] w fun e w'=>e=.returned (.bool (plainW s.data.toList))∧Drawn0 w w':=by
 have HE:=sd (fun w=>every_print (fun c w=>words_printable.calls _ (isPrn c) w (print_wd c.toNat c.toNat_lt)) s hs w);have hsz:=size_eq' s;generalize hP:(fun e w'=>e=Ending.returned (.bool (plainW s.data.toList))∧Drawn0 w w')=Post;have HP:=sd hP;clear hP;by_cases h1:s.size≤60
 ·have h1':(s.size:Int)≤60:=by omega
  have hB:plainW s.data.toList=s.data.toList.all isPrn:=by unfold plainW;rw [decide_eq_true (by omega),Bool.true_and]
  have HB:=sd hB;clear hB hsz;generalize s.data.toList.all isPrn=ab at HE HB;go_enter Tryz.func53,Tryz.ntmps53
  go_wp2_with fail
  refine (HE.out _).mono ?_;rintro e w1 ⟨rfl,hd1⟩;obtain ⟨⟨n1,rfl⟩⟩:=hd1;go_wp2_with fail
  rw [← HP.out];exact ⟨by rw [HB.out];(try rfl),⟨⟨_,rfl⟩⟩⟩
 have h1':¬ (s.size:Int)≤60:=by omega
 have hB:plainW s.data.toList=false:=by unfold plainW;rw [decide_eq_false (by omega),Bool.false_and]
 have HB:=sd hB;clear hB hsz;go_enter Tryz.func53,Tryz.ntmps53
 go_wp2_with fail
 rw [← HP.out];exact ⟨by rw [HB.out];(try rfl),Drawn0.refl _⟩
theorem dims_Right.tab6:rtab .any (opsOf Tryz.f22 6)=dims_Right.T6:=by kernel_rfl
theorem rules_suits.calls (k:Nat) (a0 a1:Int) (r:Bool) (w:World) (h:rules_suits.f k a0 a1=some r) :
  Calls Tryz.prog 52 #[.int .i64 a0,.int .i64 a1] w fun e w'=>e=.returned (.bool r)∧Drawn0 w w':=by
 have H:=h;clear h;unfold rules_suits.f at H;have HC3:=sd H;clear H;go_enter Tryz.func52,Tryz.ntmps52
 go_upto_region 1 with (fail)
 go_cut [5] (fun v5 wc=>∃ (kq:Nat) (x5_2:Bool),v5=.bool x5_2∧Aside0 (rules_suits.j0 kq a0 a1 x5_2=some r)∧Aside0 (kq≤k)∧Drawn0 w wc)
 case first =>
  have H:=HC3.out;clear HC3;replace H:=ifI H;rcases H with ⟨c4,H⟩|⟨c4,H⟩
  ·have c4b0:decide (a0 < 1)=true:=decide_eq_true c4;clear c4;(first|rw [c4b0]|(simp only [i64_w,i32_w];rw [c4b0])|skip)
   have H':=sd H;clear H;go_wp2
   go_meet
   case rel=>exact ⟨_,(true),zq7,H',⟨by first|omega|exact Nat.le_refl _⟩,zq16⟩
  have c4b0:decide (a0 < 1)=false:=decide_eq_false c4;clear c4;(first|rw [c4b0]|(simp only [i64_w,i32_w];rw [c4b0])|skip)
  have H':=sd H;clear H;go_wp2
  go_meet
  case rel=>exact ⟨_,(decide (a0 > 4)),zq7,H',⟨by first|omega|exact Nat.le_refl _⟩,zq16⟩
 case rest =>
  clear HC3;try clear p2
  obtain ⟨kq,x5_2,rfl,HA,HJ2,⟨mc2,rfl⟩⟩:=hcut
  cases kq with
 |zero=>exact absurd HA.out (by simp [rules_suits.j0])
 |succ kj2 =>
   have H:=HA.out;clear HA;simp only [rules_suits.j0] at H
   by_cases c5:x5_2=true
   ·subst c5;rw [if_pos rfl] at H;obtain rfl:=Option.some.inj H;go_wp2
    go_ret
    exact ⟨zq7,zq16⟩
   replace c5:=Bool.eq_false_iff.mpr c5;subst c5;rw [if_neg Bool.false_ne_true] at H;replace H:=ifI H;rcases H with ⟨c6,H⟩|⟨c6,H⟩
   ·obtain ⟨c6b0,c6b1⟩:=eqI c6;clear c6;obtain rfl:=Option.some.inj H;go_wp2
    go_ret
    exact ⟨zq7,zq16⟩
   obtain ⟨c6b0,c6b1⟩:=neI c6;replace H:=bdI H;obtain ⟨t112,A7,H⟩:=H;(try dsimp only at H)
   by_cases c8:t112=true
   ·subst c8;rw [if_pos rfl] at H;replace H:=ifI H;rcases H with ⟨c9,H⟩|⟨c9,H⟩
    ·obtain ⟨c9b0,c9b1⟩:=eqI c9;clear c9;obtain rfl:=Option.some.inj H;go_wp2_with (first|((with_reducible refine gate_callee (f:=67) rfl ?_);refine gL 17 Tryz.func67 #[.int .i64 a0] ?_;(with_reducible refine (rules_counts.calls a0 true _ A7.out).mono ?_);rintro e w' ⟨rfl,⟨nd,rfl⟩⟩;refine ⟨_,rfl,?_⟩))
     go_ret
     exact ⟨zq7,zq16⟩
    obtain ⟨c9b0,c9b1⟩:=neI c9;obtain rfl:=Option.some.inj H;go_wp2_with (first|((with_reducible refine gate_callee (f:=67) rfl ?_);refine gL 17 Tryz.func67 #[.int .i64 a0] ?_;(with_reducible refine (rules_counts.calls a0 true _ A7.out).mono ?_);rintro e w' ⟨rfl,⟨nd,rfl⟩⟩;refine ⟨_,rfl,?_⟩))
    go_ret
    exact ⟨zq7,zq16⟩
   replace c8:=Bool.eq_false_iff.mpr c8;subst c8;rw [if_neg Bool.false_ne_true] at H;replace H:=ifI H;rcases H with ⟨c10,H⟩|⟨c10,H⟩
   ·obtain ⟨c10b0,c10b1⟩:=eqI c10;clear c10;obtain rfl:=Option.some.inj H;go_wp2_with (first|((with_reducible refine gate_callee (f:=67) rfl ?_);refine gL 17 Tryz.func67 #[.int .i64 a0] ?_;(with_reducible refine (rules_counts.calls a0 false _ A7.out).mono ?_);rintro e w' ⟨rfl,⟨nd,rfl⟩⟩;refine ⟨_,rfl,?_⟩))
    go_ret
    exact ⟨zq7,zq16⟩
   obtain ⟨c10b0,c10b1⟩:=neI c10;obtain rfl:=Option.some.inj H;go_wp2_with (first|((with_reducible refine gate_callee (f:=67) rfl ?_);refine gL 17 Tryz.func67 #[.int .i64 a0] ?_;(with_reducible refine (rules_counts.calls a0 false _ A7.out).mono ?_);rintro e w' ⟨rfl,⟨nd,rfl⟩⟩;refine ⟨_,rfl,?_⟩))
   go_ret
   exact ⟨zq7,zq16⟩
theorem words_Plain.calls (a0:ByteArray) (r:Bool) (w:World) (h:words_Plain.f a0=some r) :
  Calls Tryz.prog 53 #[.string a0] w fun e w'=>e=.returned (.bool r)∧Drawn0 w w':=by
 unfold words_Plain.f at h;split at h
 ·rename_i hs
  obtain rfl:=Option.some.inj h;exact plain_w a0 hs w
 ·cases h
theorem rules_cond.calls (k:Nat) (a0_0 a0_1:Int) (a0_2:ByteArray) (a0_3 r:Int) (w:World) (h:rules_cond.f k a0_0 a0_1 a0_2 a0_3=some r) :
  Calls Tryz.prog 23 #[.agg #[.int .i64 a0_0,.int .i64 a0_1,.string a0_2,.int .i64 a0_3]] w fun e w'=>e=.returned (.int .i64 r)∧Below w.heap.size w w':=by
 have hu48:=Tryz.underlying48;have HB:=sd (Below.refl w.heap.size w);have H:=h;clear h;unfold rules_cond.f at H;replace H:=bdI H;obtain ⟨t114,A2,H⟩:=H;(try dsimp only at H)
 by_cases c3:t114=true
 ·subst c3;rw [if_pos rfl] at H;have HC4:=sd H;clear H;go_enter Tryz.func23,Tryz.ntmps23
  go_upto_block 0 with (first|((with_reducible refine gate_dst (N:=1) rfl ?_);refine bxA 1 #[.int .i64 a0_0,.int .i64 a0_1,.string a0_2,.int .i64 a0_3] 48 ?_;intro gb113 hg w5 hbox hb;have BK113:=sd (hbox);have GW113:=gem hg HB;have GE113:=GW113;replace HB:=hbm HB hb;clear hb hbox hg;obtain ⟨_,_,_,_,_,_,_,_⟩:=bk4 BK113)|(go_at_call 52;(with_reducible refine (rules_suits.calls k a0_0 a0_1 true _ A2.out).mono ?_);rintro e w' ⟨rfl,⟨nd,rfl⟩⟩;(try first|exact ⟨rfl,_,World.drewN_drewN _ _ _⟩|exact ⟨rfl,_,Eq.trans (World.drewN_drewN _ _ _) (congrArg (World.drewN _) (Nat.add_assoc _ _ _))⟩)))
  repeat (go_quiet (first|((with_reducible refine gate_dst (N:=1) rfl ?_);refine bxA 1 #[.int .i64 a0_0,.int .i64 a0_1,.string a0_2,.int .i64 a0_3] 48 ?_;intro gb113 hg w5 hbox hb;have BK113:=sd (hbox);have GW113:=gem hg HB;have GE113:=GW113;replace HB:=hbm HB hb;clear hb hbox hg;obtain ⟨_,_,_,_,_,_,_,_⟩:=bk4 BK113)|(go_at_call 52;(with_reducible refine (rules_suits.calls k a0_0 a0_1 true _ A2.out).mono ?_);rintro e w' ⟨rfl,⟨nd,rfl⟩⟩;(try first|exact ⟨rfl,_,World.drewN_drewN _ _ _⟩|exact ⟨rfl,_,Eq.trans (World.drewN_drewN _ _ _) (congrArg (World.drewN _) (Nat.add_assoc _ _ _))⟩)));go_upto_block 0 with (first|((with_reducible refine gate_dst (N:=1) rfl ?_);refine bxA 1 #[.int .i64 a0_0,.int .i64 a0_1,.string a0_2,.int .i64 a0_3] 48 ?_;intro gb113 hg w5 hbox hb;have BK113:=sd (hbox);have GW113:=gem hg HB;have GE113:=GW113;replace HB:=hbm HB hb;clear hb hbox hg;obtain ⟨_,_,_,_,_,_,_,_⟩:=bk4 BK113)|(go_at_call 52;(with_reducible refine (rules_suits.calls k a0_0 a0_1 true _ A2.out).mono ?_);rintro e w' ⟨rfl,⟨nd,rfl⟩⟩;(try first|exact ⟨rfl,_,World.drewN_drewN _ _ _⟩|exact ⟨rfl,_,Eq.trans (World.drewN_drewN _ _ _) (congrArg (World.drewN _) (Nat.add_assoc _ _ _))⟩))))
  (try simp only [Act.put,List.setIfInBounds_toArray,List.set_cons_zero,List.set_cons_succ])
  go_cut [3,4] (fun v3 v4 wc=>∃ (kq:Nat) (x3_3:Bool) (x4_3:Bool),v3=.bool x3_3∧v4=.bool x4_3∧Aside0 (rules_cond.j0 kq x3_3 x4_3=some r)∧Aside0 (kq≤k)∧Aside0 (wc.heap[gb113]?=some (.cells #[.int .i64 a0_0,.int .i64 a0_1,.string a0_2,.int .i64 a0_3] 48 (0,0)))∧Aside0 (Below w.heap.size w wc))
  case first =>
   have H:=HC4.out;clear HC4;replace H:=ifI H;rcases H with ⟨c7,H⟩|⟨c7,H⟩
   ·obtain ⟨c7b0,c7b1⟩:=eqI c7;clear c7;(first|rw [c7b0]|(simp only [i64_w,i32_w];rw [c7b0])|skip)
    replace H:=ifI H;rcases H with ⟨c8,H⟩|⟨c8,H⟩
    ·have c8b0:decide (a0_3≤1000000000000)=true:=decide_eq_true c8;clear c8;have H':=sd H;clear H;obtain ⟨_,_,_,_,_,_,_,_⟩:=bk4 BK113;go_wp2
     repeat (go_quiet (fail);try go_wp2)
     go_meet
     case rel=>exact ⟨_,(decide (a0_3 ≥ (-1000000000000))),((a0_2.toList == ([]:List UInt8))),zq7,zq7,H',⟨by first|omega|exact Nat.le_refl _⟩,⟨zq118⟩,⟨zq119⟩⟩
    have c8b0:decide (a0_3≤1000000000000)=false:=decide_eq_false c8;clear c8;have H':=sd H;clear H;obtain ⟨_,_,_,_,_,_,_,_⟩:=bk4 BK113;go_wp2
    repeat (go_quiet (fail);try go_wp2)
    go_meet
    case rel=>exact ⟨_,(false),((a0_2.toList == ([]:List UInt8))),zq7,zq7,H',⟨by first|omega|exact Nat.le_refl _⟩,⟨zq118⟩,⟨zq119⟩⟩
   obtain ⟨c7b0,c7b1⟩:=neI c7;(first|rw [c7b0]|(simp only [i64_w,i32_w];rw [c7b0])|skip)
   replace H:=ifI H;rcases H with ⟨c11,H⟩|⟨c11,H⟩
   ·obtain ⟨c11b0,c11b1⟩:=eqI c11;clear c11;replace H:=ifI H;rcases H with ⟨c12,H⟩|⟨c12,H⟩
    ·have c12b0:decide (0≤a0_3)=true:=decide_eq_true c12;clear c12;have H':=sd H;clear H;obtain ⟨_,_,_,_,_,_,_,_⟩:=bk4 BK113;go_wp2
     repeat (go_quiet (fail);try go_wp2)
     go_meet
     case rel=>exact ⟨_,(decide (a0_3≤109572)),((a0_2.toList == ([]:List UInt8))),zq7,zq7,H',⟨by first|omega|exact Nat.le_refl _⟩,⟨zq118⟩,⟨zq119⟩⟩
    have c12b0:decide (0≤a0_3)=false:=decide_eq_false c12;clear c12;have H':=sd H;clear H;obtain ⟨_,_,_,_,_,_,_,_⟩:=bk4 BK113;go_wp2
    repeat (go_quiet (fail);try go_wp2)
    go_meet
    case rel=>exact ⟨_,(false),((a0_2.toList == ([]:List UInt8))),zq7,zq7,H',⟨by first|omega|exact Nat.le_refl _⟩,⟨zq118⟩,⟨zq119⟩⟩
   obtain ⟨c11b0,c11b1⟩:=neI c11;replace H:=ifI H;rcases H with ⟨c15,H⟩|⟨c15,H⟩
   ·obtain ⟨c15b0,c15b1⟩:=eqI c15;clear c15;replace H:=bdI H;obtain ⟨t115,A16,H⟩:=H;(try dsimp only at H)
    have H':=sd H;clear H;obtain ⟨_,_,_,_,_,_,_,_⟩:=bk4 BK113;go_wp2_with (first|(go_at_call 53;(with_reducible refine (words_Plain.calls a0_2 t115 _ A16.out).mono ?_);rintro e w' ⟨rfl,⟨nd,rfl⟩⟩;(try first|exact ⟨rfl,_,World.drewN_drewN _ _ _⟩|exact ⟨rfl,_,Eq.trans (World.drewN_drewN _ _ _) (congrArg (World.drewN _) (Nat.add_assoc _ _ _))⟩)))
    repeat (go_quiet (first|(go_at_call 53;(with_reducible refine (words_Plain.calls a0_2 t115 _ A16.out).mono ?_);rintro e w' ⟨rfl,⟨nd,rfl⟩⟩;(try first|exact ⟨rfl,_,World.drewN_drewN _ _ _⟩|exact ⟨rfl,_,Eq.trans (World.drewN_drewN _ _ _) (congrArg (World.drewN _) (Nat.add_assoc _ _ _))⟩)));try go_wp2_with (first|(go_at_call 53;(with_reducible refine (words_Plain.calls a0_2 t115 _ A16.out).mono ?_);rintro e w' ⟨rfl,⟨nd,rfl⟩⟩;(try first|exact ⟨rfl,_,World.drewN_drewN _ _ _⟩|exact ⟨rfl,_,Eq.trans (World.drewN_drewN _ _ _) (congrArg (World.drewN _) (Nat.add_assoc _ _ _))⟩))))
    go_meet
    case rel=>exact ⟨_,((a0_3 == 0)),(t115),zq7,zq7,H',⟨by first|omega|exact Nat.le_refl _⟩,⟨zq118⟩,⟨zq119⟩⟩
   obtain ⟨c15b0,c15b1⟩:=neI c15;replace H:=ifI H;rcases H with ⟨c18,H⟩|⟨c18,H⟩
   ·obtain ⟨c18b0,c18b1⟩:=eqI c18;clear c18;replace H:=bdI H;obtain ⟨t116,A19,H⟩:=H;(try dsimp only at H)
    have H':=sd H;clear H;obtain ⟨_,_,_,_,_,_,_,_⟩:=bk4 BK113;go_wp2_with (first|(go_at_call 53;(with_reducible refine (words_Plain.calls a0_2 t116 _ A19.out).mono ?_);rintro e w' ⟨rfl,⟨nd,rfl⟩⟩;(try first|exact ⟨rfl,_,World.drewN_drewN _ _ _⟩|exact ⟨rfl,_,Eq.trans (World.drewN_drewN _ _ _) (congrArg (World.drewN _) (Nat.add_assoc _ _ _))⟩)))
    repeat (go_quiet (first|(go_at_call 53;(with_reducible refine (words_Plain.calls a0_2 t116 _ A19.out).mono ?_);rintro e w' ⟨rfl,⟨nd,rfl⟩⟩;(try first|exact ⟨rfl,_,World.drewN_drewN _ _ _⟩|exact ⟨rfl,_,Eq.trans (World.drewN_drewN _ _ _) (congrArg (World.drewN _) (Nat.add_assoc _ _ _))⟩)));try go_wp2_with (first|(go_at_call 53;(with_reducible refine (words_Plain.calls a0_2 t116 _ A19.out).mono ?_);rintro e w' ⟨rfl,⟨nd,rfl⟩⟩;(try first|exact ⟨rfl,_,World.drewN_drewN _ _ _⟩|exact ⟨rfl,_,Eq.trans (World.drewN_drewN _ _ _) (congrArg (World.drewN _) (Nat.add_assoc _ _ _))⟩))))
    go_meet
    case rel=>exact ⟨_,((a0_3 == 0)),(t116),zq7,zq7,H',⟨by first|omega|exact Nat.le_refl _⟩,⟨zq118⟩,⟨zq119⟩⟩
   obtain ⟨c18b0,c18b1⟩:=neI c18;have H':=sd H;clear H;go_wp2
   repeat (go_quiet (fail);try go_wp2)
   go_meet
   case rel=>exact ⟨_,((a0_3 == 0)),((a0_2.toList == ([]:List UInt8))),zq7,zq7,H',⟨by first|omega|exact Nat.le_refl _⟩,⟨zq118⟩,⟨zq119⟩⟩
  case rest =>
   clear HC4;try clear c1
   obtain ⟨kq,x3_3,x4_3,rfl,rfl,HA,HJ3,BK113,HB⟩:=hcut
   cases kq with
  |zero=>exact absurd HA.out (by simp [rules_cond.j0])
  |succ kj3 =>
    have H:=HA.out;clear HA;simp only [rules_cond.j0] at H
    by_cases c21:x3_3=true
    ·subst c21;rw [if_pos rfl] at H;by_cases c22:x4_3=true
     ·subst c22;rw [if_pos rfl] at H;obtain rfl:=Option.some.inj H;go_wp2
      repeat (go_quiet (fail);try go_wp2)
      go_ret
      exact ⟨zq4,zq119⟩
     replace c22:=Bool.eq_false_iff.mpr c22;subst c22;rw [if_neg Bool.false_ne_true] at H;obtain rfl:=Option.some.inj H;go_wp2
     repeat (go_quiet (fail);try go_wp2)
     go_ret
     exact ⟨zq4,zq119⟩
    replace c21:=Bool.eq_false_iff.mpr c21;subst c21;rw [if_neg Bool.false_ne_true] at H;obtain rfl:=Option.some.inj H;go_wp2
    repeat (go_quiet (fail);try go_wp2)
    go_ret
    exact ⟨zq4,zq119⟩
 replace c3:=Bool.eq_false_iff.mpr c3;subst c3;rw [if_neg Bool.false_ne_true] at H;obtain rfl:=Option.some.inj H;go_enter Tryz.func23,Tryz.ntmps23
 go_wp2_with (first|((with_reducible refine gate_dst (N:=1) rfl ?_);refine bxA 1 #[.int .i64 a0_0,.int .i64 a0_1,.string a0_2,.int .i64 a0_3] 48 ?_;intro gb113 hg w23 hbox hb;have BK113:=sd (hbox);have GW113:=gem hg HB;have GE113:=GW113;replace HB:=hbm HB hb;clear hb hbox hg;obtain ⟨_,_,_,_,_,_,_,_⟩:=bk4 BK113)|(go_at_call 52;(with_reducible refine (rules_suits.calls k a0_0 a0_1 false _ A2.out).mono ?_);rintro e w' ⟨rfl,⟨nd,rfl⟩⟩;(try first|exact ⟨rfl,_,World.drewN_drewN _ _ _⟩|exact ⟨rfl,_,Eq.trans (World.drewN_drewN _ _ _) (congrArg (World.drewN _) (Nat.add_assoc _ _ _))⟩)))
 repeat (go_quiet (first|((with_reducible refine gate_dst (N:=1) rfl ?_);refine bxA 1 #[.int .i64 a0_0,.int .i64 a0_1,.string a0_2,.int .i64 a0_3] 48 ?_;intro gb113 hg w23 hbox hb;have BK113:=sd (hbox);have GW113:=gem hg HB;have GE113:=GW113;replace HB:=hbm HB hb;clear hb hbox hg;obtain ⟨_,_,_,_,_,_,_,_⟩:=bk4 BK113)|(go_at_call 52;(with_reducible refine (rules_suits.calls k a0_0 a0_1 false _ A2.out).mono ?_);rintro e w' ⟨rfl,⟨nd,rfl⟩⟩;(try first|exact ⟨rfl,_,World.drewN_drewN _ _ _⟩|exact ⟨rfl,_,Eq.trans (World.drewN_drewN _ _ _) (congrArg (World.drewN _) (Nat.add_assoc _ _ _))⟩)));try go_wp2_with (first|((with_reducible refine gate_dst (N:=1) rfl ?_);refine bxA 1 #[.int .i64 a0_0,.int .i64 a0_1,.string a0_2,.int .i64 a0_3] 48 ?_;intro gb113 hg w23 hbox hb;have BK113:=sd (hbox);have GW113:=gem hg HB;have GE113:=GW113;replace HB:=hbm HB hb;clear hb hbox hg;obtain ⟨_,_,_,_,_,_,_,_⟩:=bk4 BK113)|(go_at_call 52;(with_reducible refine (rules_suits.calls k a0_0 a0_1 false _ A2.out).mono ?_);rintro e w' ⟨rfl,⟨nd,rfl⟩⟩;(try first|exact ⟨rfl,_,World.drewN_drewN _ _ _⟩|exact ⟨rfl,_,Eq.trans (World.drewN_drewN _ _ _) (congrArg (World.drewN _) (Nat.add_assoc _ _ _))⟩))))
 go_ret
 exact ⟨zq4,zq119⟩
theorem rf48_condition.calls (k:Nat) (a0_0 a0_1:Int) (a0_2:ByteArray) (a0_3 r:Int) (w:World) (h:rf48_condition.f k a0_0 a0_1 a0_2 a0_3=some r) :
  Calls Tryz.prog 26 #[.agg #[.int .i64 a0_0,.int .i64 a0_1,.string a0_2,.int .i64 a0_3]] w fun e w'=>e=.returned (.int .i64 r)∧Below w.heap.size w w':=by
 have hu48:=Tryz.underlying48;have HB:=sd (Below.refl w.heap.size w);have H:=h;clear h;unfold rf48_condition.f at H;have HC2:=sd H;clear H;go_enter Tryz.func26,Tryz.ntmps26
 go_upto_region 1 with (first|((with_reducible refine gate_dst (N:=1) rfl ?_);refine bxA 1 #[.int .i64 a0_0,.int .i64 a0_1,.string a0_2,.int .i64 a0_3] 48 ?_;intro gb134 hg w3 hbox hb;have BK134:=sd (hbox);have GW134:=gem hg HB;have GE134:=GW134;replace HB:=hbm HB hb;clear hb hbox hg))
 (try simp only [Act.put,List.setIfInBounds_toArray,List.set_cons_zero,List.set_cons_succ])
 go_cut [10] (fun v10 wc=>∃ (kq:Nat) (x10_1:Bool),v10=.bool x10_1∧Aside0 (rf48_condition.j0 kq x10_1 a0_0 a0_1 a0_2 a0_3=some r)∧Aside0 (kq≤k)∧Aside0 (wc.heap[gb134]?=some (.cells #[.int .i64 a0_0,.int .i64 a0_1,.string a0_2,.int .i64 a0_3] 48 (0,0)))∧Aside0 (Below w.heap.size w wc))
 case first =>
  have H:=HC2.out;clear HC2;replace H:=ifI H;rcases H with ⟨c4,H⟩|⟨c4,H⟩
  ·have c4b0:decide (a0_0 < 1)=true:=decide_eq_true c4;clear c4;(first|rw [c4b0]|(simp only [i64_w,i32_w];rw [c4b0])|skip)
   have H':=sd H;clear H;obtain ⟨_,_,_,_,_,_,_,_⟩:=bk4 BK134;go_wp2
   go_meet
   case rel=>exact ⟨_,(true),zq7,H',⟨by first|omega|exact Nat.le_refl _⟩,⟨zq35⟩,⟨zq36⟩⟩
  have c4b0:decide (a0_0 < 1)=false:=decide_eq_false c4;clear c4;(first|rw [c4b0]|(simp only [i64_w,i32_w];rw [c4b0])|skip)
  have H':=sd H;clear H;obtain ⟨_,_,_,_,_,_,_,_⟩:=bk4 BK134;go_wp2
  go_meet
  case rel=>exact ⟨_,(decide (a0_0 > 4)),zq7,H',⟨by first|omega|exact Nat.le_refl _⟩,⟨zq35⟩,⟨zq36⟩⟩
 case rest =>
  clear HC2;try clear c2
  obtain ⟨kq,x10_1,rfl,HA,HJ1,BK134,HB⟩:=hcut
  cases kq with
 |zero=>exact absurd HA.out (by simp [rf48_condition.j0])
 |succ kj1 =>
   have H:=HA.out;clear HA;simp only [rf48_condition.j0] at H
   by_cases c7:x10_1=true
   ·subst c7;rw [if_pos rfl] at H;obtain rfl:=Option.some.inj H;go_wp2
    go_ret
    exact ⟨zq4,zq36⟩
   replace c7:=Bool.eq_false_iff.mpr c7;subst c7;rw [if_neg Bool.false_ne_true] at H;have HC8:=sd H;clear H;go_upto_region 3 with (fail)
   go_cut [44] (fun v44 wc=>∃ (kq:Nat) (x44_7:Bool),v44=.bool x44_7∧Aside0 (rf48_condition.j1 kq x44_7 a0_0 a0_1 a0_2 a0_3=some r)∧Aside0 (kq≤kj1)∧Aside0 (wc.heap[gb134]?=some (.cells #[.int .i64 a0_0,.int .i64 a0_1,.string a0_2,.int .i64 a0_3] 48 (0,0)))∧Aside0 (Below w.heap.size w wc))
   case first =>
    have H:=HC8.out;clear HC8;replace H:=bdI H;obtain ⟨t135,A9,H⟩:=H;(try dsimp only at H)
    by_cases c10:t135=true
    ·subst c10;rw [if_pos rfl] at H;replace H:=ifI H;rcases H with ⟨c11,H⟩|⟨c11,H⟩
     ·have c11b0:decide (a0_1 < 1)=true:=decide_eq_true c11;clear c11;(first|rw [c11b0]|(simp only [i64_w,i32_w];rw [c11b0])|skip)
      have H':=sd H;clear H;obtain ⟨_,_,_,_,_,_,_,_⟩:=bk4 BK134;go_wp2_with (first|((with_reducible refine gate_callee (f:=35) rfl ?_);refine gL 13 Tryz.func35 #[.int .i64 a0_0] ?_;(with_reducible refine (rf48_number.calls a0_0 true _ A9.out).mono ?_);rintro e w' ⟨rfl,⟨nd,rfl⟩⟩;refine ⟨_,rfl,?_⟩))
      go_meet
      case rel=>exact ⟨_,(true),zq7,H',⟨zq17⟩,⟨zq35⟩,⟨zq36⟩⟩
     have c11b0:decide (a0_1 < 1)=false:=decide_eq_false c11;clear c11;(first|rw [c11b0]|(simp only [i64_w,i32_w];rw [c11b0])|skip)
     replace H:=ifI H;rcases H with ⟨c13,H⟩|⟨c13,H⟩
     ·have c13b0:decide (3 < a0_1)=true:=decide_eq_true c13;clear c13;have H':=sd H;clear H;obtain ⟨_,_,_,_,_,_,_,_⟩:=bk4 BK134;go_wp2_with (first|((with_reducible refine gate_callee (f:=35) rfl ?_);refine gL 13 Tryz.func35 #[.int .i64 a0_0] ?_;(with_reducible refine (rf48_number.calls a0_0 true _ A9.out).mono ?_);rintro e w' ⟨rfl,⟨nd,rfl⟩⟩;refine ⟨_,rfl,?_⟩))
      go_meet
      case rel=>exact ⟨_,(true),zq7,H',⟨zq17⟩,⟨zq35⟩,⟨zq36⟩⟩
     have c13b0:decide (3 < a0_1)=false:=decide_eq_false c13;clear c13;replace H:=bdI H;obtain ⟨t136,A15,H⟩:=H;(try dsimp only at H)
     by_cases c16:t136=true
     ·subst c16;rw [if_pos rfl] at H;have H':=sd H;clear H;obtain ⟨_,_,_,_,_,_,_,_⟩:=bk4 BK134;go_wp2_with (first|((with_reducible refine gate_callee (f:=35) rfl ?_);refine gL 13 Tryz.func35 #[.int .i64 a0_0] ?_;(with_reducible refine (rf48_number.calls a0_0 true _ A9.out).mono ?_);rintro e w' ⟨rfl,⟨nd,rfl⟩⟩;refine ⟨_,rfl,?_⟩)|(go_at_call 35;(with_reducible refine (rf48_number.calls a0_0 true _ A15.out).mono ?_);rintro e w' ⟨rfl,⟨nd,rfl⟩⟩))
      go_meet
      case rel=>exact ⟨_,(false),zq7,H',⟨zq17⟩,⟨zq35⟩,⟨zq36⟩⟩
     replace c16:=Bool.eq_false_iff.mpr c16;subst c16;rw [if_neg Bool.false_ne_true] at H;replace H:=ifI H;rcases H with ⟨c18,H⟩|⟨c18,H⟩
     ·obtain ⟨c18b0,c18b1⟩:=eqI c18;clear c18;have H':=sd H;clear H;obtain ⟨_,_,_,_,_,_,_,_⟩:=bk4 BK134;go_wp2_with (first|((with_reducible refine gate_callee (f:=35) rfl ?_);refine gL 13 Tryz.func35 #[.int .i64 a0_0] ?_;(with_reducible refine (rf48_number.calls a0_0 true _ A9.out).mono ?_);rintro e w' ⟨rfl,⟨nd,rfl⟩⟩;refine ⟨_,rfl,?_⟩)|(go_at_call 35;(with_reducible refine (rf48_number.calls a0_0 false _ A15.out).mono ?_);rintro e w' ⟨rfl,⟨nd,rfl⟩⟩))
      go_meet
      case rel=>exact ⟨_,(false),zq7,H',⟨zq17⟩,⟨zq35⟩,⟨zq36⟩⟩
     obtain ⟨c18b0,c18b1⟩:=neI c18;replace H:=ifI H;rcases H with ⟨c20,H⟩|⟨c20,H⟩
     ·obtain ⟨c20b0,c20b1⟩:=eqI c20;clear c20;have H':=sd H;clear H;obtain ⟨_,_,_,_,_,_,_,_⟩:=bk4 BK134;go_wp2_with (first|((with_reducible refine gate_callee (f:=35) rfl ?_);refine gL 13 Tryz.func35 #[.int .i64 a0_0] ?_;(with_reducible refine (rf48_number.calls a0_0 true _ A9.out).mono ?_);rintro e w' ⟨rfl,⟨nd,rfl⟩⟩;refine ⟨_,rfl,?_⟩)|(go_at_call 35;(with_reducible refine (rf48_number.calls a0_0 false _ A15.out).mono ?_);rintro e w' ⟨rfl,⟨nd,rfl⟩⟩))
      go_meet
      case rel=>exact ⟨_,(false),zq7,H',⟨zq17⟩,⟨zq35⟩,⟨zq36⟩⟩
     obtain ⟨c20b0,c20b1⟩:=neI c20;have H':=sd H;clear H;obtain ⟨_,_,_,_,_,_,_,_⟩:=bk4 BK134;go_wp2_with (first|((with_reducible refine gate_callee (f:=35) rfl ?_);refine gL 13 Tryz.func35 #[.int .i64 a0_0] ?_;(with_reducible refine (rf48_number.calls a0_0 true _ A9.out).mono ?_);rintro e w' ⟨rfl,⟨nd,rfl⟩⟩;refine ⟨_,rfl,?_⟩)|(go_at_call 35;(with_reducible refine (rf48_number.calls a0_0 false _ A15.out).mono ?_);rintro e w' ⟨rfl,⟨nd,rfl⟩⟩))
     go_meet
     case rel=>exact ⟨_,((a0_1 != 5)),zq7,H',⟨zq17⟩,⟨zq35⟩,⟨zq36⟩⟩
    replace c10:=Bool.eq_false_iff.mpr c10;subst c10;rw [if_neg Bool.false_ne_true] at H;replace H:=bdI H;obtain ⟨t137,A23,H⟩:=H;(try dsimp only at H)
    by_cases c24:t137=true
    ·subst c24;rw [if_pos rfl] at H;have H':=sd H;clear H;obtain ⟨_,_,_,_,_,_,_,_⟩:=bk4 BK134;go_wp2_with (first|((with_reducible refine gate_callee (f:=35) rfl ?_);refine gL 13 Tryz.func35 #[.int .i64 a0_0] ?_;(with_reducible refine (rf48_number.calls a0_0 false _ A9.out).mono ?_);rintro e w' ⟨rfl,⟨nd,rfl⟩⟩;refine ⟨_,rfl,?_⟩)|(go_at_call 35;(with_reducible refine (rf48_number.calls a0_0 true _ A23.out).mono ?_);rintro e w' ⟨rfl,⟨nd,rfl⟩⟩))
     go_meet
     case rel=>exact ⟨_,(false),zq7,H',⟨zq17⟩,⟨zq35⟩,⟨zq36⟩⟩
    replace c24:=Bool.eq_false_iff.mpr c24;subst c24;rw [if_neg Bool.false_ne_true] at H;replace H:=ifI H;rcases H with ⟨c26,H⟩|⟨c26,H⟩
    ·obtain ⟨c26b0,c26b1⟩:=eqI c26;clear c26;have H':=sd H;clear H;obtain ⟨_,_,_,_,_,_,_,_⟩:=bk4 BK134;go_wp2_with (first|((with_reducible refine gate_callee (f:=35) rfl ?_);refine gL 13 Tryz.func35 #[.int .i64 a0_0] ?_;(with_reducible refine (rf48_number.calls a0_0 false _ A9.out).mono ?_);rintro e w' ⟨rfl,⟨nd,rfl⟩⟩;refine ⟨_,rfl,?_⟩)|(go_at_call 35;(with_reducible refine (rf48_number.calls a0_0 false _ A23.out).mono ?_);rintro e w' ⟨rfl,⟨nd,rfl⟩⟩))
     go_meet
     case rel=>exact ⟨_,(false),zq7,H',⟨zq17⟩,⟨zq35⟩,⟨zq36⟩⟩
    obtain ⟨c26b0,c26b1⟩:=neI c26;replace H:=ifI H;rcases H with ⟨c28,H⟩|⟨c28,H⟩
    ·obtain ⟨c28b0,c28b1⟩:=eqI c28;clear c28;have H':=sd H;clear H;obtain ⟨_,_,_,_,_,_,_,_⟩:=bk4 BK134;go_wp2_with (first|((with_reducible refine gate_callee (f:=35) rfl ?_);refine gL 13 Tryz.func35 #[.int .i64 a0_0] ?_;(with_reducible refine (rf48_number.calls a0_0 false _ A9.out).mono ?_);rintro e w' ⟨rfl,⟨nd,rfl⟩⟩;refine ⟨_,rfl,?_⟩)|(go_at_call 35;(with_reducible refine (rf48_number.calls a0_0 false _ A23.out).mono ?_);rintro e w' ⟨rfl,⟨nd,rfl⟩⟩))
     go_meet
     case rel=>exact ⟨_,(false),zq7,H',⟨zq17⟩,⟨zq35⟩,⟨zq36⟩⟩
    obtain ⟨c28b0,c28b1⟩:=neI c28;have H':=sd H;clear H;obtain ⟨_,_,_,_,_,_,_,_⟩:=bk4 BK134;go_wp2_with (first|((with_reducible refine gate_callee (f:=35) rfl ?_);refine gL 13 Tryz.func35 #[.int .i64 a0_0] ?_;(with_reducible refine (rf48_number.calls a0_0 false _ A9.out).mono ?_);rintro e w' ⟨rfl,⟨nd,rfl⟩⟩;refine ⟨_,rfl,?_⟩)|(go_at_call 35;(with_reducible refine (rf48_number.calls a0_0 false _ A23.out).mono ?_);rintro e w' ⟨rfl,⟨nd,rfl⟩⟩))
    go_meet
    case rel=>exact ⟨_,((a0_1 != 5)),zq7,H',⟨zq17⟩,⟨zq35⟩,⟨zq36⟩⟩
   case rest =>
    clear HC8;try clear c1
    obtain ⟨kq,x44_7,rfl,HA,HJ7,BK134,HB⟩:=hcut
    cases kq with
   |zero=>exact absurd HA.out (by simp [rf48_condition.j1])
   |succ kj7 =>
     have H:=HA.out;clear HA;simp only [rf48_condition.j1] at H
     by_cases c31:x44_7=true
     ·subst c31;rw [if_pos rfl] at H;obtain rfl:=Option.some.inj H;go_wp2
      go_ret
      exact ⟨zq4,zq36⟩
     replace c31:=Bool.eq_false_iff.mpr c31;subst c31;rw [if_neg Bool.false_ne_true] at H;have HC32:=sd H;clear H;go_upto_region 5 with (fail)
     go_cut [79] (fun v79 wc=>∃ (kq:Nat) (x79_31:Bool),v79=.bool x79_31∧Aside0 (rf48_condition.j2 kq x79_31 a0_0 a0_1 a0_2 a0_3=some r)∧Aside0 (kq≤kj7)∧Aside0 (wc.heap[gb134]?=some (.cells #[.int .i64 a0_0,.int .i64 a0_1,.string a0_2,.int .i64 a0_3] 48 (0,0)))∧Aside0 (Below w.heap.size w wc))
     case first =>
      have H:=HC32.out;clear HC32;replace H:=ifI H;rcases H with ⟨c33,H⟩|⟨c33,H⟩
      ·obtain ⟨c33b0,c33b1⟩:=eqI c33;clear c33;(first|rw [c33b0]|(simp only [i64_w,i32_w];rw [c33b0])|skip)
       replace H:=ifI H;rcases H with ⟨c34,H⟩|⟨c34,H⟩
       ·have c34b0:decide (1000000000000 < a0_3)=true:=decide_eq_true c34;clear c34;have H':=sd H;clear H;obtain ⟨_,_,_,_,_,_,_,_⟩:=bk4 BK134;go_wp2
        go_meet
        case rel=>exact ⟨_,(true),zq7,H',⟨zq37⟩,⟨zq35⟩,⟨zq36⟩⟩
       have c34b0:decide (1000000000000 < a0_3)=false:=decide_eq_false c34;clear c34;replace H:=ifI H;rcases H with ⟨c36,H⟩|⟨c36,H⟩
       ·have c36b0:decide (a0_3 < (-1000000000000))=true:=decide_eq_true c36;clear c36;have H':=sd H;clear H;obtain ⟨_,_,_,_,_,_,_,_⟩:=bk4 BK134;go_wp2
        go_meet
        case rel=>exact ⟨_,(true),zq7,H',⟨zq37⟩,⟨zq35⟩,⟨zq36⟩⟩
       have c36b0:decide (a0_3 < (-1000000000000))=false:=decide_eq_false c36;clear c36;replace H:=ifI H;rcases H with ⟨c38,H⟩|⟨c38,H⟩
       ·obtain ⟨c38b0,c38b1⟩:=eqI c38;clear c38;replace H:=bdI H;obtain ⟨t138,A39,H⟩:=H;(try dsimp only at H)
        by_cases c40:t138=true
        ·subst c40;rw [if_pos rfl] at H;replace H:=bdI H;obtain ⟨t139,A41,H⟩:=H;(try dsimp only at H)
         by_cases c42:t139=true
         ·subst c42;rw [if_pos rfl] at H;have H':=sd H;clear H;obtain ⟨_,_,_,_,_,_,_,_⟩:=bk4 BK134;go_wp2_with (first|(go_at_call 57;(with_reducible refine (rf04_Is.calls a0_3 true _ A39.out).mono ?_);rintro e w' ⟨rfl,⟨nd,rfl⟩⟩)|(go_at_call 35;(with_reducible refine (rf48_number.calls a0_0 true _ A41.out).mono ?_);rintro e w' ⟨rfl,⟨nd,rfl⟩⟩))
          go_meet
          case rel=>exact ⟨_,(false),zq7,H',⟨zq37⟩,⟨zq35⟩,⟨zq36⟩⟩
         replace c42:=Bool.eq_false_iff.mpr c42;subst c42;rw [if_neg Bool.false_ne_true] at H;have H':=sd H;clear H;obtain ⟨_,_,_,_,_,_,_,_⟩:=bk4 BK134;go_wp2_with (first|(go_at_call 57;(with_reducible refine (rf04_Is.calls a0_3 true _ A39.out).mono ?_);rintro e w' ⟨rfl,⟨nd,rfl⟩⟩)|(go_at_call 35;(with_reducible refine (rf48_number.calls a0_0 false _ A41.out).mono ?_);rintro e w' ⟨rfl,⟨nd,rfl⟩⟩))
         go_meet
         case rel=>exact ⟨_,((a0_3 != 0)),zq7,H',⟨zq37⟩,⟨zq35⟩,⟨zq36⟩⟩
        replace c40:=Bool.eq_false_iff.mpr c40;subst c40;rw [if_neg Bool.false_ne_true] at H;have H':=sd H;clear H;obtain ⟨_,_,_,_,_,_,_,_⟩:=bk4 BK134;go_wp2_with (first|(go_at_call 57;(with_reducible refine (rf04_Is.calls a0_3 false _ A39.out).mono ?_);rintro e w' ⟨rfl,⟨nd,rfl⟩⟩))
        go_meet
        case rel=>exact ⟨_,(true),zq7,H',⟨zq37⟩,⟨zq35⟩,⟨zq36⟩⟩
       obtain ⟨c38b0,c38b1⟩:=neI c38;replace H:=bdI H;obtain ⟨t140,A46,H⟩:=H;(try dsimp only at H)
       by_cases c47:t140=true
       ·subst c47;rw [if_pos rfl] at H;have H':=sd H;clear H;obtain ⟨_,_,_,_,_,_,_,_⟩:=bk4 BK134;go_wp2_with (first|(go_at_call 35;(with_reducible refine (rf48_number.calls a0_0 true _ A46.out).mono ?_);rintro e w' ⟨rfl,⟨nd,rfl⟩⟩))
        go_meet
        case rel=>exact ⟨_,(false),zq7,H',⟨zq37⟩,⟨zq35⟩,⟨zq36⟩⟩
       replace c47:=Bool.eq_false_iff.mpr c47;subst c47;rw [if_neg Bool.false_ne_true] at H;have H':=sd H;clear H;obtain ⟨_,_,_,_,_,_,_,_⟩:=bk4 BK134;go_wp2_with (first|(go_at_call 35;(with_reducible refine (rf48_number.calls a0_0 false _ A46.out).mono ?_);rintro e w' ⟨rfl,⟨nd,rfl⟩⟩))
       go_meet
       case rel=>exact ⟨_,((a0_3 != 0)),zq7,H',⟨zq37⟩,⟨zq35⟩,⟨zq36⟩⟩
      obtain ⟨c33b0,c33b1⟩:=neI c33;(first|rw [c33b0]|(simp only [i64_w,i32_w];rw [c33b0])|skip)
      replace H:=ifI H;rcases H with ⟨c50,H⟩|⟨c50,H⟩
      ·obtain ⟨c50b0,c50b1⟩:=eqI c50;clear c50;replace H:=bdI H;obtain ⟨t141,A51,H⟩:=H;(try dsimp only at H)
       by_cases c52:t141=true
       ·subst c52;rw [if_pos rfl] at H;replace H:=bdI H;obtain ⟨t142,A53,H⟩:=H;(try dsimp only at H)
        by_cases c54:t142=true
        ·subst c54;rw [if_pos rfl] at H;have H':=sd H;clear H;obtain ⟨_,_,_,_,_,_,_,_⟩:=bk4 BK134;go_wp2_with (first|(go_at_call 57;(with_reducible refine (rf04_Is.calls a0_3 true _ A51.out).mono ?_);rintro e w' ⟨rfl,⟨nd,rfl⟩⟩)|(go_at_call 35;(with_reducible refine (rf48_number.calls a0_0 true _ A53.out).mono ?_);rintro e w' ⟨rfl,⟨nd,rfl⟩⟩))
         go_meet
         case rel=>exact ⟨_,(false),zq7,H',⟨zq37⟩,⟨zq35⟩,⟨zq36⟩⟩
        replace c54:=Bool.eq_false_iff.mpr c54;subst c54;rw [if_neg Bool.false_ne_true] at H;have H':=sd H;clear H;obtain ⟨_,_,_,_,_,_,_,_⟩:=bk4 BK134;go_wp2_with (first|(go_at_call 57;(with_reducible refine (rf04_Is.calls a0_3 true _ A51.out).mono ?_);rintro e w' ⟨rfl,⟨nd,rfl⟩⟩)|(go_at_call 35;(with_reducible refine (rf48_number.calls a0_0 false _ A53.out).mono ?_);rintro e w' ⟨rfl,⟨nd,rfl⟩⟩))
        go_meet
        case rel=>exact ⟨_,((a0_3 != 0)),zq7,H',⟨zq37⟩,⟨zq35⟩,⟨zq36⟩⟩
       replace c52:=Bool.eq_false_iff.mpr c52;subst c52;rw [if_neg Bool.false_ne_true] at H;have H':=sd H;clear H;obtain ⟨_,_,_,_,_,_,_,_⟩:=bk4 BK134;go_wp2_with (first|(go_at_call 57;(with_reducible refine (rf04_Is.calls a0_3 false _ A51.out).mono ?_);rintro e w' ⟨rfl,⟨nd,rfl⟩⟩))
       go_meet
       case rel=>exact ⟨_,(true),zq7,H',⟨zq37⟩,⟨zq35⟩,⟨zq36⟩⟩
      obtain ⟨c50b0,c50b1⟩:=neI c50;replace H:=bdI H;obtain ⟨t143,A58,H⟩:=H;(try dsimp only at H)
      by_cases c59:t143=true
      ·subst c59;rw [if_pos rfl] at H;have H':=sd H;clear H;obtain ⟨_,_,_,_,_,_,_,_⟩:=bk4 BK134;go_wp2_with (first|(go_at_call 35;(with_reducible refine (rf48_number.calls a0_0 true _ A58.out).mono ?_);rintro e w' ⟨rfl,⟨nd,rfl⟩⟩))
       go_meet
       case rel=>exact ⟨_,(false),zq7,H',⟨zq37⟩,⟨zq35⟩,⟨zq36⟩⟩
      replace c59:=Bool.eq_false_iff.mpr c59;subst c59;rw [if_neg Bool.false_ne_true] at H;have H':=sd H;clear H;obtain ⟨_,_,_,_,_,_,_,_⟩:=bk4 BK134;go_wp2_with (first|(go_at_call 35;(with_reducible refine (rf48_number.calls a0_0 false _ A58.out).mono ?_);rintro e w' ⟨rfl,⟨nd,rfl⟩⟩))
      go_meet
      case rel=>exact ⟨_,((a0_3 != 0)),zq7,H',⟨zq37⟩,⟨zq35⟩,⟨zq36⟩⟩
     case rest =>
      clear HC32;try clear c1
      obtain ⟨kq,x79_31,rfl,HA,HJ31,BK134,HB⟩:=hcut
      cases kq with
     |zero=>exact absurd HA.out (by simp [rf48_condition.j2])
     |succ kj31 =>
       have H:=HA.out;clear HA;simp only [rf48_condition.j2] at H
       by_cases c62:x79_31=true
       ·subst c62;rw [if_pos rfl] at H;obtain rfl:=Option.some.inj H;go_wp2
        go_ret
        exact ⟨zq4,zq36⟩
       replace c62:=Bool.eq_false_iff.mpr c62;subst c62;rw [if_neg Bool.false_ne_true] at H;replace H:=bdI H;obtain ⟨t144,A63,H⟩:=H;(try dsimp only at H)
       by_cases c64:t144=true
       ·subst c64;rw [if_pos rfl] at H;replace H:=ifI H;rcases H with ⟨c65,H⟩|⟨c65,H⟩
        ·obtain ⟨c65b0,c65b1⟩:=eqI c65;clear c65;replace H:=bdI H;obtain ⟨t145,A66,H⟩:=H;(try dsimp only at H)
         by_cases c67:t145=true
         ·subst c67;rw [if_pos rfl] at H;obtain rfl:=Option.some.inj H;obtain ⟨_,_,_,_,_,_,_,_⟩:=bk4 BK134;go_wp2_with (first|((with_reducible refine gate_callee (f:=35) rfl ?_);refine gL 82 Tryz.func35 #[.int .i64 a0_0] ?_;(with_reducible refine (rf48_number.calls a0_0 true _ A63.out).mono ?_);rintro e w' ⟨rfl,⟨nd,rfl⟩⟩;refine ⟨_,rfl,?_⟩)|(go_at_call 35;(with_reducible refine (rf48_number.calls a0_0 true _ A66.out).mono ?_);rintro e w' ⟨rfl,⟨nd,rfl⟩⟩))
          go_ret
          exact ⟨zq4,zq36⟩
         replace c67:=Bool.eq_false_iff.mpr c67;subst c67;rw [if_neg Bool.false_ne_true] at H;replace H:=bdI H;obtain ⟨t146,A69,H⟩:=H;(try dsimp only at H)
         by_cases c70:t146=true
         ·subst c70;rw [if_pos rfl] at H;obtain rfl:=Option.some.inj H;obtain ⟨_,_,_,_,_,_,_,_⟩:=bk4 BK134;go_wp2_with (first|((with_reducible refine gate_callee (f:=35) rfl ?_);refine gL 82 Tryz.func35 #[.int .i64 a0_0] ?_;(with_reducible refine (rf48_number.calls a0_0 true _ A63.out).mono ?_);rintro e w' ⟨rfl,⟨nd,rfl⟩⟩;refine ⟨_,rfl,?_⟩)|(go_at_call 35;(with_reducible refine (rf48_number.calls a0_0 false _ A66.out).mono ?_);rintro e w' ⟨rfl,⟨nd,rfl⟩⟩)|(go_at_call 58;(with_reducible refine (rf06_Plain.calls kj31 a0_2 true _ A69.out).mono ?_);rintro e w' ⟨rfl,⟨nd,rfl⟩⟩))
          go_ret
          exact ⟨zq4,zq36⟩
         replace c70:=Bool.eq_false_iff.mpr c70;subst c70;rw [if_neg Bool.false_ne_true] at H;obtain rfl:=Option.some.inj H;obtain ⟨_,_,_,_,_,_,_,_⟩:=bk4 BK134;go_wp2_with (first|((with_reducible refine gate_callee (f:=35) rfl ?_);refine gL 82 Tryz.func35 #[.int .i64 a0_0] ?_;(with_reducible refine (rf48_number.calls a0_0 true _ A63.out).mono ?_);rintro e w' ⟨rfl,⟨nd,rfl⟩⟩;refine ⟨_,rfl,?_⟩)|(go_at_call 35;(with_reducible refine (rf48_number.calls a0_0 false _ A66.out).mono ?_);rintro e w' ⟨rfl,⟨nd,rfl⟩⟩)|(go_at_call 58;(with_reducible refine (rf06_Plain.calls kj31 a0_2 false _ A69.out).mono ?_);rintro e w' ⟨rfl,⟨nd,rfl⟩⟩))
         go_ret
         exact ⟨zq4,zq36⟩
        obtain ⟨c65b0,c65b1⟩:=neI c65;obtain rfl:=Option.some.inj H;obtain ⟨_,_,_,_,_,_,_,_⟩:=bk4 BK134;go_wp2_with (first|((with_reducible refine gate_callee (f:=35) rfl ?_);refine gL 82 Tryz.func35 #[.int .i64 a0_0] ?_;(with_reducible refine (rf48_number.calls a0_0 true _ A63.out).mono ?_);rintro e w' ⟨rfl,⟨nd,rfl⟩⟩;refine ⟨_,rfl,?_⟩))
        go_ret
        exact ⟨zq4,zq36⟩
       replace c64:=Bool.eq_false_iff.mpr c64;subst c64;rw [if_neg Bool.false_ne_true] at H;replace H:=bdI H;obtain ⟨t147,A74,H⟩:=H;(try dsimp only at H)
       by_cases c75:t147=true
       ·subst c75;rw [if_pos rfl] at H;obtain rfl:=Option.some.inj H;obtain ⟨_,_,_,_,_,_,_,_⟩:=bk4 BK134;go_wp2_with (first|((with_reducible refine gate_callee (f:=35) rfl ?_);refine gL 82 Tryz.func35 #[.int .i64 a0_0] ?_;(with_reducible refine (rf48_number.calls a0_0 false _ A63.out).mono ?_);rintro e w' ⟨rfl,⟨nd,rfl⟩⟩;refine ⟨_,rfl,?_⟩)|(go_at_call 35;(with_reducible refine (rf48_number.calls a0_0 true _ A74.out).mono ?_);rintro e w' ⟨rfl,⟨nd,rfl⟩⟩))
        go_ret
        exact ⟨zq4,zq36⟩
       replace c75:=Bool.eq_false_iff.mpr c75;subst c75;rw [if_neg Bool.false_ne_true] at H;replace H:=bdI H;obtain ⟨t148,A77,H⟩:=H;(try dsimp only at H)
       by_cases c78:t148=true
       ·subst c78;rw [if_pos rfl] at H;obtain rfl:=Option.some.inj H;obtain ⟨_,_,_,_,_,_,_,_⟩:=bk4 BK134;go_wp2_with (first|((with_reducible refine gate_callee (f:=35) rfl ?_);refine gL 82 Tryz.func35 #[.int .i64 a0_0] ?_;(with_reducible refine (rf48_number.calls a0_0 false _ A63.out).mono ?_);rintro e w' ⟨rfl,⟨nd,rfl⟩⟩;refine ⟨_,rfl,?_⟩)|(go_at_call 35;(with_reducible refine (rf48_number.calls a0_0 false _ A74.out).mono ?_);rintro e w' ⟨rfl,⟨nd,rfl⟩⟩)|(go_at_call 58;(with_reducible refine (rf06_Plain.calls kj31 a0_2 true _ A77.out).mono ?_);rintro e w' ⟨rfl,⟨nd,rfl⟩⟩))
        go_ret
        exact ⟨zq4,zq36⟩
       replace c78:=Bool.eq_false_iff.mpr c78;subst c78;rw [if_neg Bool.false_ne_true] at H;obtain rfl:=Option.some.inj H;obtain ⟨_,_,_,_,_,_,_,_⟩:=bk4 BK134;go_wp2_with (first|((with_reducible refine gate_callee (f:=35) rfl ?_);refine gL 82 Tryz.func35 #[.int .i64 a0_0] ?_;(with_reducible refine (rf48_number.calls a0_0 false _ A63.out).mono ?_);rintro e w' ⟨rfl,⟨nd,rfl⟩⟩;refine ⟨_,rfl,?_⟩)|(go_at_call 35;(with_reducible refine (rf48_number.calls a0_0 false _ A74.out).mono ?_);rintro e w' ⟨rfl,⟨nd,rfl⟩⟩)|(go_at_call 58;(with_reducible refine (rf06_Plain.calls kj31 a0_2 false _ A77.out).mono ?_);rintro e w' ⟨rfl,⟨nd,rfl⟩⟩))
       go_ret
       exact ⟨zq4,zq36⟩
end A

end Go.Proofs.YtkbgkekegjfkfaaGreatDoor