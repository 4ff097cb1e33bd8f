-- By pack.py, a program of this session's.
import Derived.Test.YtkbgkekegjfkfaaGreatDoorY4
import Derived.Test.YtkbgkekegjfkfaaGreatDoorY5
import Derived.Test.YtkbgkekegjfkfaaGreatDoorY6
import Derived.Test.YtkbgkekegjfkfaaGreatDoorY7
set_option linter.unusedVariables false
set_option linter.unusedSimpArgs false
namespace Go.Proofs.YtkbgkekegjfkfaaGreatDoor.A
open Go.RowKit B WW WL WM
attribute [local go_sem] max2_int min2_int max_two min_two max_three min_three max_four min_four
set_option maxHeartbeats 8000000
set_option maxRecDepth 100000
theorem every_print (hF:∀ (c:UInt8) (w:World),Calls Tryz.prog 95 #[.int .u8 (c.toNat:Int)] w fun e w'=>e=.returned (.bool (isPrn c))∧Drawn0 w w') (s:ByteArray) (hs:s.size≤140737488351232) (w:World) :
  Calls Tryz.prog 47 #[.string s,.func (.func 95) #[] #[]] w fun e w'=>e=.returned (.bool (s.data.toList.all isPrn))∧Drawn0 w w':=by
 have HSZ:=sd (size_eq' s);have HF:=sd hF;clear hF;generalize hP:(fun e w'=>e=Ending.returned (.bool (s.data.toList.all isPrn))∧Drawn0 w w')=Post;have HP:=sd hP;clear hP;go_enter Tryz.func47,Tryz.ntmps47
 go_wp2_with fail
 go_loopw [8] (fun n_ wr=>∃ (i:Nat),i≤s.size∧n_=.int .i64 (i:Int)∧Aside0 (∀ j,(h:j < i)→(h':j < s.size)→isPrn s[j]=true)∧Drawn0 w wr) (fun n_ _=>(s.size - (RowKit.intOf n_).toNat))
 case atStart=>exact ⟨0,by omega,rfl,⟨fun j h=>by omega⟩,Drawn0.refl _⟩
 case round =>
  obtain ⟨i,hi,rfl,HU,HDr⟩:=hrel;rename World=>wr
  by_cases hlt:i < s.size
  ·have hlt':(i:Int) < (s.size:Int):=by omega
   go_wp2_with fail
   have HC:=HF.out s[i] wr
   cases hp:isPrn s[i]
   ·rw [hp] at HC;have HB:=sd (show s.data.toList.all isPrn=false from all_bad (by rw [← HSZ.out];exact hlt) (by rw [list_at s i hlt];exact hp));refine HC.mono ?_;rintro e w1 ⟨rfl,hd1⟩;obtain ⟨⟨n1,rfl⟩⟩:=hd1;clear HC;go_wp2_with fail
    rw [← HP.out];exact ⟨by rw [HB.out];(try rfl),HDr.step _⟩
   ·rw [hp] at HC
    have HU2:=sd (show ∀ j,(h:j < i+1)→(h':j < s.size)→isPrn s[j]=true from fun j h h'=>by
     rcases Nat.lt_or_ge j i with h1 | h1
     ·exact HU.out j h1 h'
     ·obtain rfl:j=i:=by omega
      exact hp)
    refine HC.mono ?_;rintro e w1 ⟨rfl,hd1⟩;obtain ⟨⟨n1,rfl⟩⟩:=hd1;clear HC HU;go_wp2_with fail
    go_roundw
    case rel=>exact ⟨i+1,by omega,by go_num,HU2,HDr.step _⟩
    case measure=>simp [RowKit.intOf];omega
  have hlt':¬ (i:Int) < (s.size:Int):=by omega
  obtain rfl:i=s.size:=by omega
  have hall:s.data.toList.all isPrn=true:=by
   rw [List.all_eq_true];intro x hx;obtain ⟨j,hj,rfl⟩:=List.getElem_of_mem hx;have hj2:j < s.size:=by rw [HSZ.out];exact hj
   rw [list_at s j hj2];exact HU.out j hj2 hj2
  have HL:=sd hall;clear hall;go_wp2_with fail
  rw [← HP.out];exact ⟨by rw [HL.out];(try rfl),HDr⟩
theorem plain_w (s:ByteArray) (hs:s.size≤140737488351232) (w:World):Calls Tryz.prog 53 #[.string s] w fun e w'=>e=.returned (.bool (plainW s.data.toList))∧Drawn0 w w':=by
 have HE:=sd (fun w=>every_print (fun c w=>words_printable.calls _ (isPrn c) w (print_wd c.toNat c.toNat_lt)) s hs w);have hsz:=size_eq' s;generalize hP:(fun e w'=>e=Ending.returned (.bool (plainW s.data.toList))∧Drawn0 w w')=Post;have HP:=sd hP;clear hP;by_cases h1:s.size≤60
 ·have h1':(s.size:Int)≤60:=by omega
  have hB:plainW s.data.toList=s.data.toList.all isPrn:=by unfold plainW;rw [decide_eq_true (by omega),Bool.true_and]
  have HB:=sd hB;clear hB hsz;generalize s.data.toList.all isPrn=ab at HE HB;go_enter Tryz.func53,Tryz.ntmps53
  go_wp2_with fail
  refine (HE.out _).mono ?_;rintro e w1 ⟨rfl,hd1⟩;obtain ⟨⟨n1,rfl⟩⟩:=hd1;go_wp2_with fail
  rw [← HP.out];exact ⟨by rw [HB.out];(try rfl),⟨⟨_,rfl⟩⟩⟩
 have h1':¬ (s.size:Int)≤60:=by omega
 have hB:plainW s.data.toList=false:=by unfold plainW;rw [decide_eq_false (by omega),Bool.false_and]
 have HB:=sd hB;clear hB hsz;go_enter Tryz.func53,Tryz.ntmps53
 go_wp2_with fail
 rw [← HP.out];exact ⟨by rw [HB.out];(try rfl),Drawn0.refl _⟩
theorem words_Plain.calls (a0:ByteArray) (r:Bool) (w:World) (h:words_Plain.f a0=some r) :
  Calls Tryz.prog 53 #[.string a0] w fun e w'=>e=.returned (.bool r)∧Drawn0 w w':=by
 unfold words_Plain.f at h;split at h
 ·rename_i hs
  obtain rfl:=Option.some.inj h;exact plain_w a0 hs w
 ·cases h
theorem rules_cond.calls (k:Nat) (a0_0 a0_1:Int) (a0_2:ByteArray) (a0_3 r:Int) (w:World) (h:rules_cond.f k a0_0 a0_1 a0_2 a0_3=some r) :
  Calls Tryz.prog 23 #[.agg #[.int .i64 a0_0,.int .i64 a0_1,.string a0_2,.int .i64 a0_3]] w fun e w'=>e=.returned (.int .i64 r)∧Below w.heap.size w w':=by
 have hu48:=Tryz.underlying48;have HB:=sd (Below.refl w.heap.size w);have H:=h;clear h;unfold rules_cond.f at H;replace H:=bdI H;obtain ⟨t114,A2,H⟩:=H;(try dsimp only at H)
 by_cases c3:t114=true
 ·subst c3;rw [if_pos rfl] at H;have HC4:=sd H;clear H;go_enter Tryz.func23,Tryz.ntmps23
  go_upto_block 0 with (first | ((with_reducible refine gate_dst (N:=1) rfl ?_);refine bxA 1 #[.int .i64 a0_0,.int .i64 a0_1,.string a0_2,.int .i64 a0_3] 48 ?_;intro gb113 hg w5 hbox hb;have BK113:=sd (hbox);have GW113:=gem hg HB;have GE113:=GW113;replace HB:=hbm HB hb;clear hb hbox hg;obtain ⟨_,_,_,_,_,_,_,_⟩:=bk4 BK113) | (go_at_call 52;(with_reducible refine (rules_suits.calls k a0_0 a0_1 true _ A2.out).mono ?_);rintro e w' ⟨rfl,⟨nd,rfl⟩⟩;(try first | exact ⟨rfl,_,World.drewN_drewN _ _ _⟩ | exact ⟨rfl,_,Eq.trans (World.drewN_drewN _ _ _) (congrArg (World.drewN _) (Nat.add_assoc _ _ _))⟩)))
  repeat (go_quiet (first | ((with_reducible refine gate_dst (N:=1) rfl ?_);refine bxA 1 #[.int .i64 a0_0,.int .i64 a0_1,.string a0_2,.int .i64 a0_3] 48 ?_;intro gb113 hg w5 hbox hb;have BK113:=sd (hbox);have GW113:=gem hg HB;have GE113:=GW113;replace HB:=hbm HB hb;clear hb hbox hg;obtain ⟨_,_,_,_,_,_,_,_⟩:=bk4 BK113) | (go_at_call 52;(with_reducible refine (rules_suits.calls k a0_0 a0_1 true _ A2.out).mono ?_);rintro e w' ⟨rfl,⟨nd,rfl⟩⟩;(try first | exact ⟨rfl,_,World.drewN_drewN _ _ _⟩ | exact ⟨rfl,_,Eq.trans (World.drewN_drewN _ _ _) (congrArg (World.drewN _) (Nat.add_assoc _ _ _))⟩)));go_upto_block 0 with (first | ((with_reducible refine gate_dst (N:=1) rfl ?_);refine bxA 1 #[.int .i64 a0_0,.int .i64 a0_1,.string a0_2,.int .i64 a0_3] 48 ?_;intro gb113 hg w5 hbox hb;have BK113:=sd (hbox);have GW113:=gem hg HB;have GE113:=GW113;replace HB:=hbm HB hb;clear hb hbox hg;obtain ⟨_,_,_,_,_,_,_,_⟩:=bk4 BK113) | (go_at_call 52;(with_reducible refine (rules_suits.calls k a0_0 a0_1 true _ A2.out).mono ?_);rintro e w' ⟨rfl,⟨nd,rfl⟩⟩;(try first | exact ⟨rfl,_,World.drewN_drewN _ _ _⟩ | exact ⟨rfl,_,Eq.trans (World.drewN_drewN _ _ _) (congrArg (World.drewN _) (Nat.add_assoc _ _ _))⟩))))
  (try simp only [Act.put,List.setIfInBounds_toArray,List.set_cons_zero,List.set_cons_succ])
  go_cut [3,4] (fun v3 v4 wc=>∃ (kq:Nat) (x3_3:Bool) (x4_3:Bool),v3=.bool x3_3∧v4=.bool x4_3∧Aside0 (rules_cond.j0 kq x3_3 x4_3=some r)∧Aside0 (kq≤k)∧Aside0 (wc.heap[gb113]?=some (.cells #[.int .i64 a0_0,.int .i64 a0_1,.string a0_2,.int .i64 a0_3] 48 (0,0)))∧Aside0 (Below w.heap.size w wc))
  case first =>
   have H:=HC4.out;clear HC4;replace H:=ifI H;rcases H with ⟨c7,H⟩ | ⟨c7,H⟩
   ·obtain ⟨c7b0,c7b1⟩:=eqI c7;clear c7;(first | rw [c7b0] | (simp only [i64_w,i32_w];rw [c7b0]) | skip)
    replace H:=ifI H;rcases H with ⟨c8,H⟩ | ⟨c8,H⟩
    ·have c8b0:decide (a0_3≤1000000000000)=true:=decide_eq_true c8;clear c8;have H':=sd H;clear H;obtain ⟨_,_,_,_,_,_,_,_⟩:=bk4 BK113;go_wp2
     repeat (go_quiet (fail);try go_wp2)
     go_meet
     case rel=>exact ⟨_,(decide (a0_3 ≥ (-1000000000000))),((a0_2.toList == ([]:List UInt8))),zq7,zq7,H',⟨by first | omega | exact Nat.le_refl _⟩,⟨zq118⟩,⟨zq119⟩⟩
    have c8b0:decide (a0_3≤1000000000000)=false:=decide_eq_false c8;clear c8;have H':=sd H;clear H;obtain ⟨_,_,_,_,_,_,_,_⟩:=bk4 BK113;go_wp2
    repeat (go_quiet (fail);try go_wp2)
    go_meet
    case rel=>exact ⟨_,(false),((a0_2.toList == ([]:List UInt8))),zq7,zq7,H',⟨by first | omega | exact Nat.le_refl _⟩,⟨zq118⟩,⟨zq119⟩⟩
   obtain ⟨c7b0,c7b1⟩:=neI c7;(first | rw [c7b0] | (simp only [i64_w,i32_w];rw [c7b0]) | skip)
   replace H:=ifI H;rcases H with ⟨c11,H⟩ | ⟨c11,H⟩
   ·obtain ⟨c11b0,c11b1⟩:=eqI c11;clear c11;replace H:=ifI H;rcases H with ⟨c12,H⟩ | ⟨c12,H⟩
    ·have c12b0:decide (0≤a0_3)=true:=decide_eq_true c12;clear c12;have H':=sd H;clear H;obtain ⟨_,_,_,_,_,_,_,_⟩:=bk4 BK113;go_wp2
     repeat (go_quiet (fail);try go_wp2)
     go_meet
     case rel=>exact ⟨_,(decide (a0_3≤109572)),((a0_2.toList == ([]:List UInt8))),zq7,zq7,H',⟨by first | omega | exact Nat.le_refl _⟩,⟨zq118⟩,⟨zq119⟩⟩
    have c12b0:decide (0≤a0_3)=false:=decide_eq_false c12;clear c12;have H':=sd H;clear H;obtain ⟨_,_,_,_,_,_,_,_⟩:=bk4 BK113;go_wp2
    repeat (go_quiet (fail);try go_wp2)
    go_meet
    case rel=>exact ⟨_,(false),((a0_2.toList == ([]:List UInt8))),zq7,zq7,H',⟨by first | omega | exact Nat.le_refl _⟩,⟨zq118⟩,⟨zq119⟩⟩
   obtain ⟨c11b0,c11b1⟩:=neI c11;replace H:=ifI H;rcases H with ⟨c15,H⟩ | ⟨c15,H⟩
   ·obtain ⟨c15b0,c15b1⟩:=eqI c15;clear c15;replace H:=bdI H;obtain ⟨t115,A16,H⟩:=H;(try dsimp only at H)
    have H':=sd H;clear H;obtain ⟨_,_,_,_,_,_,_,_⟩:=bk4 BK113;go_wp2_with (first | (go_at_call 53;(with_reducible refine (words_Plain.calls a0_2 t115 _ A16.out).mono ?_);rintro e w' ⟨rfl,⟨nd,rfl⟩⟩;(try first | exact ⟨rfl,_,World.drewN_drewN _ _ _⟩ | exact ⟨rfl,_,Eq.trans (World.drewN_drewN _ _ _) (congrArg (World.drewN _) (Nat.add_assoc _ _ _))⟩)))
    repeat (go_quiet (first | (go_at_call 53;(with_reducible refine (words_Plain.calls a0_2 t115 _ A16.out).mono ?_);rintro e w' ⟨rfl,⟨nd,rfl⟩⟩;(try first | exact ⟨rfl,_,World.drewN_drewN _ _ _⟩ | exact ⟨rfl,_,Eq.trans (World.drewN_drewN _ _ _) (congrArg (World.drewN _) (Nat.add_assoc _ _ _))⟩)));try go_wp2_with (first | (go_at_call 53;(with_reducible refine (words_Plain.calls a0_2 t115 _ A16.out).mono ?_);rintro e w' ⟨rfl,⟨nd,rfl⟩⟩;(try first | exact ⟨rfl,_,World.drewN_drewN _ _ _⟩ | exact ⟨rfl,_,Eq.trans (World.drewN_drewN _ _ _) (congrArg (World.drewN _) (Nat.add_assoc _ _ _))⟩))))
    go_meet
    case rel=>exact ⟨_,((a0_3 == 0)),(t115),zq7,zq7,H',⟨by first | omega | exact Nat.le_refl _⟩,⟨zq118⟩,⟨zq119⟩⟩
   obtain ⟨c15b0,c15b1⟩:=neI c15;replace H:=ifI H;rcases H with ⟨c18,H⟩ | ⟨c18,H⟩
   ·obtain ⟨c18b0,c18b1⟩:=eqI c18;clear c18;replace H:=bdI H;obtain ⟨t116,A19,H⟩:=H;(try dsimp only at H)
    have H':=sd H;clear H;obtain ⟨_,_,_,_,_,_,_,_⟩:=bk4 BK113;go_wp2_with (first | (go_at_call 53;(with_reducible refine (words_Plain.calls a0_2 t116 _ A19.out).mono ?_);rintro e w' ⟨rfl,⟨nd,rfl⟩⟩;(try first | exact ⟨rfl,_,World.drewN_drewN _ _ _⟩ | exact ⟨rfl,_,Eq.trans (World.drewN_drewN _ _ _) (congrArg (World.drewN _) (Nat.add_assoc _ _ _))⟩)))
    repeat (go_quiet (first | (go_at_call 53;(with_reducible refine (words_Plain.calls a0_2 t116 _ A19.out).mono ?_);rintro e w' ⟨rfl,⟨nd,rfl⟩⟩;(try first | exact ⟨rfl,_,World.drewN_drewN _ _ _⟩ | exact ⟨rfl,_,Eq.trans (World.drewN_drewN _ _ _) (congrArg (World.drewN _) (Nat.add_assoc _ _ _))⟩)));try go_wp2_with (first | (go_at_call 53;(with_reducible refine (words_Plain.calls a0_2 t116 _ A19.out).mono ?_);rintro e w' ⟨rfl,⟨nd,rfl⟩⟩;(try first | exact ⟨rfl,_,World.drewN_drewN _ _ _⟩ | exact ⟨rfl,_,Eq.trans (World.drewN_drewN _ _ _) (congrArg (World.drewN _) (Nat.add_assoc _ _ _))⟩))))
    go_meet
    case rel=>exact ⟨_,((a0_3 == 0)),(t116),zq7,zq7,H',⟨by first | omega | exact Nat.le_refl _⟩,⟨zq118⟩,⟨zq119⟩⟩
   obtain ⟨c18b0,c18b1⟩:=neI c18;have H':=sd H;clear H;go_wp2
   repeat (go_quiet (fail);try go_wp2)
   go_meet
   case rel=>exact ⟨_,((a0_3 == 0)),((a0_2.toList == ([]:List UInt8))),zq7,zq7,H',⟨by first | omega | exact Nat.le_refl _⟩,⟨zq118⟩,⟨zq119⟩⟩
  case rest =>
   clear HC4;try clear c1
   try clear c2
   try clear p2
   try clear c3
   try clear c7
   try clear c7b0
   try clear c7b1
   try clear c8
   try clear c8b0
   try clear c11
   try clear c11b0
   try clear c11b1
   try clear c12
   try clear c12b0
   try clear c15
   try clear c15b0
   try clear c15b1
   try clear c18
   try clear c18b0
   try clear c18b1
   try clear hcz10_0
   try clear hcz10_1
   try clear hcz10_2
   try clear hcz10_3
   try clear hcz13_0
   try clear hcz13_1
   try clear hcz13_2
   try clear hcz13_3
   try clear hcz14_0
   try clear hcz14_1
   try clear hcz14_2
   try clear hcz14_3
   try clear hcz17_0
   try clear hcz17_1
   try clear hcz17_2
   try clear hcz17_3
   try clear hcz20_0
   try clear hcz20_1
   try clear hcz20_2
   try clear hcz20_3
   try clear hcz6_0
   try clear hcz6_1
   try clear hcz6_2
   try clear hcz6_3
   try clear hcz9_0
   try clear hcz9_1
   try clear hcz9_2
   try clear hcz9_3
   try clear hfz10_0
   try clear hfz10_1
   try clear hfz10_2
   try clear hfz10_3
   try clear hfz13_0
   try clear hfz13_1
   try clear hfz13_2
   try clear hfz13_3
   try clear hfz14_0
   try clear hfz14_1
   try clear hfz14_2
   try clear hfz14_3
   try clear hfz17_0
   try clear hfz17_1
   try clear hfz17_2
   try clear hfz17_3
   try clear hfz20_0
   try clear hfz20_1
   try clear hfz20_2
   try clear hfz20_3
   try clear hfz6_0
   try clear hfz6_1
   try clear hfz6_2
   try clear hfz6_3
   try clear hfz9_0
   try clear hfz9_1
   try clear hfz9_2
   try clear hfz9_3
   obtain ⟨kq,x3_3,x4_3,rfl,rfl,HA,HJ3,BK113,HB⟩:=hcut
   cases kq with
   | zero=>exact absurd HA.out (by simp [rules_cond.j0])
   | succ kj3 =>
    have H:=HA.out;clear HA;simp only [rules_cond.j0] at H
    by_cases c21:x3_3=true
    ·subst c21;rw [if_pos rfl] at H;by_cases c22:x4_3=true
     ·subst c22;rw [if_pos rfl] at H;obtain rfl:=Option.some.inj H;go_wp2
      repeat (go_quiet (fail);try go_wp2)
      go_ret
      exact ⟨zq4,zq119⟩
     replace c22:=Bool.eq_false_iff.mpr c22;subst c22;rw [if_neg Bool.false_ne_true] at H;obtain rfl:=Option.some.inj H;go_wp2
     repeat (go_quiet (fail);try go_wp2)
     go_ret
     exact ⟨zq4,zq119⟩
    replace c21:=Bool.eq_false_iff.mpr c21;subst c21;rw [if_neg Bool.false_ne_true] at H;obtain rfl:=Option.some.inj H;go_wp2
    repeat (go_quiet (fail);try go_wp2)
    go_ret
    exact ⟨zq4,zq119⟩
 replace c3:=Bool.eq_false_iff.mpr c3;subst c3;rw [if_neg Bool.false_ne_true] at H;obtain rfl:=Option.some.inj H;go_enter Tryz.func23,Tryz.ntmps23
 go_wp2_with (first | ((with_reducible refine gate_dst (N:=1) rfl ?_);refine bxA 1 #[.int .i64 a0_0,.int .i64 a0_1,.string a0_2,.int .i64 a0_3] 48 ?_;intro gb113 hg w23 hbox hb;have BK113:=sd (hbox);have GW113:=gem hg HB;have GE113:=GW113;replace HB:=hbm HB hb;clear hb hbox hg;obtain ⟨_,_,_,_,_,_,_,_⟩:=bk4 BK113) | (go_at_call 52;(with_reducible refine (rules_suits.calls k a0_0 a0_1 false _ A2.out).mono ?_);rintro e w' ⟨rfl,⟨nd,rfl⟩⟩;(try first | exact ⟨rfl,_,World.drewN_drewN _ _ _⟩ | exact ⟨rfl,_,Eq.trans (World.drewN_drewN _ _ _) (congrArg (World.drewN _) (Nat.add_assoc _ _ _))⟩)))
 repeat (go_quiet (first | ((with_reducible refine gate_dst (N:=1) rfl ?_);refine bxA 1 #[.int .i64 a0_0,.int .i64 a0_1,.string a0_2,.int .i64 a0_3] 48 ?_;intro gb113 hg w23 hbox hb;have BK113:=sd (hbox);have GW113:=gem hg HB;have GE113:=GW113;replace HB:=hbm HB hb;clear hb hbox hg;obtain ⟨_,_,_,_,_,_,_,_⟩:=bk4 BK113) | (go_at_call 52;(with_reducible refine (rules_suits.calls k a0_0 a0_1 false _ A2.out).mono ?_);rintro e w' ⟨rfl,⟨nd,rfl⟩⟩;(try first | exact ⟨rfl,_,World.drewN_drewN _ _ _⟩ | exact ⟨rfl,_,Eq.trans (World.drewN_drewN _ _ _) (congrArg (World.drewN _) (Nat.add_assoc _ _ _))⟩)));try go_wp2_with (first | ((with_reducible refine gate_dst (N:=1) rfl ?_);refine bxA 1 #[.int .i64 a0_0,.int .i64 a0_1,.string a0_2,.int .i64 a0_3] 48 ?_;intro gb113 hg w23 hbox hb;have BK113:=sd (hbox);have GW113:=gem hg HB;have GE113:=GW113;replace HB:=hbm HB hb;clear hb hbox hg;obtain ⟨_,_,_,_,_,_,_,_⟩:=bk4 BK113) | (go_at_call 52;(with_reducible refine (rules_suits.calls k a0_0 a0_1 false _ A2.out).mono ?_);rintro e w' ⟨rfl,⟨nd,rfl⟩⟩;(try first | exact ⟨rfl,_,World.drewN_drewN _ _ _⟩ | exact ⟨rfl,_,Eq.trans (World.drewN_drewN _ _ _) (congrArg (World.drewN _) (Nat.add_assoc _ _ _))⟩))))
 go_ret
 exact ⟨zq4,zq119⟩
def days_is.f (a0:Int):Option (Bool):=if a0 ≥ 0 then (some (decide (a0≤109572))) else (some false)
theorem days_is.calls (a0:Int) (r:Bool) (w:World) (h:days_is.f a0=some r) :
  Calls Tryz.prog 132 #[.int .i64 a0] w fun e w'=>e=.returned (.bool r)∧Drawn0 w w':=by
 have H:=h;clear h;unfold days_is.f at H;replace H:=ifI H;rcases H with ⟨c2,H⟩ | ⟨c2,H⟩
 ·have c2b0:decide (0≤a0)=true:=decide_eq_true c2;clear c2;obtain rfl:=Option.some.inj H;go_enter Tryz.func132,Tryz.ntmps132
  go_wp2
  go_ret
  exact ⟨zq7,zq16⟩
 have c2b0:decide (0≤a0)=false:=decide_eq_false c2;clear c2;obtain rfl:=Option.some.inj H;go_enter Tryz.func132,Tryz.ntmps132
 go_wp2
 go_ret
 exact ⟨zq7,zq16⟩
def days_Date.f (k:Nat) (a0:Int):Option (Int×Int×Int×Int):=(days_is.f a0).bind fun t164=>(if t164=true then (days_Date.l0 k a0 (wrap64 (1900+(wrap64 (Int.tdiv a0 366)))) 0 0) else (some (0,0,0,11)))
def words_nameEnd.l0:Nat→ByteArray→Int→Option (Int)
 | 0,_,_=>none
 | k+1,x0,x1=>if x1 < (x0.size:Int) then (if 0≤x1 then ((words_letter.f (bt x0 x1)).bind fun t208=>(if t208=true then (words_nameEnd.l0 k x0 (wrap64 (x1+1))) else ((words_digit.f (bt x0 x1)).bind fun t209=>(if t209=true then (words_nameEnd.l0 k x0 (wrap64 (x1+1))) else (some x1))))) else (none)) else (some x1)
def words_nameEnd.f (k:Nat) (a0:ByteArray) (a1:Int):Option (Int):=words_nameEnd.l0 k a0 a1
theorem words_nameEnd.calls (k:Nat) (a0:ByteArray) (a1 r:Int) (w:World) (h:words_nameEnd.f k a0 a1=some r) :
  Calls Tryz.prog 106 #[.string a0,.int .i64 a1] w fun e w'=>e=.returned (.int .i64 r)∧Drawn0 w w':=by
 have H:=h;clear h;unfold words_nameEnd.f at H;have H':=sd H;clear H;go_enter Tryz.func106,Tryz.ntmps106
 go_wp2
 go_loopg [1] k (fun kq v1 w'=>∃ (x1_1:Int),v1=.int .i64 x1_1∧Aside0 (words_nameEnd.l0 kq a0 x1_1=some r)∧Aside0 (kq≤k)∧Drawn0 w w')
 case atStart=>exact ⟨(a1),zq7,H',⟨Nat.le_refl _⟩,zq16⟩
 case round =>
  clear H';try clear c1
  try clear p2
  obtain ⟨x1_1,rfl,HA,HK1,⟨m1,rfl⟩⟩:=hrel
  cases gk with
  | zero=>exact absurd HA.out (by simp [words_nameEnd.l0])
  | succ k1 =>
   have H:=HA.out;clear HA;simp only [words_nameEnd.l0] at H
   replace H:=ifI H;rcases H with ⟨c3,H⟩ | ⟨c3,H⟩
   ·have c3b0:decide (x1_1 < (a0.size:Int))=true:=decide_eq_true c3;clear c3;replace H:=ifI H;rcases H with ⟨c4,H⟩ | ⟨c4,H⟩
    ·have c4b0:decide (0≤x1_1)=true:=decide_eq_true c4;clear c4;replace H:=bdI H;obtain ⟨t208,A6,H⟩:=H;(try dsimp only at H)
     by_cases c7:t208=true
     ·subst c7;rw [if_pos rfl] at H;have H':=sd H;clear H;have p5:0≤(x1_1:Int):=od;have q5:x1_1 < (a0.size:Int):=od;have hx5:=bt_at a0 x1_1;replace p5:=eq_true p5;replace q5:=eq_true q5;go_wp2_with (first | (go_at_call 49;(with_reducible refine (words_letter.calls (bt a0 x1_1) true _ A6.out).mono ?_);rintro e w' ⟨rfl,⟨nd,rfl⟩⟩))
      go_roundg k1
      case measure=>have:=HK1.out;omega
      case rel=>exact ⟨(wrap64 (x1_1+1)),zq7,H',⟨by have:=HK1.out;omega⟩,zq16⟩
     replace c7:=Bool.eq_false_iff.mpr c7;subst c7;rw [if_neg Bool.false_ne_true] at H;replace H:=bdI H;obtain ⟨t209,A9,H⟩:=H;(try dsimp only at H)
     by_cases c10:t209=true
     ·subst c10;rw [if_pos rfl] at H;have H':=sd H;clear H;have p5:0≤(x1_1:Int):=od;have q5:x1_1 < (a0.size:Int):=od;have hx5:=bt_at a0 x1_1;replace p5:=eq_true p5;replace q5:=eq_true q5;go_wp2_with (first | (go_at_call 49;(with_reducible refine (words_letter.calls (bt a0 x1_1) false _ A6.out).mono ?_);rintro e w' ⟨rfl,⟨nd,rfl⟩⟩;have p8:0≤(x1_1:Int):=od;have q8:x1_1 < (a0.size:Int):=od;have hx8:=bt_at a0 x1_1;replace p8:=eq_true p8;replace q8:=eq_true q8) | (go_at_call 50;(with_reducible refine (words_digit.calls (bt a0 x1_1) true _ A9.out).mono ?_);rintro e w' ⟨rfl,⟨nd,rfl⟩⟩))
      go_roundg k1
      case measure=>have:=HK1.out;omega
      case rel=>exact ⟨(wrap64 (x1_1+1)),zq7,H',⟨by have:=HK1.out;omega⟩,zq16⟩
     replace c10:=Bool.eq_false_iff.mpr c10;subst c10;rw [if_neg Bool.false_ne_true] at H;obtain rfl:=Option.some.inj H;have p5:0≤(x1_1:Int):=od;have q5:x1_1 < (a0.size:Int):=od;have hx5:=bt_at a0 x1_1;replace p5:=eq_true p5;replace q5:=eq_true q5;go_wp2_with (first | (go_at_call 49;(with_reducible refine (words_letter.calls (bt a0 x1_1) false _ A6.out).mono ?_);rintro e w' ⟨rfl,⟨nd,rfl⟩⟩;have p8:0≤(x1_1:Int):=od;have q8:x1_1 < (a0.size:Int):=od;have hx8:=bt_at a0 x1_1;replace p8:=eq_true p8;replace q8:=eq_true q8) | (go_at_call 50;(with_reducible refine (words_digit.calls (bt a0 x1_1) false _ A9.out).mono ?_);rintro e w' ⟨rfl,⟨nd,rfl⟩⟩))
     go_ret
     exact ⟨zq7,zq16⟩
    exact absurd H (by simp)
   have c3b0:decide (x1_1 < (a0.size:Int))=false:=decide_eq_false c3;clear c3;obtain rfl:=Option.some.inj H;go_wp2
   go_ret
   exact ⟨zq7,zq16⟩
def words_numberEnd.l0:Nat→ByteArray→Int→Option Int
  | 0,_,_=>none
  | k+1,s,i=>if i < (s.size:Int) then
      (if bt s i=46∨bt s i=47∨bt s i=45 then (words_digitAt.f s (i+1)).bind fun b=>if b=true then words_numberEnd.l0 k s (i+1) else some i
       else (words_letter.f (bt s i)).bind fun b=>if b=true then words_numberEnd.l0 k s (i+1) else (words_digit.f (bt s i)).bind fun d=>if d=true then words_numberEnd.l0 k s (i+1) else some i)
      else some i
def words_numberEnd.f (k:Nat) (s:ByteArray) (i:Int):Option Int:=if 0≤i∧i≤140737488351232∧s.size≤140737488351232 then words_numberEnd.l0 k s (i+1) else none
theorem words_numberEnd.calls (k:Nat) (a0:ByteArray) (a1 r:Int) (w:World) (h:words_numberEnd.f k a0 a1=some r) :
    Calls Tryz.prog 108 #[.string a0,.int .i64 a1] w fun e w'=>e=.returned (.int .i64 r)∧Drawn0 w w':=by
  have HPost:∀ W,Drawn0 w W→(fun (e:Ending) (w':World)=>e=.returned (.int .i64 r)∧Drawn0 w w') (.returned (.int .i64 r)) W:=fun W hW=>⟨rfl,hW⟩
  generalize (fun (e:Ending) (w':World)=>e=.returned (.int .i64 r)∧Drawn0 w w')=Post at HPost ⊢;have HP:=sd HPost;clear HPost;unfold words_numberEnd.f at h;split at h
  case isFalse=>cases h
  rename_i hb
  obtain ⟨hb0,hb1,hs⟩:=hb;obtain ⟨n,rfl⟩:=Int.eq_ofNat_of_zero_le hb0;have hn:n≤140737488351232:=by omega
  clear hb0 hb1;have H:=sd h;clear h;go_enter Tryz.func108,Tryz.ntmps108
  go_wp2_with fail
  go_step3
  go_wp2_with fail
  go_step3
  go_wp2_with fail
  go_loopg [1] k (fun kq v1 wr=>∃ (i:Nat),v1=.int .i64 (i:Int)∧i≤281474976710656∧Aside0 (words_numberEnd.l0 kq a0 (i:Int)=some r)∧Aside0 (Drawn0 w wr))
  case atStart=>exact ⟨n+1,by go_num,by omega,⟨by rw [show ((n+1:Nat):Int)=(n:Int)+1 by omega];exact H.out⟩,⟨Drawn0.refl _⟩⟩
  case round =>
    clear H;obtain ⟨i,rfl,hi,HA,HD⟩:=hrel
    cases gk with
    | zero=>exact absurd HA.out (by simp [words_numberEnd.l0])
    | succ k1 =>
      have H:=HA.out;clear HA;rw [words_numberEnd.l0] at H;by_cases hlt:i < a0.size
      · rw [if_pos (by omega)] at H
        have hbt:bt a0 (i:Int)=(a0[i].toNat:Int):=(bt_at a0 i hlt).symm;rw [hbt,show (i:Int)+1=((i+1:Nat):Int) by omega] at H;obtain ⟨c,hc⟩:∃ c,a0[i]=c:=⟨_,rfl⟩
        rw [hc] at H;clear hbt;have hib:decide ((i:Int) < (a0.size:Int))=true:=decide_eq_true (by omega);by_cases hsep:(c.toNat:Int)=46∨(c.toNat:Int)=47∨(c.toNat:Int)=45
        · rw [if_pos hsep] at H
          replace H:=Option.bind_eq_some_iff.mp H;obtain ⟨b,hb,H⟩:=H;have CA:=sd (fun W=>words_digitAt.calls a0 ((i+1:Nat):Int) b W hb);rw [show ((i+1:Nat):Int)=(i:Int)+1 by omega] at CA;clear hb
          have sep:(((c.toNat:Int) == 46)=true)∨((((c.toNat:Int) == 46)=false)∧((c.toNat:Int) == 47)=true)∨((((c.toNat:Int) == 46)=false)∧(((c.toNat:Int) == 47)=false)∧((c.toNat:Int) == 45)=true):=by
            simp only [beq_iff_eq,beq_eq_false_iff_ne];omega
          clear hsep
          cases b
          · rw [if_neg (by decide)] at H
            rcases sep with s1 | ⟨s1,s2⟩ | ⟨s1,s2,s3⟩
            · obtain rfl:=Option.some.inj H
              go_wp2_with (first | (go_at_call 49;(with_reducible refine (CL.out _).mono ?_);rintro e w' ⟨rfl,nd,rfl⟩) | (go_at_call 50;(with_reducible refine (CD.out _).mono ?_);rintro e w' ⟨rfl,nd,rfl⟩) | (go_at_call 107;(with_reducible refine (CA.out _).mono ?_);rintro e w' ⟨rfl,nd,rfl⟩))
              (try go_ret)
              exact HP.out _ zq131
            · obtain rfl:=Option.some.inj H
              go_wp2_with (first | (go_at_call 49;(with_reducible refine (CL.out _).mono ?_);rintro e w' ⟨rfl,nd,rfl⟩) | (go_at_call 50;(with_reducible refine (CD.out _).mono ?_);rintro e w' ⟨rfl,nd,rfl⟩) | (go_at_call 107;(with_reducible refine (CA.out _).mono ?_);rintro e w' ⟨rfl,nd,rfl⟩))
              (try go_ret)
              exact HP.out _ zq131
            · obtain rfl:=Option.some.inj H
              go_wp2_with (first | (go_at_call 49;(with_reducible refine (CL.out _).mono ?_);rintro e w' ⟨rfl,nd,rfl⟩) | (go_at_call 50;(with_reducible refine (CD.out _).mono ?_);rintro e w' ⟨rfl,nd,rfl⟩) | (go_at_call 107;(with_reducible refine (CA.out _).mono ?_);rintro e w' ⟨rfl,nd,rfl⟩))
              (try go_ret)
              exact HP.out _ zq131
          · rw [if_pos rfl] at H
            rcases sep with s1 | ⟨s1,s2⟩ | ⟨s1,s2,s3⟩
            · have HA:=sd H
              clear H;go_wp2_with (first | (go_at_call 49;(with_reducible refine (CL.out _).mono ?_);rintro e w' ⟨rfl,nd,rfl⟩) | (go_at_call 50;(with_reducible refine (CD.out _).mono ?_);rintro e w' ⟨rfl,nd,rfl⟩) | (go_at_call 107;(with_reducible refine (CA.out _).mono ?_);rintro e w' ⟨rfl,nd,rfl⟩))
              go_roundg k1
              case measure=>omega
              case rel=>exact ⟨i+1,by go_num,by omega,HA,⟨zq131⟩⟩
            · have HA:=sd H
              clear H;go_wp2_with (first | (go_at_call 49;(with_reducible refine (CL.out _).mono ?_);rintro e w' ⟨rfl,nd,rfl⟩) | (go_at_call 50;(with_reducible refine (CD.out _).mono ?_);rintro e w' ⟨rfl,nd,rfl⟩) | (go_at_call 107;(with_reducible refine (CA.out _).mono ?_);rintro e w' ⟨rfl,nd,rfl⟩))
              go_roundg k1
              case measure=>omega
              case rel=>exact ⟨i+1,by go_num,by omega,HA,⟨zq131⟩⟩
            · have HA:=sd H
              clear H;go_wp2_with (first | (go_at_call 49;(with_reducible refine (CL.out _).mono ?_);rintro e w' ⟨rfl,nd,rfl⟩) | (go_at_call 50;(with_reducible refine (CD.out _).mono ?_);rintro e w' ⟨rfl,nd,rfl⟩) | (go_at_call 107;(with_reducible refine (CA.out _).mono ?_);rintro e w' ⟨rfl,nd,rfl⟩))
              go_roundg k1
              case measure=>omega
              case rel=>exact ⟨i+1,by go_num,by omega,HA,⟨zq131⟩⟩
        rw [if_neg hsep] at H;have s1:((c.toNat:Int) == 46)=false:=beq_eq_false_iff_ne.mpr (fun h=>hsep (.inl h));have s2:((c.toNat:Int) == 47)=false:=beq_eq_false_iff_ne.mpr (fun h=>hsep (.inr (.inl h)));have s3:((c.toNat:Int) == 45)=false:=beq_eq_false_iff_ne.mpr (fun h=>hsep (.inr (.inr h)));clear hsep;replace H:=Option.bind_eq_some_iff.mp H;obtain ⟨b,hb,H⟩:=H;have CL:=sd (fun W=>words_letter.calls (c.toNat:Int) b W hb);clear hb
        cases b
        · rw [if_neg (by decide)] at H
          replace H:=Option.bind_eq_some_iff.mp H;obtain ⟨d,hd,H⟩:=H;have CD:=sd (fun W=>words_digit.calls (c.toNat:Int) d W hd);clear hd
          cases d
          · rw [if_neg (by decide)] at H
            obtain rfl:=Option.some.inj H;go_wp2_with (first | (go_at_call 49;(with_reducible refine (CL.out _).mono ?_);rintro e w' ⟨rfl,nd,rfl⟩) | (go_at_call 50;(with_reducible refine (CD.out _).mono ?_);rintro e w' ⟨rfl,nd,rfl⟩) | (go_at_call 107;(with_reducible refine (CA.out _).mono ?_);rintro e w' ⟨rfl,nd,rfl⟩))
            (try go_ret)
            exact HP.out _ zq131
          · rw [if_pos rfl] at H
            have HA:=sd H;clear H;go_wp2_with (first | (go_at_call 49;(with_reducible refine (CL.out _).mono ?_);rintro e w' ⟨rfl,nd,rfl⟩) | (go_at_call 50;(with_reducible refine (CD.out _).mono ?_);rintro e w' ⟨rfl,nd,rfl⟩) | (go_at_call 107;(with_reducible refine (CA.out _).mono ?_);rintro e w' ⟨rfl,nd,rfl⟩))
            go_roundg k1
            case measure=>omega
            case rel=>exact ⟨i+1,by go_num,by omega,HA,⟨zq131⟩⟩
        · rw [if_pos rfl] at H
          have HA:=sd H;clear H;go_wp2_with (first | (go_at_call 49;(with_reducible refine (CL.out _).mono ?_);rintro e w' ⟨rfl,nd,rfl⟩) | (go_at_call 50;(with_reducible refine (CD.out _).mono ?_);rintro e w' ⟨rfl,nd,rfl⟩) | (go_at_call 107;(with_reducible refine (CA.out _).mono ?_);rintro e w' ⟨rfl,nd,rfl⟩))
          go_roundg k1
          case measure=>omega
          case rel=>exact ⟨i+1,by go_num,by omega,HA,⟨zq131⟩⟩
      rw [if_neg (by omega)] at H;obtain rfl:=Option.some.inj H;go_wp2_with fail
      (try go_ret)
      exact HP.out _ zq131
def words_word.h (k:Nat) (s:ByteArray) (i:Int):Option (Int×ByteArray×Int×Int×Int×Int) :=
 if bt s i=34 then (words_quoted.f k s i).bind fun q=>if q.2.2.2≠0 then some (3,q.1,i,q.2.1,q.2.2.1,q.2.2.2) else
  some (3,q.1,i,q.2.1,if 60 < (q.1.size:Int) then i else q.2.2.1,if 60 < (q.1.size:Int) then 9 else 0)
 else (words_signEnd.f k s i).bind fun e=>if e=i then some (4,⟨#[]⟩,i,e,i,5) else words_word.g s i 4 e 60
def words_word.f (k:Nat) (s:ByteArray) (i:Int):Option (Int×ByteArray×Int×Int×Int×Int) :=
 if 0≤i∧i < (s.size:Int)∧s.size≤140737488351232 then
  (words_letter.f (bt s i)).bind fun l=>if l=true then (words_nameEnd.f k s i).bind fun e=>words_word.g s i 1 e 12 else
  (words_digit.f (bt s i)).bind fun d=>if d=true then (words_numberEnd.f k s i).bind fun e=>words_word.g s i 2 e 60 else
  if bt s i=45 then (words_digitAt.f s (i+1)).bind fun b=>if b=true then (words_numberEnd.f k s i).bind fun e=>words_word.g s i 2 e 60 else words_word.h k s i
  else words_word.h k s i
 else none
mutual
def rf48_Text.l0:Nat→ByteArray→Int→ByteArray→List (S48)→ByteArray→ByteArray→List (S50)→Option (ByteArray×Int)
 | 0,_,_,_,_,_,_,_=>none
 | k+1,x5,x6,x342000,x342001,x342002,x342003,x342004=>if x6 < (x342001.length:Int) then (if 0≤x6 then (if x6 > 0 then (if x5.size+4≤9223372036854775807 then (rf48_Text.j1 k (x5++(⟨#[32,97,110,100]⟩:ByteArray)) x6 x342000 x342001 x342002 x342003 x342004 ((rd_T48 x342001 x6).f0) ((rd_T48 x342001 x6).f1) ((rd_T48 x342001 x6).f2) ((rd_T48 x342001 x6).f3)) else (none)) else (rf48_Text.j1 k x5 x6 x342000 x342001 x342002 x342003 x342004 ((rd_T48 x342001 x6).f0) ((rd_T48 x342001 x6).f1) ((rd_T48 x342001 x6).f2) ((rd_T48 x342001 x6).f3))) else (none)) else (if x5.size+6≤9223372036854775807 then (if (x5++(⟨#[32,116,104,101,110,32]⟩:ByteArray)).size+x342002.size≤9223372036854775807 then (if x342003.toList=([]:List UInt8) then (rf48_Text.j3 k ((x5++(⟨#[32,116,104,101,110,32]⟩:ByteArray))++x342002) x342000 x342001 x342002 x342003 x342004) else (if ((x5++(⟨#[32,116,104,101,110,32]⟩:ByteArray))++x342002).size+7≤9223372036854775807 then (if (((x5++(⟨#[32,116,104,101,110,32]⟩:ByteArray))++x342002)++(⟨#[32,112,97,114,116,121,32]⟩:ByteArray)).size+x342003.size≤9223372036854775807 then (rf48_Text.j3 k ((((x5++(⟨#[32,116,104,101,110,32]⟩:ByteArray))++x342002)++(⟨#[32,112,97,114,116,121,32]⟩:ByteArray))++x342003) x342000 x342001 x342002 x342003 x342004) else (none)) else (none))) else (none)) else (none))
def rf48_Text.j1:Nat→ByteArray→Int→ByteArray→List (S48)→ByteArray→ByteArray→List (S50)→Int→Int→ByteArray→Int→Option (ByteArray×Int)
 | 0,_,_,_,_,_,_,_,_,_,_,_=>none
 | k+1,x5,x6,x342000,x342001,x342002,x342003,x342004,x345000,x345001,x345002,x345003=>(rf01_Text.f k x345003).bind fun t345=>(if x345000=4 then ((rf04_Text.f k x345003).bind fun bt346=>(rf48_Text.j2 k x5 x6 bt346.1 x342000 x342001 x342002 x342003 x342004 x345000 x345001 x345002 x345003)) else (rf48_Text.j2 k x5 x6 t345 x342000 x342001 x342002 x342003 x342004 x345000 x345001 x345002 x345003))
def rf48_Text.j2:Nat→ByteArray→Int→ByteArray→ByteArray→List (S48)→ByteArray→ByteArray→List (S50)→Int→Int→ByteArray→Int→Option (ByteArray×Int)
 | 0,_,_,_,_,_,_,_,_,_,_,_,_=>none
 | k+1,x5,x6,x8,x342000,x342001,x342002,x342003,x342004,x345000,x345001,x345002,x345003=>(rf48_number.f x345000).bind fun t348=>(if t348=true then (if x5.size+1≤9223372036854775807 then ((rf48_field.f x345000).bind fun t349=>(if (x5++(⟨#[32]⟩:ByteArray)).size+t349.size≤9223372036854775807 then (if ((x5++(⟨#[32]⟩:ByteArray))++t349).size+1≤9223372036854775807 then ((rf48_operator.f x345001).bind fun t350=>(if (((x5++(⟨#[32]⟩:ByteArray))++t349)++(⟨#[32]⟩:ByteArray)).size+t350.size≤9223372036854775807 then (if ((((x5++(⟨#[32]⟩:ByteArray))++t349)++(⟨#[32]⟩:ByteArray))++t350).size+1≤9223372036854775807 then (if (((((x5++(⟨#[32]⟩:ByteArray))++t349)++(⟨#[32]⟩:ByteArray))++t350)++(⟨#[32]⟩:ByteArray)).size+x8.size≤9223372036854775807 then (rf48_Text.l0 k ((((((x5++(⟨#[32]⟩:ByteArray))++t349)++(⟨#[32]⟩:ByteArray))++t350)++(⟨#[32]⟩:ByteArray))++x8) (wrap64 (x6+1)) x342000 x342001 x342002 x342003 x342004) else (none)) else (none)) else (none))) else (none)) else (none))) else (none)) else ((rf06_Quote.f k x345002).bind fun bt351=>(if x5.size+1≤9223372036854775807 then ((rf48_field.f x345000).bind fun t353=>(if (x5++(⟨#[32]⟩:ByteArray)).size+t353.size≤9223372036854775807 then (if ((x5++(⟨#[32]⟩:ByteArray))++t353).size+1≤9223372036854775807 then ((rf48_operator.f x345001).bind fun t354=>(if (((x5++(⟨#[32]⟩:ByteArray))++t353)++(⟨#[32]⟩:ByteArray)).size+t354.size≤9223372036854775807 then (if ((((x5++(⟨#[32]⟩:ByteArray))++t353)++(⟨#[32]⟩:ByteArray))++t354).size+1≤9223372036854775807 then (if (((((x5++(⟨#[32]⟩:ByteArray))++t353)++(⟨#[32]⟩:ByteArray))++t354)++(⟨#[32]⟩:ByteArray)).size+bt351.1.size≤9223372036854775807 then (rf48_Text.l0 k ((((((x5++(⟨#[32]⟩:ByteArray))++t353)++(⟨#[32]⟩:ByteArray))++t354)++(⟨#[32]⟩:ByteArray))++bt351.1) (wrap64 (x6+1)) x342000 x342001 x342002 x342003 x342004) else (none)) else (none)) else (none))) else (none)) else (none))) else (none))))
def rf48_Text.j3:Nat→ByteArray→ByteArray→List (S48)→ByteArray→ByteArray→List (S50)→Option (ByteArray×Int)
 | 0,_,_,_,_,_,_=>none
 | k+1,x5,x342000,x342001,x342002,x342003,x342004=>rf48_Text.l1 k x5 0 x342000 x342001 x342002 x342003 x342004
def rf48_Text.l1:Nat→ByteArray→Int→ByteArray→List (S48)→ByteArray→ByteArray→List (S50)→Option (ByteArray×Int)
 | 0,_,_,_,_,_,_,_=>none
 | k+1,x5,x9,x342000,x342001,x342002,x342003,x342004=>if x9 < (x342004.length:Int) then (if x5.size+5≤9223372036854775807 then (if 0≤x9 then (if (x5++(⟨#[32,116,97,103,32]⟩:ByteArray)).size+((rd_T50 x342004 x9).f0).size≤9223372036854775807 then (if ((x5++(⟨#[32,116,97,103,32]⟩:ByteArray))++((rd_T50 x342004 x9).f0)).size+3≤9223372036854775807 then (if (((x5++(⟨#[32,116,97,103,32]⟩:ByteArray))++((rd_T50 x342004 x9).f0))++(⟨#[32,61,32]⟩:ByteArray)).size+((rd_T50 x342004 x9).f1).size≤9223372036854775807 then (rf48_Text.l1 k ((((x5++(⟨#[32,116,97,103,32]⟩:ByteArray))++((rd_T50 x342004 x9).f0))++(⟨#[32,61,32]⟩:ByteArray))++((rd_T50 x342004 x9).f1)) (wrap64 (x9+1)) x342000 x342001 x342002 x342003 x342004) else (none)) else (none)) else (none)) else (none)) else (none)) else (if (x5.size:Int) > 400 then (some ((⟨#[]⟩:ByteArray),9)) else (some (x5,0)))
end
def rf48_Text.f (k:Nat) (a0_0:ByteArray) (l0_1:List (S48)) (a0_2:ByteArray) (a0_3:ByteArray) (l0_4:List (S50)):Option (ByteArray×Int):=(rf48_Check.f k a0_0 l0_1 a0_2 a0_3 l0_4).bind fun t342=>(if t342=0 then (if 5+a0_0.size≤9223372036854775807 then (if ((⟨#[114,117,108,101,32]⟩:ByteArray)++a0_0).size+3≤9223372036854775807 then (rf48_Text.l0 k (((⟨#[114,117,108,101,32]⟩:ByteArray)++a0_0)++(⟨#[32,105,102]⟩:ByteArray)) 0 a0_0 l0_1 a0_2 a0_3 l0_4) else (none)) else (none)) else (some ((⟨#[]⟩:ByteArray),t342)))
theorem rf48_Text.tab16:rtab .any (opsOf Tryz.f17 16)=rf48_Text.T16:=by kernel_rfl
theorem rf48_Text.tab23:rtab .any (opsOf Tryz.f17 23)=rf48_Text.T23:=by kernel_rfl
end Go.Proofs.YtkbgkekegjfkfaaGreatDoor.A
namespace Go.Proofs.YtkbgkekegjfkfaaGreatDoor.A
open Go.RowKit B WW WL WM
theorem zq124 {P:Prop} (h:P:=by rw [← hq_];exact (by (with_reducible repeat (first | refine blk_drewN ?_ _ | refine blk_drew ?_ | refine blk_alloc ?_ _));exact BK163.out)):P:=h
theorem zq127 {P:Prop} (h:P:=by (with_reducible repeat (first | refine blk_drewN ?_ _ | refine blk_drew ?_ | refine blk_alloc ?_ _));exact BK163.out):P:=h
end Go.Proofs.YtkbgkekegjfkfaaGreatDoor.A
namespace Go.Proofs.YtkbgkekegjfkfaaGreatDoor.B
open Go.Lib Go.RowKit WW
theorem TabAt.below {g:Nat} {l:List Int} {w w':World} (h:TabAt g l w) (hb:Below w.heap.size w w'):TabAt g l w':=by
  refine ⟨Nat.lt_of_lt_of_le h.1 hb.size,fun i hi=>?_⟩;rw [← h.2 i hi];exact hb.cell (p:=⟨g,i,none⟩) h.1
theorem SpAt.below {w w':World} (h:SpAt w) (hb:Below w.heap.size w w'):SpAt w' :=
  ⟨Nat.lt_of_lt_of_le h.1 hb.size,fun c hc=>by rw [← h.2 c hc];exact hb.cell (p:=⟨0,c,none⟩) h.1⟩
theorem MxAt.below {w w':World} (h:MxAt w) (hb:Below w.heap.size w w'):MxAt w':=by
  obtain ⟨h1,m,hm⟩:=h;exact ⟨Nat.lt_of_lt_of_le h1 hb.size,m,by rw [← hm];exact hb.cell (p:=⟨2,0,none⟩) h1⟩
theorem gl_below {w w':World} (h:Gl w) (hb:Below w.heap.size w w'):Gl w':=⟨TabAt.below h.1 hb,h.2.1.below hb,h.2.2.below hb⟩
end Go.Proofs.YtkbgkekegjfkfaaGreatDoor.B
namespace Go.Proofs.YtkbgkekegjfkfaaGreatDoor.A
open Go.RowKit B WW WL WM
attribute [local go_sem] max2_int min2_int max_two min_two max_three min_three max_four min_four
set_option maxHeartbeats 8000000
set_option maxRecDepth 100000
theorem days_Date.calls (k:Nat) (a0 r1 r2 r3 r4:Int) (w:World) (h:days_Date.f k a0=some (r1,r2,r3,r4)) (hG:Gl w) :
  Calls Tryz.prog 101 #[.int .i64 a0] w fun e w'=>e=.returned (.tuple #[.agg #[.int .i64 r1,.int .i64 r2,.int .i64 r3],.int .i64 r4])∧Below w.heap.size w w':=by
 have HG:=sd hG;clear hG;have hu112:=Tryz.underlying112;have HB:=sd (Below.refl w.heap.size w);have H:=h;clear h;unfold days_Date.f at H;replace H:=bdI H;obtain ⟨t164,A2,H⟩:=H;(try dsimp only at H)
 by_cases c3:t164=true
 ·subst c3;rw [if_pos rfl] at H;have HC4:=sd H;clear H;go_enter Tryz.func101,Tryz.ntmps101
  go_upto_block 0 with (first | ((with_reducible refine gate_dst (N:=2) rfl ?_);refine bxA 2 #[.int .i64 0,.int .i64 0,.int .i64 0] 112 ?_;intro gb163 hg w5 hbox hb;have BK163:=sd (hbox);have GW163:=gem hg HB;have GE163:=GW163;replace HB:=hbm HB hb;clear hb hbox hg) | ((with_reducible refine gate_callee (f:=132) rfl ?_);refine gL 5 Tryz.func132 #[.int .i64 a0] ?_;(with_reducible refine (days_is.calls a0 true _ A2.out).mono ?_);rintro e w' ⟨rfl,⟨nd,rfl⟩⟩;refine ⟨_,rfl,?_⟩;(try (rw [drewN_self w5];generalize hq_:World.drewN w5 _=w5;have n0_:Aside0 (w5.heap[gb163]?=some (.cells #[.int .i64 0,.int .i64 0,.int .i64 0] 112 (0,0))):=⟨zq124⟩;have n1_:Aside0 (Below w.heap.size w w5):=⟨zq125⟩;clear BK163 HB hq_;have BK163:=n0_;have HB:=n1_;clear n0_ n1_;(try (have hdBK163_0:=(blk_cell BK163.out 0).trans rfl;have heBK163_0:=blk_frozen BK163.out 0;have hdBK163_1:=(blk_cell BK163.out 1).trans rfl;have heBK163_1:=blk_frozen BK163.out 1;have hdBK163_2:=(blk_cell BK163.out 2).trans rfl;have heBK163_2:=blk_frozen BK163.out 2))));obtain ⟨_,_,_,_,_,_⟩:=bk3 BK163))
  (try simp only [Act.put,List.setIfInBounds_toArray,List.set_cons_zero,List.set_cons_succ])
  go_cut [] (fun wc=>∃ (kq:Nat) (x164000_3:Int),Aside0 (days_Date.j1 kq a0 x164000_3 0 0=some (r1,r2,r3,r4))∧Aside0 (kq≤k)∧Aside0 (wc.heap[gb163]?=some (.cells #[.int .i64 x164000_3,.int .i64 0,.int .i64 0] 112 (0,0)))∧Aside0 (Below w.heap.size w wc))
  case first =>
   have H:=HC4.out;clear HC4;have H':=sd H;clear H;go_wp2
   go_loopg [] k (fun kq w'=>∃ (x164000_1:Int),Aside0 (days_Date.l0 kq a0 x164000_1 0 0=some (r1,r2,r3,r4))∧Aside0 (kq≤k)∧Aside0 (w'.heap[gb163]?=some (.cells #[.int .i64 x164000_1,.int .i64 0,.int .i64 0] 112 (0,0)))∧Aside0 (Below w.heap.size w w'))
   case atStart=>exact ⟨(wrap64 (1900+(wrap64 (Int.tdiv a0 366)))),H',⟨Nat.le_refl _⟩,⟨by (with_reducible repeat (first | refine blk_drewN ?_ _ | refine blk_drew ?_ | refine blk_alloc ?_ _));refine blk_put (cs:=#[.int .i64 0,.int .i64 0,.int .i64 0]) ?_ 0 _ rfl;(with_reducible repeat (first | refine blk_drewN ?_ _ | refine blk_drew ?_ | refine blk_alloc ?_ _));exact BK163.out⟩,⟨zq126⟩⟩
   case round =>
    clear H';try clear c1
    try clear p2
    try clear c3
    try clear p6
    try clear hcz6_0
    try clear hcz6_1
    try clear hcz6_2
    try clear hfz6_0
    try clear hfz6_1
    try clear hfz6_2
    obtain ⟨x164000_1,HA,HK1,BK163,HB⟩:=hrel
    cases gk with
    | zero=>exact absurd HA.out (by simp [days_Date.l0])
    | succ k1 =>
     have H:=HA.out;clear HA;simp only [days_Date.l0] at H
     replace H:=ifI H;rcases H with ⟨c7,H⟩ | ⟨c7,H⟩
     ·have c7b0:decide (x164000_1 < 2199)=true:=decide_eq_true c7;clear c7;(first | rw [c7b0] | (simp only [i64_w,i32_w];rw [c7b0]) | skip)
      replace H:=bdI H;obtain ⟨t165,A8,H⟩:=H;(try dsimp only at H)
      replace H:=ifI H;rcases H with ⟨c9,H⟩ | ⟨c9,H⟩
      ·have c9b0:decide (t165≤a0)=true:=decide_eq_true c9;clear c9;have H':=sd H;clear H;obtain ⟨_,_,_,_,_,_⟩:=bk3 BK163;go_wp2_with (first | (go_at_call 133;(with_reducible refine (days_before.calls (wrap64 (x164000_1+1)) t165 _ A8.out).mono ?_);rintro e w' ⟨rfl,⟨nd,rfl⟩⟩;(try (rw [drewN_self wr];generalize hq_:World.drewN wr _=wr;have n0_:Aside0 (wr.heap[gb163]?=some (.cells #[.int .i64 x164000_1,.int .i64 0,.int .i64 0] 112 (0,0))):=⟨zq124⟩;have n1_:Aside0 (Below w.heap.size w wr):=⟨zq125⟩;clear BK163 HB hq_;have BK163:=n0_;have HB:=n1_;clear n0_ n1_;(try (have hdBK163_0:=(blk_cell BK163.out 0).trans rfl;have heBK163_0:=blk_frozen BK163.out 0;have hdBK163_1:=(blk_cell BK163.out 1).trans rfl;have heBK163_1:=blk_frozen BK163.out 1;have hdBK163_2:=(blk_cell BK163.out 2).trans rfl;have heBK163_2:=blk_frozen BK163.out 2))))))
       go_roundg k1
       case measure=>have:=HK1.out;omega
       case rel=>exact ⟨(wrap64 (x164000_1+1)),H',⟨by have:=HK1.out;omega⟩,⟨by (with_reducible repeat (first | refine blk_drewN ?_ _ | refine blk_drew ?_ | refine blk_alloc ?_ _));refine blk_put (cs:=#[.int .i64 x164000_1,.int .i64 0,.int .i64 0]) ?_ 0 _ rfl;(with_reducible repeat (first | refine blk_drewN ?_ _ | refine blk_drew ?_ | refine blk_alloc ?_ _));exact BK163.out⟩,⟨zq126⟩⟩
      have c9b0:decide (t165≤a0)=false:=decide_eq_false c9;clear c9;have H':=sd H;clear H;obtain ⟨_,_,_,_,_,_⟩:=bk3 BK163;go_wp2_with (first | (go_at_call 133;(with_reducible refine (days_before.calls (wrap64 (x164000_1+1)) t165 _ A8.out).mono ?_);rintro e w' ⟨rfl,⟨nd,rfl⟩⟩))
      go_meet
      case rel=>exact ⟨_,(x164000_1),H',⟨zq8⟩,⟨zq127⟩,⟨zq126⟩⟩
     have c7b0:decide (x164000_1 < 2199)=false:=decide_eq_false c7;clear c7;(first | rw [c7b0] | (simp only [i64_w,i32_w];rw [c7b0]) | skip)
     have H':=sd H;clear H;obtain ⟨_,_,_,_,_,_⟩:=bk3 BK163;go_wp2
     go_meet
     case rel=>exact ⟨_,(x164000_1),H',⟨zq8⟩,⟨zq127⟩,⟨zq126⟩⟩
  case rest =>
   clear HC4;try clear c1
   try clear p2
   try clear c3
   try clear p6
   try clear c7
   try clear c7b0
   try clear c9
   try clear c9b0
   try clear c10
   try clear hcz10_0
   try clear hcz10_1
   try clear hcz10_2
   try clear hcz11_0
   try clear hcz11_1
   try clear hcz11_2
   try clear hcz12_0
   try clear hcz12_1
   try clear hcz12_2
   try clear hcz6_0
   try clear hcz6_1
   try clear hcz6_2
   try clear hfz10_0
   try clear hfz10_1
   try clear hfz10_2
   try clear hfz11_0
   try clear hfz11_1
   try clear hfz11_2
   try clear hfz12_0
   try clear hfz12_1
   try clear hfz12_2
   try clear hfz6_0
   try clear hfz6_1
   try clear hfz6_2
   try clear p2
   try clear p6
   obtain ⟨kq,x164000_3,HA,HJ3,BK163,HB⟩:=hcut
   cases kq with
   | zero=>exact absurd HA.out (by simp [days_Date.j1])
   | succ kj3 =>
    have H:=HA.out;clear HA;simp only [days_Date.j1] at H
    replace H:=bdI H;obtain ⟨t166,A13,H⟩:=H;(try dsimp only at H)
    have H':=sd H;clear H;obtain ⟨_,_,_,_,_,_⟩:=bk3 BK163;go_wp2_with (first | ((with_reducible refine gate_callee (f:=133) rfl ?_);refine gL 30 Tryz.func133 #[.int .i64 x164000_3] ?_;(with_reducible refine (days_before.calls x164000_3 t166 _ A13.out).mono ?_);rintro e w' ⟨rfl,⟨nd,rfl⟩⟩;refine ⟨_,rfl,?_⟩;(try (rw [drewN_self wc];generalize hq_:World.drewN wc _=wc;have n0_:Aside0 (wc.heap[gb163]?=some (.cells #[.int .i64 x164000_3,.int .i64 0,.int .i64 0] 112 (0,0))):=⟨zq124⟩;have n1_:Aside0 (Below w.heap.size w wc):=⟨zq125⟩;clear BK163 HB hq_;have BK163:=n0_;have HB:=n1_;clear n0_ n1_;(try (have hdBK163_0:=(blk_cell BK163.out 0).trans rfl;have heBK163_0:=blk_frozen BK163.out 0;have hdBK163_1:=(blk_cell BK163.out 1).trans rfl;have heBK163_1:=blk_frozen BK163.out 1;have hdBK163_2:=(blk_cell BK163.out 2).trans rfl;have heBK163_2:=blk_frozen BK163.out 2))))))
    go_loopg [0] kj3 (fun kq v0 w'=>∃ (x0_2:Int) (x164001_2:Int),v0=.int .i64 x0_2∧Aside0 (days_Date.l1 kq x0_2 x164000_3 x164001_2 0=some (r1,r2,r3,r4))∧Aside0 (kq≤kj3)∧Aside0 (w'.heap[gb163]?=some (.cells #[.int .i64 x164000_3,.int .i64 x164001_2,.int .i64 0] 112 (0,0)))∧Aside0 (Below w.heap.size w w'))
    case atStart=>exact ⟨(wrap64 (a0 - t166)),(1),zq7,H',⟨Nat.le_refl _⟩,⟨by (with_reducible repeat (first | refine blk_drewN ?_ _ | refine blk_drew ?_ | refine blk_alloc ?_ _));refine blk_put (cs:=#[.int .i64 x164000_3,.int .i64 0,.int .i64 0]) ?_ 1 _ rfl;(with_reducible repeat (first | refine blk_drewN ?_ _ | refine blk_drew ?_ | refine blk_alloc ?_ _));exact BK163.out⟩,⟨zq126⟩⟩
    case round =>
     clear H';try clear c1
     try clear p2
     try clear c3
     try clear p6
     try clear c7
     try clear c7b0
     try clear c9
     try clear c9b0
     try clear c10
     try clear c13
     try clear hcz10_0
     try clear hcz10_1
     try clear hcz10_2
     try clear hcz11_0
     try clear hcz11_1
     try clear hcz11_2
     try clear hcz12_0
     try clear hcz12_1
     try clear hcz12_2
     try clear hcz14_0
     try clear hcz14_1
     try clear hcz14_2
     try clear hcz6_0
     try clear hcz6_1
     try clear hcz6_2
     try clear hfz10_0
     try clear hfz10_1
     try clear hfz10_2
     try clear hfz11_0
     try clear hfz11_1
     try clear hfz11_2
     try clear hfz12_0
     try clear hfz12_1
     try clear hfz12_2
     try clear hfz14_0
     try clear hfz14_1
     try clear hfz14_2
     try clear hfz6_0
     try clear hfz6_1
     try clear hfz6_2
     try clear p2
     try clear p6
     obtain ⟨x0_2,x164001_2,rfl,HA,HK2,BK163,HB⟩:=hrel
     cases gk with
     | zero=>exact absurd HA.out (by simp [days_Date.l1])
     | succ k2 =>
      have H:=HA.out;clear HA;simp only [days_Date.l1] at H
      replace H:=bdI H;obtain ⟨t167,A15,H⟩:=H;(try dsimp only at H)
      replace H:=ifI H;rcases H with ⟨c16,H⟩ | ⟨c16,H⟩
      ·have c16b0:decide (t167≤x0_2)=true:=decide_eq_true c16;clear c16;replace H:=bdI H;obtain ⟨t168,A17,H⟩:=H;(try dsimp only at H)
       have H':=sd H;clear H;obtain ⟨_,_,_,_,_,_⟩:=bk3 BK163;go_wp2_with (first | ((with_reducible refine gate_callee (f:=134) rfl ?_);refine gL 38 Tryz.func134 #[.int .i64 x164000_3,.int .i64 x164001_2] ?_;(with_reducible refine (days_Length.calls x164000_3 x164001_2 t167 _ A15.out (gl_below HG.out zq22)).mono ?_);rintro e w' ⟨rfl,⟨nd,rfl⟩⟩;refine ⟨_,rfl,?_⟩;(try (rw [drewN_self wr];generalize hq_:World.drewN wr _=wr;have n0_:Aside0 (wr.heap[gb163]?=some (.cells #[.int .i64 x164000_3,.int .i64 x164001_2,.int .i64 0] 112 (0,0))):=⟨zq124⟩;have n1_:Aside0 (Below w.heap.size w wr):=⟨zq125⟩;clear BK163 HB hq_;have BK163:=n0_;have HB:=n1_;clear n0_ n1_;(try (have hdBK163_0:=(blk_cell BK163.out 0).trans rfl;have heBK163_0:=blk_frozen BK163.out 0;have hdBK163_1:=(blk_cell BK163.out 1).trans rfl;have heBK163_1:=blk_frozen BK163.out 1;have hdBK163_2:=(blk_cell BK163.out 2).trans rfl;have heBK163_2:=blk_frozen BK163.out 2))))) | ((with_reducible refine gate_callee (f:=134) rfl ?_);refine gL 45 Tryz.func134 #[.int .i64 x164000_3,.int .i64 x164001_2] ?_;(with_reducible refine (days_Length.calls x164000_3 x164001_2 t168 _ A17.out (gl_below HG.out zq22)).mono ?_);rintro e w' ⟨rfl,⟨nd,rfl⟩⟩;refine ⟨_,rfl,?_⟩;(try (rw [drewN_self wr];generalize hq_:World.drewN wr _=wr;have n0_:Aside0 (wr.heap[gb163]?=some (.cells #[.int .i64 x164000_3,.int .i64 x164001_2,.int .i64 0] 112 (0,0))):=⟨zq124⟩;have n1_:Aside0 (Below w.heap.size w wr):=⟨zq125⟩;clear BK163 HB hq_;have BK163:=n0_;have HB:=n1_;clear n0_ n1_;(try (have hdBK163_0:=(blk_cell BK163.out 0).trans rfl;have heBK163_0:=blk_frozen BK163.out 0;have hdBK163_1:=(blk_cell BK163.out 1).trans rfl;have heBK163_1:=blk_frozen BK163.out 1;have hdBK163_2:=(blk_cell BK163.out 2).trans rfl;have heBK163_2:=blk_frozen BK163.out 2))))))
       go_roundg k2
       case measure=>have:=HJ3.out;have:=HK2.out;omega
       case rel=>exact ⟨(wrap64 (x0_2 - t168)),(wrap64 (x164001_2+1)),zq7,H',⟨by have:=HJ3.out;have:=HK2.out;omega⟩,⟨by (with_reducible repeat (first | refine blk_drewN ?_ _ | refine blk_drew ?_ | refine blk_alloc ?_ _));refine blk_put (cs:=#[.int .i64 x164000_3,.int .i64 x164001_2,.int .i64 0]) ?_ 1 _ rfl;(with_reducible repeat (first | refine blk_drewN ?_ _ | refine blk_drew ?_ | refine blk_alloc ?_ _));exact BK163.out⟩,⟨zq126⟩⟩
      have c16b0:decide (t167≤x0_2)=false:=decide_eq_false c16;clear c16;simp only [Option.some.injEq,Prod.mk.injEq] at H
      obtain ⟨rfl,rfl,rfl,rfl⟩:=H;obtain ⟨_,_,_,_,_,_⟩:=bk3 BK163;go_wp2_with (first | ((with_reducible refine gate_callee (f:=134) rfl ?_);refine gL 38 Tryz.func134 #[.int .i64 x164000_3,.int .i64 x164001_2] ?_;(with_reducible refine (days_Length.calls x164000_3 x164001_2 t167 _ A15.out (gl_below HG.out zq22)).mono ?_);rintro e w' ⟨rfl,⟨nd,rfl⟩⟩;refine ⟨_,rfl,?_⟩;(try (rw [drewN_self wr];generalize hq_:World.drewN wr _=wr;have n0_:Aside0 (wr.heap[gb163]?=some (.cells #[.int .i64 x164000_3,.int .i64 x164001_2,.int .i64 0] 112 (0,0))):=⟨zq124⟩;have n1_:Aside0 (Below w.heap.size w wr):=⟨zq125⟩;clear BK163 HB hq_;have BK163:=n0_;have HB:=n1_;clear n0_ n1_;(try (have hdBK163_0:=(blk_cell BK163.out 0).trans rfl;have heBK163_0:=blk_frozen BK163.out 0;have hdBK163_1:=(blk_cell BK163.out 1).trans rfl;have heBK163_1:=blk_frozen BK163.out 1;have hdBK163_2:=(blk_cell BK163.out 2).trans rfl;have heBK163_2:=blk_frozen BK163.out 2))))))
      refine bodyPost_ret (results_ct rfl _ _ gb163 112 #[.int .i64 x164000_3,.int .i64 x164001_2,.int .i64 (wrap64 (x0_2+1))] (0,0) _ rfl (by (with_reducible repeat (first | refine blk_drewN ?_ _ | refine blk_drew ?_ | refine blk_alloc ?_ _));refine blk_put (cs:=#[.int .i64 x164000_3,.int .i64 x164001_2,.int .i64 (wrap64 (x0_2+1))]) ?_ 2 _ rfl;(with_reducible repeat (first | refine blk_drewN ?_ _ | refine blk_drew ?_ | refine blk_alloc ?_ _));refine blk_put (cs:=#[.int .i64 x164000_3,.int .i64 x164001_2,.int .i64 (wrap64 (x0_2+1))]) ?_ 1 _ rfl;(with_reducible repeat (first | refine blk_drewN ?_ _ | refine blk_drew ?_ | refine blk_alloc ?_ _));refine blk_put (cs:=#[.int .i64 x164000_3,.int .i64 x164001_2,.int .i64 (wrap64 (x0_2+1))]) ?_ 0 _ rfl;(with_reducible repeat (first | refine blk_drewN ?_ _ | refine blk_drew ?_ | refine blk_alloc ?_ _));refine blk_put (cs:=#[.int .i64 x164000_3,.int .i64 x164001_2,.int .i64 0]) ?_ 2 _ rfl;(with_reducible repeat (first | refine blk_drewN ?_ _ | refine blk_drew ?_ | refine blk_alloc ?_ _));exact BK163.out) Tryz.underlying112 rfl (by kernel_rfl)) rfl ?_;exact ⟨zq4,zq126⟩
 replace c3:=Bool.eq_false_iff.mpr c3;subst c3;rw [if_neg Bool.false_ne_true] at H;simp only [Option.some.injEq,Prod.mk.injEq] at H
 obtain ⟨rfl,rfl,rfl,rfl⟩:=H;go_enter Tryz.func101,Tryz.ntmps101
 go_wp2_with (first | ((with_reducible refine gate_dst (N:=2) rfl ?_);refine bxA 2 #[.int .i64 0,.int .i64 0,.int .i64 0] 112 ?_;intro gb163 hg w20 hbox hb;have BK163:=sd (hbox);have GW163:=gem hg HB;have GE163:=GW163;replace HB:=hbm HB hb;clear hb hbox hg) | ((with_reducible refine gate_callee (f:=132) rfl ?_);refine gL 5 Tryz.func132 #[.int .i64 a0] ?_;(with_reducible refine (days_is.calls a0 false _ A2.out).mono ?_);rintro e w' ⟨rfl,⟨nd,rfl⟩⟩;refine ⟨_,rfl,?_⟩;(try (rw [drewN_self w20];generalize hq_:World.drewN w20 _=w20;have n0_:Aside0 (w20.heap[gb163]?=some (.cells #[.int .i64 0,.int .i64 0,.int .i64 0] 112 (0,0))):=⟨zq124⟩;have n1_:Aside0 (Below w.heap.size w w20):=⟨zq125⟩;clear BK163 HB hq_;have BK163:=n0_;have HB:=n1_;clear n0_ n1_;(try (have hdBK163_0:=(blk_cell BK163.out 0).trans rfl;have heBK163_0:=blk_frozen BK163.out 0;have hdBK163_1:=(blk_cell BK163.out 1).trans rfl;have heBK163_1:=blk_frozen BK163.out 1;have hdBK163_2:=(blk_cell BK163.out 2).trans rfl;have heBK163_2:=blk_frozen BK163.out 2))));obtain ⟨_,_,_,_,_,_⟩:=bk3 BK163))
 refine bodyPost_ret (results_ct rfl _ _ gb163 112 #[.int .i64 0,.int .i64 0,.int .i64 0] (0,0) _ rfl (by (with_reducible repeat (first | refine blk_drewN ?_ _ | refine blk_drew ?_ | refine blk_alloc ?_ _));refine blk_put (cs:=#[.int .i64 0,.int .i64 0,.int .i64 0]) ?_ 2 _ rfl;(with_reducible repeat (first | refine blk_drewN ?_ _ | refine blk_drew ?_ | refine blk_alloc ?_ _));refine blk_put (cs:=#[.int .i64 0,.int .i64 0,.int .i64 0]) ?_ 1 _ rfl;(with_reducible repeat (first | refine blk_drewN ?_ _ | refine blk_drew ?_ | refine blk_alloc ?_ _));refine blk_put (cs:=#[.int .i64 0,.int .i64 0,.int .i64 0]) ?_ 0 _ rfl;(with_reducible repeat (first | refine blk_drewN ?_ _ | refine blk_drew ?_ | refine blk_alloc ?_ _));exact BK163.out) Tryz.underlying112 rfl (by kernel_rfl)) rfl ?_;exact ⟨zq4,zq126⟩
end Go.Proofs.YtkbgkekegjfkfaaGreatDoor.A
