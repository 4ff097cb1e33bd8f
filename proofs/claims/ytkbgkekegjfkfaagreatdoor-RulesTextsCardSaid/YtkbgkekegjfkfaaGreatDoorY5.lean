-- By pack.py, a program of this session's.
import Derived.Test.YtkbgkekegjfkfaaGreatDoorY2
import Derived.Test.YtkbgkekegjfkfaaGreatDoorY3
set_option linter.unusedVariables false
set_option linter.unusedSimpArgs false
namespace Go.Proofs.YtkbgkekegjfkfaaGreatDoor.B
open Go.RowKit WW WL WM
section
variable {P:Program} {md:Region.Mode} {ops:Array Oper} {Q:Exit→Act→World→Prop} {S:World→Prop} {ds:List Nat} {T:Bool×List (List Nat×List Nat)} {BB:List Nat} {oi:Oper} {v:Value} {fuel:Nat} {l l':Array Bool} {a a':Act} {w:World}
theorem pA (i N:Nat) (hT:rtab md ops=T) (h:wpAnyLast P md ops Q S ds fuel l' a' w)
    (hi:ops[i]?=some oi:=by rfl) (hN:oi.dst=some N:=by rfl) (hl:l.setIfInBounds i true=l':=by (simp only [List.setIfInBounds_toArray,List.set_cons_zero,List.set_cons_succ];rfl))
    (hc:anyT T l.toList l'.toList i=true:=by kernel_rfl) (hQ:∀ c a w,Q (.panic c) (a.put oi.dst v) w→Q (.panic c) a w:=by exact (fun _ _ _ h=>h)) (hg:Region.wanted oi (yielded ops a.tmps)=true:=by rfl)
    (hy:∀ w,(execOp a.eval oi).run P w=.ok (.value v) w:=by (intro w';go_simp;with_reducible rfl))
    (ha:a.put (some N) v=a':=by (simp only [Act.put,List.setIfInBounds_toArray,List.set_cons_zero,List.set_cons_succ,i64_w,i32_w];rfl)):wpAnyLast P md ops Q S ds (fuel+1) l a w :=
  pure_ l' hi hN (any_of hT hc) hQ (.inl ⟨hg,hy⟩) ha h
theorem tA (i N:Nat) (hT:rtab md ops=T) (hB:waitsOk T.2 BB=true) (hS:S w) (h:wpAnyLast P md ops Q S ds fuel l' a' w)
    (hi:ops[i]?=some oi:=by rfl) (hN:oi.dst=some N:=by rfl) (hl:l.setIfInBounds i true=l':=by (simp only [List.setIfInBounds_toArray,List.set_cons_zero,List.set_cons_succ];rfl))
    (hc:takeW T BB ds l.toList l'.toList i=true:=by kernel_rfl) (hQ:∀ c a w,Q (.panic c) (a.put oi.dst v) w→Q (.panic c) a w:=by exact (fun _ _ _ h=>h)) (hg:Region.wanted oi (yielded ops a.tmps)=true:=by rfl)
    (hy:∀ w,S w→(execOp a.eval oi).run P w=.ok (.value v) w:=by (intro w' hs_;(try dsimp only at hs_);(try go_split_ands);go_simp;with_reducible rfl))
    (ha:a.put (some N) v=a':=by (simp only [Act.put,List.setIfInBounds_toArray,List.set_cons_zero,List.set_cons_succ,i64_w,i32_w];rfl)):wpAnyLast P md ops Q S ds (fuel+1) l a w :=
  take_ l' hi hN (take_ofW hT hB hc) hQ (.inl ⟨hg,hy⟩) hS ha h
theorem oA (i N:Nat) (hT:rtab md ops=T) (h:wpAnyLast P md ops Q S ds fuel l' a' w)
    (hi:ops[i]?=some oi:=by rfl) (hN:oi.dst=some N:=by rfl) (hl:l.setIfInBounds i true=l':=by (simp only [List.setIfInBounds_toArray,List.set_cons_zero,List.set_cons_succ];rfl))
    (hc:anyT T l.toList l'.toList i=true:=by kernel_rfl) (hQ:∀ c a w,Q (.panic c) (a.put oi.dst undef) w→Q (.panic c) a w:=by exact (fun _ _ _ h=>h)) (hg:Region.wanted oi (yielded ops a.tmps)=false:=by rfl)
    (ha:a.put (some N) undef=a':=by (simp only [Act.put,List.setIfInBounds_toArray,List.set_cons_zero,List.set_cons_succ,i64_w,i32_w];rfl)):wpAnyLast P md ops Q S ds (fuel+1) l a w :=
  pure_ l' hi hN (any_of hT hc) hQ (.inr ⟨hg,rfl⟩) ha h
theorem nA (N:Nat) (h:wpAnyLast P md ops Q S ds fuel l a' w) (ha:a.put (some N) v=a':=by (simp only [Act.put,List.setIfInBounds_toArray,List.set_cons_zero,List.set_cons_succ,i64_w,i32_w];rfl)):wpAnyLast P md ops Q S ds fuel l (a.put (some N) v) w:=norm_ ha h
end
end Go.Proofs.YtkbgkekegjfkfaaGreatDoor.B
namespace Go.Proofs.YtkbgkekegjfkfaaGreatDoor.A
open Go.RowKit B WW WL WM
attribute [local go_sem] max2_int min2_int max_two min_two max_three min_three max_four min_four
set_option maxHeartbeats 8000000
set_option maxRecDepth 100000
theorem rf09_Right.bits4:waitsOk rf09_Right.T4.2 rf09_Right.B4=true:=by kernel_rfl
theorem rf48_condition.calls (k:Nat) (a0_0 a0_1:Int) (a0_2:ByteArray) (a0_3 r:Int) (w:World) (h:rf48_condition.f k a0_0 a0_1 a0_2 a0_3=some r) :
  Calls Tryz.prog 26 #[.agg #[.int .i64 a0_0,.int .i64 a0_1,.string a0_2,.int .i64 a0_3]] w fun e w'=>e=.returned (.int .i64 r)∧Below w.heap.size w w':=by
 have hu48:=Tryz.underlying48;have HB:=sd (Below.refl w.heap.size w);have H:=h;clear h;unfold rf48_condition.f at H;have HC2:=sd H;clear H;go_enter Tryz.func26,Tryz.ntmps26
 go_upto_region 1 with (first | ((with_reducible refine gate_dst (N:=1) rfl ?_);refine bxA 1 #[.int .i64 a0_0,.int .i64 a0_1,.string a0_2,.int .i64 a0_3] 48 ?_;intro gb134 hg w3 hbox hb;have BK134:=sd (hbox);have GW134:=gem hg HB;have GE134:=GW134;replace HB:=hbm HB hb;clear hb hbox hg))
 (try simp only [Act.put,List.setIfInBounds_toArray,List.set_cons_zero,List.set_cons_succ])
 go_cut [10] (fun v10 wc=>∃ (kq:Nat) (x10_1:Bool),v10=.bool x10_1∧Aside0 (rf48_condition.j0 kq x10_1 a0_0 a0_1 a0_2 a0_3=some r)∧Aside0 (kq≤k)∧Aside0 (wc.heap[gb134]?=some (.cells #[.int .i64 a0_0,.int .i64 a0_1,.string a0_2,.int .i64 a0_3] 48 (0,0)))∧Aside0 (Below w.heap.size w wc))
 case first =>
  have H:=HC2.out;clear HC2;replace H:=ifI H;rcases H with ⟨c4,H⟩ | ⟨c4,H⟩
  ·have c4b0:decide (a0_0 < 1)=true:=decide_eq_true c4;clear c4;(first | rw [c4b0] | (simp only [i64_w,i32_w];rw [c4b0]) | skip)
   have H':=sd H;clear H;obtain ⟨_,_,_,_,_,_,_,_⟩:=bk4 BK134;go_wp2
   go_meet
   case rel=>exact ⟨_,(true),zq7,H',⟨by first | omega | exact Nat.le_refl _⟩,⟨zq35⟩,⟨zq36⟩⟩
  have c4b0:decide (a0_0 < 1)=false:=decide_eq_false c4;clear c4;(first | rw [c4b0] | (simp only [i64_w,i32_w];rw [c4b0]) | skip)
  have H':=sd H;clear H;obtain ⟨_,_,_,_,_,_,_,_⟩:=bk4 BK134;go_wp2
  go_meet
  case rel=>exact ⟨_,(decide (a0_0 > 4)),zq7,H',⟨by first | omega | exact Nat.le_refl _⟩,⟨zq35⟩,⟨zq36⟩⟩
 case rest =>
  clear HC2;try clear c2
  try clear p2
  try clear c4
  try clear c4b0
  try clear hcz5_0
  try clear hcz5_1
  try clear hcz5_2
  try clear hcz5_3
  try clear hcz6_0
  try clear hcz6_1
  try clear hcz6_2
  try clear hcz6_3
  try clear hfz5_0
  try clear hfz5_1
  try clear hfz5_2
  try clear hfz5_3
  try clear hfz6_0
  try clear hfz6_1
  try clear hfz6_2
  try clear hfz6_3
  obtain ⟨kq,x10_1,rfl,HA,HJ1,BK134,HB⟩:=hcut
  cases kq with
  | zero=>exact absurd HA.out (by simp [rf48_condition.j0])
  | succ kj1 =>
   have H:=HA.out;clear HA;simp only [rf48_condition.j0] at H
   by_cases c7:x10_1=true
   ·subst c7;rw [if_pos rfl] at H;obtain rfl:=Option.some.inj H;go_wp2
    go_ret
    exact ⟨zq4,zq36⟩
   replace c7:=Bool.eq_false_iff.mpr c7;subst c7;rw [if_neg Bool.false_ne_true] at H;have HC8:=sd H;clear H;go_upto_region 3 with (fail)
   go_cut [44] (fun v44 wc=>∃ (kq:Nat) (x44_7:Bool),v44=.bool x44_7∧Aside0 (rf48_condition.j1 kq x44_7 a0_0 a0_1 a0_2 a0_3=some r)∧Aside0 (kq≤kj1)∧Aside0 (wc.heap[gb134]?=some (.cells #[.int .i64 a0_0,.int .i64 a0_1,.string a0_2,.int .i64 a0_3] 48 (0,0)))∧Aside0 (Below w.heap.size w wc))
   case first =>
    have H:=HC8.out;clear HC8;replace H:=bdI H;obtain ⟨t135,A9,H⟩:=H;(try dsimp only at H)
    by_cases c10:t135=true
    ·subst c10;rw [if_pos rfl] at H;replace H:=ifI H;rcases H with ⟨c11,H⟩ | ⟨c11,H⟩
     ·have c11b0:decide (a0_1 < 1)=true:=decide_eq_true c11;clear c11;(first | rw [c11b0] | (simp only [i64_w,i32_w];rw [c11b0]) | skip)
      have H':=sd H;clear H;obtain ⟨_,_,_,_,_,_,_,_⟩:=bk4 BK134;go_wp2_with (first | ((with_reducible refine gate_callee (f:=35) rfl ?_);refine gL 13 Tryz.func35 #[.int .i64 a0_0] ?_;(with_reducible refine (rf48_number.calls a0_0 true _ A9.out).mono ?_);rintro e w' ⟨rfl,⟨nd,rfl⟩⟩;refine ⟨_,rfl,?_⟩))
      go_meet
      case rel=>exact ⟨_,(true),zq7,H',⟨zq17⟩,⟨zq35⟩,⟨zq36⟩⟩
     have c11b0:decide (a0_1 < 1)=false:=decide_eq_false c11;clear c11;(first | rw [c11b0] | (simp only [i64_w,i32_w];rw [c11b0]) | skip)
     replace H:=ifI H;rcases H with ⟨c13,H⟩ | ⟨c13,H⟩
     ·have c13b0:decide (3 < a0_1)=true:=decide_eq_true c13;clear c13;have H':=sd H;clear H;obtain ⟨_,_,_,_,_,_,_,_⟩:=bk4 BK134;go_wp2_with (first | ((with_reducible refine gate_callee (f:=35) rfl ?_);refine gL 13 Tryz.func35 #[.int .i64 a0_0] ?_;(with_reducible refine (rf48_number.calls a0_0 true _ A9.out).mono ?_);rintro e w' ⟨rfl,⟨nd,rfl⟩⟩;refine ⟨_,rfl,?_⟩))
      go_meet
      case rel=>exact ⟨_,(true),zq7,H',⟨zq17⟩,⟨zq35⟩,⟨zq36⟩⟩
     have c13b0:decide (3 < a0_1)=false:=decide_eq_false c13;clear c13;replace H:=bdI H;obtain ⟨t136,A15,H⟩:=H;(try dsimp only at H)
     by_cases c16:t136=true
     ·subst c16;rw [if_pos rfl] at H;have H':=sd H;clear H;obtain ⟨_,_,_,_,_,_,_,_⟩:=bk4 BK134;go_wp2_with (first | ((with_reducible refine gate_callee (f:=35) rfl ?_);refine gL 13 Tryz.func35 #[.int .i64 a0_0] ?_;(with_reducible refine (rf48_number.calls a0_0 true _ A9.out).mono ?_);rintro e w' ⟨rfl,⟨nd,rfl⟩⟩;refine ⟨_,rfl,?_⟩) | (go_at_call 35;(with_reducible refine (rf48_number.calls a0_0 true _ A15.out).mono ?_);rintro e w' ⟨rfl,⟨nd,rfl⟩⟩))
      go_meet
      case rel=>exact ⟨_,(false),zq7,H',⟨zq17⟩,⟨zq35⟩,⟨zq36⟩⟩
     replace c16:=Bool.eq_false_iff.mpr c16;subst c16;rw [if_neg Bool.false_ne_true] at H;replace H:=ifI H;rcases H with ⟨c18,H⟩ | ⟨c18,H⟩
     ·obtain ⟨c18b0,c18b1⟩:=eqI c18;clear c18;have H':=sd H;clear H;obtain ⟨_,_,_,_,_,_,_,_⟩:=bk4 BK134;go_wp2_with (first | ((with_reducible refine gate_callee (f:=35) rfl ?_);refine gL 13 Tryz.func35 #[.int .i64 a0_0] ?_;(with_reducible refine (rf48_number.calls a0_0 true _ A9.out).mono ?_);rintro e w' ⟨rfl,⟨nd,rfl⟩⟩;refine ⟨_,rfl,?_⟩) | (go_at_call 35;(with_reducible refine (rf48_number.calls a0_0 false _ A15.out).mono ?_);rintro e w' ⟨rfl,⟨nd,rfl⟩⟩))
      go_meet
      case rel=>exact ⟨_,(false),zq7,H',⟨zq17⟩,⟨zq35⟩,⟨zq36⟩⟩
     obtain ⟨c18b0,c18b1⟩:=neI c18;replace H:=ifI H;rcases H with ⟨c20,H⟩ | ⟨c20,H⟩
     ·obtain ⟨c20b0,c20b1⟩:=eqI c20;clear c20;have H':=sd H;clear H;obtain ⟨_,_,_,_,_,_,_,_⟩:=bk4 BK134;go_wp2_with (first | ((with_reducible refine gate_callee (f:=35) rfl ?_);refine gL 13 Tryz.func35 #[.int .i64 a0_0] ?_;(with_reducible refine (rf48_number.calls a0_0 true _ A9.out).mono ?_);rintro e w' ⟨rfl,⟨nd,rfl⟩⟩;refine ⟨_,rfl,?_⟩) | (go_at_call 35;(with_reducible refine (rf48_number.calls a0_0 false _ A15.out).mono ?_);rintro e w' ⟨rfl,⟨nd,rfl⟩⟩))
      go_meet
      case rel=>exact ⟨_,(false),zq7,H',⟨zq17⟩,⟨zq35⟩,⟨zq36⟩⟩
     obtain ⟨c20b0,c20b1⟩:=neI c20;have H':=sd H;clear H;obtain ⟨_,_,_,_,_,_,_,_⟩:=bk4 BK134;go_wp2_with (first | ((with_reducible refine gate_callee (f:=35) rfl ?_);refine gL 13 Tryz.func35 #[.int .i64 a0_0] ?_;(with_reducible refine (rf48_number.calls a0_0 true _ A9.out).mono ?_);rintro e w' ⟨rfl,⟨nd,rfl⟩⟩;refine ⟨_,rfl,?_⟩) | (go_at_call 35;(with_reducible refine (rf48_number.calls a0_0 false _ A15.out).mono ?_);rintro e w' ⟨rfl,⟨nd,rfl⟩⟩))
     go_meet
     case rel=>exact ⟨_,((a0_1 != 5)),zq7,H',⟨zq17⟩,⟨zq35⟩,⟨zq36⟩⟩
    replace c10:=Bool.eq_false_iff.mpr c10;subst c10;rw [if_neg Bool.false_ne_true] at H;replace H:=bdI H;obtain ⟨t137,A23,H⟩:=H;(try dsimp only at H)
    by_cases c24:t137=true
    ·subst c24;rw [if_pos rfl] at H;have H':=sd H;clear H;obtain ⟨_,_,_,_,_,_,_,_⟩:=bk4 BK134;go_wp2_with (first | ((with_reducible refine gate_callee (f:=35) rfl ?_);refine gL 13 Tryz.func35 #[.int .i64 a0_0] ?_;(with_reducible refine (rf48_number.calls a0_0 false _ A9.out).mono ?_);rintro e w' ⟨rfl,⟨nd,rfl⟩⟩;refine ⟨_,rfl,?_⟩) | (go_at_call 35;(with_reducible refine (rf48_number.calls a0_0 true _ A23.out).mono ?_);rintro e w' ⟨rfl,⟨nd,rfl⟩⟩))
     go_meet
     case rel=>exact ⟨_,(false),zq7,H',⟨zq17⟩,⟨zq35⟩,⟨zq36⟩⟩
    replace c24:=Bool.eq_false_iff.mpr c24;subst c24;rw [if_neg Bool.false_ne_true] at H;replace H:=ifI H;rcases H with ⟨c26,H⟩ | ⟨c26,H⟩
    ·obtain ⟨c26b0,c26b1⟩:=eqI c26;clear c26;have H':=sd H;clear H;obtain ⟨_,_,_,_,_,_,_,_⟩:=bk4 BK134;go_wp2_with (first | ((with_reducible refine gate_callee (f:=35) rfl ?_);refine gL 13 Tryz.func35 #[.int .i64 a0_0] ?_;(with_reducible refine (rf48_number.calls a0_0 false _ A9.out).mono ?_);rintro e w' ⟨rfl,⟨nd,rfl⟩⟩;refine ⟨_,rfl,?_⟩) | (go_at_call 35;(with_reducible refine (rf48_number.calls a0_0 false _ A23.out).mono ?_);rintro e w' ⟨rfl,⟨nd,rfl⟩⟩))
     go_meet
     case rel=>exact ⟨_,(false),zq7,H',⟨zq17⟩,⟨zq35⟩,⟨zq36⟩⟩
    obtain ⟨c26b0,c26b1⟩:=neI c26;replace H:=ifI H;rcases H with ⟨c28,H⟩ | ⟨c28,H⟩
    ·obtain ⟨c28b0,c28b1⟩:=eqI c28;clear c28;have H':=sd H;clear H;obtain ⟨_,_,_,_,_,_,_,_⟩:=bk4 BK134;go_wp2_with (first | ((with_reducible refine gate_callee (f:=35) rfl ?_);refine gL 13 Tryz.func35 #[.int .i64 a0_0] ?_;(with_reducible refine (rf48_number.calls a0_0 false _ A9.out).mono ?_);rintro e w' ⟨rfl,⟨nd,rfl⟩⟩;refine ⟨_,rfl,?_⟩) | (go_at_call 35;(with_reducible refine (rf48_number.calls a0_0 false _ A23.out).mono ?_);rintro e w' ⟨rfl,⟨nd,rfl⟩⟩))
     go_meet
     case rel=>exact ⟨_,(false),zq7,H',⟨zq17⟩,⟨zq35⟩,⟨zq36⟩⟩
    obtain ⟨c28b0,c28b1⟩:=neI c28;have H':=sd H;clear H;obtain ⟨_,_,_,_,_,_,_,_⟩:=bk4 BK134;go_wp2_with (first | ((with_reducible refine gate_callee (f:=35) rfl ?_);refine gL 13 Tryz.func35 #[.int .i64 a0_0] ?_;(with_reducible refine (rf48_number.calls a0_0 false _ A9.out).mono ?_);rintro e w' ⟨rfl,⟨nd,rfl⟩⟩;refine ⟨_,rfl,?_⟩) | (go_at_call 35;(with_reducible refine (rf48_number.calls a0_0 false _ A23.out).mono ?_);rintro e w' ⟨rfl,⟨nd,rfl⟩⟩))
    go_meet
    case rel=>exact ⟨_,((a0_1 != 5)),zq7,H',⟨zq17⟩,⟨zq35⟩,⟨zq36⟩⟩
   case rest =>
    clear HC8;try clear c1
    try clear c2
    try clear p2
    try clear c3
    try clear c4
    try clear c4b0
    try clear c7
    try clear c10
    try clear c11
    try clear c11b0
    try clear c13
    try clear c13b0
    try clear c16
    try clear c18
    try clear c18b0
    try clear c18b1
    try clear c20
    try clear c20b0
    try clear c20b1
    try clear c24
    try clear c26
    try clear c26b0
    try clear c26b1
    try clear c28
    try clear c28b0
    try clear c28b1
    try clear hcz12_0
    try clear hcz12_1
    try clear hcz12_2
    try clear hcz12_3
    try clear hcz14_0
    try clear hcz14_1
    try clear hcz14_2
    try clear hcz14_3
    try clear hcz17_0
    try clear hcz17_1
    try clear hcz17_2
    try clear hcz17_3
    try clear hcz19_0
    try clear hcz19_1
    try clear hcz19_2
    try clear hcz19_3
    try clear hcz21_0
    try clear hcz21_1
    try clear hcz21_2
    try clear hcz21_3
    try clear hcz22_0
    try clear hcz22_1
    try clear hcz22_2
    try clear hcz22_3
    try clear hcz25_0
    try clear hcz25_1
    try clear hcz25_2
    try clear hcz25_3
    try clear hcz27_0
    try clear hcz27_1
    try clear hcz27_2
    try clear hcz27_3
    try clear hcz29_0
    try clear hcz29_1
    try clear hcz29_2
    try clear hcz29_3
    try clear hcz30_0
    try clear hcz30_1
    try clear hcz30_2
    try clear hcz30_3
    try clear hcz5_0
    try clear hcz5_1
    try clear hcz5_2
    try clear hcz5_3
    try clear hcz6_0
    try clear hcz6_1
    try clear hcz6_2
    try clear hcz6_3
    try clear hfz12_0
    try clear hfz12_1
    try clear hfz12_2
    try clear hfz12_3
    try clear hfz14_0
    try clear hfz14_1
    try clear hfz14_2
    try clear hfz14_3
    try clear hfz17_0
    try clear hfz17_1
    try clear hfz17_2
    try clear hfz17_3
    try clear hfz19_0
    try clear hfz19_1
    try clear hfz19_2
    try clear hfz19_3
    try clear hfz21_0
    try clear hfz21_1
    try clear hfz21_2
    try clear hfz21_3
    try clear hfz22_0
    try clear hfz22_1
    try clear hfz22_2
    try clear hfz22_3
    try clear hfz25_0
    try clear hfz25_1
    try clear hfz25_2
    try clear hfz25_3
    try clear hfz27_0
    try clear hfz27_1
    try clear hfz27_2
    try clear hfz27_3
    try clear hfz29_0
    try clear hfz29_1
    try clear hfz29_2
    try clear hfz29_3
    try clear hfz30_0
    try clear hfz30_1
    try clear hfz30_2
    try clear hfz30_3
    try clear hfz5_0
    try clear hfz5_1
    try clear hfz5_2
    try clear hfz5_3
    try clear hfz6_0
    try clear hfz6_1
    try clear hfz6_2
    try clear hfz6_3
    try clear p2
    obtain ⟨kq,x44_7,rfl,HA,HJ7,BK134,HB⟩:=hcut
    cases kq with
    | zero=>exact absurd HA.out (by simp [rf48_condition.j1])
    | succ kj7 =>
     have H:=HA.out;clear HA;simp only [rf48_condition.j1] at H
     by_cases c31:x44_7=true
     ·subst c31;rw [if_pos rfl] at H;obtain rfl:=Option.some.inj H;go_wp2
      go_ret
      exact ⟨zq4,zq36⟩
     replace c31:=Bool.eq_false_iff.mpr c31;subst c31;rw [if_neg Bool.false_ne_true] at H;have HC32:=sd H;clear H;go_upto_region 5 with (fail)
     go_cut [79] (fun v79 wc=>∃ (kq:Nat) (x79_31:Bool),v79=.bool x79_31∧Aside0 (rf48_condition.j2 kq x79_31 a0_0 a0_1 a0_2 a0_3=some r)∧Aside0 (kq≤kj7)∧Aside0 (wc.heap[gb134]?=some (.cells #[.int .i64 a0_0,.int .i64 a0_1,.string a0_2,.int .i64 a0_3] 48 (0,0)))∧Aside0 (Below w.heap.size w wc))
     case first =>
      have H:=HC32.out;clear HC32;replace H:=ifI H;rcases H with ⟨c33,H⟩ | ⟨c33,H⟩
      ·obtain ⟨c33b0,c33b1⟩:=eqI c33;clear c33;(first | rw [c33b0] | (simp only [i64_w,i32_w];rw [c33b0]) | skip)
       replace H:=ifI H;rcases H with ⟨c34,H⟩ | ⟨c34,H⟩
       ·have c34b0:decide (1000000000000 < a0_3)=true:=decide_eq_true c34;clear c34;have H':=sd H;clear H;obtain ⟨_,_,_,_,_,_,_,_⟩:=bk4 BK134;go_wp2
        go_meet
        case rel=>exact ⟨_,(true),zq7,H',⟨zq37⟩,⟨zq35⟩,⟨zq36⟩⟩
       have c34b0:decide (1000000000000 < a0_3)=false:=decide_eq_false c34;clear c34;replace H:=ifI H;rcases H with ⟨c36,H⟩ | ⟨c36,H⟩
       ·have c36b0:decide (a0_3 < (-1000000000000))=true:=decide_eq_true c36;clear c36;have H':=sd H;clear H;obtain ⟨_,_,_,_,_,_,_,_⟩:=bk4 BK134;go_wp2
        go_meet
        case rel=>exact ⟨_,(true),zq7,H',⟨zq37⟩,⟨zq35⟩,⟨zq36⟩⟩
       have c36b0:decide (a0_3 < (-1000000000000))=false:=decide_eq_false c36;clear c36;replace H:=ifI H;rcases H with ⟨c38,H⟩ | ⟨c38,H⟩
       ·obtain ⟨c38b0,c38b1⟩:=eqI c38;clear c38;replace H:=bdI H;obtain ⟨t138,A39,H⟩:=H;(try dsimp only at H)
        by_cases c40:t138=true
        ·subst c40;rw [if_pos rfl] at H;replace H:=bdI H;obtain ⟨t139,A41,H⟩:=H;(try dsimp only at H)
         by_cases c42:t139=true
         ·subst c42;rw [if_pos rfl] at H;have H':=sd H;clear H;obtain ⟨_,_,_,_,_,_,_,_⟩:=bk4 BK134;go_wp2_with (first | (go_at_call 57;(with_reducible refine (rf04_Is.calls a0_3 true _ A39.out).mono ?_);rintro e w' ⟨rfl,⟨nd,rfl⟩⟩) | (go_at_call 35;(with_reducible refine (rf48_number.calls a0_0 true _ A41.out).mono ?_);rintro e w' ⟨rfl,⟨nd,rfl⟩⟩))
          go_meet
          case rel=>exact ⟨_,(false),zq7,H',⟨zq37⟩,⟨zq35⟩,⟨zq36⟩⟩
         replace c42:=Bool.eq_false_iff.mpr c42;subst c42;rw [if_neg Bool.false_ne_true] at H;have H':=sd H;clear H;obtain ⟨_,_,_,_,_,_,_,_⟩:=bk4 BK134;go_wp2_with (first | (go_at_call 57;(with_reducible refine (rf04_Is.calls a0_3 true _ A39.out).mono ?_);rintro e w' ⟨rfl,⟨nd,rfl⟩⟩) | (go_at_call 35;(with_reducible refine (rf48_number.calls a0_0 false _ A41.out).mono ?_);rintro e w' ⟨rfl,⟨nd,rfl⟩⟩))
         go_meet
         case rel=>exact ⟨_,((a0_3 != 0)),zq7,H',⟨zq37⟩,⟨zq35⟩,⟨zq36⟩⟩
        replace c40:=Bool.eq_false_iff.mpr c40;subst c40;rw [if_neg Bool.false_ne_true] at H;have H':=sd H;clear H;obtain ⟨_,_,_,_,_,_,_,_⟩:=bk4 BK134;go_wp2_with (first | (go_at_call 57;(with_reducible refine (rf04_Is.calls a0_3 false _ A39.out).mono ?_);rintro e w' ⟨rfl,⟨nd,rfl⟩⟩))
        go_meet
        case rel=>exact ⟨_,(true),zq7,H',⟨zq37⟩,⟨zq35⟩,⟨zq36⟩⟩
       obtain ⟨c38b0,c38b1⟩:=neI c38;replace H:=bdI H;obtain ⟨t140,A46,H⟩:=H;(try dsimp only at H)
       by_cases c47:t140=true
       ·subst c47;rw [if_pos rfl] at H;have H':=sd H;clear H;obtain ⟨_,_,_,_,_,_,_,_⟩:=bk4 BK134;go_wp2_with (first | (go_at_call 35;(with_reducible refine (rf48_number.calls a0_0 true _ A46.out).mono ?_);rintro e w' ⟨rfl,⟨nd,rfl⟩⟩))
        go_meet
        case rel=>exact ⟨_,(false),zq7,H',⟨zq37⟩,⟨zq35⟩,⟨zq36⟩⟩
       replace c47:=Bool.eq_false_iff.mpr c47;subst c47;rw [if_neg Bool.false_ne_true] at H;have H':=sd H;clear H;obtain ⟨_,_,_,_,_,_,_,_⟩:=bk4 BK134;go_wp2_with (first | (go_at_call 35;(with_reducible refine (rf48_number.calls a0_0 false _ A46.out).mono ?_);rintro e w' ⟨rfl,⟨nd,rfl⟩⟩))
       go_meet
       case rel=>exact ⟨_,((a0_3 != 0)),zq7,H',⟨zq37⟩,⟨zq35⟩,⟨zq36⟩⟩
      obtain ⟨c33b0,c33b1⟩:=neI c33;(first | rw [c33b0] | (simp only [i64_w,i32_w];rw [c33b0]) | skip)
      replace H:=ifI H;rcases H with ⟨c50,H⟩ | ⟨c50,H⟩
      ·obtain ⟨c50b0,c50b1⟩:=eqI c50;clear c50;replace H:=bdI H;obtain ⟨t141,A51,H⟩:=H;(try dsimp only at H)
       by_cases c52:t141=true
       ·subst c52;rw [if_pos rfl] at H;replace H:=bdI H;obtain ⟨t142,A53,H⟩:=H;(try dsimp only at H)
        by_cases c54:t142=true
        ·subst c54;rw [if_pos rfl] at H;have H':=sd H;clear H;obtain ⟨_,_,_,_,_,_,_,_⟩:=bk4 BK134;go_wp2_with (first | (go_at_call 57;(with_reducible refine (rf04_Is.calls a0_3 true _ A51.out).mono ?_);rintro e w' ⟨rfl,⟨nd,rfl⟩⟩) | (go_at_call 35;(with_reducible refine (rf48_number.calls a0_0 true _ A53.out).mono ?_);rintro e w' ⟨rfl,⟨nd,rfl⟩⟩))
         go_meet
         case rel=>exact ⟨_,(false),zq7,H',⟨zq37⟩,⟨zq35⟩,⟨zq36⟩⟩
        replace c54:=Bool.eq_false_iff.mpr c54;subst c54;rw [if_neg Bool.false_ne_true] at H;have H':=sd H;clear H;obtain ⟨_,_,_,_,_,_,_,_⟩:=bk4 BK134;go_wp2_with (first | (go_at_call 57;(with_reducible refine (rf04_Is.calls a0_3 true _ A51.out).mono ?_);rintro e w' ⟨rfl,⟨nd,rfl⟩⟩) | (go_at_call 35;(with_reducible refine (rf48_number.calls a0_0 false _ A53.out).mono ?_);rintro e w' ⟨rfl,⟨nd,rfl⟩⟩))
        go_meet
        case rel=>exact ⟨_,((a0_3 != 0)),zq7,H',⟨zq37⟩,⟨zq35⟩,⟨zq36⟩⟩
       replace c52:=Bool.eq_false_iff.mpr c52;subst c52;rw [if_neg Bool.false_ne_true] at H;have H':=sd H;clear H;obtain ⟨_,_,_,_,_,_,_,_⟩:=bk4 BK134;go_wp2_with (first | (go_at_call 57;(with_reducible refine (rf04_Is.calls a0_3 false _ A51.out).mono ?_);rintro e w' ⟨rfl,⟨nd,rfl⟩⟩))
       go_meet
       case rel=>exact ⟨_,(true),zq7,H',⟨zq37⟩,⟨zq35⟩,⟨zq36⟩⟩
      obtain ⟨c50b0,c50b1⟩:=neI c50;replace H:=bdI H;obtain ⟨t143,A58,H⟩:=H;(try dsimp only at H)
      by_cases c59:t143=true
      ·subst c59;rw [if_pos rfl] at H;have H':=sd H;clear H;obtain ⟨_,_,_,_,_,_,_,_⟩:=bk4 BK134;go_wp2_with (first | (go_at_call 35;(with_reducible refine (rf48_number.calls a0_0 true _ A58.out).mono ?_);rintro e w' ⟨rfl,⟨nd,rfl⟩⟩))
       go_meet
       case rel=>exact ⟨_,(false),zq7,H',⟨zq37⟩,⟨zq35⟩,⟨zq36⟩⟩
      replace c59:=Bool.eq_false_iff.mpr c59;subst c59;rw [if_neg Bool.false_ne_true] at H;have H':=sd H;clear H;obtain ⟨_,_,_,_,_,_,_,_⟩:=bk4 BK134;go_wp2_with (first | (go_at_call 35;(with_reducible refine (rf48_number.calls a0_0 false _ A58.out).mono ?_);rintro e w' ⟨rfl,⟨nd,rfl⟩⟩))
      go_meet
      case rel=>exact ⟨_,((a0_3 != 0)),zq7,H',⟨zq37⟩,⟨zq35⟩,⟨zq36⟩⟩
     case rest =>
      clear HC32;try clear c1
      try clear c2
      try clear p2
      try clear c3
      try clear c4
      try clear c4b0
      try clear c5
      try clear c7
      try clear c10
      try clear c11
      try clear c11b0
      try clear c13
      try clear c13b0
      try clear c16
      try clear c18
      try clear c18b0
      try clear c18b1
      try clear c20
      try clear c20b0
      try clear c20b1
      try clear c24
      try clear c26
      try clear c26b0
      try clear c26b1
      try clear c28
      try clear c28b0
      try clear c28b1
      try clear c31
      try clear c33
      try clear c33b0
      try clear c33b1
      try clear c34
      try clear c34b0
      try clear c35
      try clear c36
      try clear c36b0
      try clear c38
      try clear c38b0
      try clear c38b1
      try clear c40
      try clear c42
      try clear c47
      try clear c50
      try clear c50b0
      try clear c50b1
      try clear c52
      try clear c54
      try clear c59
      try clear hcz12_0
      try clear hcz12_1
      try clear hcz12_2
      try clear hcz12_3
      try clear hcz14_0
      try clear hcz14_1
      try clear hcz14_2
      try clear hcz14_3
      try clear hcz17_0
      try clear hcz17_1
      try clear hcz17_2
      try clear hcz17_3
      try clear hcz19_0
      try clear hcz19_1
      try clear hcz19_2
      try clear hcz19_3
      try clear hcz21_0
      try clear hcz21_1
      try clear hcz21_2
      try clear hcz21_3
      try clear hcz22_0
      try clear hcz22_1
      try clear hcz22_2
      try clear hcz22_3
      try clear hcz25_0
      try clear hcz25_1
      try clear hcz25_2
      try clear hcz25_3
      try clear hcz27_0
      try clear hcz27_1
      try clear hcz27_2
      try clear hcz27_3
      try clear hcz29_0
      try clear hcz29_1
      try clear hcz29_2
      try clear hcz29_3
      try clear hcz30_0
      try clear hcz30_1
      try clear hcz30_2
      try clear hcz30_3
      try clear hcz35_0
      try clear hcz35_1
      try clear hcz35_2
      try clear hcz35_3
      try clear hcz37_0
      try clear hcz37_1
      try clear hcz37_2
      try clear hcz37_3
      try clear hcz43_0
      try clear hcz43_1
      try clear hcz43_2
      try clear hcz43_3
      try clear hcz44_0
      try clear hcz44_1
      try clear hcz44_2
      try clear hcz44_3
      try clear hcz45_0
      try clear hcz45_1
      try clear hcz45_2
      try clear hcz45_3
      try clear hcz48_0
      try clear hcz48_1
      try clear hcz48_2
      try clear hcz48_3
      try clear hcz49_0
      try clear hcz49_1
      try clear hcz49_2
      try clear hcz49_3
      try clear hcz55_0
      try clear hcz55_1
      try clear hcz55_2
      try clear hcz55_3
      try clear hcz56_0
      try clear hcz56_1
      try clear hcz56_2
      try clear hcz56_3
      try clear hcz57_0
      try clear hcz57_1
      try clear hcz57_2
      try clear hcz57_3
      try clear hcz5_0
      try clear hcz5_1
      try clear hcz5_2
      try clear hcz5_3
      try clear hcz60_0
      try clear hcz60_1
      try clear hcz60_2
      try clear hcz60_3
      try clear hcz61_0
      try clear hcz61_1
      try clear hcz61_2
      try clear hcz61_3
      try clear hcz6_0
      try clear hcz6_1
      try clear hcz6_2
      try clear hcz6_3
      try clear hfz12_0
      try clear hfz12_1
      try clear hfz12_2
      try clear hfz12_3
      try clear hfz14_0
      try clear hfz14_1
      try clear hfz14_2
      try clear hfz14_3
      try clear hfz17_0
      try clear hfz17_1
      try clear hfz17_2
      try clear hfz17_3
      try clear hfz19_0
      try clear hfz19_1
      try clear hfz19_2
      try clear hfz19_3
      try clear hfz21_0
      try clear hfz21_1
      try clear hfz21_2
      try clear hfz21_3
      try clear hfz22_0
      try clear hfz22_1
      try clear hfz22_2
      try clear hfz22_3
      try clear hfz25_0
      try clear hfz25_1
      try clear hfz25_2
      try clear hfz25_3
      try clear hfz27_0
      try clear hfz27_1
      try clear hfz27_2
      try clear hfz27_3
      try clear hfz29_0
      try clear hfz29_1
      try clear hfz29_2
      try clear hfz29_3
      try clear hfz30_0
      try clear hfz30_1
      try clear hfz30_2
      try clear hfz30_3
      try clear hfz35_0
      try clear hfz35_1
      try clear hfz35_2
      try clear hfz35_3
      try clear hfz37_0
      try clear hfz37_1
      try clear hfz37_2
      try clear hfz37_3
      try clear hfz43_0
      try clear hfz43_1
      try clear hfz43_2
      try clear hfz43_3
      try clear hfz44_0
      try clear hfz44_1
      try clear hfz44_2
      try clear hfz44_3
      try clear hfz45_0
      try clear hfz45_1
      try clear hfz45_2
      try clear hfz45_3
      try clear hfz48_0
      try clear hfz48_1
      try clear hfz48_2
      try clear hfz48_3
      try clear hfz49_0
      try clear hfz49_1
      try clear hfz49_2
      try clear hfz49_3
      try clear hfz55_0
      try clear hfz55_1
      try clear hfz55_2
      try clear hfz55_3
      try clear hfz56_0
      try clear hfz56_1
      try clear hfz56_2
      try clear hfz56_3
      try clear hfz57_0
      try clear hfz57_1
      try clear hfz57_2
      try clear hfz57_3
      try clear hfz5_0
      try clear hfz5_1
      try clear hfz5_2
      try clear hfz5_3
      try clear hfz60_0
      try clear hfz60_1
      try clear hfz60_2
      try clear hfz60_3
      try clear hfz61_0
      try clear hfz61_1
      try clear hfz61_2
      try clear hfz61_3
      try clear hfz6_0
      try clear hfz6_1
      try clear hfz6_2
      try clear hfz6_3
      try clear p2
      obtain ⟨kq,x79_31,rfl,HA,HJ31,BK134,HB⟩:=hcut
      cases kq with
      | zero=>exact absurd HA.out (by simp [rf48_condition.j2])
      | succ kj31 =>
       have H:=HA.out;clear HA;simp only [rf48_condition.j2] at H
       by_cases c62:x79_31=true
       ·subst c62;rw [if_pos rfl] at H;obtain rfl:=Option.some.inj H;go_wp2
        go_ret
        exact ⟨zq4,zq36⟩
       replace c62:=Bool.eq_false_iff.mpr c62;subst c62;rw [if_neg Bool.false_ne_true] at H;replace H:=bdI H;obtain ⟨t144,A63,H⟩:=H;(try dsimp only at H)
       by_cases c64:t144=true
       ·subst c64;rw [if_pos rfl] at H;replace H:=ifI H;rcases H with ⟨c65,H⟩ | ⟨c65,H⟩
        ·obtain ⟨c65b0,c65b1⟩:=eqI c65;clear c65;replace H:=bdI H;obtain ⟨t145,A66,H⟩:=H;(try dsimp only at H)
         by_cases c67:t145=true
         ·subst c67;rw [if_pos rfl] at H;obtain rfl:=Option.some.inj H;obtain ⟨_,_,_,_,_,_,_,_⟩:=bk4 BK134;go_wp2_with (first | ((with_reducible refine gate_callee (f:=35) rfl ?_);refine gL 82 Tryz.func35 #[.int .i64 a0_0] ?_;(with_reducible refine (rf48_number.calls a0_0 true _ A63.out).mono ?_);rintro e w' ⟨rfl,⟨nd,rfl⟩⟩;refine ⟨_,rfl,?_⟩) | (go_at_call 35;(with_reducible refine (rf48_number.calls a0_0 true _ A66.out).mono ?_);rintro e w' ⟨rfl,⟨nd,rfl⟩⟩))
          go_ret
          exact ⟨zq4,zq36⟩
         replace c67:=Bool.eq_false_iff.mpr c67;subst c67;rw [if_neg Bool.false_ne_true] at H;replace H:=bdI H;obtain ⟨t146,A69,H⟩:=H;(try dsimp only at H)
         by_cases c70:t146=true
         ·subst c70;rw [if_pos rfl] at H;obtain rfl:=Option.some.inj H;obtain ⟨_,_,_,_,_,_,_,_⟩:=bk4 BK134;go_wp2_with (first | ((with_reducible refine gate_callee (f:=35) rfl ?_);refine gL 82 Tryz.func35 #[.int .i64 a0_0] ?_;(with_reducible refine (rf48_number.calls a0_0 true _ A63.out).mono ?_);rintro e w' ⟨rfl,⟨nd,rfl⟩⟩;refine ⟨_,rfl,?_⟩) | (go_at_call 35;(with_reducible refine (rf48_number.calls a0_0 false _ A66.out).mono ?_);rintro e w' ⟨rfl,⟨nd,rfl⟩⟩) | (go_at_call 58;(with_reducible refine (rf06_Plain.calls kj31 a0_2 true _ A69.out).mono ?_);rintro e w' ⟨rfl,⟨nd,rfl⟩⟩))
          go_ret
          exact ⟨zq4,zq36⟩
         replace c70:=Bool.eq_false_iff.mpr c70;subst c70;rw [if_neg Bool.false_ne_true] at H;obtain rfl:=Option.some.inj H;obtain ⟨_,_,_,_,_,_,_,_⟩:=bk4 BK134;go_wp2_with (first | ((with_reducible refine gate_callee (f:=35) rfl ?_);refine gL 82 Tryz.func35 #[.int .i64 a0_0] ?_;(with_reducible refine (rf48_number.calls a0_0 true _ A63.out).mono ?_);rintro e w' ⟨rfl,⟨nd,rfl⟩⟩;refine ⟨_,rfl,?_⟩) | (go_at_call 35;(with_reducible refine (rf48_number.calls a0_0 false _ A66.out).mono ?_);rintro e w' ⟨rfl,⟨nd,rfl⟩⟩) | (go_at_call 58;(with_reducible refine (rf06_Plain.calls kj31 a0_2 false _ A69.out).mono ?_);rintro e w' ⟨rfl,⟨nd,rfl⟩⟩))
         go_ret
         exact ⟨zq4,zq36⟩
        obtain ⟨c65b0,c65b1⟩:=neI c65;obtain rfl:=Option.some.inj H;obtain ⟨_,_,_,_,_,_,_,_⟩:=bk4 BK134;go_wp2_with (first | ((with_reducible refine gate_callee (f:=35) rfl ?_);refine gL 82 Tryz.func35 #[.int .i64 a0_0] ?_;(with_reducible refine (rf48_number.calls a0_0 true _ A63.out).mono ?_);rintro e w' ⟨rfl,⟨nd,rfl⟩⟩;refine ⟨_,rfl,?_⟩))
        go_ret
        exact ⟨zq4,zq36⟩
       replace c64:=Bool.eq_false_iff.mpr c64;subst c64;rw [if_neg Bool.false_ne_true] at H;replace H:=bdI H;obtain ⟨t147,A74,H⟩:=H;(try dsimp only at H)
       by_cases c75:t147=true
       ·subst c75;rw [if_pos rfl] at H;obtain rfl:=Option.some.inj H;obtain ⟨_,_,_,_,_,_,_,_⟩:=bk4 BK134;go_wp2_with (first | ((with_reducible refine gate_callee (f:=35) rfl ?_);refine gL 82 Tryz.func35 #[.int .i64 a0_0] ?_;(with_reducible refine (rf48_number.calls a0_0 false _ A63.out).mono ?_);rintro e w' ⟨rfl,⟨nd,rfl⟩⟩;refine ⟨_,rfl,?_⟩) | (go_at_call 35;(with_reducible refine (rf48_number.calls a0_0 true _ A74.out).mono ?_);rintro e w' ⟨rfl,⟨nd,rfl⟩⟩))
        go_ret
        exact ⟨zq4,zq36⟩
       replace c75:=Bool.eq_false_iff.mpr c75;subst c75;rw [if_neg Bool.false_ne_true] at H;replace H:=bdI H;obtain ⟨t148,A77,H⟩:=H;(try dsimp only at H)
       by_cases c78:t148=true
       ·subst c78;rw [if_pos rfl] at H;obtain rfl:=Option.some.inj H;obtain ⟨_,_,_,_,_,_,_,_⟩:=bk4 BK134;go_wp2_with (first | ((with_reducible refine gate_callee (f:=35) rfl ?_);refine gL 82 Tryz.func35 #[.int .i64 a0_0] ?_;(with_reducible refine (rf48_number.calls a0_0 false _ A63.out).mono ?_);rintro e w' ⟨rfl,⟨nd,rfl⟩⟩;refine ⟨_,rfl,?_⟩) | (go_at_call 35;(with_reducible refine (rf48_number.calls a0_0 false _ A74.out).mono ?_);rintro e w' ⟨rfl,⟨nd,rfl⟩⟩) | (go_at_call 58;(with_reducible refine (rf06_Plain.calls kj31 a0_2 true _ A77.out).mono ?_);rintro e w' ⟨rfl,⟨nd,rfl⟩⟩))
        go_ret
        exact ⟨zq4,zq36⟩
       replace c78:=Bool.eq_false_iff.mpr c78;subst c78;rw [if_neg Bool.false_ne_true] at H;obtain rfl:=Option.some.inj H;obtain ⟨_,_,_,_,_,_,_,_⟩:=bk4 BK134;go_wp2_with (first | ((with_reducible refine gate_callee (f:=35) rfl ?_);refine gL 82 Tryz.func35 #[.int .i64 a0_0] ?_;(with_reducible refine (rf48_number.calls a0_0 false _ A63.out).mono ?_);rintro e w' ⟨rfl,⟨nd,rfl⟩⟩;refine ⟨_,rfl,?_⟩) | (go_at_call 35;(with_reducible refine (rf48_number.calls a0_0 false _ A74.out).mono ?_);rintro e w' ⟨rfl,⟨nd,rfl⟩⟩) | (go_at_call 58;(with_reducible refine (rf06_Plain.calls kj31 a0_2 false _ A77.out).mono ?_);rintro e w' ⟨rfl,⟨nd,rfl⟩⟩))
       go_ret
       exact ⟨zq4,zq36⟩
end Go.Proofs.YtkbgkekegjfkfaaGreatDoor.A
namespace Go.Proofs.YtkbgkekegjfkfaaGreatDoor.WL
open WW (Aside0)
def opsOf (f:Func) (k:Nat):Array Oper:=((f.body.bind fun c=>opsIn c k)).getD #[]
end Go.Proofs.YtkbgkekegjfkfaaGreatDoor.WL
namespace Go.Proofs.YtkbgkekegjfkfaaGreatDoor.A
open Go.RowKit B WW WL WM
attribute [local go_sem] max2_int min2_int max_two min_two max_three min_three max_four min_four
set_option maxHeartbeats 8000000
set_option maxRecDepth 100000
theorem rf09_Right.tab4:rtab .any (opsOf Tryz.f25 4)=rf09_Right.T4:=by kernel_rfl
theorem rf09_Right.calls (k:Nat) (A0:Option Addr) (c0:Nat) (l0:List (S50)) (r:Bool) (w:World) (hr0:Kd.C k50 w A0 l0.length l0) (hc0:l0.length≤c0) (h:rf09_Right.f k l0=some r) :
  Calls Tryz.prog 25 #[.slice A0 l0.length c0] w fun e w'=>e=.returned (.bool r)∧Below w.heap.size w w':=by
 have hu50:=Tryz.underlying50;have HR0:=sd hr0;have HC0:=sd hc0;clear hr0 hc0;have HB:=sd (Below.refl w.heap.size w);have H:=h;clear h;unfold rf09_Right.f at H;have H':=sd H;clear H;go_enter Tryz.func25,Tryz.ntmps25
 go_wp2
 go_loopg [3] k (fun kq v3 w'=>∃ (x3_1:Int),v3=.int .i64 x3_1∧Aside0 (rf09_Right.l0 kq l0 x3_1=some r)∧Aside0 (kq≤k)∧Aside0 (Below w.heap.size w w'))
 case atStart=>exact ⟨(0),zq7,H',⟨Nat.le_refl _⟩,⟨zq6⟩⟩
 case round =>
  clear H';obtain ⟨x3_1,rfl,HA,HK1,HB⟩:=hrel
  cases gk with
  | zero=>exact absurd HA.out (by simp [rf09_Right.l0])
  | succ k1 =>
   have H:=HA.out;clear HA;simp only [rf09_Right.l0] at H
   replace H:=ifI H;rcases H with ⟨c2,H⟩ | ⟨c2,H⟩
   ·have c2b0:decide (x3_1 < (l0.length:Int))=true:=decide_eq_true c2;clear c2;replace H:=ifI H;rcases H with ⟨c3,H⟩ | ⟨c3,H⟩
    ·have c3b0:decide (0≤x3_1)=true:=decide_eq_true c3;clear c3;replace H:=bdI H;obtain ⟨t131,A4,H⟩:=H;(try dsimp only at H)
     by_cases c5:t131=true
     ·subst c5;rw [if_pos rfl] at H;replace H:=ifI H;rcases H with ⟨c6,H⟩ | ⟨c6,H⟩
      ·have c6b0:decide (0 < x3_1)=true:=decide_eq_true c6;clear c6;obtain ⟨ji7,hji7⟩:∃ j_:Int,(wrap64 (x3_1 - 1))=j_:=⟨_,rfl⟩
       replace H:(if 0≤(ji7) then (if (ji7) < (l0.length:Int) then (if ((Op.bytesLess (((rd_T50 l0 (ji7)).f0).toList) (((rd_T50 l0 x3_1).f0).toList))=true) then (rf09_Right.l0 k1 l0 (wrap64 (x3_1+1))) else (some false)) else (none)) else (none))=some r:=by first | (rw [hji7] at H;exact H) | (simp only [hji7] at H ⊢;exact H)
       (try rw [hji7] at A4)
       have hji7w:(IntKind.i64.wrap (x3_1 - 1))=ji7:=(i64_w _).trans hji7;replace H:=ifI H;rcases H with ⟨c8,H⟩ | ⟨c8,H⟩
       ·have c8b0:decide (0≤(ji7))=true:=decide_eq_true c8;clear c8;replace H:=ifI H;rcases H with ⟨c9,H⟩ | ⟨c9,H⟩
        ·have c9b0:decide ((ji7) < (l0.length:Int))=true:=decide_eq_true c9;clear c9;replace H:=ifI H;rcases H with ⟨c10,H⟩ | ⟨c10,H⟩
         ·have c10b0:(Op.bytesLess (((rd_T50 l0 (ji7)).f0).toList) (((rd_T50 l0 x3_1).f0).toList))=true:=c10;have c10b9:=less_le c10b0;clear c10;have H':=sd H;clear H;try go_wp2
          replace HB:=sd (below_drew1 HB.out);have p130:0≤(x3_1:Int):=od;have q130:x3_1 < (l0.length:Int):=od;obtain ⟨ad130,e130,hx130_0,hx130_1⟩:=at_T50 HR0.out x3_1 p130 q130;have hw130_1:=hx130_1;have hw130_0:=hx130_0
          cases e130
          replace hx130_0:=(HB.out.cell (World.block_lt_of_cell? w _ hx130_0)).trans hx130_0;replace hx130_1:=(HB.out.cell (World.block_lt_of_cell? w _ hx130_1)).trans hx130_1;replace p130:=eq_true p130;replace q130:=eq_true q130;have p132:0≤(x3_1:Int):=od;have q132:x3_1 < (l0.length:Int):=od;obtain ⟨ad132,e132,hx132_0,hx132_1⟩:=at_T50 HR0.out x3_1 p132 q132;have hw132_1:=hx132_1;have hw132_0:=hx132_0;obtain rfl:ad130=ad132:=(by injection e132)
          replace hx132_0:=(HB.out.cell (World.block_lt_of_cell? w _ hx132_0)).trans hx132_0;replace hx132_1:=(HB.out.cell (World.block_lt_of_cell? w _ hx132_1)).trans hx132_1;replace p132:=eq_true p132;replace q132:=eq_true q132;have p133:0≤((ji7):Int):=od;have q133:(ji7) < (l0.length:Int):=od;obtain ⟨ad133,e133,hx133_0,hx133_1⟩:=at_T50 HR0.out (ji7) p133 q133;have hw133_1:=hx133_1;have hw133_0:=hx133_0;obtain rfl:ad130=ad133:=(by injection e133)
          replace hx133_0:=(HB.out.cell (World.block_lt_of_cell? w _ hx133_0)).trans hx133_0;replace hx133_1:=(HB.out.cell (World.block_lt_of_cell? w _ hx133_1)).trans hx133_1;replace p133:=eq_true p133;replace q133:=eq_true q133;refine start_ (n:=24) (S:=fun w'=>w'.cell? (ad130.add ((x3_1).toNat * 2))=some (.string ((rd_T50 l0 x3_1).f0))∧w'.cell? ⟨(ad130.add ((x3_1).toNat * 2)).block,(ad130.add ((x3_1).toNat * 2)).off+1,none⟩=some (.string ((rd_T50 l0 x3_1).f1))∧w'.cell? (ad130.add ((x3_1).toNat * 2))=some (.string ((rd_T50 l0 x3_1).f0))∧w'.cell? ⟨(ad130.add ((x3_1).toNat * 2)).block,(ad130.add ((x3_1).toNat * 2)).off+1,none⟩=some (.string ((rd_T50 l0 x3_1).f1))∧w'.cell? (ad130.add (((ji7)).toNat * 2))=some (.string ((rd_T50 l0 (ji7)).f0))∧w'.cell? ⟨(ad130.add (((ji7)).toNat * 2)).block,(ad130.add (((ji7)).toNat * 2)).off+1,none⟩=some (.string ((rd_T50 l0 (ji7)).f1))) (ds:=[]) #[false,false,false,false,false,false,false,false,false,false,false,false,false,false,false,false,false,false,false,false,false,false,false,false] (by kernel_rfl) rfl rfl ⟨((HB.out.cell (World.block_lt_of_cell? w _ hw130_0)).trans hw130_0),((HB.out.cell (World.block_lt_of_cell? w _ hw130_1)).trans hw130_1),((HB.out.cell (World.block_lt_of_cell? w _ hw132_0)).trans hw132_0),((HB.out.cell (World.block_lt_of_cell? w _ hw132_1)).trans hw132_1),((HB.out.cell (World.block_lt_of_cell? w _ hw133_0)).trans hw133_0),((HB.out.cell (World.block_lt_of_cell? w _ hw133_1)).trans hw133_1)⟩ (fun hHeld=>?_);refine with_tabW rf09_Right.tab4 rf09_Right.bits4 (fun HT_ HW_=>?_);generalize wr.drew=w11 at HB hx130_0 hx130_1 hx132_0 hx132_1 hx133_0 hx133_1 hHeld ⊢;refine pA 0 10 HT_.out ?_;refine pA 1 11 HT_.out ?_;refine pA 2 12 HT_.out ?_;refine tA 3 13 HT_.out HW_.out hHeld ?_;refine one_ (i:=4) (N:=some 14) #[true,true,true,true,true,false,false,false,false,false,false,false,false,false,false,false,false,false,false,false,false,false,false,false] rfl rfl (one_of HT_.out (by kernel_rfl)) (by decide) (fun K hK=>?_);refine goes_ Tryz.func56 (by kernel_rfl) rfl #[.agg #[.string ((rd_T50 l0 x3_1).f0),.string ((rd_T50 l0 x3_1).f1)]] (by rfl) rfl rfl zq34 ?_;with_reducible refine (rf09_named.calls k1 ((rd_T50 l0 x3_1).f0) ((rd_T50 l0 x3_1).f1) true _ A4.out).mono ?_
          rintro e w12 ⟨rfl,hb⟩;refine ⟨_,rfl,?_⟩;replace HB:=hbm HB hb;clear hb;refine hK.out _ _ ⟨((HB.out.cell (World.block_lt_of_cell? w _ hw130_0)).trans hw130_0),((HB.out.cell (World.block_lt_of_cell? w _ hw130_1)).trans hw130_1),((HB.out.cell (World.block_lt_of_cell? w _ hw132_0)).trans hw132_0),((HB.out.cell (World.block_lt_of_cell? w _ hw132_1)).trans hw132_1),((HB.out.cell (World.block_lt_of_cell? w _ hw133_0)).trans hw133_0),((HB.out.cell (World.block_lt_of_cell? w _ hw133_1)).trans hw133_1)⟩ (fun hHeld=>?_);clear hK K;refine nA 14 ?_;refine pA 5 15 HT_.out ?_;refine pA 6 16 HT_.out ?_;refine pA 7 17 HT_.out ?_;refine pA 8 18 HT_.out ?_;refine pA 9 19 HT_.out ?_;refine pA 10 20 HT_.out ?_;refine pA 11 21 HT_.out ?_;refine pA 12 22 HT_.out ?_;refine pA 13 23 HT_.out ?_;refine pA 15 25 HT_.out ?_;refine pA 16 26 HT_.out ?_;refine pA 17 27 HT_.out ?_;refine pA 18 28 HT_.out ?_;refine pA 19 29 HT_.out ?_;refine tA 14 24 HT_.out HW_.out hHeld ?_;refine tA 20 30 HT_.out HW_.out hHeld ?_;refine pA 21 31 HT_.out ?_;refine pA 22 32 HT_.out ?_;refine pA 23 33 HT_.out ?_;refine done_ (done_of HT_.out (by kernel_rfl)) ?_;try go_wp2
          go_roundg k1
          case measure=>have:=HK1.out;omega
          case rel=>exact ⟨(wrap64 (x3_1+1)),zq7,H',⟨by have:=HK1.out;omega⟩,⟨zq6⟩⟩
         have c10b0:(Op.bytesLess (((rd_T50 l0 (ji7)).f0).toList) (((rd_T50 l0 x3_1).f0).toList))=false:=by simpa using c10
         have c10b9:=less_ge c10b0;clear c10;obtain rfl:=Option.some.inj H;try go_wp2
         replace HB:=sd (below_drew1 HB.out);have p130:0≤(x3_1:Int):=od;have q130:x3_1 < (l0.length:Int):=od;obtain ⟨ad130,e130,hx130_0,hx130_1⟩:=at_T50 HR0.out x3_1 p130 q130;have hw130_1:=hx130_1;have hw130_0:=hx130_0
         cases e130
         replace hx130_0:=(HB.out.cell (World.block_lt_of_cell? w _ hx130_0)).trans hx130_0;replace hx130_1:=(HB.out.cell (World.block_lt_of_cell? w _ hx130_1)).trans hx130_1;replace p130:=eq_true p130;replace q130:=eq_true q130;have p132:0≤(x3_1:Int):=od;have q132:x3_1 < (l0.length:Int):=od;obtain ⟨ad132,e132,hx132_0,hx132_1⟩:=at_T50 HR0.out x3_1 p132 q132;have hw132_1:=hx132_1;have hw132_0:=hx132_0;obtain rfl:ad130=ad132:=(by injection e132)
         replace hx132_0:=(HB.out.cell (World.block_lt_of_cell? w _ hx132_0)).trans hx132_0;replace hx132_1:=(HB.out.cell (World.block_lt_of_cell? w _ hx132_1)).trans hx132_1;replace p132:=eq_true p132;replace q132:=eq_true q132;have p133:0≤((ji7):Int):=od;have q133:(ji7) < (l0.length:Int):=od;obtain ⟨ad133,e133,hx133_0,hx133_1⟩:=at_T50 HR0.out (ji7) p133 q133;have hw133_1:=hx133_1;have hw133_0:=hx133_0;obtain rfl:ad130=ad133:=(by injection e133)
         replace hx133_0:=(HB.out.cell (World.block_lt_of_cell? w _ hx133_0)).trans hx133_0;replace hx133_1:=(HB.out.cell (World.block_lt_of_cell? w _ hx133_1)).trans hx133_1;replace p133:=eq_true p133;replace q133:=eq_true q133;refine start_ (n:=24) (S:=fun w'=>w'.cell? (ad130.add ((x3_1).toNat * 2))=some (.string ((rd_T50 l0 x3_1).f0))∧w'.cell? ⟨(ad130.add ((x3_1).toNat * 2)).block,(ad130.add ((x3_1).toNat * 2)).off+1,none⟩=some (.string ((rd_T50 l0 x3_1).f1))∧w'.cell? (ad130.add ((x3_1).toNat * 2))=some (.string ((rd_T50 l0 x3_1).f0))∧w'.cell? ⟨(ad130.add ((x3_1).toNat * 2)).block,(ad130.add ((x3_1).toNat * 2)).off+1,none⟩=some (.string ((rd_T50 l0 x3_1).f1))∧w'.cell? (ad130.add (((ji7)).toNat * 2))=some (.string ((rd_T50 l0 (ji7)).f0))∧w'.cell? ⟨(ad130.add (((ji7)).toNat * 2)).block,(ad130.add (((ji7)).toNat * 2)).off+1,none⟩=some (.string ((rd_T50 l0 (ji7)).f1))) (ds:=[]) #[false,false,false,false,false,false,false,false,false,false,false,false,false,false,false,false,false,false,false,false,false,false,false,false] (by kernel_rfl) rfl rfl ⟨((HB.out.cell (World.block_lt_of_cell? w _ hw130_0)).trans hw130_0),((HB.out.cell (World.block_lt_of_cell? w _ hw130_1)).trans hw130_1),((HB.out.cell (World.block_lt_of_cell? w _ hw132_0)).trans hw132_0),((HB.out.cell (World.block_lt_of_cell? w _ hw132_1)).trans hw132_1),((HB.out.cell (World.block_lt_of_cell? w _ hw133_0)).trans hw133_0),((HB.out.cell (World.block_lt_of_cell? w _ hw133_1)).trans hw133_1)⟩ (fun hHeld=>?_);refine with_tabW rf09_Right.tab4 rf09_Right.bits4 (fun HT_ HW_=>?_);generalize wr.drew=w13 at HB hx130_0 hx130_1 hx132_0 hx132_1 hx133_0 hx133_1 hHeld ⊢;refine pA 0 10 HT_.out ?_;refine pA 1 11 HT_.out ?_;refine pA 2 12 HT_.out ?_;refine tA 3 13 HT_.out HW_.out hHeld ?_;refine one_ (i:=4) (N:=some 14) #[true,true,true,true,true,false,false,false,false,false,false,false,false,false,false,false,false,false,false,false,false,false,false,false] rfl rfl (one_of HT_.out (by kernel_rfl)) (by decide) (fun K hK=>?_);refine goes_ Tryz.func56 (by kernel_rfl) rfl #[.agg #[.string ((rd_T50 l0 x3_1).f0),.string ((rd_T50 l0 x3_1).f1)]] (by rfl) rfl rfl zq34 ?_;with_reducible refine (rf09_named.calls k1 ((rd_T50 l0 x3_1).f0) ((rd_T50 l0 x3_1).f1) true _ A4.out).mono ?_
         rintro e w14 ⟨rfl,hb⟩;refine ⟨_,rfl,?_⟩;replace HB:=hbm HB hb;clear hb;refine hK.out _ _ ⟨((HB.out.cell (World.block_lt_of_cell? w _ hw130_0)).trans hw130_0),((HB.out.cell (World.block_lt_of_cell? w _ hw130_1)).trans hw130_1),((HB.out.cell (World.block_lt_of_cell? w _ hw132_0)).trans hw132_0),((HB.out.cell (World.block_lt_of_cell? w _ hw132_1)).trans hw132_1),((HB.out.cell (World.block_lt_of_cell? w _ hw133_0)).trans hw133_0),((HB.out.cell (World.block_lt_of_cell? w _ hw133_1)).trans hw133_1)⟩ (fun hHeld=>?_);clear hK K;refine nA 14 ?_;refine pA 5 15 HT_.out ?_;refine pA 6 16 HT_.out ?_;refine pA 7 17 HT_.out ?_;refine pA 8 18 HT_.out ?_;refine pA 9 19 HT_.out ?_;refine pA 10 20 HT_.out ?_;refine pA 11 21 HT_.out ?_;refine pA 12 22 HT_.out ?_;refine pA 13 23 HT_.out ?_;refine pA 15 25 HT_.out ?_;refine pA 16 26 HT_.out ?_;refine pA 17 27 HT_.out ?_;refine pA 18 28 HT_.out ?_;refine pA 19 29 HT_.out ?_;refine tA 14 24 HT_.out HW_.out hHeld ?_;refine tA 20 30 HT_.out HW_.out hHeld ?_;refine pA 21 31 HT_.out ?_;refine pA 22 32 HT_.out ?_;refine pA 23 33 HT_.out ?_;refine done_ (done_of HT_.out (by kernel_rfl)) ?_;try go_wp2
         go_ret
         exact ⟨by first | rfl | (simp [errW_none,errW_some] <;> rfl) | (simp only [← hji7];first | rfl | (simp [errW_none,errW_some] <;> rfl)) | (simp [*,errW_none,errW_some] <;> rfl),zq6⟩
        exact absurd H (by simp)
       exact absurd H (by simp)
      have c6b0:decide (0 < x3_1)=false:=decide_eq_false c6;clear c6;have H':=sd H;clear H;try go_wp2
      replace HB:=sd (below_drew1 HB.out);have p130:0≤(x3_1:Int):=od;have q130:x3_1 < (l0.length:Int):=od;obtain ⟨ad130,e130,hx130_0,hx130_1⟩:=at_T50 HR0.out x3_1 p130 q130;have hw130_1:=hx130_1;have hw130_0:=hx130_0
      cases e130
      replace hx130_0:=(HB.out.cell (World.block_lt_of_cell? w _ hx130_0)).trans hx130_0;replace hx130_1:=(HB.out.cell (World.block_lt_of_cell? w _ hx130_1)).trans hx130_1;replace p130:=eq_true p130;replace q130:=eq_true q130;refine start_ (n:=24) (S:=fun w'=>w'.cell? (ad130.add ((x3_1).toNat * 2))=some (.string ((rd_T50 l0 x3_1).f0))∧w'.cell? ⟨(ad130.add ((x3_1).toNat * 2)).block,(ad130.add ((x3_1).toNat * 2)).off+1,none⟩=some (.string ((rd_T50 l0 x3_1).f1))) (ds:=[]) #[false,false,false,false,false,false,false,false,false,false,false,false,false,false,false,false,false,false,false,false,false,false,false,false] (by kernel_rfl) rfl rfl ⟨((HB.out.cell (World.block_lt_of_cell? w _ hw130_0)).trans hw130_0),((HB.out.cell (World.block_lt_of_cell? w _ hw130_1)).trans hw130_1)⟩ (fun hHeld=>?_);refine with_tabW rf09_Right.tab4 rf09_Right.bits4 (fun HT_ HW_=>?_);generalize wr.drew=w15 at HB hx130_0 hx130_1 hHeld ⊢;refine pA 0 10 HT_.out ?_;refine pA 1 11 HT_.out ?_;refine pA 2 12 HT_.out ?_;refine tA 3 13 HT_.out HW_.out hHeld ?_;refine one_ (i:=4) (N:=some 14) #[true,true,true,true,true,false,false,false,false,false,false,false,false,false,false,false,false,false,false,false,false,false,false,false] rfl rfl (one_of HT_.out (by kernel_rfl)) (by decide) (fun K hK=>?_);refine goes_ Tryz.func56 (by kernel_rfl) rfl #[.agg #[.string ((rd_T50 l0 x3_1).f0),.string ((rd_T50 l0 x3_1).f1)]] (by rfl) rfl rfl zq34 ?_;with_reducible refine (rf09_named.calls k1 ((rd_T50 l0 x3_1).f0) ((rd_T50 l0 x3_1).f1) true _ A4.out).mono ?_
      rintro e w16 ⟨rfl,hb⟩;refine ⟨_,rfl,?_⟩;replace HB:=hbm HB hb;clear hb;refine hK.out _ _ ⟨((HB.out.cell (World.block_lt_of_cell? w _ hw130_0)).trans hw130_0),((HB.out.cell (World.block_lt_of_cell? w _ hw130_1)).trans hw130_1)⟩ (fun hHeld=>?_);clear hK K;refine nA 14 ?_;refine pA 5 15 HT_.out ?_;refine pA 6 16 HT_.out ?_;refine pA 7 17 HT_.out ?_;refine pA 8 18 HT_.out ?_;refine pA 9 19 HT_.out ?_;refine oA 10 20 HT_.out ?_;refine oA 11 21 HT_.out ?_;refine oA 12 22 HT_.out ?_;refine oA 13 23 HT_.out ?_;refine oA 14 24 HT_.out ?_;refine oA 15 25 HT_.out ?_;refine oA 16 26 HT_.out ?_;refine oA 17 27 HT_.out ?_;refine oA 18 28 HT_.out ?_;refine oA 19 29 HT_.out ?_;refine oA 20 30 HT_.out ?_;refine oA 21 31 HT_.out ?_;refine pA 22 32 HT_.out ?_;refine pA 23 33 HT_.out ?_;refine done_ (done_of HT_.out (by kernel_rfl)) ?_;try go_wp2
      go_roundg k1
      case measure=>have:=HK1.out;omega
      case rel=>exact ⟨(wrap64 (x3_1+1)),zq7,H',⟨by have:=HK1.out;omega⟩,⟨zq6⟩⟩
     replace c5:=Bool.eq_false_iff.mpr c5;subst c5;rw [if_neg Bool.false_ne_true] at H;obtain rfl:=Option.some.inj H;try go_wp2
     replace HB:=sd (below_drew1 HB.out);have p130:0≤(x3_1:Int):=od;have q130:x3_1 < (l0.length:Int):=od;obtain ⟨ad130,e130,hx130_0,hx130_1⟩:=at_T50 HR0.out x3_1 p130 q130;have hw130_1:=hx130_1;have hw130_0:=hx130_0
     cases e130
     replace hx130_0:=(HB.out.cell (World.block_lt_of_cell? w _ hx130_0)).trans hx130_0;replace hx130_1:=(HB.out.cell (World.block_lt_of_cell? w _ hx130_1)).trans hx130_1;replace p130:=eq_true p130;replace q130:=eq_true q130;refine start_ (n:=24) (S:=fun w'=>w'.cell? (ad130.add ((x3_1).toNat * 2))=some (.string ((rd_T50 l0 x3_1).f0))∧w'.cell? ⟨(ad130.add ((x3_1).toNat * 2)).block,(ad130.add ((x3_1).toNat * 2)).off+1,none⟩=some (.string ((rd_T50 l0 x3_1).f1))) (ds:=[]) #[false,false,false,false,false,false,false,false,false,false,false,false,false,false,false,false,false,false,false,false,false,false,false,false] (by kernel_rfl) rfl rfl ⟨((HB.out.cell (World.block_lt_of_cell? w _ hw130_0)).trans hw130_0),((HB.out.cell (World.block_lt_of_cell? w _ hw130_1)).trans hw130_1)⟩ (fun hHeld=>?_);refine with_tabW rf09_Right.tab4 rf09_Right.bits4 (fun HT_ HW_=>?_);generalize wr.drew=w17 at HB hx130_0 hx130_1 hHeld ⊢;refine pA 0 10 HT_.out ?_;refine pA 1 11 HT_.out ?_;refine pA 2 12 HT_.out ?_;refine tA 3 13 HT_.out HW_.out hHeld ?_;refine one_ (i:=4) (N:=some 14) #[true,true,true,true,true,false,false,false,false,false,false,false,false,false,false,false,false,false,false,false,false,false,false,false] rfl rfl (one_of HT_.out (by kernel_rfl)) (by decide) (fun K hK=>?_);refine goes_ Tryz.func56 (by kernel_rfl) rfl #[.agg #[.string ((rd_T50 l0 x3_1).f0),.string ((rd_T50 l0 x3_1).f1)]] (by rfl) rfl rfl zq34 ?_;with_reducible refine (rf09_named.calls k1 ((rd_T50 l0 x3_1).f0) ((rd_T50 l0 x3_1).f1) false _ A4.out).mono ?_
     rintro e w18 ⟨rfl,hb⟩;refine ⟨_,rfl,?_⟩;replace HB:=hbm HB hb;clear hb;refine hK.out _ _ ⟨((HB.out.cell (World.block_lt_of_cell? w _ hw130_0)).trans hw130_0),((HB.out.cell (World.block_lt_of_cell? w _ hw130_1)).trans hw130_1)⟩ (fun hHeld=>?_);clear hK K;refine nA 14 ?_;refine pA 5 15 HT_.out ?_;refine pA 6 16 HT_.out ?_;refine oA 7 17 HT_.out ?_;refine oA 8 18 HT_.out ?_;refine oA 9 19 HT_.out ?_;refine oA 10 20 HT_.out ?_;refine oA 11 21 HT_.out ?_;refine oA 12 22 HT_.out ?_;refine oA 13 23 HT_.out ?_;refine oA 14 24 HT_.out ?_;refine oA 15 25 HT_.out ?_;refine oA 16 26 HT_.out ?_;refine oA 17 27 HT_.out ?_;refine oA 18 28 HT_.out ?_;refine oA 19 29 HT_.out ?_;refine oA 20 30 HT_.out ?_;refine oA 21 31 HT_.out ?_;refine oA 22 32 HT_.out ?_;refine pA 23 33 HT_.out ?_;refine done_ (done_of HT_.out (by kernel_rfl)) ?_;try go_wp2
     go_ret
     exact ⟨zq4,zq6⟩
    exact absurd H (by simp)
   have c2b0:decide (x3_1 < (l0.length:Int))=false:=decide_eq_false c2;clear c2;obtain rfl:=Option.some.inj H;go_wp2
   go_ret
   exact ⟨zq4,zq6⟩
end Go.Proofs.YtkbgkekegjfkfaaGreatDoor.A
