-- By pack.py, a program of this session's.
import Derived.Test.YtmlcdpfcafmmcaaDoorX12
import Derived.Test.YtmlcdpfcafmmcaaDoorX15
import Derived.Test.YtmlcdpfcafmmcaaDoorX19
import Derived.Test.YtmlcdpfcafmmcaaDoorX24
set_option linter.unusedVariables false
set_option linter.unusedSimpArgs false
namespace Go.Proofs.YtmlcdpfcafmmcaaDoor.A
open Go.RowKit B WW WL WM
theorem zq21 {P:Prop} (h:P:=by repeat (first | (with_reducible first | exact HB.out | apply below_alloc | apply pw_below_drewN | apply below_drew1 | refine below_set ?_ GE221.out) | exact HB.out)):P:=h
theorem zq22 {P:Prop} (h:P:=by (with_reducible repeat (first | refine blk_drewN ?_ _ | refine blk_drew ?_ | refine blk_alloc ?_ _));exact BK225.out):P:=h
theorem zq23 {P:Prop} (h:P:=by repeat (first | (with_reducible first | exact HB.out | apply below_alloc | apply pw_below_drewN | apply below_drew1 | refine below_set ?_ GE225.out) | exact HB.out)):P:=h
theorem bt_up (s:ByteArray) (i:Nat) (h:i < s.size):bt s (i:Int)=(s[i].toNat:Int):=by
  have hb:bt s (i:Int)=((s.data.toList.getD i 0).toNat:Int):=bt_eq s i;rw [hb,List.getD_eq_getElem?_getD,List.getElem?_eq_getElem (by rw [size_eq'] at h;exact h)];simp;rfl
end Go.Proofs.YtmlcdpfcafmmcaaDoor.A
namespace Go.Proofs.YtmlcdpfcafmmcaaDoor.A
open Go.RowKit B WW WL WM
attribute [local go_sem] max2_int min2_int max_two min_two max_three min_three max_four min_four
set_option maxHeartbeats 8000000
set_option maxRecDepth 100000
def rf07_Code.l0:Nat→ByteArray→Int→Option (Bool)
 | 0,_,_=>none
 | k+1,x0,x3=>if x3 < 3 then (if 0≤x3 then (if x3 < (x0.size:Int) then (if (bt x0 x3) < 65 then (some false) else (if (bt x0 x3) > 90 then (some false) else (rf07_Code.l0 k x0 (wrap64 (x3+1))))) else (none)) else (none)) else (some true)
def rf07_Code.f (k:Nat) (a0:ByteArray):Option (Bool):=if (a0.size:Int)=3 then (rf07_Code.l0 k a0 0) else (some false)
theorem rf07_Code.calls (k:Nat) (a0:ByteArray) (r:Bool) (w:World) (h:rf07_Code.f k a0=some r) :
  Calls Tryd.prog 27 #[.string a0] w fun e w'=>e=.returned (.bool r)∧Drawn0 w w':=by
 have H:=h;clear h;unfold rf07_Code.f at H;replace H:=ifI H;rcases H with ⟨c2,H⟩ | ⟨c2,H⟩
 ·obtain ⟨c2b0,c2b1⟩:=eqI c2;clear c2;have H':=sd H;clear H;go_enter Tryd.func27,Tryd.ntmps27
  go_wp2
  go_loopg [3] k (fun kq v3 w'=>∃ (x3_1:Int),v3=.int .i64 x3_1∧Aside0 (rf07_Code.l0 kq a0 x3_1=some r)∧Aside0 (kq≤k)∧Drawn0 w w')
  case atStart=>exact ⟨(0),zq1,H',⟨Nat.le_refl _⟩,zq2⟩
  case round =>
   clear H';try clear c2
   try clear c2b0
   try clear c2b1
   try clear p2
   obtain ⟨x3_1,rfl,HA,HK1,⟨m1,rfl⟩⟩:=hrel
   cases gk with
   | zero=>exact absurd HA.out (by simp [rf07_Code.l0])
   | succ k1 =>
    have H:=HA.out;clear HA;simp only [rf07_Code.l0] at H
    replace H:=ifI H;rcases H with ⟨c3,H⟩ | ⟨c3,H⟩
    ·have c3b0:decide (x3_1 < 3)=true:=decide_eq_true c3;clear c3;replace H:=ifI H;rcases H with ⟨c4,H⟩ | ⟨c4,H⟩
     ·have c4b0:decide (0≤x3_1)=true:=decide_eq_true c4;clear c4;replace H:=ifI H;rcases H with ⟨c5,H⟩ | ⟨c5,H⟩
      ·have c5b0:decide (x3_1 < (a0.size:Int))=true:=decide_eq_true c5;clear c5;replace H:=ifI H;rcases H with ⟨c7,H⟩ | ⟨c7,H⟩
       ·have c7b0:decide ((bt a0 x3_1) < 65)=true:=decide_eq_true c7;clear c7;obtain rfl:=Option.some.inj H;have p6:0≤(x3_1:Int):=od;have q6:x3_1 < (a0.size:Int):=od;have hx6:=bt_at a0 x3_1;replace p6:=eq_true p6;replace q6:=eq_true q6;go_wp2
        go_ret
        exact ⟨zq1,zq2⟩
       have c7b0:decide ((bt a0 x3_1) < 65)=false:=decide_eq_false c7;clear c7;replace H:=ifI H;rcases H with ⟨c9,H⟩ | ⟨c9,H⟩
       ·have c9b0:decide (90 < (bt a0 x3_1))=true:=decide_eq_true c9;clear c9;obtain rfl:=Option.some.inj H;have p6:0≤(x3_1:Int):=od;have q6:x3_1 < (a0.size:Int):=od;have hx6:=bt_at a0 x3_1;replace p6:=eq_true p6;replace q6:=eq_true q6;have p8:0≤(x3_1:Int):=od;have q8:x3_1 < (a0.size:Int):=od;have hx8:=bt_at a0 x3_1;replace p8:=eq_true p8;replace q8:=eq_true q8;go_wp2
        go_ret
        exact ⟨zq1,zq2⟩
       have c9b0:decide (90 < (bt a0 x3_1))=false:=decide_eq_false c9;clear c9;have H':=sd H;clear H;have p6:0≤(x3_1:Int):=od;have q6:x3_1 < (a0.size:Int):=od;have hx6:=bt_at a0 x3_1;replace p6:=eq_true p6;replace q6:=eq_true q6;have p8:0≤(x3_1:Int):=od;have q8:x3_1 < (a0.size:Int):=od;have hx8:=bt_at a0 x3_1;replace p8:=eq_true p8;replace q8:=eq_true q8;go_wp2
       go_roundg k1
       case measure=>have:=HK1.out;omega
       case rel=>exact ⟨(wrap64 (x3_1+1)),zq1,H',⟨by have:=HK1.out;omega⟩,zq2⟩
      exact absurd H (by simp)
     exact absurd H (by simp)
    have c3b0:decide (x3_1 < 3)=false:=decide_eq_false c3;clear c3;obtain rfl:=Option.some.inj H;go_wp2
    go_ret
    exact ⟨zq1,zq2⟩
 obtain ⟨c2b0,c2b1⟩:=neI c2;obtain rfl:=Option.some.inj H;go_enter Tryd.func27,Tryd.ntmps27
 go_wp2
 go_ret
 exact ⟨zq1,zq2⟩
def rf47_within.f (a0:Int) (a1:Int):Option (Bool):=if a0 ≥ (wrap64 (-a1)) then (some (decide (a0≤a1))) else (some false)
theorem rf47_within.calls (a0 a1:Int) (r:Bool) (w:World) (h:rf47_within.f a0 a1=some r) :
  Calls Tryd.prog 28 #[.int .i64 a0,.int .i64 a1] w fun e w'=>e=.returned (.bool r)∧Drawn0 w w':=by
 have H:=h;clear h;unfold rf47_within.f at H;replace H:=ifI H;rcases H with ⟨c3,H⟩ | ⟨c3,H⟩
 ·have c3b0:decide ((wrap64 (-a1))≤a0)=true:=decide_eq_true c3;clear c3;obtain rfl:=Option.some.inj H;go_enter Tryd.func28,Tryd.ntmps28
  go_wp2
  go_ret
  exact ⟨zq1,zq2⟩
 have c3b0:decide ((wrap64 (-a1))≤a0)=false:=decide_eq_false c3;clear c3;obtain rfl:=Option.some.inj H;go_enter Tryd.func28,Tryd.ntmps28
 go_wp2
 go_ret
 exact ⟨zq1,zq2⟩
def rf06_Plain.l0:Nat→ByteArray→Int→Option (Bool)
 | 0,_,_=>none
 | k+1,x0,x3=>if x3 < (x0.size:Int) then (if 0≤x3 then (if (bt x0 x3) < 32 then (some false) else (if (bt x0 x3) > 126 then (some false) else (rf06_Plain.l0 k x0 (wrap64 (x3+1))))) else (none)) else (some (decide ((x0.size:Int)≤60)))
def rf06_Plain.f (k:Nat) (a0:ByteArray):Option (Bool):=rf06_Plain.l0 k a0 0
theorem rf06_Plain.calls (k:Nat) (a0:ByteArray) (r:Bool) (w:World) (h:rf06_Plain.f k a0=some r) :
  Calls Tryd.prog 58 #[.string a0] w fun e w'=>e=.returned (.bool r)∧Drawn0 w w':=by
 have H:=h;clear h;unfold rf06_Plain.f at H;have H':=sd H;clear H;go_enter Tryd.func58,Tryd.ntmps58
 go_wp2
 go_loopg [3] k (fun kq v3 w'=>∃ (x3_1:Int),v3=.int .i64 x3_1∧Aside0 (rf06_Plain.l0 kq a0 x3_1=some r)∧Aside0 (kq≤k)∧Drawn0 w w')
 case atStart=>exact ⟨(0),zq1,H',⟨Nat.le_refl _⟩,zq2⟩
 case round =>
  clear H';obtain ⟨x3_1,rfl,HA,HK1,⟨m1,rfl⟩⟩:=hrel
  cases gk with
  | zero=>exact absurd HA.out (by simp [rf06_Plain.l0])
  | succ k1 =>
   have H:=HA.out;clear HA;simp only [rf06_Plain.l0] at H
   replace H:=ifI H;rcases H with ⟨c2,H⟩ | ⟨c2,H⟩
   ·have c2b0:decide (x3_1 < (a0.size:Int))=true:=decide_eq_true c2;clear c2;replace H:=ifI H;rcases H with ⟨c3,H⟩ | ⟨c3,H⟩
    ·have c3b0:decide (0≤x3_1)=true:=decide_eq_true c3;clear c3;replace H:=ifI H;rcases H with ⟨c5,H⟩ | ⟨c5,H⟩
     ·have c5b0:decide ((bt a0 x3_1) < 32)=true:=decide_eq_true c5;clear c5;obtain rfl:=Option.some.inj H;have p4:0≤(x3_1:Int):=od;have q4:x3_1 < (a0.size:Int):=od;have hx4:=bt_at a0 x3_1;replace p4:=eq_true p4;replace q4:=eq_true q4;go_wp2
      go_ret
      exact ⟨zq1,zq2⟩
     have c5b0:decide ((bt a0 x3_1) < 32)=false:=decide_eq_false c5;clear c5;replace H:=ifI H;rcases H with ⟨c7,H⟩ | ⟨c7,H⟩
     ·have c7b0:decide (126 < (bt a0 x3_1))=true:=decide_eq_true c7;clear c7;obtain rfl:=Option.some.inj H;have p4:0≤(x3_1:Int):=od;have q4:x3_1 < (a0.size:Int):=od;have hx4:=bt_at a0 x3_1;replace p4:=eq_true p4;replace q4:=eq_true q4;have p6:0≤(x3_1:Int):=od;have q6:x3_1 < (a0.size:Int):=od;have hx6:=bt_at a0 x3_1;replace p6:=eq_true p6;replace q6:=eq_true q6;go_wp2
      go_ret
      exact ⟨zq1,zq2⟩
     have c7b0:decide (126 < (bt a0 x3_1))=false:=decide_eq_false c7;clear c7;have H':=sd H;clear H;have p4:0≤(x3_1:Int):=od;have q4:x3_1 < (a0.size:Int):=od;have hx4:=bt_at a0 x3_1;replace p4:=eq_true p4;replace q4:=eq_true q4;have p6:0≤(x3_1:Int):=od;have q6:x3_1 < (a0.size:Int):=od;have hx6:=bt_at a0 x3_1;replace p6:=eq_true p6;replace q6:=eq_true q6;go_wp2
     go_roundg k1
     case measure=>have:=HK1.out;omega
     case rel=>exact ⟨(wrap64 (x3_1+1)),zq1,H',⟨by have:=HK1.out;omega⟩,zq2⟩
    exact absurd H (by simp)
   have c2b0:decide (x3_1 < (a0.size:Int))=false:=decide_eq_false c2;clear c2;obtain rfl:=Option.some.inj H;go_wp2
   go_ret
   exact ⟨zq1,zq2⟩
def rf47_line.j0:Nat→Int→Bool→Int→Int→ByteArray→ByteArray→Option (Int)
 | 0,_,_,_,_,_,_=>none
 | k+1,x1,x5,x222000,x222001,x222002,x222003=>if x5=true then (some 11) else (if x222000 < x1 then (some 17) else (if x222001=0 then (some 2) else ((rf47_within.f x222001 1000000000000).bind fun t222=>(if t222=true then ((rf06_Plain.f k x222002).bind fun t223=>(if t223=true then ((rf06_Plain.f k x222003).bind fun t224=>(if t224=true then (some 0) else (some 5))) else (some 5))) else (some 4)))))
def rf47_line.f (k:Nat) (a0_0:Int) (a0_1:Int) (a0_2:ByteArray) (a0_3:ByteArray) (a1:Int):Option (Int):=if a0_0 < 0 then (rf47_line.j0 k a1 true a0_0 a0_1 a0_2 a0_3) else (rf47_line.j0 k a1 (decide (a0_0 > 109572)) a0_0 a0_1 a0_2 a0_3)
theorem rf47_line.calls (k:Nat) (a0_0 a0_1:Int) (a0_2 a0_3:ByteArray) (a1 r:Int) (w:World) (h:rf47_line.f k a0_0 a0_1 a0_2 a0_3 a1=some r) :
  Calls Tryd.prog 29 #[.agg #[.int .i64 a0_0,.int .i64 a0_1,.string a0_2,.string a0_3],.int .i64 a1] w fun e w'=>e=.returned (.int .i64 r)∧Below w.heap.size w w':=by
 have hu44:=Tryd.underlying44;have HB:=sd (Below.refl w.heap.size w);have H:=h;clear h;unfold rf47_line.f at H;have HC3:=sd H;clear H;go_enter Tryd.func29,Tryd.ntmps29
 go_upto_region 1 with (first | ((with_reducible refine gate_dst (N:=2) rfl ?_);refine bxA 2 #[.int .i64 a0_0,.int .i64 a0_1,.string a0_2,.string a0_3] 44 ?_;intro gb221 hg w4 hbox hb;have BK221:=sd (hbox);have GW221:=gem hg HB;have GE221:=GW221;replace HB:=hbm HB hb;clear hb hbox hg))
 (try simp only [Act.put,List.setIfInBounds_toArray,List.set_cons_zero,List.set_cons_succ])
 go_cut [5] (fun v5 wc=>∃ (kq:Nat) (x5_2:Bool),v5=.bool x5_2∧Aside0 (rf47_line.j0 kq a1 x5_2 a0_0 a0_1 a0_2 a0_3=some r)∧Aside0 (kq≤k)∧Aside0 (wc.heap[gb221]?=some (.cells #[.int .i64 a0_0,.int .i64 a0_1,.string a0_2,.string a0_3] 44 (0,0)))∧Aside0 (Below w.heap.size w wc))
 case first =>
  have H:=HC3.out;clear HC3;replace H:=ifI H;rcases H with ⟨c5,H⟩ | ⟨c5,H⟩
  ·have c5b0:decide (a0_0 < 0)=true:=decide_eq_true c5;clear c5;(first | rw [c5b0] | (simp only [i64_w,i32_w];rw [c5b0]) | skip)
   have H':=sd H;clear H;obtain ⟨_,_,_,_,_,_,_,_⟩:=bk4 BK221;go_wp2
   go_meet
   case rel=>exact ⟨_,(true),zq1,H',⟨by first | omega | exact Nat.le_refl _⟩,⟨by (with_reducible repeat (first | refine blk_drewN ?_ _ | refine blk_drew ?_ | refine blk_alloc ?_ _));exact BK221.out⟩,⟨zq21⟩⟩
  have c5b0:decide (a0_0 < 0)=false:=decide_eq_false c5;clear c5;(first | rw [c5b0] | (simp only [i64_w,i32_w];rw [c5b0]) | skip)
  have H':=sd H;clear H;obtain ⟨_,_,_,_,_,_,_,_⟩:=bk4 BK221;go_wp2
  go_meet
  case rel=>exact ⟨_,(decide (a0_0 > 109572)),zq1,H',⟨by first | omega | exact Nat.le_refl _⟩,⟨by (with_reducible repeat (first | refine blk_drewN ?_ _ | refine blk_drew ?_ | refine blk_alloc ?_ _));exact BK221.out⟩,⟨zq21⟩⟩
 case rest =>
  clear HC3;try clear c2
  try clear p2
  try clear c5
  try clear c5b0
  try clear hcz6_0
  try clear hcz6_1
  try clear hcz6_2
  try clear hcz6_3
  try clear hcz7_0
  try clear hcz7_1
  try clear hcz7_2
  try clear hcz7_3
  try clear hfz6_0
  try clear hfz6_1
  try clear hfz6_2
  try clear hfz6_3
  try clear hfz7_0
  try clear hfz7_1
  try clear hfz7_2
  try clear hfz7_3
  obtain ⟨kq,x5_2,rfl,HA,HJ2,BK221,HB⟩:=hcut
  cases kq with
  | zero=>exact absurd HA.out (by simp [rf47_line.j0])
  | succ kj2 =>
   have H:=HA.out;clear HA;simp only [rf47_line.j0] at H
   by_cases c8:x5_2=true
   ·subst c8;rw [if_pos rfl] at H;obtain rfl:=Option.some.inj H;go_wp2
    go_ret
    exact ⟨zq10,zq21⟩
   replace c8:=Bool.eq_false_iff.mpr c8;subst c8;rw [if_neg Bool.false_ne_true] at H;replace H:=ifI H;rcases H with ⟨c9,H⟩ | ⟨c9,H⟩
   ·have c9b0:decide (a0_0 < a1)=true:=decide_eq_true c9;clear c9;obtain rfl:=Option.some.inj H;obtain ⟨_,_,_,_,_,_,_,_⟩:=bk4 BK221;go_wp2
    go_ret
    exact ⟨zq10,zq21⟩
   have c9b0:decide (a0_0 < a1)=false:=decide_eq_false c9;clear c9;replace H:=ifI H;rcases H with ⟨c11,H⟩ | ⟨c11,H⟩
   ·obtain ⟨c11b0,c11b1⟩:=eqI c11;clear c11;obtain rfl:=Option.some.inj H;obtain ⟨_,_,_,_,_,_,_,_⟩:=bk4 BK221;go_wp2
    go_ret
    exact ⟨zq10,zq21⟩
   obtain ⟨c11b0,c11b1⟩:=neI c11;replace H:=bdI H;obtain ⟨t222,A13,H⟩:=H;(try dsimp only at H)
   by_cases c14:t222=true
   ·subst c14;rw [if_pos rfl] at H;replace H:=bdI H;obtain ⟨t223,A15,H⟩:=H;(try dsimp only at H)
    by_cases c16:t223=true
    ·subst c16;rw [if_pos rfl] at H;replace H:=bdI H;obtain ⟨t224,A17,H⟩:=H;(try dsimp only at H)
     by_cases c18:t224=true
     ·subst c18;rw [if_pos rfl] at H;obtain rfl:=Option.some.inj H;obtain ⟨_,_,_,_,_,_,_,_⟩:=bk4 BK221;go_wp2_with (first | ((with_reducible refine gate_callee (f:=28) rfl ?_);refine gL 26 Tryd.func28 #[.int .i64 a0_1,.int .i64 1000000000000] ?_;(with_reducible refine (rf47_within.calls a0_1 1000000000000 true _ A13.out).mono ?_);rintro e w' ⟨rfl,⟨nd,rfl⟩⟩;refine ⟨_,rfl,?_⟩) | ((with_reducible refine gate_callee (f:=58) rfl ?_);refine gL 31 Tryd.func58 #[.string a0_2] ?_;(with_reducible refine (rf06_Plain.calls kj2 a0_2 true _ A15.out).mono ?_);rintro e w' ⟨rfl,⟨nd,rfl⟩⟩;refine ⟨_,rfl,?_⟩) | (go_at_call 58;(with_reducible refine (rf06_Plain.calls kj2 a0_3 true _ A17.out).mono ?_);rintro e w' ⟨rfl,⟨nd,rfl⟩⟩))
      go_ret
      exact ⟨zq10,zq21⟩
     replace c18:=Bool.eq_false_iff.mpr c18;subst c18;rw [if_neg Bool.false_ne_true] at H;obtain rfl:=Option.some.inj H;obtain ⟨_,_,_,_,_,_,_,_⟩:=bk4 BK221;go_wp2_with (first | ((with_reducible refine gate_callee (f:=28) rfl ?_);refine gL 26 Tryd.func28 #[.int .i64 a0_1,.int .i64 1000000000000] ?_;(with_reducible refine (rf47_within.calls a0_1 1000000000000 true _ A13.out).mono ?_);rintro e w' ⟨rfl,⟨nd,rfl⟩⟩;refine ⟨_,rfl,?_⟩) | ((with_reducible refine gate_callee (f:=58) rfl ?_);refine gL 31 Tryd.func58 #[.string a0_2] ?_;(with_reducible refine (rf06_Plain.calls kj2 a0_2 true _ A15.out).mono ?_);rintro e w' ⟨rfl,⟨nd,rfl⟩⟩;refine ⟨_,rfl,?_⟩) | (go_at_call 58;(with_reducible refine (rf06_Plain.calls kj2 a0_3 false _ A17.out).mono ?_);rintro e w' ⟨rfl,⟨nd,rfl⟩⟩))
     go_ret
     exact ⟨zq10,zq21⟩
    replace c16:=Bool.eq_false_iff.mpr c16;subst c16;rw [if_neg Bool.false_ne_true] at H;obtain rfl:=Option.some.inj H;obtain ⟨_,_,_,_,_,_,_,_⟩:=bk4 BK221;go_wp2_with (first | ((with_reducible refine gate_callee (f:=28) rfl ?_);refine gL 26 Tryd.func28 #[.int .i64 a0_1,.int .i64 1000000000000] ?_;(with_reducible refine (rf47_within.calls a0_1 1000000000000 true _ A13.out).mono ?_);rintro e w' ⟨rfl,⟨nd,rfl⟩⟩;refine ⟨_,rfl,?_⟩) | ((with_reducible refine gate_callee (f:=58) rfl ?_);refine gL 31 Tryd.func58 #[.string a0_2] ?_;(with_reducible refine (rf06_Plain.calls kj2 a0_2 false _ A15.out).mono ?_);rintro e w' ⟨rfl,⟨nd,rfl⟩⟩;refine ⟨_,rfl,?_⟩))
    go_ret
    exact ⟨zq10,zq21⟩
   replace c14:=Bool.eq_false_iff.mpr c14;subst c14;rw [if_neg Bool.false_ne_true] at H;obtain rfl:=Option.some.inj H;obtain ⟨_,_,_,_,_,_,_,_⟩:=bk4 BK221;go_wp2_with (first | ((with_reducible refine gate_callee (f:=28) rfl ?_);refine gL 26 Tryd.func28 #[.int .i64 a0_1,.int .i64 1000000000000] ?_;(with_reducible refine (rf47_within.calls a0_1 1000000000000 false _ A13.out).mono ?_);rintro e w' ⟨rfl,⟨nd,rfl⟩⟩;refine ⟨_,rfl,?_⟩))
   go_ret
   exact ⟨zq10,zq21⟩
mutual
def rf47_Check.j0:Nat→Bool→ByteArray→ByteArray→Int→Int→Int→List (S44)→Option (Int)
 | 0,_,_,_,_,_,_,_=>none
 | k+1,x17,x226000,x226001,x226002,x226003,x226004,x226005=>if x17=true then (some 3) else ((rf47_within.f x226003 1000000000000000).bind fun t228=>(if t228=true then ((rf47_within.f x226004 1000000000000000).bind fun t229=>(rf47_Check.j1 k (!t229) x226000 x226001 x226002 x226003 x226004 x226005)) else (rf47_Check.j1 k true x226000 x226001 x226002 x226003 x226004 x226005)))
def rf47_Check.j1:Nat→Bool→ByteArray→ByteArray→Int→Int→Int→List (S44)→Option (Int)
 | 0,_,_,_,_,_,_,_=>none
 | k+1,x26,x226000,x226001,x226002,x226003,x226004,x226005=>if x26=true then (some 4) else (if (x226005.length:Int) > 200 then (some 9) else (rf47_Check.l0 k 0 x226003 0 x226000 x226001 x226002 x226003 x226004 x226005))
def rf47_Check.l0:Nat→Int→Int→Int→ByteArray→ByteArray→Int→Int→Int→List (S44)→Option (Int)
 | 0,_,_,_,_,_,_,_,_,_=>none
 | k+1,x3,x4,x5,x226000,x226001,x226002,x226003,x226004,x226005=>if x5 < (x226005.length:Int) then (if 0≤x5 then ((rf47_line.f k ((rd_T44 x226005 x5).f0) ((rd_T44 x226005 x5).f1) ((rd_T44 x226005 x5).f2) ((rd_T44 x226005 x5).f3) x3).bind fun t231=>(if t231=0 then (rf47_Check.l0 k ((rd_T44 x226005 x5).f0) (wrap64 (x4+((rd_T44 x226005 x5).f1))) (wrap64 (x5+1)) x226000 x226001 x226002 x226003 x226004 x226005) else (some t231))) else (none)) else (if x4=x226004 then (some 0) else (some 15))
end
end Go.Proofs.YtmlcdpfcafmmcaaDoor.A
namespace Go.Proofs.YtmlcdpfcafmmcaaDoor.A
open Go.RowKit B WW WL WM
theorem r6Plain_l0 (L:List UInt8) (hL:L.length≤1000000) (R:List UInt8):∀ P:List UInt8,P++R=L→P.all isPrn=true→Ev (fun k=>rf06_Plain.l0 k (oL L) (P.length:Int)) (plainW L):=by
  induction R with
  | nil =>
    intro P h hP;rw [List.append_nil] at h;subst h;refine Ev.step (fun k=>by rw [rf06_Plain.l0]) (Ev.no (by rw [oL_size];omega) (Ev.is ?_));rw [oL_size];unfold plainW;rw [hP,Bool.and_true,Bool.eq_iff_iff,decide_eq_true_iff,decide_eq_true_iff];omega
  | cons c r ih =>
    intro P h hP;have hl:P.length+(r.length+1)=L.length:=by rw [← h,List.length_append,List.length_cons]
    have hg:L.getD P.length 0=c:=by rw [← h,List.getD_eq_getElem?_getD,List.getElem?_append_right (Nat.le_refl _),Nat.sub_self];rfl
    refine Ev.step (fun k=>by rw [rf06_Plain.l0]) (Ev.yes (by rw [oL_size];omega) (Ev.yes (by omega) ?_));rw [bt_oL,hg,w_next P.length (by omega)]
    have bad:¬ isPrn c=true→plainW L=false:=fun hc=>by
      unfold plainW;rw [← h,List.all_append,List.all_cons,Bool.eq_false_iff.mpr hc];simp
    refine Ev.both (fun a=>Ev.is (bad (by rw [isPrn_iff];omega)).symm) (fun a=>Ev.both (fun b=>Ev.is (bad (by rw [isPrn_iff];omega)).symm) (fun b=>?_));have:=ih (P++[c]) (by rw [List.append_assoc];exact h) (by rw [List.all_append,hP,List.all_cons,show isPrn c=true from (isPrn_iff c).mpr (by omega)];rfl);rw [List.length_append,List.length_singleton] at this;exact this
theorem ref06_Plain_ev (L:List UInt8) (hL:L.length≤1000000):Ev (fun k=>rf06_Plain.f k (oL L)) (plainW L):=by
  unfold rf06_Plain.f;exact r6Plain_l0 L hL L [] rfl rfl
theorem ref06_Plain_at (s:ByteArray) (hs:s.size≤1000000):Ev (fun k=>rf06_Plain.f k s) (plainW s.data.toList):=ref06_Plain_ev s.data.toList (by rw [← size_eq'];exact hs)
theorem ref47_within_eq (n b:Int) (h0:0≤b) (h:b≤1000000000000000):rf47_within.f n b=some (inS n b):=stmt_within_eq n b h0 h
theorem ref47_line_ev (l:S44) (last:Int) (h:l.f2.size≤1000000∧l.f3.size≤1000000):Ev (fun k=>rf47_line.f k l.f0 l.f1 l.f2 l.f3 last) (lineS l last):=by
  have j:∀ b:Bool,b=!(dayB l.f0)→Ev (fun k=>rf47_line.j0 k last b l.f0 l.f1 l.f2 l.f3) (lineS l last):=fun b hb=>by
    refine Ev.step (fun k=>by rw [rf47_line.j0]) ?_;unfold lineS
    cases d:dayB l.f0 with
    | false =>
      rw [hb,d,if_neg (by decide)];exact Ev.yes rfl (Ev.is rfl)
    | true =>
      rw [hb,d,if_pos rfl];refine Ev.no (by decide) (Ev.both (fun a=>Ev.is (by rw [if_pos a])) (fun a=>?_));rw [if_neg a];refine Ev.both (fun b=>Ev.is (by rw [if_pos b])) (fun b=>?_);rw [if_neg b,ref47_within_eq _ _ (by omega) (by omega)];simp only [Option.bind_some]
      refine Ev.both (fun c=>?_) (fun c=>Ev.is (by rw [if_neg c]));rw [if_pos c];refine Ev.bind (ref06_Plain_at _ h.1) (Ev.both (fun e=>?_) (fun e=>Ev.is (by rw [if_neg e])));rw [if_pos e];exact Ev.bind (ref06_Plain_at _ h.2) (Ev.both (fun g=>Ev.is (by rw [if_pos g])) (fun g=>Ev.is (by rw [if_neg g])))
  unfold rf47_line.f;refine Ev.both (fun a=>j _ ?_) (fun a=>j _ ?_)
  · unfold dayB;rw [decide_eq_false (by omega)];rfl
  · unfold dayB
    by_cases b:l.f0 > 109572
    · rw [decide_eq_true b,decide_eq_false (by omega)];rfl
    · rw [decide_eq_false b,decide_eq_true (by omega)];rfl
theorem ref47_Check_l0 (acc cur:ByteArray) (no op cl:Int) (ls:List S44) (hs:Short ls) (hl:ls.length≤200) (R:List S44):∀ (i:Nat) (n last:Int),ls.drop i=R→-1000000000000000 - 1000000000000 * (i:Int)≤n→n≤1000000000000000+1000000000000 * (i:Int) →
    Ev (fun k=>rf47_Check.l0 k last n (i:Int) acc cur no op cl ls) (checkL cl R last n):=by
  induction R with
  | nil =>
    intro i n last h h0 h1;have:=List.drop_eq_nil_iff.mp h;refine Ev.step (fun k=>by rw [rf47_Check.l0]) (Ev.no (by omega) ?_);rw [checkL];exact Ev.both (fun e=>Ev.is (by rw [if_pos e])) (fun e=>Ev.is (by rw [if_neg e]))
  | cons x r ih =>
    intro i n last h h0 h1;obtain ⟨hi,hx,hr⟩:=rd44_at h;have hm:x∈ls:=List.mem_of_mem_drop (i:=i) (by rw [h];exact List.mem_cons_self);refine Ev.step (fun k=>by rw [rf47_Check.l0]) (Ev.yes (by omega) (Ev.yes (by omega) ?_));rw [hx,w_next i (by omega),checkL];refine Ev.bind (ref47_line_ev x last (hs x hm)) (Ev.both (fun e=>?_) (fun e=>Ev.is (by rw [if_neg e])));have:=lineS_in e;rw [if_pos e,w_in (x:=n+x.f1) (by omega)];exact ih (i+1) (n+x.f1) x.f0 hr (by omega) (by omega)
end Go.Proofs.YtmlcdpfcafmmcaaDoor.A
namespace Go.Proofs.YtmlcdpfcafmmcaaDoor.A
open Go.RowKit B WW WL WM
attribute [local go_sem] max2_int min2_int max_two min_two max_three min_three max_four min_four
set_option maxHeartbeats 8000000
set_option maxRecDepth 100000
attribute [local go_sem high] eqA44
def rf06_letter.f (a0:Int):Option (Bool):=if a0 ≥ 97 then (if a0≤122 then (some true) else (if a0 ≥ 65 then (if a0≤90 then (some true) else (some (a0 == 95))) else (some (a0 == 95)))) else (if a0 ≥ 65 then (if a0≤90 then (some true) else (some (a0 == 95))) else (some (a0 == 95)))
theorem rf06_letter.calls (a0:Int) (r:Bool) (w:World) (h:rf06_letter.f a0=some r) :
  Calls Tryd.prog 56 #[.int .u8 a0] w fun e w'=>e=.returned (.bool r)∧Drawn0 w w':=by
 have H:=h;clear h;unfold rf06_letter.f at H;replace H:=ifI H;rcases H with ⟨c2,H⟩ | ⟨c2,H⟩
 ·have c2b0:decide (97≤a0)=true:=decide_eq_true c2;clear c2;replace H:=ifI H;rcases H with ⟨c3,H⟩ | ⟨c3,H⟩
  ·have c3b0:decide (a0≤122)=true:=decide_eq_true c3;clear c3;obtain rfl:=Option.some.inj H;go_enter Tryd.func56,Tryd.ntmps56
   go_wp2
   go_ret
   exact ⟨zq1,zq2⟩
  have c3b0:decide (a0≤122)=false:=decide_eq_false c3;clear c3;replace H:=ifI H;rcases H with ⟨c4,H⟩ | ⟨c4,H⟩
  ·have c4b0:decide (65≤a0)=true:=decide_eq_true c4;clear c4;replace H:=ifI H;rcases H with ⟨c5,H⟩ | ⟨c5,H⟩
   ·have c5b0:decide (a0≤90)=true:=decide_eq_true c5;clear c5;obtain rfl:=Option.some.inj H;go_enter Tryd.func56,Tryd.ntmps56
    go_wp2
    go_ret
    exact ⟨zq1,zq2⟩
   have c5b0:decide (a0≤90)=false:=decide_eq_false c5;clear c5;obtain rfl:=Option.some.inj H;go_enter Tryd.func56,Tryd.ntmps56
   go_wp2
   go_ret
   exact ⟨zq1,zq2⟩
  have c4b0:decide (65≤a0)=false:=decide_eq_false c4;clear c4;obtain rfl:=Option.some.inj H;go_enter Tryd.func56,Tryd.ntmps56
  go_wp2
  go_ret
  exact ⟨zq1,zq2⟩
 have c2b0:decide (97≤a0)=false:=decide_eq_false c2;clear c2;replace H:=ifI H;rcases H with ⟨c6,H⟩ | ⟨c6,H⟩
 ·have c6b0:decide (65≤a0)=true:=decide_eq_true c6;clear c6;replace H:=ifI H;rcases H with ⟨c7,H⟩ | ⟨c7,H⟩
  ·have c7b0:decide (a0≤90)=true:=decide_eq_true c7;clear c7;obtain rfl:=Option.some.inj H;go_enter Tryd.func56,Tryd.ntmps56
   go_wp2
   go_ret
   exact ⟨zq1,zq2⟩
  have c7b0:decide (a0≤90)=false:=decide_eq_false c7;clear c7;obtain rfl:=Option.some.inj H;go_enter Tryd.func56,Tryd.ntmps56
  go_wp2
  go_ret
  exact ⟨zq1,zq2⟩
 have c6b0:decide (65≤a0)=false:=decide_eq_false c6;clear c6;obtain rfl:=Option.some.inj H;go_enter Tryd.func56,Tryd.ntmps56
 go_wp2
 go_ret
 exact ⟨zq1,zq2⟩
def rf06_digit.f (a0:Int):Option (Bool):=if a0 ≥ 48 then (some (decide (a0≤57))) else (some false)
theorem rf06_digit.calls (a0:Int) (r:Bool) (w:World) (h:rf06_digit.f a0=some r) :
  Calls Tryd.prog 57 #[.int .u8 a0] w fun e w'=>e=.returned (.bool r)∧Drawn0 w w':=by
 have H:=h;clear h;unfold rf06_digit.f at H;replace H:=ifI H;rcases H with ⟨c2,H⟩ | ⟨c2,H⟩
 ·have c2b0:decide (48≤a0)=true:=decide_eq_true c2;clear c2;obtain rfl:=Option.some.inj H;go_enter Tryd.func57,Tryd.ntmps57
  go_wp2
  go_ret
  exact ⟨zq1,zq2⟩
 have c2b0:decide (48≤a0)=false:=decide_eq_false c2;clear c2;obtain rfl:=Option.some.inj H;go_enter Tryd.func57,Tryd.ntmps57
 go_wp2
 go_ret
 exact ⟨zq1,zq2⟩
def rf06_Code.l0:Nat→ByteArray→Int→Option (Bool)
 | 0,_,_=>none
 | k+1,x0,x3=>if x3 < (x0.size:Int) then (if 0≤x3 then ((rf06_letter.f (bt x0 x3)).bind fun t219=>(if t219=true then (rf06_Code.l0 k x0 (wrap64 (x3+1))) else ((rf06_digit.f (bt x0 x3)).bind fun t220=>(if t220=true then (rf06_Code.l0 k x0 (wrap64 (x3+1))) else (some false))))) else (none)) else (if (x0.size:Int) ≥ 1 then (some (decide ((x0.size:Int)≤12))) else (some false))
def rf06_Code.f (k:Nat) (a0:ByteArray):Option (Bool):=rf06_Code.l0 k a0 0
theorem rf06_Code.calls (k:Nat) (a0:ByteArray) (r:Bool) (w:World) (h:rf06_Code.f k a0=some r) :
  Calls Tryd.prog 26 #[.string a0] w fun e w'=>e=.returned (.bool r)∧Drawn0 w w':=by
 have H:=h;clear h;unfold rf06_Code.f at H;have H':=sd H;clear H;go_enter Tryd.func26,Tryd.ntmps26
 go_wp2
 go_loopg [3] k (fun kq v3 w'=>∃ (x3_1:Int),v3=.int .i64 x3_1∧Aside0 (rf06_Code.l0 kq a0 x3_1=some r)∧Aside0 (kq≤k)∧Drawn0 w w')
 case atStart=>exact ⟨(0),zq1,H',⟨Nat.le_refl _⟩,zq2⟩
 case round =>
  clear H';obtain ⟨x3_1,rfl,HA,HK1,⟨m1,rfl⟩⟩:=hrel
  cases gk with
  | zero=>exact absurd HA.out (by simp [rf06_Code.l0])
  | succ k1 =>
   have H:=HA.out;clear HA;simp only [rf06_Code.l0] at H
   replace H:=ifI H;rcases H with ⟨c2,H⟩ | ⟨c2,H⟩
   ·have c2b0:decide (x3_1 < (a0.size:Int))=true:=decide_eq_true c2;clear c2;replace H:=ifI H;rcases H with ⟨c3,H⟩ | ⟨c3,H⟩
    ·have c3b0:decide (0≤x3_1)=true:=decide_eq_true c3;clear c3;replace H:=bdI H;obtain ⟨t219,A5,H⟩:=H;(try dsimp only at H)
     by_cases c6:t219=true
     ·subst c6;rw [if_pos rfl] at H;have H':=sd H;clear H;have p4:0≤(x3_1:Int):=od;have q4:x3_1 < (a0.size:Int):=od;have hx4:=bt_at a0 x3_1;replace p4:=eq_true p4;replace q4:=eq_true q4;go_wp2_with (first | ((with_reducible refine gate_callee (f:=56) rfl ?_);refine gL 13 Tryd.func56 #[.int .u8 (bt a0 x3_1)] ?_;(with_reducible refine (rf06_letter.calls (bt a0 x3_1) true _ A5.out).mono ?_);rintro e w' ⟨rfl,⟨nd,rfl⟩⟩;refine ⟨_,rfl,?_⟩))
      go_roundg k1
      case measure=>have:=HK1.out;omega
      case rel=>exact ⟨(wrap64 (x3_1+1)),zq1,H',⟨by have:=HK1.out;omega⟩,zq2⟩
     replace c6:=Bool.eq_false_iff.mpr c6;subst c6;rw [if_neg Bool.false_ne_true] at H;replace H:=bdI H;obtain ⟨t220,A8,H⟩:=H;(try dsimp only at H)
     by_cases c9:t220=true
     ·subst c9;rw [if_pos rfl] at H;have H':=sd H;clear H;have p4:0≤(x3_1:Int):=od;have q4:x3_1 < (a0.size:Int):=od;have hx4:=bt_at a0 x3_1;replace p4:=eq_true p4;replace q4:=eq_true q4;go_wp2_with (first | ((with_reducible refine gate_callee (f:=56) rfl ?_);refine gL 13 Tryd.func56 #[.int .u8 (bt a0 x3_1)] ?_;(with_reducible refine (rf06_letter.calls (bt a0 x3_1) false _ A5.out).mono ?_);rintro e w' ⟨rfl,⟨nd,rfl⟩⟩;refine ⟨_,rfl,?_⟩;have p7:0≤(x3_1:Int):=od;have q7:x3_1 < (a0.size:Int):=od;have hx7:=bt_at a0 x3_1;replace p7:=eq_true p7;replace q7:=eq_true q7) | (go_at_call 57;(with_reducible refine (rf06_digit.calls (bt a0 x3_1) true _ A8.out).mono ?_);rintro e w' ⟨rfl,⟨nd,rfl⟩⟩))
      go_roundg k1
      case measure=>have:=HK1.out;omega
      case rel=>exact ⟨(wrap64 (x3_1+1)),zq1,H',⟨by have:=HK1.out;omega⟩,zq2⟩
     replace c9:=Bool.eq_false_iff.mpr c9;subst c9;rw [if_neg Bool.false_ne_true] at H;obtain rfl:=Option.some.inj H;have p4:0≤(x3_1:Int):=od;have q4:x3_1 < (a0.size:Int):=od;have hx4:=bt_at a0 x3_1;replace p4:=eq_true p4;replace q4:=eq_true q4;go_wp2_with (first | ((with_reducible refine gate_callee (f:=56) rfl ?_);refine gL 13 Tryd.func56 #[.int .u8 (bt a0 x3_1)] ?_;(with_reducible refine (rf06_letter.calls (bt a0 x3_1) false _ A5.out).mono ?_);rintro e w' ⟨rfl,⟨nd,rfl⟩⟩;refine ⟨_,rfl,?_⟩;have p7:0≤(x3_1:Int):=od;have q7:x3_1 < (a0.size:Int):=od;have hx7:=bt_at a0 x3_1;replace p7:=eq_true p7;replace q7:=eq_true q7) | (go_at_call 57;(with_reducible refine (rf06_digit.calls (bt a0 x3_1) false _ A8.out).mono ?_);rintro e w' ⟨rfl,⟨nd,rfl⟩⟩))
     go_ret
     exact ⟨zq1,zq2⟩
    exact absurd H (by simp)
   have c2b0:decide (x3_1 < (a0.size:Int))=false:=decide_eq_false c2;clear c2;replace H:=ifI H;rcases H with ⟨c10,H⟩ | ⟨c10,H⟩
   ·have c10b0:decide (1≤(a0.size:Int))=true:=decide_eq_true c10;have c10b1:decide (1≤a0.size)=true:=decide_eq_true (by omega);clear c10;obtain rfl:=Option.some.inj H;go_wp2
    go_ret
    exact ⟨zq1,zq2⟩
   have c10b0:decide (1≤(a0.size:Int))=false:=decide_eq_false c10;have c10b1:decide (1≤a0.size)=false:=decide_eq_false (by omega);clear c10;obtain rfl:=Option.some.inj H;go_wp2
   go_ret
   exact ⟨zq1,zq2⟩
end Go.Proofs.YtmlcdpfcafmmcaaDoor.A
namespace Go.Proofs.YtmlcdpfcafmmcaaDoor.A
open Go.RowKit B WW WL WM
theorem r6letter_eq (c:UInt8):rf06_letter.f (c.toNat:Int)=some (isLet c):=by
  have h:∀ n:Nat,n < 256→rf06_letter.f (n:Int)=some ((decide (97≤n) && decide (n≤122)) || ((decide (65≤n) && decide (n≤90)) || decide (n=95))):=by decide +kernel
  exact h c.toNat c.toNat_lt
theorem r6digit_eq (c:UInt8):rf06_digit.f (c.toNat:Int)=some (isDig c):=by
  have h:∀ n:Nat,n < 256→rf06_digit.f (n:Int)=some (decide (48≤n∧n≤57)):=by decide +kernel
  rw [h c.toNat c.toNat_lt];congr 1
  rw [Bool.eq_iff_iff,decide_eq_true_iff,isDig_range]
theorem r6Code_l0 (L:List UInt8) (hL:L.length≤1000000) (R:List UInt8):∀ P:List UInt8,P++R=L→P.all isWdB=true→Ev (fun k=>rf06_Code.l0 k (oL L) (P.length:Int)) (codeW L):=by
  induction R with
  | nil =>
    intro P h hP;rw [List.append_nil] at h;subst h;refine Ev.step (fun k=>by rw [rf06_Code.l0]) (Ev.no (by rw [oL_size];omega) ?_);rw [oL_size];unfold codeW;rw [hP,Bool.and_true];refine Ev.both (fun e=>Ev.is ?_) (fun e=>Ev.is ?_)
    · have:P.isEmpty=false:=by cases P with
        | nil=>simp at e
        | cons c r=>rfl
      rw [this];show _=(decide (P.length≤12))
      rw [Bool.eq_iff_iff,decide_eq_true_iff,decide_eq_true_iff];omega
    · have:P=[]:=List.eq_nil_of_length_eq_zero (by omega)
      subst this;rfl
  | cons c r ih =>
    intro P h hP;have hl:P.length+(r.length+1)=L.length:=by rw [← h,List.length_append,List.length_cons]
    have hg:L.getD P.length 0=c:=by rw [← h,List.getD_eq_getElem?_getD,List.getElem?_append_right (Nat.le_refl _),Nat.sub_self];rfl
    refine Ev.step (fun k=>by rw [rf06_Code.l0]) (Ev.yes (by rw [oL_size];omega) (Ev.yes (by omega) ?_));rw [bt_oL,hg,r6letter_eq,r6digit_eq,w_next P.length (by omega)];simp only [Option.bind_some]
    have key:isWdB c=true→Ev (fun k=>rf06_Code.l0 k (oL L) ((P.length+1:Nat):Int)) (codeW L):=fun hc=>by
      have:=ih (P++[c]) (by rw [List.append_assoc];exact h) (by rw [List.all_append,hP,List.all_cons,hc];rfl);rw [List.length_append,List.length_singleton] at this;exact this
    refine Ev.both (fun a=>key (by rw [isWdB_eq,a];rfl)) (fun a=>Ev.both (fun b=>key (by rw [isWdB_eq,b,Bool.or_true])) (fun b=>Ev.is ?_));unfold codeW
    have:L.all isWdB=false:=by
      rw [← h,List.all_append,List.all_cons,isWdB_eq,Bool.eq_false_iff.mpr a,Bool.eq_false_iff.mpr b];simp
    rw [this,Bool.and_false,Bool.and_false]
theorem ref06_Code_ev (L:List UInt8) (hL:L.length≤1000000):Ev (fun k=>rf06_Code.f k (oL L)) (codeW L):=by
  unfold rf06_Code.f;exact r6Code_l0 L hL L [] rfl rfl
theorem ref06_Code_at (s:ByteArray) (hs:s.size≤1000000):Ev (fun k=>rf06_Code.f k s) (codeW s.data.toList):=ref06_Code_ev s.data.toList (by rw [← size_eq'];exact hs)
end Go.Proofs.YtmlcdpfcafmmcaaDoor.A
namespace Go.Proofs.YtmlcdpfcafmmcaaDoor.A
open Go.RowKit B WW WL WM
attribute [local go_sem] max2_int min2_int max_two min_two max_three min_three max_four min_four
set_option maxHeartbeats 8000000
set_option maxRecDepth 100000
def rf47_Check.f (k:Nat) (a0_0:ByteArray) (a0_1:ByteArray) (a0_2:Int) (a0_3:Int) (a0_4:Int) (l0_5:List (S44)):Option (Int):=(rf06_Code.f k a0_0).bind fun t226=>(if t226=true then ((rf07_Code.f k a0_1).bind fun t227=>(if t227=true then (if a0_2 < 1 then (rf47_Check.j0 k true a0_0 a0_1 a0_2 a0_3 a0_4 l0_5) else (rf47_Check.j0 k (decide (a0_2 > 4000)) a0_0 a0_1 a0_2 a0_3 a0_4 l0_5)) else (some 13))) else (some 7))
theorem rf47_Check.calls (k:Nat) (a0_0 a0_1:ByteArray) (a0_2 a0_3 a0_4:Int) (A0_5:Option Addr) (c0_5:Nat) (l0_5:List (S44)) (r:Int) (w:World) (hr0_5:Kd.C k44 w A0_5 l0_5.length l0_5) (hc0_5:l0_5.length≤c0_5) (h:rf47_Check.f k a0_0 a0_1 a0_2 a0_3 a0_4 l0_5=some r) :
  Calls Tryd.prog 13 #[.agg #[.string a0_0,.string a0_1,.int .i64 a0_2,.int .i64 a0_3,.int .i64 a0_4,.slice A0_5 l0_5.length c0_5]] w fun e w'=>e=.returned (.int .i64 r)∧Below w.heap.size w w':=by
 have hu24:=Tryd.underlying24;have hu44:=Tryd.underlying44;have HR0_5:=sd hr0_5;have HC0_5:=sd hc0_5;clear hr0_5 hc0_5;have HB:=sd (Below.refl w.heap.size w);have H:=h;clear h;unfold rf47_Check.f at H;replace H:=bdI H;obtain ⟨t226,A2,H⟩:=H;(try dsimp only at H)
 by_cases c3:t226=true
 ·subst c3;rw [if_pos rfl] at H;replace H:=bdI H;obtain ⟨t227,A4,H⟩:=H;(try dsimp only at H)
  by_cases c5:t227=true
  ·subst c5;rw [if_pos rfl] at H;have HC6:=sd H;clear H;go_enter Tryd.func13,Tryd.ntmps13
   go_upto_region 5 with (first | ((with_reducible refine gate_dst (N:=1) rfl ?_);refine bxA 1 #[.string a0_0,.string a0_1,.int .i64 a0_2,.int .i64 a0_3,.int .i64 a0_4,.slice A0_5 l0_5.length c0_5] 24 ?_;intro gb225 hg w7 hbox hb;have BK225:=sd (hbox);have GW225:=gem hg HB;have GE225:=GW225;replace HB:=hbm HB hb;clear hb hbox hg;obtain ⟨_,_,_,_,_,_,_,_,_,_,_,_⟩:=bk6 BK225) | (go_at_call 26;(with_reducible refine (rf06_Code.calls k a0_0 true _ A2.out).mono ?_);rintro e w' ⟨rfl,⟨nd,rfl⟩⟩;(try first | exact ⟨rfl,_,World.drewN_drewN _ _ _⟩ | exact ⟨rfl,_,Eq.trans (World.drewN_drewN _ _ _) (congrArg (World.drewN _) (Nat.add_assoc _ _ _))⟩)) | (go_at_call 27;(with_reducible refine (rf07_Code.calls k a0_1 true _ A4.out).mono ?_);rintro e w' ⟨rfl,⟨nd,rfl⟩⟩;(try first | exact ⟨rfl,_,World.drewN_drewN _ _ _⟩ | exact ⟨rfl,_,Eq.trans (World.drewN_drewN _ _ _) (congrArg (World.drewN _) (Nat.add_assoc _ _ _))⟩)))
   repeat (go_quiet (first | ((with_reducible refine gate_dst (N:=1) rfl ?_);refine bxA 1 #[.string a0_0,.string a0_1,.int .i64 a0_2,.int .i64 a0_3,.int .i64 a0_4,.slice A0_5 l0_5.length c0_5] 24 ?_;intro gb225 hg w7 hbox hb;have BK225:=sd (hbox);have GW225:=gem hg HB;have GE225:=GW225;replace HB:=hbm HB hb;clear hb hbox hg;obtain ⟨_,_,_,_,_,_,_,_,_,_,_,_⟩:=bk6 BK225) | (go_at_call 26;(with_reducible refine (rf06_Code.calls k a0_0 true _ A2.out).mono ?_);rintro e w' ⟨rfl,⟨nd,rfl⟩⟩;(try first | exact ⟨rfl,_,World.drewN_drewN _ _ _⟩ | exact ⟨rfl,_,Eq.trans (World.drewN_drewN _ _ _) (congrArg (World.drewN _) (Nat.add_assoc _ _ _))⟩)) | (go_at_call 27;(with_reducible refine (rf07_Code.calls k a0_1 true _ A4.out).mono ?_);rintro e w' ⟨rfl,⟨nd,rfl⟩⟩;(try first | exact ⟨rfl,_,World.drewN_drewN _ _ _⟩ | exact ⟨rfl,_,Eq.trans (World.drewN_drewN _ _ _) (congrArg (World.drewN _) (Nat.add_assoc _ _ _))⟩)));go_upto_region 5 with (first | ((with_reducible refine gate_dst (N:=1) rfl ?_);refine bxA 1 #[.string a0_0,.string a0_1,.int .i64 a0_2,.int .i64 a0_3,.int .i64 a0_4,.slice A0_5 l0_5.length c0_5] 24 ?_;intro gb225 hg w7 hbox hb;have BK225:=sd (hbox);have GW225:=gem hg HB;have GE225:=GW225;replace HB:=hbm HB hb;clear hb hbox hg;obtain ⟨_,_,_,_,_,_,_,_,_,_,_,_⟩:=bk6 BK225) | (go_at_call 26;(with_reducible refine (rf06_Code.calls k a0_0 true _ A2.out).mono ?_);rintro e w' ⟨rfl,⟨nd,rfl⟩⟩;(try first | exact ⟨rfl,_,World.drewN_drewN _ _ _⟩ | exact ⟨rfl,_,Eq.trans (World.drewN_drewN _ _ _) (congrArg (World.drewN _) (Nat.add_assoc _ _ _))⟩)) | (go_at_call 27;(with_reducible refine (rf07_Code.calls k a0_1 true _ A4.out).mono ?_);rintro e w' ⟨rfl,⟨nd,rfl⟩⟩;(try first | exact ⟨rfl,_,World.drewN_drewN _ _ _⟩ | exact ⟨rfl,_,Eq.trans (World.drewN_drewN _ _ _) (congrArg (World.drewN _) (Nat.add_assoc _ _ _))⟩))))
   (try simp only [Act.put,List.setIfInBounds_toArray,List.set_cons_zero,List.set_cons_succ])
   go_cut [17] (fun v17 wc=>∃ (kq:Nat) (x17_5:Bool),v17=.bool x17_5∧Aside0 (rf47_Check.j0 kq x17_5 a0_0 a0_1 a0_2 a0_3 a0_4 l0_5=some r)∧Aside0 (kq≤k)∧Aside0 (wc.heap[gb225]?=some (.cells #[.string a0_0,.string a0_1,.int .i64 a0_2,.int .i64 a0_3,.int .i64 a0_4,(.slice A0_5 l0_5.length c0_5)] 24 (0,0)))∧Aside0 (Below w.heap.size w wc))
   case first =>
    have H:=HC6.out;clear HC6;replace H:=ifI H;rcases H with ⟨c9,H⟩ | ⟨c9,H⟩
    ·have c9b0:decide (a0_2 < 1)=true:=decide_eq_true c9;clear c9;(first | rw [c9b0] | (simp only [i64_w,i32_w];rw [c9b0]) | skip)
     have H':=sd H;clear H;obtain ⟨_,_,_,_,_,_,_,_,_,_,_,_⟩:=bk6 BK225;go_wp2
     repeat (go_quiet (fail);try go_wp2)
     go_meet
     case rel=>exact ⟨_,(true),zq1,H',⟨by first | omega | exact Nat.le_refl _⟩,⟨zq22⟩,⟨zq23⟩⟩
    have c9b0:decide (a0_2 < 1)=false:=decide_eq_false c9;clear c9;(first | rw [c9b0] | (simp only [i64_w,i32_w];rw [c9b0]) | skip)
    have H':=sd H;clear H;obtain ⟨_,_,_,_,_,_,_,_,_,_,_,_⟩:=bk6 BK225;go_wp2
    repeat (go_quiet (fail);try go_wp2)
    go_meet
    case rel=>exact ⟨_,(decide (a0_2 > 4000)),zq1,H',⟨by first | omega | exact Nat.le_refl _⟩,⟨zq22⟩,⟨zq23⟩⟩
   case rest =>
    clear HC6;try clear c1
    try clear p2
    try clear c3
    try clear c5
    try clear c9
    try clear c9b0
    try clear hcz10_0
    try clear hcz10_1
    try clear hcz10_2
    try clear hcz10_3
    try clear hcz10_4
    try clear hcz10_5
    try clear hcz11_0
    try clear hcz11_1
    try clear hcz11_2
    try clear hcz11_3
    try clear hcz11_4
    try clear hcz11_5
    try clear hcz8_0
    try clear hcz8_1
    try clear hcz8_2
    try clear hcz8_3
    try clear hcz8_4
    try clear hcz8_5
    try clear hfz10_0
    try clear hfz10_1
    try clear hfz10_2
    try clear hfz10_3
    try clear hfz10_4
    try clear hfz10_5
    try clear hfz11_0
    try clear hfz11_1
    try clear hfz11_2
    try clear hfz11_3
    try clear hfz11_4
    try clear hfz11_5
    try clear hfz8_0
    try clear hfz8_1
    try clear hfz8_2
    try clear hfz8_3
    try clear hfz8_4
    try clear hfz8_5
    obtain ⟨kq,x17_5,rfl,HA,HJ5,BK225,HB⟩:=hcut
    cases kq with
    | zero=>exact absurd HA.out (by simp [rf47_Check.j0])
    | succ kj5 =>
     have H:=HA.out;clear HA;simp only [rf47_Check.j0] at H
     by_cases c12:x17_5=true
     ·subst c12;rw [if_pos rfl] at H;obtain rfl:=Option.some.inj H;go_wp2
      repeat (go_quiet (fail);try go_wp2)
      go_ret
      exact ⟨zq10,zq23⟩
     replace c12:=Bool.eq_false_iff.mpr c12;subst c12;rw [if_neg Bool.false_ne_true] at H;have HC13:=sd H;clear H;go_upto_region 7 with (fail)
     repeat (go_quiet (fail);go_upto_region 7 with (fail))
     go_cut [26] (fun v26 wc=>∃ (kq:Nat) (x26_12:Bool),v26=.bool x26_12∧Aside0 (rf47_Check.j1 kq x26_12 a0_0 a0_1 a0_2 a0_3 a0_4 l0_5=some r)∧Aside0 (kq≤kj5)∧Aside0 (wc.heap[gb225]?=some (.cells #[.string a0_0,.string a0_1,.int .i64 a0_2,.int .i64 a0_3,.int .i64 a0_4,(.slice A0_5 l0_5.length c0_5)] 24 (0,0)))∧Aside0 (Below w.heap.size w wc))
     case first =>
      have H:=HC13.out;clear HC13;replace H:=bdI H;obtain ⟨t228,A14,H⟩:=H;(try dsimp only at H)
      by_cases c15:t228=true
      ·subst c15;rw [if_pos rfl] at H;replace H:=bdI H;obtain ⟨t229,A16,H⟩:=H;(try dsimp only at H)
       have H':=sd H;clear H;obtain ⟨_,_,_,_,_,_,_,_,_,_,_,_⟩:=bk6 BK225;go_wp2_with (first | (go_at_call 28;(with_reducible refine (rf47_within.calls a0_3 1000000000000000 true _ A14.out).mono ?_);rintro e w' ⟨rfl,⟨nd,rfl⟩⟩;(try first | exact ⟨rfl,_,World.drewN_drewN _ _ _⟩ | exact ⟨rfl,_,Eq.trans (World.drewN_drewN _ _ _) (congrArg (World.drewN _) (Nat.add_assoc _ _ _))⟩)) | (go_at_call 28;(with_reducible refine (rf47_within.calls a0_4 1000000000000000 t229 _ A16.out).mono ?_);rintro e w' ⟨rfl,⟨nd,rfl⟩⟩;(try first | exact ⟨rfl,_,World.drewN_drewN _ _ _⟩ | exact ⟨rfl,_,Eq.trans (World.drewN_drewN _ _ _) (congrArg (World.drewN _) (Nat.add_assoc _ _ _))⟩)))
       repeat (go_quiet (first | (go_at_call 28;(with_reducible refine (rf47_within.calls a0_3 1000000000000000 true _ A14.out).mono ?_);rintro e w' ⟨rfl,⟨nd,rfl⟩⟩;(try first | exact ⟨rfl,_,World.drewN_drewN _ _ _⟩ | exact ⟨rfl,_,Eq.trans (World.drewN_drewN _ _ _) (congrArg (World.drewN _) (Nat.add_assoc _ _ _))⟩)) | (go_at_call 28;(with_reducible refine (rf47_within.calls a0_4 1000000000000000 t229 _ A16.out).mono ?_);rintro e w' ⟨rfl,⟨nd,rfl⟩⟩;(try first | exact ⟨rfl,_,World.drewN_drewN _ _ _⟩ | exact ⟨rfl,_,Eq.trans (World.drewN_drewN _ _ _) (congrArg (World.drewN _) (Nat.add_assoc _ _ _))⟩)));try go_wp2_with (first | (go_at_call 28;(with_reducible refine (rf47_within.calls a0_3 1000000000000000 true _ A14.out).mono ?_);rintro e w' ⟨rfl,⟨nd,rfl⟩⟩;(try first | exact ⟨rfl,_,World.drewN_drewN _ _ _⟩ | exact ⟨rfl,_,Eq.trans (World.drewN_drewN _ _ _) (congrArg (World.drewN _) (Nat.add_assoc _ _ _))⟩)) | (go_at_call 28;(with_reducible refine (rf47_within.calls a0_4 1000000000000000 t229 _ A16.out).mono ?_);rintro e w' ⟨rfl,⟨nd,rfl⟩⟩;(try first | exact ⟨rfl,_,World.drewN_drewN _ _ _⟩ | exact ⟨rfl,_,Eq.trans (World.drewN_drewN _ _ _) (congrArg (World.drewN _) (Nat.add_assoc _ _ _))⟩))))
       go_meet
       case rel=>exact ⟨_,(!t229),zq1,H',⟨zq24⟩,⟨zq22⟩,⟨zq23⟩⟩
      replace c15:=Bool.eq_false_iff.mpr c15;subst c15;rw [if_neg Bool.false_ne_true] at H;have H':=sd H;clear H;obtain ⟨_,_,_,_,_,_,_,_,_,_,_,_⟩:=bk6 BK225;go_wp2_with (first | (go_at_call 28;(with_reducible refine (rf47_within.calls a0_3 1000000000000000 false _ A14.out).mono ?_);rintro e w' ⟨rfl,⟨nd,rfl⟩⟩;(try first | exact ⟨rfl,_,World.drewN_drewN _ _ _⟩ | exact ⟨rfl,_,Eq.trans (World.drewN_drewN _ _ _) (congrArg (World.drewN _) (Nat.add_assoc _ _ _))⟩)))
      repeat (go_quiet (first | (go_at_call 28;(with_reducible refine (rf47_within.calls a0_3 1000000000000000 false _ A14.out).mono ?_);rintro e w' ⟨rfl,⟨nd,rfl⟩⟩;(try first | exact ⟨rfl,_,World.drewN_drewN _ _ _⟩ | exact ⟨rfl,_,Eq.trans (World.drewN_drewN _ _ _) (congrArg (World.drewN _) (Nat.add_assoc _ _ _))⟩)));try go_wp2_with (first | (go_at_call 28;(with_reducible refine (rf47_within.calls a0_3 1000000000000000 false _ A14.out).mono ?_);rintro e w' ⟨rfl,⟨nd,rfl⟩⟩;(try first | exact ⟨rfl,_,World.drewN_drewN _ _ _⟩ | exact ⟨rfl,_,Eq.trans (World.drewN_drewN _ _ _) (congrArg (World.drewN _) (Nat.add_assoc _ _ _))⟩))))
      go_meet
      case rel=>exact ⟨_,(true),zq1,H',⟨zq24⟩,⟨zq22⟩,⟨zq23⟩⟩
     case rest =>
      clear HC13;try clear c1
      try clear p2
      try clear c3
      try clear c5
      try clear c9
      try clear c9b0
      try clear c12
      try clear c13
      try clear c15
      try clear hcz10_0
      try clear hcz10_1
      try clear hcz10_2
      try clear hcz10_3
      try clear hcz10_4
      try clear hcz10_5
      try clear hcz11_0
      try clear hcz11_1
      try clear hcz11_2
      try clear hcz11_3
      try clear hcz11_4
      try clear hcz11_5
      try clear hcz17_0
      try clear hcz17_1
      try clear hcz17_2
      try clear hcz17_3
      try clear hcz17_4
      try clear hcz17_5
      try clear hcz18_0
      try clear hcz18_1
      try clear hcz18_2
      try clear hcz18_3
      try clear hcz18_4
      try clear hcz18_5
      try clear hcz8_0
      try clear hcz8_1
      try clear hcz8_2
      try clear hcz8_3
      try clear hcz8_4
      try clear hcz8_5
      try clear hfz10_0
      try clear hfz10_1
      try clear hfz10_2
      try clear hfz10_3
      try clear hfz10_4
      try clear hfz10_5
      try clear hfz11_0
      try clear hfz11_1
      try clear hfz11_2
      try clear hfz11_3
      try clear hfz11_4
      try clear hfz11_5
      try clear hfz17_0
      try clear hfz17_1
      try clear hfz17_2
      try clear hfz17_3
      try clear hfz17_4
      try clear hfz17_5
      try clear hfz18_0
      try clear hfz18_1
      try clear hfz18_2
      try clear hfz18_3
      try clear hfz18_4
      try clear hfz18_5
      try clear hfz8_0
      try clear hfz8_1
      try clear hfz8_2
      try clear hfz8_3
      try clear hfz8_4
      try clear hfz8_5
      try clear p2
      obtain ⟨kq,x26_12,rfl,HA,HJ12,BK225,HB⟩:=hcut
      cases kq with
      | zero=>exact absurd HA.out (by simp [rf47_Check.j1])
      | succ kj12 =>
       have H:=HA.out;clear HA;simp only [rf47_Check.j1] at H
       by_cases c19:x26_12=true
       ·subst c19;rw [if_pos rfl] at H;obtain rfl:=Option.some.inj H;go_wp2
        repeat (go_quiet (fail);try go_wp2)
        go_ret
        exact ⟨zq10,zq23⟩
       replace c19:=Bool.eq_false_iff.mpr c19;subst c19;rw [if_neg Bool.false_ne_true] at H;replace H:=ifI H;rcases H with ⟨c20,H⟩ | ⟨c20,H⟩
       ·have c20b0:decide (200 < (l0_5.length:Int))=true:=decide_eq_true c20;have c20b1:decide (200 < l0_5.length)=true:=decide_eq_true (by omega);clear c20;obtain rfl:=Option.some.inj H;obtain ⟨_,_,_,_,_,_,_,_,_,_,_,_⟩:=bk6 BK225;go_wp2
        repeat (go_quiet (fail);try go_wp2)
        go_ret
        exact ⟨zq10,zq23⟩
       have c20b0:decide (200 < (l0_5.length:Int))=false:=decide_eq_false c20;have c20b1:decide (200 < l0_5.length)=false:=decide_eq_false (by omega);clear c20;have H':=sd H;clear H;obtain ⟨_,_,_,_,_,_,_,_,_,_,_,_⟩:=bk6 BK225;go_wp2
       repeat (go_quiet (fail);try go_wp2)
       go_loopg [3,4,5] kj12 (fun kq v3 v4 v5 w'=>∃ (x3_3:Int) (x4_3:Int) (x5_3:Int),v3=.int .i64 x3_3∧v4=.int .i64 x4_3∧v5=.int .i64 x5_3∧Aside0 (rf47_Check.l0 kq x3_3 x4_3 x5_3 a0_0 a0_1 a0_2 a0_3 a0_4 l0_5=some r)∧Aside0 (kq≤kj12)∧Aside0 (w'.heap[gb225]?=some (.cells #[.string a0_0,.string a0_1,.int .i64 a0_2,.int .i64 a0_3,.int .i64 a0_4,(.slice A0_5 l0_5.length c0_5)] 24 (0,0)))∧Aside0 (Below w.heap.size w w'))
       case atStart=>exact ⟨(0),(a0_3),(0),zq1,zq1,zq1,H',⟨Nat.le_refl _⟩,⟨zq22⟩,⟨zq23⟩⟩
       case round =>
        clear H';try clear c1
        try clear c2
        try clear p2
        try clear c3
        try clear c5
        try clear c9
        try clear c9b0
        try clear c12
        try clear c13
        try clear c15
        try clear c19
        try clear c20
        try clear c20b0
        try clear c20b1
        try clear hcz10_0
        try clear hcz10_1
        try clear hcz10_2
        try clear hcz10_3
        try clear hcz10_4
        try clear hcz10_5
        try clear hcz11_0
        try clear hcz11_1
        try clear hcz11_2
        try clear hcz11_3
        try clear hcz11_4
        try clear hcz11_5
        try clear hcz17_0
        try clear hcz17_1
        try clear hcz17_2
        try clear hcz17_3
        try clear hcz17_4
        try clear hcz17_5
        try clear hcz18_0
        try clear hcz18_1
        try clear hcz18_2
        try clear hcz18_3
        try clear hcz18_4
        try clear hcz18_5
        try clear hcz21_0
        try clear hcz21_1
        try clear hcz21_2
        try clear hcz21_3
        try clear hcz21_4
        try clear hcz21_5
        try clear hcz22_0
        try clear hcz22_1
        try clear hcz22_2
        try clear hcz22_3
        try clear hcz22_4
        try clear hcz22_5
        try clear hcz8_0
        try clear hcz8_1
        try clear hcz8_2
        try clear hcz8_3
        try clear hcz8_4
        try clear hcz8_5
        try clear hfz10_0
        try clear hfz10_1
        try clear hfz10_2
        try clear hfz10_3
        try clear hfz10_4
        try clear hfz10_5
        try clear hfz11_0
        try clear hfz11_1
        try clear hfz11_2
        try clear hfz11_3
        try clear hfz11_4
        try clear hfz11_5
        try clear hfz17_0
        try clear hfz17_1
        try clear hfz17_2
        try clear hfz17_3
        try clear hfz17_4
        try clear hfz17_5
        try clear hfz18_0
        try clear hfz18_1
        try clear hfz18_2
        try clear hfz18_3
        try clear hfz18_4
        try clear hfz18_5
        try clear hfz21_0
        try clear hfz21_1
        try clear hfz21_2
        try clear hfz21_3
        try clear hfz21_4
        try clear hfz21_5
        try clear hfz22_0
        try clear hfz22_1
        try clear hfz22_2
        try clear hfz22_3
        try clear hfz22_4
        try clear hfz22_5
        try clear hfz8_0
        try clear hfz8_1
        try clear hfz8_2
        try clear hfz8_3
        try clear hfz8_4
        try clear hfz8_5
        try clear p2
        obtain ⟨x3_3,x4_3,x5_3,rfl,rfl,rfl,HA,HK3,BK225,HB⟩:=hrel
        cases gk with
        | zero=>exact absurd HA.out (by simp [rf47_Check.l0])
        | succ k3 =>
         have H:=HA.out;clear HA;simp only [rf47_Check.l0] at H
         replace H:=ifI H;rcases H with ⟨c23,H⟩ | ⟨c23,H⟩
         ·have c23b0:decide (x5_3 < (l0_5.length:Int))=true:=decide_eq_true c23;clear c23;replace H:=ifI H;rcases H with ⟨c24,H⟩ | ⟨c24,H⟩
          ·have c24b0:decide (0≤x5_3)=true:=decide_eq_true c24;clear c24;replace H:=bdI H;obtain ⟨t231,A25,H⟩:=H;(try dsimp only at H)
           replace H:=ifI H;rcases H with ⟨c26,H⟩ | ⟨c26,H⟩
           ·obtain ⟨c26b0,c26b1⟩:=eqI c26;clear c26;have H':=sd H;clear H;obtain ⟨_,_,_,_,_,_,_,_,_,_,_,_⟩:=bk6 BK225;have p230:0≤(x5_3:Int):=od;have q230:x5_3 < (l0_5.length:Int):=od;obtain ⟨ad230,e230,hx230_0,hx230_1,hx230_2,hx230_3⟩:=at_T44 HR0_5.out x5_3 p230 q230
            cases e230
            replace hx230_0:=(HB.out.cell (World.block_lt_of_cell? w _ hx230_0)).trans hx230_0;replace hx230_1:=(HB.out.cell (World.block_lt_of_cell? w _ hx230_1)).trans hx230_1;replace hx230_2:=(HB.out.cell (World.block_lt_of_cell? w _ hx230_2)).trans hx230_2;replace hx230_3:=(HB.out.cell (World.block_lt_of_cell? w _ hx230_3)).trans hx230_3;replace p230:=eq_true p230;replace q230:=eq_true q230;go_wp2_with (first | (go_at_call 29;(with_reducible refine (rf47_line.calls k3 ((rd_T44 l0_5 x5_3).f0) ((rd_T44 l0_5 x5_3).f1) ((rd_T44 l0_5 x5_3).f2) ((rd_T44 l0_5 x5_3).f3) x3_3 t231 _ A25.out).mono ?_);rintro e w28 ⟨rfl,hb⟩;replace BK225:=bkm BK225 hb;replace HB:=hbm HB hb;clear hb;obtain ⟨_,_,_,_,_,_,_,_,_,_,_,_⟩:=bk6 BK225;have p232:0≤(x5_3:Int):=od;have q232:x5_3 < (l0_5.length:Int):=od;obtain ⟨ad232,e232,hx232_0,hx232_1,hx232_2,hx232_3⟩:=at_T44 HR0_5.out x5_3 p232 q232;obtain rfl:ad230=ad232:=(by injection e232);replace hx232_0:=(HB.out.cell (World.block_lt_of_cell? w _ hx232_0)).trans hx232_0;replace hx232_1:=(HB.out.cell (World.block_lt_of_cell? w _ hx232_1)).trans hx232_1;replace hx232_2:=(HB.out.cell (World.block_lt_of_cell? w _ hx232_2)).trans hx232_2;replace hx232_3:=(HB.out.cell (World.block_lt_of_cell? w _ hx232_3)).trans hx232_3;replace p232:=eq_true p232;replace q232:=eq_true q232;have p233:0≤(x5_3:Int):=od;have q233:x5_3 < (l0_5.length:Int):=od;obtain ⟨ad233,e233,hx233_0,hx233_1,hx233_2,hx233_3⟩:=at_T44 HR0_5.out x5_3 p233 q233;obtain rfl:ad230=ad233:=(by injection e233);replace hx233_0:=(HB.out.cell (World.block_lt_of_cell? w _ hx233_0)).trans hx233_0;replace hx233_1:=(HB.out.cell (World.block_lt_of_cell? w _ hx233_1)).trans hx233_1;replace hx233_2:=(HB.out.cell (World.block_lt_of_cell? w _ hx233_2)).trans hx233_2;replace hx233_3:=(HB.out.cell (World.block_lt_of_cell? w _ hx233_3)).trans hx233_3;replace p233:=eq_true p233;replace q233:=eq_true q233))
            repeat (go_quiet (first | (go_at_call 29;(with_reducible refine (rf47_line.calls k3 ((rd_T44 l0_5 x5_3).f0) ((rd_T44 l0_5 x5_3).f1) ((rd_T44 l0_5 x5_3).f2) ((rd_T44 l0_5 x5_3).f3) x3_3 t231 _ A25.out).mono ?_);rintro e w28 ⟨rfl,hb⟩;replace BK225:=bkm BK225 hb;replace HB:=hbm HB hb;clear hb;obtain ⟨_,_,_,_,_,_,_,_,_,_,_,_⟩:=bk6 BK225;have p232:0≤(x5_3:Int):=od;have q232:x5_3 < (l0_5.length:Int):=od;obtain ⟨ad232,e232,hx232_0,hx232_1,hx232_2,hx232_3⟩:=at_T44 HR0_5.out x5_3 p232 q232;obtain rfl:ad230=ad232:=(by injection e232);replace hx232_0:=(HB.out.cell (World.block_lt_of_cell? w _ hx232_0)).trans hx232_0;replace hx232_1:=(HB.out.cell (World.block_lt_of_cell? w _ hx232_1)).trans hx232_1;replace hx232_2:=(HB.out.cell (World.block_lt_of_cell? w _ hx232_2)).trans hx232_2;replace hx232_3:=(HB.out.cell (World.block_lt_of_cell? w _ hx232_3)).trans hx232_3;replace p232:=eq_true p232;replace q232:=eq_true q232;have p233:0≤(x5_3:Int):=od;have q233:x5_3 < (l0_5.length:Int):=od;obtain ⟨ad233,e233,hx233_0,hx233_1,hx233_2,hx233_3⟩:=at_T44 HR0_5.out x5_3 p233 q233;obtain rfl:ad230=ad233:=(by injection e233);replace hx233_0:=(HB.out.cell (World.block_lt_of_cell? w _ hx233_0)).trans hx233_0;replace hx233_1:=(HB.out.cell (World.block_lt_of_cell? w _ hx233_1)).trans hx233_1;replace hx233_2:=(HB.out.cell (World.block_lt_of_cell? w _ hx233_2)).trans hx233_2;replace hx233_3:=(HB.out.cell (World.block_lt_of_cell? w _ hx233_3)).trans hx233_3;replace p233:=eq_true p233;replace q233:=eq_true q233));try go_wp2_with (first | (go_at_call 29;(with_reducible refine (rf47_line.calls k3 ((rd_T44 l0_5 x5_3).f0) ((rd_T44 l0_5 x5_3).f1) ((rd_T44 l0_5 x5_3).f2) ((rd_T44 l0_5 x5_3).f3) x3_3 t231 _ A25.out).mono ?_);rintro e w28 ⟨rfl,hb⟩;replace BK225:=bkm BK225 hb;replace HB:=hbm HB hb;clear hb;obtain ⟨_,_,_,_,_,_,_,_,_,_,_,_⟩:=bk6 BK225;have p232:0≤(x5_3:Int):=od;have q232:x5_3 < (l0_5.length:Int):=od;obtain ⟨ad232,e232,hx232_0,hx232_1,hx232_2,hx232_3⟩:=at_T44 HR0_5.out x5_3 p232 q232;obtain rfl:ad230=ad232:=(by injection e232);replace hx232_0:=(HB.out.cell (World.block_lt_of_cell? w _ hx232_0)).trans hx232_0;replace hx232_1:=(HB.out.cell (World.block_lt_of_cell? w _ hx232_1)).trans hx232_1;replace hx232_2:=(HB.out.cell (World.block_lt_of_cell? w _ hx232_2)).trans hx232_2;replace hx232_3:=(HB.out.cell (World.block_lt_of_cell? w _ hx232_3)).trans hx232_3;replace p232:=eq_true p232;replace q232:=eq_true q232;have p233:0≤(x5_3:Int):=od;have q233:x5_3 < (l0_5.length:Int):=od;obtain ⟨ad233,e233,hx233_0,hx233_1,hx233_2,hx233_3⟩:=at_T44 HR0_5.out x5_3 p233 q233;obtain rfl:ad230=ad233:=(by injection e233);replace hx233_0:=(HB.out.cell (World.block_lt_of_cell? w _ hx233_0)).trans hx233_0;replace hx233_1:=(HB.out.cell (World.block_lt_of_cell? w _ hx233_1)).trans hx233_1;replace hx233_2:=(HB.out.cell (World.block_lt_of_cell? w _ hx233_2)).trans hx233_2;replace hx233_3:=(HB.out.cell (World.block_lt_of_cell? w _ hx233_3)).trans hx233_3;replace p233:=eq_true p233;replace q233:=eq_true q233)))
            go_roundg k3
            case measure=>have:=HJ5.out;have:=HJ12.out;have:=HK3.out;omega
            case rel=>exact ⟨((rd_T44 l0_5 x5_3).f0),(wrap64 (x4_3+((rd_T44 l0_5 x5_3).f1))),(wrap64 (x5_3+1)),zq1,zq1,zq1,H',⟨by have:=HJ5.out;have:=HJ12.out;have:=HK3.out;omega⟩,⟨zq22⟩,⟨zq23⟩⟩
           obtain ⟨c26b0,c26b1⟩:=neI c26;obtain rfl:=Option.some.inj H;obtain ⟨_,_,_,_,_,_,_,_,_,_,_,_⟩:=bk6 BK225;have p230:0≤(x5_3:Int):=od;have q230:x5_3 < (l0_5.length:Int):=od;obtain ⟨ad230,e230,hx230_0,hx230_1,hx230_2,hx230_3⟩:=at_T44 HR0_5.out x5_3 p230 q230
           cases e230
           replace hx230_0:=(HB.out.cell (World.block_lt_of_cell? w _ hx230_0)).trans hx230_0;replace hx230_1:=(HB.out.cell (World.block_lt_of_cell? w _ hx230_1)).trans hx230_1;replace hx230_2:=(HB.out.cell (World.block_lt_of_cell? w _ hx230_2)).trans hx230_2;replace hx230_3:=(HB.out.cell (World.block_lt_of_cell? w _ hx230_3)).trans hx230_3;replace p230:=eq_true p230;replace q230:=eq_true q230;go_wp2_with (first | (go_at_call 29;(with_reducible refine (rf47_line.calls k3 ((rd_T44 l0_5 x5_3).f0) ((rd_T44 l0_5 x5_3).f1) ((rd_T44 l0_5 x5_3).f2) ((rd_T44 l0_5 x5_3).f3) x3_3 t231 _ A25.out).mono ?_);rintro e w31 ⟨rfl,hb⟩;replace BK225:=bkm BK225 hb;replace HB:=hbm HB hb;clear hb))
           repeat (go_quiet (first | (go_at_call 29;(with_reducible refine (rf47_line.calls k3 ((rd_T44 l0_5 x5_3).f0) ((rd_T44 l0_5 x5_3).f1) ((rd_T44 l0_5 x5_3).f2) ((rd_T44 l0_5 x5_3).f3) x3_3 t231 _ A25.out).mono ?_);rintro e w31 ⟨rfl,hb⟩;replace BK225:=bkm BK225 hb;replace HB:=hbm HB hb;clear hb));try go_wp2_with (first | (go_at_call 29;(with_reducible refine (rf47_line.calls k3 ((rd_T44 l0_5 x5_3).f0) ((rd_T44 l0_5 x5_3).f1) ((rd_T44 l0_5 x5_3).f2) ((rd_T44 l0_5 x5_3).f3) x3_3 t231 _ A25.out).mono ?_);rintro e w31 ⟨rfl,hb⟩;replace BK225:=bkm BK225 hb;replace HB:=hbm HB hb;clear hb)))
           go_ret
           exact ⟨zq10,zq23⟩
          exact absurd H (by simp)
         have c23b0:decide (x5_3 < (l0_5.length:Int))=false:=decide_eq_false c23;clear c23;replace H:=ifI H;rcases H with ⟨c32,H⟩ | ⟨c32,H⟩
         ·obtain ⟨c32b0,c32b1⟩:=eqI c32;clear c32;obtain rfl:=Option.some.inj H;obtain ⟨_,_,_,_,_,_,_,_,_,_,_,_⟩:=bk6 BK225;go_wp2
          repeat (go_quiet (fail);try go_wp2)
          go_ret
          exact ⟨zq10,zq23⟩
         obtain ⟨c32b0,c32b1⟩:=neI c32;obtain rfl:=Option.some.inj H;obtain ⟨_,_,_,_,_,_,_,_,_,_,_,_⟩:=bk6 BK225;go_wp2
         repeat (go_quiet (fail);try go_wp2)
         go_ret
         exact ⟨zq10,zq23⟩
  replace c5:=Bool.eq_false_iff.mpr c5;subst c5;rw [if_neg Bool.false_ne_true] at H;obtain rfl:=Option.some.inj H;go_enter Tryd.func13,Tryd.ntmps13
  go_wp2_with (first | ((with_reducible refine gate_dst (N:=1) rfl ?_);refine bxA 1 #[.string a0_0,.string a0_1,.int .i64 a0_2,.int .i64 a0_3,.int .i64 a0_4,.slice A0_5 l0_5.length c0_5] 24 ?_;intro gb225 hg w35 hbox hb;have BK225:=sd (hbox);have GW225:=gem hg HB;have GE225:=GW225;replace HB:=hbm HB hb;clear hb hbox hg;obtain ⟨_,_,_,_,_,_,_,_,_,_,_,_⟩:=bk6 BK225) | (go_at_call 26;(with_reducible refine (rf06_Code.calls k a0_0 true _ A2.out).mono ?_);rintro e w' ⟨rfl,⟨nd,rfl⟩⟩;(try first | exact ⟨rfl,_,World.drewN_drewN _ _ _⟩ | exact ⟨rfl,_,Eq.trans (World.drewN_drewN _ _ _) (congrArg (World.drewN _) (Nat.add_assoc _ _ _))⟩)) | (go_at_call 27;(with_reducible refine (rf07_Code.calls k a0_1 false _ A4.out).mono ?_);rintro e w' ⟨rfl,⟨nd,rfl⟩⟩;(try first | exact ⟨rfl,_,World.drewN_drewN _ _ _⟩ | exact ⟨rfl,_,Eq.trans (World.drewN_drewN _ _ _) (congrArg (World.drewN _) (Nat.add_assoc _ _ _))⟩)))
  repeat (go_quiet (first | ((with_reducible refine gate_dst (N:=1) rfl ?_);refine bxA 1 #[.string a0_0,.string a0_1,.int .i64 a0_2,.int .i64 a0_3,.int .i64 a0_4,.slice A0_5 l0_5.length c0_5] 24 ?_;intro gb225 hg w35 hbox hb;have BK225:=sd (hbox);have GW225:=gem hg HB;have GE225:=GW225;replace HB:=hbm HB hb;clear hb hbox hg;obtain ⟨_,_,_,_,_,_,_,_,_,_,_,_⟩:=bk6 BK225) | (go_at_call 26;(with_reducible refine (rf06_Code.calls k a0_0 true _ A2.out).mono ?_);rintro e w' ⟨rfl,⟨nd,rfl⟩⟩;(try first | exact ⟨rfl,_,World.drewN_drewN _ _ _⟩ | exact ⟨rfl,_,Eq.trans (World.drewN_drewN _ _ _) (congrArg (World.drewN _) (Nat.add_assoc _ _ _))⟩)) | (go_at_call 27;(with_reducible refine (rf07_Code.calls k a0_1 false _ A4.out).mono ?_);rintro e w' ⟨rfl,⟨nd,rfl⟩⟩;(try first | exact ⟨rfl,_,World.drewN_drewN _ _ _⟩ | exact ⟨rfl,_,Eq.trans (World.drewN_drewN _ _ _) (congrArg (World.drewN _) (Nat.add_assoc _ _ _))⟩)));try go_wp2_with (first | ((with_reducible refine gate_dst (N:=1) rfl ?_);refine bxA 1 #[.string a0_0,.string a0_1,.int .i64 a0_2,.int .i64 a0_3,.int .i64 a0_4,.slice A0_5 l0_5.length c0_5] 24 ?_;intro gb225 hg w35 hbox hb;have BK225:=sd (hbox);have GW225:=gem hg HB;have GE225:=GW225;replace HB:=hbm HB hb;clear hb hbox hg;obtain ⟨_,_,_,_,_,_,_,_,_,_,_,_⟩:=bk6 BK225) | (go_at_call 26;(with_reducible refine (rf06_Code.calls k a0_0 true _ A2.out).mono ?_);rintro e w' ⟨rfl,⟨nd,rfl⟩⟩;(try first | exact ⟨rfl,_,World.drewN_drewN _ _ _⟩ | exact ⟨rfl,_,Eq.trans (World.drewN_drewN _ _ _) (congrArg (World.drewN _) (Nat.add_assoc _ _ _))⟩)) | (go_at_call 27;(with_reducible refine (rf07_Code.calls k a0_1 false _ A4.out).mono ?_);rintro e w' ⟨rfl,⟨nd,rfl⟩⟩;(try first | exact ⟨rfl,_,World.drewN_drewN _ _ _⟩ | exact ⟨rfl,_,Eq.trans (World.drewN_drewN _ _ _) (congrArg (World.drewN _) (Nat.add_assoc _ _ _))⟩))))
  go_ret
  exact ⟨zq10,zq23⟩
 replace c3:=Bool.eq_false_iff.mpr c3;subst c3;rw [if_neg Bool.false_ne_true] at H;obtain rfl:=Option.some.inj H;go_enter Tryd.func13,Tryd.ntmps13
 go_wp2_with (first | ((with_reducible refine gate_dst (N:=1) rfl ?_);refine bxA 1 #[.string a0_0,.string a0_1,.int .i64 a0_2,.int .i64 a0_3,.int .i64 a0_4,.slice A0_5 l0_5.length c0_5] 24 ?_;intro gb225 hg w37 hbox hb;have BK225:=sd (hbox);have GW225:=gem hg HB;have GE225:=GW225;replace HB:=hbm HB hb;clear hb hbox hg;obtain ⟨_,_,_,_,_,_,_,_,_,_,_,_⟩:=bk6 BK225) | (go_at_call 26;(with_reducible refine (rf06_Code.calls k a0_0 false _ A2.out).mono ?_);rintro e w' ⟨rfl,⟨nd,rfl⟩⟩;(try first | exact ⟨rfl,_,World.drewN_drewN _ _ _⟩ | exact ⟨rfl,_,Eq.trans (World.drewN_drewN _ _ _) (congrArg (World.drewN _) (Nat.add_assoc _ _ _))⟩)))
 repeat (go_quiet (first | ((with_reducible refine gate_dst (N:=1) rfl ?_);refine bxA 1 #[.string a0_0,.string a0_1,.int .i64 a0_2,.int .i64 a0_3,.int .i64 a0_4,.slice A0_5 l0_5.length c0_5] 24 ?_;intro gb225 hg w37 hbox hb;have BK225:=sd (hbox);have GW225:=gem hg HB;have GE225:=GW225;replace HB:=hbm HB hb;clear hb hbox hg;obtain ⟨_,_,_,_,_,_,_,_,_,_,_,_⟩:=bk6 BK225) | (go_at_call 26;(with_reducible refine (rf06_Code.calls k a0_0 false _ A2.out).mono ?_);rintro e w' ⟨rfl,⟨nd,rfl⟩⟩;(try first | exact ⟨rfl,_,World.drewN_drewN _ _ _⟩ | exact ⟨rfl,_,Eq.trans (World.drewN_drewN _ _ _) (congrArg (World.drewN _) (Nat.add_assoc _ _ _))⟩)));try go_wp2_with (first | ((with_reducible refine gate_dst (N:=1) rfl ?_);refine bxA 1 #[.string a0_0,.string a0_1,.int .i64 a0_2,.int .i64 a0_3,.int .i64 a0_4,.slice A0_5 l0_5.length c0_5] 24 ?_;intro gb225 hg w37 hbox hb;have BK225:=sd (hbox);have GW225:=gem hg HB;have GE225:=GW225;replace HB:=hbm HB hb;clear hb hbox hg;obtain ⟨_,_,_,_,_,_,_,_,_,_,_,_⟩:=bk6 BK225) | (go_at_call 26;(with_reducible refine (rf06_Code.calls k a0_0 false _ A2.out).mono ?_);rintro e w' ⟨rfl,⟨nd,rfl⟩⟩;(try first | exact ⟨rfl,_,World.drewN_drewN _ _ _⟩ | exact ⟨rfl,_,Eq.trans (World.drewN_drewN _ _ _) (congrArg (World.drewN _) (Nat.add_assoc _ _ _))⟩))))
 go_ret
 exact ⟨zq10,zq23⟩
end Go.Proofs.YtmlcdpfcafmmcaaDoor.A
namespace Go.Proofs.YtmlcdpfcafmmcaaDoor.A
open Go.RowKit B WW WL WM
theorem code07_l0 (s:ByteArray) (h3:s.size=3):∀ (n i:Nat),i+n=3→(∀ j,(h:j < i)→(h':j < s.size)→isUp s[j]=true)→Ev (fun k=>rf07_Code.l0 k s (i:Int)) (codeL s.data.toList)
  | 0,i,hi,hu=>by
    refine Ev.step (fun k=>by rw [rf07_Code.l0]) (Ev.no (by omega) (Ev.is ?_));have hsz:=size_eq' s;unfold codeL
    have hall:s.data.toList.all isUp=true:=by
      rw [List.all_eq_true];intro x hx;obtain ⟨j,hj,rfl⟩:=List.getElem_of_mem hx;rw [list_at s j (by omega)];exact hu j (by omega) (by omega)
    rw [hall,Bool.true_and];exact (decide_eq_true (by omega)).symm
  | n+1,i,hi,hu=>by
    have hsz:=size_eq' s;refine Ev.step (fun k=>by rw [rf07_Code.l0]) (Ev.yes (by omega) (Ev.yes (by omega) (Ev.yes (by omega) ?_)));rw [bt_up s i (by omega)];have bad:isUp s[i]=false→codeL s.data.toList=false:=fun h=>codeL_bad (i:=i) (by omega) (by rw [list_at s i (by omega)];exact h)
    refine Ev.both (fun h=>Ev.is (bad ?_).symm) (fun h=>Ev.both (fun h2=>Ev.is (bad ?_).symm) (fun h2=>?_))
    · rw [Bool.eq_false_iff,Ne,isUp_iff];omega
    · rw [Bool.eq_false_iff,Ne,isUp_iff];omega
    · have hw:wrap64 ((i:Int)+1)=((i+1:Nat):Int):=by unfold wrap64;omega
      rw [hw];refine code07_l0 s h3 n (i+1) (by omega) (fun j hj hj'=>?_);by_cases e:j < i
      · exact hu j e hj'
      · obtain rfl:j=i:=by omega
        rw [isUp_iff];omega
theorem code07_f (s:ByteArray):Ev (fun k=>rf07_Code.f k s) (codeL s.data.toList):=by
  have hsz:=size_eq' s;unfold rf07_Code.f;refine Ev.both (fun h=>code07_l0 s (by omega) 3 0 (by omega) (fun j h=>by omega)) (fun h=>Ev.is ?_);unfold codeL;symm
  rw [Bool.and_eq_false_iff];right;exact decide_eq_false (by omega)
end Go.Proofs.YtmlcdpfcafmmcaaDoor.A
namespace Go.Proofs.YtmlcdpfcafmmcaaDoor.A
open Go.RowKit B WW WL WM
theorem ref47_Check_ev (acc cur:ByteArray) (no op cl:Int) (ls:List S44) (ha:acc.size≤1000000) (hc:cur.size≤1000000) (hs:Short ls):Ev (fun k=>rf47_Check.f k acc cur no op cl ls) (checkS acc cur no op cl ls):=by
  have j1:inS op 1000000000000000=true→Ev (fun k=>rf47_Check.j1 k (!(inS cl 1000000000000000)) acc cur no op cl ls) (if inS op 1000000000000000=true∧inS cl 1000000000000000=true then (if 200 < ls.length then 9 else checkL cl ls 0 op) else 4):=fun h=>by
    refine Ev.step (fun k=>by rw [rf47_Check.j1]) ?_
    cases b:inS cl 1000000000000000 with
    | false=>rw [if_neg (by rintro ⟨_,x⟩;cases x)];exact Ev.yes rfl (Ev.is rfl)
    | true =>
      rw [if_pos ⟨h,rfl⟩];refine Ev.no (by decide) (Ev.both (fun e=>Ev.is (by rw [if_pos (by omega)])) (fun e=>?_));rw [if_neg (by omega)];unfold inS at h;rw [decide_eq_true_iff] at h;exact ref47_Check_l0 acc cur no op cl ls hs (by omega) ls 0 op 0 rfl (by omega) (by omega)
  have j0:∀ b:Bool,(b=false ↔ 1≤no∧no≤4000)→Ev (fun k=>rf47_Check.j0 k b acc cur no op cl ls) (if 1≤no∧no≤4000 then (if inS op 1000000000000000=true∧inS cl 1000000000000000=true then (if 200 < ls.length then 9 else checkL cl ls 0 op) else 4) else 3):=fun b hb=>by
    refine Ev.step (fun k=>by rw [rf47_Check.j0]) ?_
    cases b with
    | true=>rw [if_neg (fun x=>by cases hb.mpr x)];exact Ev.yes rfl (Ev.is rfl)
    | false =>
      rw [if_pos (hb.mp rfl),ref47_within_eq _ _ (by omega) (by omega),ref47_within_eq _ _ (by omega) (by omega)];simp only [Option.bind_some]
      refine Ev.no (by decide) (Ev.both (fun e=>j1 e) (fun e=>?_));rw [if_neg (fun x=>e x.1)];refine Ev.step (fun k=>by rw [rf47_Check.j1]) ?_;exact Ev.yes rfl (Ev.is rfl)
  unfold rf47_Check.f checkS;refine Ev.bind (ref06_Code_at _ ha) ?_;refine Ev.both (fun e=>?_) (fun e=>Ev.is (by rw [if_neg e]));rw [if_pos e];refine Ev.bind (code07_f cur) ?_;refine Ev.both (fun e=>?_) (fun e=>Ev.is (by rw [if_neg e]));rw [if_pos e];refine Ev.both (fun e=>j0 true ⟨fun x=>(by cases x),fun x=>(by omega)⟩) (fun e=>j0 _ ?_);rw [decide_eq_false_iff_not];omega
end Go.Proofs.YtmlcdpfcafmmcaaDoor.A
