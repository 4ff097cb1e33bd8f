-- By pack.py, a program of this session's.
import Derived.Test.YtmlcdpfcafmmcaaDoorX2
import Derived.Test.YtmlcdpfcafmmcaaDoorX3
set_option linter.unusedVariables false
set_option linter.unusedSimpArgs false
namespace Go.Proofs.YtmlcdpfcafmmcaaDoor.A
open Go.RowKit B WW WL WM
attribute [local go_sem] max2_int min2_int max_two min_two max_three min_three max_four min_four
set_option maxHeartbeats 8000000
set_option maxRecDepth 100000
theorem code_any (s:ByteArray) (hs:s.size≤140737488351232) (w:World):Calls Tryd.prog 23 #[.string s] w fun e w'=>e=.returned (.bool (codeL s.data.toList))∧Below w.heap.size w w':=by
 have HSZ:=sd (size_eq' s);generalize hP:(fun e w'=>e=Ending.returned (.bool (codeL s.data.toList))∧Below w.heap.size w w')=Post;have HP:=sd hP;clear hP;go_enter Tryd.func23,Tryd.ntmps23
 go_wp2_with fail
 go_loopw [3] (fun n_ wr=>∃ (p:Nat),p≤s.size∧n_=.int .i64 (p:Int)∧wr=w.iter s p∧Aside0 (∀ j,(h:j < p)→(h':j < s.size)→isUp s[j]=true)) (fun n_ _=>(s.size - (RowKit.intOf n_).toNat))
 case atStart=>exact ⟨0,by omega,rfl,rfl,⟨fun j h=>by omega⟩⟩
 case round =>
  obtain ⟨p,hp,rfl,rfl,HU⟩:=hrel;by_cases hlt:p < s.size
  ·by_cases hup:isUp s[p]=true
   ·obtain ⟨u1,u2⟩:=(isUp_iff _).mp hup;have hnx:=fun ty=>run_next_ascii (P:=Tryd.prog) w s p ty hlt (by omega)
    have HU2:=sd (show ∀ j,(h:j < p+1)→(h':j < s.size)→isUp s[j]=true from fun j h h'=>by
     rcases Nat.lt_or_ge j p with h1 | h1
     ·exact HU.out j h1 h'
     ·obtain rfl:j=p:=by omega
      exact hup)
    clear hup HU;generalize (s[p].toNat:Int)=c at *;go_wp2_with fail
    go_roundw
    case rel=>exact ⟨p+1,by omega,by go_num,rfl,HU2⟩
    case measure=>simp [RowKit.intOf];omega
   have hbad:=codeL_bad (l:=s.data.toList) (i:=p) (by rw [← HSZ.out];exact hlt) (by rw [list_at s p hlt];exact Bool.eq_false_iff.mpr hup);have HB:=sd hbad;clear hbad
   have hu:(s[p].toNat:Int) < 65∨¬ (s[p].toNat:Int) < 65∧90 < (s[p].toNat:Int):=by
    have h:=isUp_iff s[p];rcases Int.lt_or_le (s[p].toNat:Int) 65 with h1 | h1
    ·exact .inl h1
    ·exact .inr ⟨by omega,by
      rcases Int.lt_or_le 90 (s[p].toNat:Int) with h2 | h2
      ·exact h2
      ·exact absurd (h.mpr ⟨h1,h2⟩) hup⟩
   by_cases hasc:(s[p].toNat:Int) < 128
   ·have hnx:=fun ty=>run_next_ascii (P:=Tryd.prog) w s p ty hlt (by omega)
    generalize (s[p].toNat:Int)=c at *;rcases hu with h1 | ⟨h1,h2⟩
    all_goals
     go_wp2_with fail
     rw [← HP.out];exact ⟨by rw [HB.out];(try rfl),(Below.refl _ _).alloc (Nat.le_refl _) _⟩
   obtain ⟨c,width,hd,hc⟩:=decode_over s p hlt (by omega);have hnx:=fun ty=>run_next_over (P:=Tryd.prog) w s p ty hlt hd
   have h1:¬ (c:Int) < 65:=by omega
   have h2:90 < (c:Int):=by omega
   clear hd hu hasc hup hc;go_wp2_with fail
   rw [← HP.out];exact ⟨by rw [HB.out];(try rfl),(Below.refl _ _).alloc (Nat.le_refl _) _⟩
  obtain rfl:p=s.size:=by omega
  have hnx:=fun ty=>run_next_end (P:=Tryd.prog) w s s.size ty hlt
  have hall:s.data.toList.all isUp=true:=by
   rw [List.all_eq_true];intro x hx;obtain ⟨j,hj,rfl⟩:=List.getElem_of_mem hx;have hj2:j < s.size:=by rw [HSZ.out];exact hj
   rw [list_at s j hj2];exact HU.out j hj2 hj2
  have hfin:codeL s.data.toList=((s.size:Int) == 3):=by
   unfold codeL;rw [hall,Bool.true_and,← HSZ.out,Bool.eq_iff_iff,decide_eq_true_iff,beq_iff_eq];omega
  have HF:=sd hfin;clear hall hfin;go_wp2_with fail
  rw [← HP.out];exact ⟨by rw [HF.out];(try rfl),(Below.refl _ _).alloc (Nat.le_refl _) _⟩
theorem money_Code.calls (a0:ByteArray) (r:Bool) (w:World) (h:money_Code.f a0=some r) :
  Calls Tryd.prog 23 #[.string a0] w fun e w'=>e=.returned (.bool r)∧Below w.heap.size w w':=by
 unfold money_Code.f at h;split at h
 ·rename_i hs
  obtain rfl:=Option.some.inj h;exact code_any a0 hs w
 ·cases h
theorem words_quoted.bits8:waitsOk words_quoted.T8.2 words_quoted.B8=true:=by kernel_rfl
theorem num_formed.calls (k:Nat) (a0:ByteArray) (r:Bool) (w:World) (h:num_formed.f k a0=some r) :
  Calls Tryd.prog 101 #[.string a0] w fun e w'=>e=.returned (.bool r)∧Drawn0 w w':=by
 have H:=h;clear h;unfold num_formed.f at H;have HC2:=sd H;clear H;go_enter Tryd.func101,Tryd.ntmps101
 go_upto_region 1 with (fail)
 go_cut [3] (fun v3 wc=>∃ (kq:Nat) (x3_1:Bool),v3=.bool x3_1∧Aside0 (num_formed.j0 kq a0 x3_1=some r)∧Aside0 (kq≤k)∧Drawn0 w wc)
 case first =>
  have H:=HC2.out;clear HC2;replace H:=ifI H;rcases H with ⟨c3,H⟩ | ⟨c3,H⟩
  ·have c3b0:decide (0 < (a0.size:Int))=true:=decide_eq_true c3;have c3b1:decide (0 < a0.size)=true:=decide_eq_true (by omega);clear c3;(first | rw [c3b0] | (simp only [i64_w,i32_w];rw [c3b0]) | skip)
   replace H:=ifI H;rcases H with ⟨c4,H⟩ | ⟨c4,H⟩
   ·have c4b0:decide (0 < (a0.size:Int))=true:=decide_eq_true c4;have c4b1:decide (0 < a0.size)=true:=decide_eq_true (by omega);clear c4;have H':=sd H;clear H;have p5:0≤(0:Int):=(by omega)
    have q5:0 < a0.size:=(by have:(0:Int) < (a0.size:Int):=od;omega)
    have hx5:∀ h:0 < a0.size,((a0[0]'h).toNat:Int)=bt a0 0:=bt_at a0 0;clear p5;have qi5:(0 < (a0.size:Int))=True:=eq_true (od);replace q5:=eq_true q5;go_wp2
    go_meet
    case rel=>exact ⟨_,(((bt a0 0) == 45)),zq1,H',⟨by first | omega | exact Nat.le_refl _⟩,zq2⟩
   exact absurd H (by simp)
  have c3b0:decide (0 < (a0.size:Int))=false:=decide_eq_false c3;have c3b1:decide (0 < a0.size)=false:=decide_eq_false (by omega);clear c3;(first | rw [c3b0] | (simp only [i64_w,i32_w];rw [c3b0]) | skip)
  have H':=sd H;clear H;go_wp2
  go_meet
  case rel=>exact ⟨_,(false),zq1,H',⟨by first | omega | exact Nat.le_refl _⟩,zq2⟩
 case rest =>
  clear HC2;try clear c1
  try clear p2
  try clear c3
  try clear c3b0
  try clear c3b1
  try clear c4
  try clear c4b0
  try clear c4b1
  try clear p5
  try clear q5
  try clear hx5
  try clear qi5
  try clear p5
  try clear q5
  obtain ⟨kq,x3_1,rfl,HA,HJ1,⟨mc1,rfl⟩⟩:=hcut
  cases kq with
  | zero=>exact absurd HA.out (by simp [num_formed.j0])
  | succ kj1 =>
   have H:=HA.out;clear HA;simp only [num_formed.j0] at H
   have HC6:=sd H;clear H;go_upto_if 13 with (fail)
   go_cut [0] (fun v0 wc=>∃ (kq:Nat) (x0_5:ByteArray),v0=.string x0_5∧Aside0 (num_formed.j1 kq x0_5 x3_1=some r)∧Aside0 (kq≤kj1)∧Drawn0 w wc)
   case first =>
    have H:=HC6.out;clear HC6;by_cases c7:x3_1=true
    ·subst c7;rw [if_pos rfl] at H;replace H:=ifI H;rcases H with ⟨c8,H⟩ | ⟨c8,H⟩
     ·have c8b0:=eq_true c8;have c8b1:decide (1≤(a0.size:Int))=true:=decide_eq_true c8;clear c8;have H':=sd H;clear H;go_wp2
      go_meet
      case rel=>exact ⟨_,(a0.extract 1 a0.size),zq1,H',⟨by have:=HJ1.out;first | omega | exact Nat.le_refl _⟩,zq2⟩
     exact absurd H (by simp)
    replace c7:=Bool.eq_false_iff.mpr c7;subst c7;rw [if_neg Bool.false_ne_true] at H;have H':=sd H;clear H;go_wp2
    go_meet
    case rel=>exact ⟨_,(a0),zq1,H',⟨by have:=HJ1.out;first | omega | exact Nat.le_refl _⟩,zq2⟩
   case rest =>
    clear HC6;try clear c1
    try clear p2
    try clear c3
    try clear c3b0
    try clear c3b1
    try clear c4
    try clear c4b0
    try clear c4b1
    try clear p5
    try clear q5
    try clear hx5
    try clear qi5
    try clear c7
    try clear c8
    try clear c8b0
    try clear c8b1
    try clear p2
    try clear p5
    try clear q5
    obtain ⟨kq,x0_5,rfl,HA,HJ5,⟨mc5,rfl⟩⟩:=hcut
    cases kq with
    | zero=>exact absurd HA.out (by simp [num_formed.j1])
    | succ kj5 =>
     have H:=HA.out;clear HA;simp only [num_formed.j1] at H
     have HC9:=sd H;clear H;go_upto_region 4 with (fail)
     go_cut [30] (fun v30 wc=>∃ (kq:Nat) (x30_8:Bool),v30=.bool x30_8∧Aside0 (num_formed.j2 kq x0_5 x30_8=some r)∧Aside0 (kq≤kj5)∧Drawn0 w wc)
     case first =>
      have H:=HC9.out;clear HC9;replace H:=ifI H;rcases H with ⟨c10,H⟩ | ⟨c10,H⟩
      ·obtain ⟨c10b0,c10b1⟩:=eqI c10;clear c10;(first | rw [c10b0] | (simp only [i64_w,i32_w];rw [c10b0]) | skip)
       have H':=sd H;clear H;go_wp2
       go_meet
       case rel=>exact ⟨_,(true),zq1,H',⟨zq3⟩,zq2⟩
      obtain ⟨c10b0,c10b1⟩:=neI c10;(first | rw [c10b0] | (simp only [i64_w,i32_w];rw [c10b0]) | skip)
      replace H:=ifI H;rcases H with ⟨c11,H⟩ | ⟨c11,H⟩
      ·have c11b0:decide (0 < (x0_5.size:Int))=true:=decide_eq_true c11;have c11b1:decide (0 < x0_5.size)=true:=decide_eq_true (by omega);clear c11;replace H:=ifI H;rcases H with ⟨c13,H⟩ | ⟨c13,H⟩
       ·obtain ⟨c13b0,c13b1⟩:=eqI c13;clear c13;by_cases c14:x3_1=true
        ·subst c14;rw [if_pos rfl] at H;have H':=sd H;clear H;have p12:0≤(0:Int):=(by omega)
         have q12:0 < x0_5.size:=(by have:(0:Int) < (x0_5.size:Int):=od;omega)
         have hx12:∀ h:0 < x0_5.size,((x0_5[0]'h).toNat:Int)=bt x0_5 0:=bt_at x0_5 0;clear p12;have qi12:(0 < (x0_5.size:Int))=True:=eq_true (od);replace q12:=eq_true q12;go_wp2
         go_meet
         case rel=>exact ⟨_,(true),zq1,H',⟨zq3⟩,zq2⟩
        replace c14:=Bool.eq_false_iff.mpr c14;subst c14;rw [if_neg Bool.false_ne_true] at H;have H':=sd H;clear H;have p12:0≤(0:Int):=(by omega)
        have q12:0 < x0_5.size:=(by have:(0:Int) < (x0_5.size:Int):=od;omega)
        have hx12:∀ h:0 < x0_5.size,((x0_5[0]'h).toNat:Int)=bt x0_5 0:=bt_at x0_5 0;clear p12;have qi12:(0 < (x0_5.size:Int))=True:=eq_true (od);replace q12:=eq_true q12;go_wp2
        go_meet
        case rel=>exact ⟨_,(decide ((x0_5.size:Int) > 1)),zq1,H',⟨zq3⟩,zq2⟩
       obtain ⟨c13b0,c13b1⟩:=neI c13;have H':=sd H;clear H;have p12:0≤(0:Int):=(by omega)
       have q12:0 < x0_5.size:=(by have:(0:Int) < (x0_5.size:Int):=od;omega)
       have hx12:∀ h:0 < x0_5.size,((x0_5[0]'h).toNat:Int)=bt x0_5 0:=bt_at x0_5 0;clear p12;have qi12:(0 < (x0_5.size:Int))=True:=eq_true (od);replace q12:=eq_true q12;go_wp2
       go_meet
       case rel=>exact ⟨_,(false),zq1,H',⟨zq3⟩,zq2⟩
      exact absurd H (by simp)
     case rest =>
      clear HC9;try clear c1
      try clear p1
      try clear q1
      try clear hx1
      try clear qi1
      try clear p2
      try clear c3
      try clear c3b0
      try clear c3b1
      try clear c4
      try clear c4b0
      try clear c4b1
      try clear c5
      try clear p5
      try clear q5
      try clear hx5
      try clear qi5
      try clear c7
      try clear c8
      try clear c8b0
      try clear c8b1
      try clear c10
      try clear c10b0
      try clear c10b1
      try clear c11
      try clear c11b0
      try clear c11b1
      try clear p12
      try clear q12
      try clear hx12
      try clear qi12
      try clear c13
      try clear c13b0
      try clear c13b1
      try clear c14
      try clear p12
      try clear p2
      try clear p5
      try clear q12
      try clear q5
      obtain ⟨kq,x30_8,rfl,HA,HJ8,⟨mc8,rfl⟩⟩:=hcut
      cases kq with
      | zero=>exact absurd HA.out (by simp [num_formed.j2])
      | succ kj8 =>
       have H:=HA.out;clear HA;simp only [num_formed.j2] at H
       by_cases c15:x30_8=true
       ·subst c15;rw [if_pos rfl] at H;obtain rfl:=Option.some.inj H;go_wp2
        go_ret
        exact ⟨zq1,zq2⟩
       replace c15:=Bool.eq_false_iff.mpr c15;subst c15;rw [if_neg Bool.false_ne_true] at H;have H':=sd H;clear H;go_wp2
       go_loopg [33] kj8 (fun kq v33 w'=>∃ (x33_4:Int),v33=.int .i64 x33_4∧Aside0 (num_formed.l0 kq x0_5 (x0_5.size:Int) x33_4=some r)∧Aside0 (kq≤kj8)∧Drawn0 w w')
       case atStart=>exact ⟨(0),zq1,H',⟨Nat.le_refl _⟩,zq2⟩
       case round =>
        clear H';try clear c1
        try clear p1
        try clear q1
        try clear hx1
        try clear qi1
        try clear p2
        try clear c3
        try clear c3b0
        try clear c3b1
        try clear c4
        try clear c4b0
        try clear c4b1
        try clear c5
        try clear p5
        try clear q5
        try clear hx5
        try clear qi5
        try clear c7
        try clear c8
        try clear c8b0
        try clear c8b1
        try clear c10
        try clear c10b0
        try clear c10b1
        try clear c11
        try clear c11b0
        try clear c11b1
        try clear p12
        try clear q12
        try clear hx12
        try clear qi12
        try clear c13
        try clear c13b0
        try clear c13b1
        try clear c14
        try clear c15
        try clear p1
        try clear p12
        try clear p2
        try clear p5
        try clear q1
        try clear q12
        try clear q5
        obtain ⟨x33_4,rfl,HA,HK4,⟨m4,rfl⟩⟩:=hrel
        cases gk with
        | zero=>exact absurd HA.out (by simp [num_formed.l0])
        | succ k4 =>
         have H:=HA.out;clear HA;simp only [num_formed.l0] at H
         replace H:=ifI H;rcases H with ⟨c16,H⟩ | ⟨c16,H⟩
         ·have c16b0:decide (x33_4 < (x0_5.size:Int))=true:=decide_eq_true c16;clear c16;replace H:=ifI H;rcases H with ⟨c17,H⟩ | ⟨c17,H⟩
          ·have c17b0:decide (0≤x33_4)=true:=decide_eq_true c17;clear c17;replace H:=ifI H;rcases H with ⟨c18,H⟩ | ⟨c18,H⟩
           ·have c18b0:decide (x33_4 < (x0_5.size:Int))=true:=decide_eq_true c18;clear c18;replace H:=ifI H;rcases H with ⟨c20,H⟩ | ⟨c20,H⟩
            ·have c20b0:decide ((bt x0_5 x33_4) < 48)=true:=decide_eq_true c20;clear c20;obtain rfl:=Option.some.inj H;have p19:0≤(x33_4:Int):=od;have q19:x33_4 < (x0_5.size:Int):=od;have hx19:=bt_at x0_5 x33_4;replace p19:=eq_true p19;replace q19:=eq_true q19;go_wp2
             go_ret
             exact ⟨zq1,zq2⟩
            have c20b0:decide ((bt x0_5 x33_4) < 48)=false:=decide_eq_false c20;clear c20;replace H:=ifI H;rcases H with ⟨c22,H⟩ | ⟨c22,H⟩
            ·have c22b0:decide (57 < (bt x0_5 x33_4))=true:=decide_eq_true c22;clear c22;obtain rfl:=Option.some.inj H;have p19:0≤(x33_4:Int):=od;have q19:x33_4 < (x0_5.size:Int):=od;have hx19:=bt_at x0_5 x33_4;replace p19:=eq_true p19;replace q19:=eq_true q19;have p21:0≤(x33_4:Int):=od;have q21:x33_4 < (x0_5.size:Int):=od;have hx21:=bt_at x0_5 x33_4;replace p21:=eq_true p21;replace q21:=eq_true q21;go_wp2
             go_ret
             exact ⟨zq1,zq2⟩
            have c22b0:decide (57 < (bt x0_5 x33_4))=false:=decide_eq_false c22;clear c22;have H':=sd H;clear H;have p19:0≤(x33_4:Int):=od;have q19:x33_4 < (x0_5.size:Int):=od;have hx19:=bt_at x0_5 x33_4;replace p19:=eq_true p19;replace q19:=eq_true q19;have p21:0≤(x33_4:Int):=od;have q21:x33_4 < (x0_5.size:Int):=od;have hx21:=bt_at x0_5 x33_4;replace p21:=eq_true p21;replace q21:=eq_true q21;go_wp2
            go_roundg k4
            case measure=>have:=HJ1.out;have:=HJ5.out;have:=HJ8.out;have:=HK4.out;omega
            case rel=>exact ⟨(wrap64 (x33_4+1)),zq1,H',⟨by have:=HJ1.out;have:=HJ5.out;have:=HJ8.out;have:=HK4.out;omega⟩,zq2⟩
           exact absurd H (by simp)
          exact absurd H (by simp)
         have c16b0:decide (x33_4 < (x0_5.size:Int))=false:=decide_eq_false c16;clear c16;obtain rfl:=Option.some.inj H;go_wp2
         go_ret
         exact ⟨zq1,zq2⟩
end Go.Proofs.YtmlcdpfcafmmcaaDoor.A
namespace Go.Proofs.YtmlcdpfcafmmcaaDoor.B
open Go.RowKit WW WL WM
section
variable {P:Program} {md:Region.Mode} {ops:Array Oper} {Q:Exit→Act→World→Prop} {S:World→Prop} {ds:List Nat} {T:Bool×List (List Nat×List Nat)} {BB:List Nat} {oi:Oper} {v:Value} {fuel:Nat} {l l':Array Bool} {a a':Act} {w:World}
theorem pA (i N:Nat) (hT:rtab md ops=T) (h:wpAnyLast P md ops Q S ds fuel l' a' w)
    (hi:ops[i]?=some oi:=by rfl) (hN:oi.dst=some N:=by rfl) (hl:l.setIfInBounds i true=l':=by (simp only [List.setIfInBounds_toArray,List.set_cons_zero,List.set_cons_succ];rfl))
    (hc:anyT T l.toList l'.toList i=true:=by kernel_rfl) (hQ:∀ c a w,Q (.panic c) (a.put oi.dst v) w→Q (.panic c) a w:=by exact (fun _ _ _ h=>h)) (hg:Region.wanted oi (yielded ops a.tmps)=true:=by rfl)
    (hy:∀ w,(execOp a.eval oi).run P w=.ok (.value v) w:=by (intro w';go_simp;with_reducible rfl))
    (ha:a.put (some N) v=a':=by (simp only [Act.put,List.setIfInBounds_toArray,List.set_cons_zero,List.set_cons_succ,i64_w,i32_w];rfl)):wpAnyLast P md ops Q S ds (fuel+1) l a w :=
  pure_ l' hi hN (any_of hT hc) hQ (.inl ⟨hg,hy⟩) ha h
theorem tA (i N:Nat) (hT:rtab md ops=T) (hB:waitsOk T.2 BB=true) (hS:S w) (h:wpAnyLast P md ops Q S ds fuel l' a' w)
    (hi:ops[i]?=some oi:=by rfl) (hN:oi.dst=some N:=by rfl) (hl:l.setIfInBounds i true=l':=by (simp only [List.setIfInBounds_toArray,List.set_cons_zero,List.set_cons_succ];rfl))
    (hc:takeW T BB ds l.toList l'.toList i=true:=by kernel_rfl) (hQ:∀ c a w,Q (.panic c) (a.put oi.dst v) w→Q (.panic c) a w:=by exact (fun _ _ _ h=>h)) (hg:Region.wanted oi (yielded ops a.tmps)=true:=by rfl)
    (hy:∀ w,S w→(execOp a.eval oi).run P w=.ok (.value v) w:=by (intro w' hs_;(try dsimp only at hs_);(try go_split_ands);go_simp;with_reducible rfl))
    (ha:a.put (some N) v=a':=by (simp only [Act.put,List.setIfInBounds_toArray,List.set_cons_zero,List.set_cons_succ,i64_w,i32_w];rfl)):wpAnyLast P md ops Q S ds (fuel+1) l a w :=
  take_ l' hi hN (take_ofW hT hB hc) hQ (.inl ⟨hg,hy⟩) hS ha h
end
end Go.Proofs.YtmlcdpfcafmmcaaDoor.B
namespace Go.Proofs.YtmlcdpfcafmmcaaDoor.B
open Go.RowKit WW WL WM
section
variable {P:Program} {ops:Array Oper} {rest:List Oper} {o:Oper} {Q:Exit→Act→World→Prop} {a:Act} {w V W w1:World} {g g':Nat}
theorem bkm {ob:Obj} (B:Aside0 (V.heap[g]?=some ob)) (hb:Below W.heap.size W w1) (hs:V.heap[g]?=some ob→W.heap[g]?=some ob:=by (intro h;(with_reducible repeat (first | refine blk_drewN ?_ _ | refine blk_drew ?_ | refine blk_alloc ?_ _));exact h)):Aside0 (w1.heap[g]?=some ob):=⟨blk_below (hs B.out) hb⟩
end
end Go.Proofs.YtmlcdpfcafmmcaaDoor.B
namespace Go.Proofs.YtmlcdpfcafmmcaaDoor.WW
open Go.RowKit
namespace Kd
section
variable {α:Type} {d:Kd α} {e base n cc g:Nat} {ok ok' okp S:Nat→Prop} {w w1 W W1:World} {A:Option Addr} {u v v1:Value} {xs:List α} {x:α} {c:List Value}
theorem N_nil (d:Kd α) (e:Nat) (w:World) (base:Nat) (ok:Nat→Prop):N d e w base ok (.slice none 0 0) []:=R_N (R_nil _ _ _ _ _)
end
end Kd
end Go.Proofs.YtmlcdpfcafmmcaaDoor.WW
namespace Go.Proofs.YtmlcdpfcafmmcaaDoor.WL
open WW (Aside0)
def opsOf (f:Func) (k:Nat):Array Oper:=((f.body.bind fun c=>opsIn c k)).getD #[]
end Go.Proofs.YtmlcdpfcafmmcaaDoor.WL
namespace Go.Proofs.YtmlcdpfcafmmcaaDoor.A
open Go.RowKit B WW WL WM
attribute [local go_sem] max2_int min2_int max_two min_two max_three min_three max_four min_four
set_option maxHeartbeats 8000000
set_option maxRecDepth 100000
theorem stmt_one.calls (k:Nat) (a0_0 a0_1:Int) (a0_2 a0_3:ByteArray) (a1 r:Int) (w:World) (h:stmt_one.f k a0_0 a0_1 a0_2 a0_3 a1=some r) (hG:Gl w) :
  Calls Tryd.prog 25 #[.agg #[.int .i64 a0_0,.int .i64 a0_1,.string a0_2,.string a0_3],.int .i64 a1] w fun e w'=>e=.returned (.int .i64 r)∧Below w.heap.size w w':=by
 have HG:=sd hG;clear hG;have hu44:=Tryd.underlying44;have hu81:=Tryd.underlying81;have HB:=sd (Below.refl w.heap.size w);have H:=h;clear h;unfold stmt_one.f at H;replace H:=bdI H;obtain ⟨⟨t111,t112,t113,t114⟩,A3,H⟩:=H;(try dsimp only at H)
 replace H:=ifI H;rcases H with ⟨c4,H⟩ | ⟨c4,H⟩
 ·obtain ⟨c4b0,c4b1⟩:=eqI c4;clear c4;replace H:=ifI H;rcases H with ⟨c5,H⟩ | ⟨c5,H⟩
  ·have c5b0:decide (a0_0 < a1)=true:=decide_eq_true c5;clear c5;obtain rfl:=Option.some.inj H;go_enter Tryd.func25,Tryd.ntmps25
   go_wp2_with (first | ((with_reducible refine gate_dst (N:=2) rfl ?_);refine bxA 2 #[.int .i64 a0_0,.int .i64 a0_1,.string a0_2,.string a0_3] 44 ?_;intro gb110 hg w6 hbox hb;have BK110:=sd (hbox);have GW110:=gem hg HB;have GE110:=GW110;replace HB:=hbm HB hb;clear hb hbox hg;obtain ⟨_,_,_,_,_,_,_,_⟩:=bk4 BK110) | ((with_reducible refine gate_callee (f:=54) rfl ?_);refine gL 10 Tryd.func54 #[.int .i64 a0_0] ?_;(with_reducible refine (days_Date.calls k a0_0 t111 t112 t113 t114 _ A3.out (gl_below HG.out zq64)).mono ?_);rintro e w8 ⟨rfl,hb⟩;refine ⟨_,rfl,?_⟩;replace BK110:=bkm BK110 hb;replace HB:=hbm HB hb;clear hb) | ((with_reducible refine gate_dst (N:=5) rfl ?_);refine bxA 5 #[.int .i64 0,.int .i64 0,.int .i64 0] 81 ?_;intro gb115 hg w9 hbox hb;have BK115:=sd (hbox);have GW115:=gem hg HB;have GE115:=GW115;have NB110_115:=nlm hg BK110;have NB115_110:=ngm hg BK110;replace BK110:=bkm BK110 hb;replace HB:=hbm HB hb;clear hb hbox hg;have hnb10:=NB115_110.out;have hnc10:=NB110_115.out;obtain ⟨_,_,_,_,_,_⟩:=bk3 BK115;obtain ⟨_,_,_,_,_,_,_,_⟩:=bk4 BK110))
   go_ret
   exact ⟨zq10,zq65⟩
  have c5b0:decide (a0_0 < a1)=false:=decide_eq_false c5;clear c5;replace H:=ifI H;rcases H with ⟨c13,H⟩ | ⟨c13,H⟩
  ·obtain ⟨c13b0,c13b1⟩:=eqI c13;clear c13;obtain rfl:=Option.some.inj H;go_enter Tryd.func25,Tryd.ntmps25
   go_wp2_with (first | ((with_reducible refine gate_dst (N:=2) rfl ?_);refine bxA 2 #[.int .i64 a0_0,.int .i64 a0_1,.string a0_2,.string a0_3] 44 ?_;intro gb110 hg w14 hbox hb;have BK110:=sd (hbox);have GW110:=gem hg HB;have GE110:=GW110;replace HB:=hbm HB hb;clear hb hbox hg;obtain ⟨_,_,_,_,_,_,_,_⟩:=bk4 BK110) | ((with_reducible refine gate_callee (f:=54) rfl ?_);refine gL 10 Tryd.func54 #[.int .i64 a0_0] ?_;(with_reducible refine (days_Date.calls k a0_0 t111 t112 t113 t114 _ A3.out (gl_below HG.out zq64)).mono ?_);rintro e w16 ⟨rfl,hb⟩;refine ⟨_,rfl,?_⟩;replace BK110:=bkm BK110 hb;replace HB:=hbm HB hb;clear hb) | ((with_reducible refine gate_dst (N:=5) rfl ?_);refine bxA 5 #[.int .i64 0,.int .i64 0,.int .i64 0] 81 ?_;intro gb115 hg w17 hbox hb;have BK115:=sd (hbox);have GW115:=gem hg HB;have GE115:=GW115;have NB110_115:=nlm hg BK110;have NB115_110:=ngm hg BK110;replace BK110:=bkm BK110 hb;replace HB:=hbm HB hb;clear hb hbox hg;have hnb18:=NB115_110.out;have hnc18:=NB110_115.out;obtain ⟨_,_,_,_,_,_⟩:=bk3 BK115;obtain ⟨_,_,_,_,_,_,_,_⟩:=bk4 BK110))
   go_ret
   exact ⟨zq10,zq65⟩
  obtain ⟨c13b0,c13b1⟩:=neI c13;replace H:=bdI H;obtain ⟨t116,A21,H⟩:=H;(try dsimp only at H)
  by_cases c22:t116=true
  ·subst c22;rw [if_pos rfl] at H;replace H:=bdI H;obtain ⟨t117,A23,H⟩:=H;(try dsimp only at H)
   by_cases c24:t117=true
   ·subst c24;rw [if_pos rfl] at H;replace H:=bdI H;obtain ⟨t118,A25,H⟩:=H;(try dsimp only at H)
    by_cases c26:t118=true
    ·subst c26;rw [if_pos rfl] at H;obtain rfl:=Option.some.inj H;go_enter Tryd.func25,Tryd.ntmps25
     go_wp2_with (first | ((with_reducible refine gate_dst (N:=2) rfl ?_);refine bxA 2 #[.int .i64 a0_0,.int .i64 a0_1,.string a0_2,.string a0_3] 44 ?_;intro gb110 hg w27 hbox hb;have BK110:=sd (hbox);have GW110:=gem hg HB;have GE110:=GW110;replace HB:=hbm HB hb;clear hb hbox hg;obtain ⟨_,_,_,_,_,_,_,_⟩:=bk4 BK110) | ((with_reducible refine gate_callee (f:=54) rfl ?_);refine gL 10 Tryd.func54 #[.int .i64 a0_0] ?_;(with_reducible refine (days_Date.calls k a0_0 t111 t112 t113 t114 _ A3.out (gl_below HG.out zq64)).mono ?_);rintro e w29 ⟨rfl,hb⟩;refine ⟨_,rfl,?_⟩;replace BK110:=bkm BK110 hb;replace HB:=hbm HB hb;clear hb) | ((with_reducible refine gate_dst (N:=5) rfl ?_);refine bxA 5 #[.int .i64 0,.int .i64 0,.int .i64 0] 81 ?_;intro gb115 hg w30 hbox hb;have BK115:=sd (hbox);have GW115:=gem hg HB;have GE115:=GW115;have NB110_115:=nlm hg BK110;have NB115_110:=ngm hg BK110;replace BK110:=bkm BK110 hb;replace HB:=hbm HB hb;clear hb hbox hg;have hnb31:=NB115_110.out;have hnc31:=NB110_115.out;obtain ⟨_,_,_,_,_,_⟩:=bk3 BK115;obtain ⟨_,_,_,_,_,_,_,_⟩:=bk4 BK110) | ((with_reducible refine gate_callee (f:=24) rfl ?_);refine gL 29 Tryd.func24 #[.int .i64 a0_1,.int .i64 1000000000000] ?_;(with_reducible refine (stmt_within.calls a0_1 1000000000000 true _ A21.out).mono ?_);rintro e w' ⟨rfl,⟨nd,rfl⟩⟩;refine ⟨_,rfl,?_⟩) | ((with_reducible refine gate_callee (f:=55) rfl ?_);refine gL 34 Tryd.func55 #[.string a0_2] ?_;(with_reducible refine (words_Plain.calls a0_2 true _ A23.out).mono ?_);rintro e w' ⟨rfl,⟨nd,rfl⟩⟩;refine ⟨_,rfl,?_⟩) | (go_at_call 55;(with_reducible refine (words_Plain.calls a0_3 true _ A25.out).mono ?_);rintro e w' ⟨rfl,⟨nd,rfl⟩⟩))
     go_ret
     exact ⟨zq10,zq65⟩
    replace c26:=Bool.eq_false_iff.mpr c26;subst c26;rw [if_neg Bool.false_ne_true] at H;obtain rfl:=Option.some.inj H;go_enter Tryd.func25,Tryd.ntmps25
    go_wp2_with (first | ((with_reducible refine gate_dst (N:=2) rfl ?_);refine bxA 2 #[.int .i64 a0_0,.int .i64 a0_1,.string a0_2,.string a0_3] 44 ?_;intro gb110 hg w34 hbox hb;have BK110:=sd (hbox);have GW110:=gem hg HB;have GE110:=GW110;replace HB:=hbm HB hb;clear hb hbox hg;obtain ⟨_,_,_,_,_,_,_,_⟩:=bk4 BK110) | ((with_reducible refine gate_callee (f:=54) rfl ?_);refine gL 10 Tryd.func54 #[.int .i64 a0_0] ?_;(with_reducible refine (days_Date.calls k a0_0 t111 t112 t113 t114 _ A3.out (gl_below HG.out zq64)).mono ?_);rintro e w36 ⟨rfl,hb⟩;refine ⟨_,rfl,?_⟩;replace BK110:=bkm BK110 hb;replace HB:=hbm HB hb;clear hb) | ((with_reducible refine gate_dst (N:=5) rfl ?_);refine bxA 5 #[.int .i64 0,.int .i64 0,.int .i64 0] 81 ?_;intro gb115 hg w37 hbox hb;have BK115:=sd (hbox);have GW115:=gem hg HB;have GE115:=GW115;have NB110_115:=nlm hg BK110;have NB115_110:=ngm hg BK110;replace BK110:=bkm BK110 hb;replace HB:=hbm HB hb;clear hb hbox hg;have hnb38:=NB115_110.out;have hnc38:=NB110_115.out;obtain ⟨_,_,_,_,_,_⟩:=bk3 BK115;obtain ⟨_,_,_,_,_,_,_,_⟩:=bk4 BK110) | ((with_reducible refine gate_callee (f:=24) rfl ?_);refine gL 29 Tryd.func24 #[.int .i64 a0_1,.int .i64 1000000000000] ?_;(with_reducible refine (stmt_within.calls a0_1 1000000000000 true _ A21.out).mono ?_);rintro e w' ⟨rfl,⟨nd,rfl⟩⟩;refine ⟨_,rfl,?_⟩) | ((with_reducible refine gate_callee (f:=55) rfl ?_);refine gL 34 Tryd.func55 #[.string a0_2] ?_;(with_reducible refine (words_Plain.calls a0_2 true _ A23.out).mono ?_);rintro e w' ⟨rfl,⟨nd,rfl⟩⟩;refine ⟨_,rfl,?_⟩) | (go_at_call 55;(with_reducible refine (words_Plain.calls a0_3 false _ A25.out).mono ?_);rintro e w' ⟨rfl,⟨nd,rfl⟩⟩))
    go_ret
    exact ⟨zq10,zq65⟩
   replace c24:=Bool.eq_false_iff.mpr c24;subst c24;rw [if_neg Bool.false_ne_true] at H;obtain rfl:=Option.some.inj H;go_enter Tryd.func25,Tryd.ntmps25
   go_wp2_with (first | ((with_reducible refine gate_dst (N:=2) rfl ?_);refine bxA 2 #[.int .i64 a0_0,.int .i64 a0_1,.string a0_2,.string a0_3] 44 ?_;intro gb110 hg w41 hbox hb;have BK110:=sd (hbox);have GW110:=gem hg HB;have GE110:=GW110;replace HB:=hbm HB hb;clear hb hbox hg;obtain ⟨_,_,_,_,_,_,_,_⟩:=bk4 BK110) | ((with_reducible refine gate_callee (f:=54) rfl ?_);refine gL 10 Tryd.func54 #[.int .i64 a0_0] ?_;(with_reducible refine (days_Date.calls k a0_0 t111 t112 t113 t114 _ A3.out (gl_below HG.out zq64)).mono ?_);rintro e w43 ⟨rfl,hb⟩;refine ⟨_,rfl,?_⟩;replace BK110:=bkm BK110 hb;replace HB:=hbm HB hb;clear hb) | ((with_reducible refine gate_dst (N:=5) rfl ?_);refine bxA 5 #[.int .i64 0,.int .i64 0,.int .i64 0] 81 ?_;intro gb115 hg w44 hbox hb;have BK115:=sd (hbox);have GW115:=gem hg HB;have GE115:=GW115;have NB110_115:=nlm hg BK110;have NB115_110:=ngm hg BK110;replace BK110:=bkm BK110 hb;replace HB:=hbm HB hb;clear hb hbox hg;have hnb45:=NB115_110.out;have hnc45:=NB110_115.out;obtain ⟨_,_,_,_,_,_⟩:=bk3 BK115;obtain ⟨_,_,_,_,_,_,_,_⟩:=bk4 BK110) | ((with_reducible refine gate_callee (f:=24) rfl ?_);refine gL 29 Tryd.func24 #[.int .i64 a0_1,.int .i64 1000000000000] ?_;(with_reducible refine (stmt_within.calls a0_1 1000000000000 true _ A21.out).mono ?_);rintro e w' ⟨rfl,⟨nd,rfl⟩⟩;refine ⟨_,rfl,?_⟩) | ((with_reducible refine gate_callee (f:=55) rfl ?_);refine gL 34 Tryd.func55 #[.string a0_2] ?_;(with_reducible refine (words_Plain.calls a0_2 false _ A23.out).mono ?_);rintro e w' ⟨rfl,⟨nd,rfl⟩⟩;refine ⟨_,rfl,?_⟩))
   go_ret
   exact ⟨zq10,zq65⟩
  replace c22:=Bool.eq_false_iff.mpr c22;subst c22;rw [if_neg Bool.false_ne_true] at H;obtain rfl:=Option.some.inj H;go_enter Tryd.func25,Tryd.ntmps25
  go_wp2_with (first | ((with_reducible refine gate_dst (N:=2) rfl ?_);refine bxA 2 #[.int .i64 a0_0,.int .i64 a0_1,.string a0_2,.string a0_3] 44 ?_;intro gb110 hg w48 hbox hb;have BK110:=sd (hbox);have GW110:=gem hg HB;have GE110:=GW110;replace HB:=hbm HB hb;clear hb hbox hg;obtain ⟨_,_,_,_,_,_,_,_⟩:=bk4 BK110) | ((with_reducible refine gate_callee (f:=54) rfl ?_);refine gL 10 Tryd.func54 #[.int .i64 a0_0] ?_;(with_reducible refine (days_Date.calls k a0_0 t111 t112 t113 t114 _ A3.out (gl_below HG.out zq64)).mono ?_);rintro e w50 ⟨rfl,hb⟩;refine ⟨_,rfl,?_⟩;replace BK110:=bkm BK110 hb;replace HB:=hbm HB hb;clear hb) | ((with_reducible refine gate_dst (N:=5) rfl ?_);refine bxA 5 #[.int .i64 0,.int .i64 0,.int .i64 0] 81 ?_;intro gb115 hg w51 hbox hb;have BK115:=sd (hbox);have GW115:=gem hg HB;have GE115:=GW115;have NB110_115:=nlm hg BK110;have NB115_110:=ngm hg BK110;replace BK110:=bkm BK110 hb;replace HB:=hbm HB hb;clear hb hbox hg;have hnb52:=NB115_110.out;have hnc52:=NB110_115.out;obtain ⟨_,_,_,_,_,_⟩:=bk3 BK115;obtain ⟨_,_,_,_,_,_,_,_⟩:=bk4 BK110) | ((with_reducible refine gate_callee (f:=24) rfl ?_);refine gL 29 Tryd.func24 #[.int .i64 a0_1,.int .i64 1000000000000] ?_;(with_reducible refine (stmt_within.calls a0_1 1000000000000 false _ A21.out).mono ?_);rintro e w' ⟨rfl,⟨nd,rfl⟩⟩;refine ⟨_,rfl,?_⟩))
  go_ret
  exact ⟨zq10,zq65⟩
 obtain ⟨c4b0,c4b1⟩:=neI c4;obtain rfl:=Option.some.inj H;go_enter Tryd.func25,Tryd.ntmps25
 go_wp2_with (first | ((with_reducible refine gate_dst (N:=2) rfl ?_);refine bxA 2 #[.int .i64 a0_0,.int .i64 a0_1,.string a0_2,.string a0_3] 44 ?_;intro gb110 hg w55 hbox hb;have BK110:=sd (hbox);have GW110:=gem hg HB;have GE110:=GW110;replace HB:=hbm HB hb;clear hb hbox hg;obtain ⟨_,_,_,_,_,_,_,_⟩:=bk4 BK110) | ((with_reducible refine gate_callee (f:=54) rfl ?_);refine gL 10 Tryd.func54 #[.int .i64 a0_0] ?_;(with_reducible refine (days_Date.calls k a0_0 t111 t112 t113 t114 _ A3.out (gl_below HG.out zq64)).mono ?_);rintro e w57 ⟨rfl,hb⟩;refine ⟨_,rfl,?_⟩;replace BK110:=bkm BK110 hb;replace HB:=hbm HB hb;clear hb) | ((with_reducible refine gate_dst (N:=5) rfl ?_);refine bxA 5 #[.int .i64 0,.int .i64 0,.int .i64 0] 81 ?_;intro gb115 hg w58 hbox hb;have BK115:=sd (hbox);have GW115:=gem hg HB;have GE115:=GW115;have NB110_115:=nlm hg BK110;have NB115_110:=ngm hg BK110;replace BK110:=bkm BK110 hb;replace HB:=hbm HB hb;clear hb hbox hg;have hnb59:=NB115_110.out;have hnc59:=NB110_115.out;obtain ⟨_,_,_,_,_,_⟩:=bk3 BK115))
 go_ret
 exact ⟨zq10,zq65⟩
theorem money_Right.tab6:rtab .any (opsOf Tryd.f30 6)=money_Right.T6:=by kernel_rfl
theorem words_quoted.tab8:rtab .any (opsOf Tryd.f85 8)=words_quoted.T8:=by kernel_rfl
end Go.Proofs.YtmlcdpfcafmmcaaDoor.A
namespace Go.Proofs.YtmlcdpfcafmmcaaDoor.A
open Go.RowKit B WW WL WM
theorem zq39 {P:Prop} (h:P:=by first | exact Kd.R_nil _ _ _ _ _ | exact Kd.N_nil _ _ _ _ _ | exact Kd.V_nil _ _ _ _ _ | exact Kd.Q_nil _ _ _ _ _ | exact Kd.S_nil _ _ _ _ _):P:=h
end Go.Proofs.YtmlcdpfcafmmcaaDoor.A
namespace Go.Proofs.YtmlcdpfcafmmcaaDoor.A
open Go.RowKit B WW WL WM
attribute [local go_sem] max2_int min2_int max_two min_two max_three min_three max_four min_four
set_option maxHeartbeats 8000000
set_option maxRecDepth 100000
theorem words_quoted.calls (k:Nat) (a0:ByteArray) (a1:Int) (r1:ByteArray) (r2 r3 r4:Int) (w:World) (h:words_quoted.f k a0 a1=some (r1,r2,r3,r4)) :
  Calls Tryd.prog 85 #[.string a0,.int .i64 a1] w fun e w'=>e=.returned (.tuple #[.string r1,.int .i64 r2,.agg #[.int .i64 r3,.int .i64 r4]])∧Below w.heap.size w w':=by
 have hu95:=Tryd.underlying95;have HB:=sd (Below.refl w.heap.size w);have H:=h;clear h;unfold words_quoted.f at H;have H':=sd H;clear H;go_enter Tryd.func85,Tryd.ntmps85
 go_wp2_with (first | ((with_reducible refine gate_dst (N:=6) rfl ?_);refine bxA 6 #[.int .i64 0,.int .i64 0] 95 ?_;intro gb174 hg w3 hbox hb;have BK174:=sd (hbox);have GW174:=gem hg HB;have GE174:=GW174;replace HB:=hbm HB hb;clear hb hbox hg))
 go_loopg [7,8] k (fun kq v7 v8 w'=>∃ (x7_1:List Int) (x8_1:Int) (x175000_1:Int) (x175001_1:Int),v8=.int .i64 x8_1∧Aside0 (words_quoted.l0 kq a0 a1 x7_1 x8_1 x175000_1 x175001_1=some (r1,r2,r3,r4))∧Aside0 (kq≤k)∧Aside0 (Kd.R (Kd.int .u8) 5 w' w.heap.size (fun _=>True) v7 x7_1)∧Aside0 (w'.heap[gb174]?=some (.cells #[.int .i64 x175000_1,.int .i64 x175001_1] 95 (0,0)))∧Aside0 (Below w.heap.size w w'))
 case atStart=>exact ⟨(([]:List Int)),(wrap64 (a1+1)),(0),(0),zq1,H',⟨Nat.le_refl _⟩,⟨zq39⟩,⟨zq119⟩,⟨zq120⟩⟩
 case round =>
  clear H';try clear p2
  obtain ⟨x7_1,x8_1,x175000_1,x175001_1,rfl,HA,HK1,HO_7,BK174,HB⟩:=hrel
  cases gk with
  | zero=>exact absurd HA.out (by simp [words_quoted.l0])
  | succ k1 =>
   have H:=HA.out;clear HA;simp only [words_quoted.l0] at H
   replace H:=ifI H;rcases H with ⟨c4,H⟩ | ⟨c4,H⟩
   ·have c4b0:decide (x8_1 < (a0.size:Int))=true:=decide_eq_true c4;clear c4;replace H:=ifI H;rcases H with ⟨c5,H⟩ | ⟨c5,H⟩
    ·have c5b0:decide (0≤x8_1)=true:=decide_eq_true c5;clear c5;replace H:=ifI H;rcases H with ⟨c7,H⟩ | ⟨c7,H⟩
     ·obtain ⟨c7b0,c7b1⟩:=eqI c7;clear c7;simp only [Option.some.injEq,Prod.mk.injEq] at H
      obtain ⟨rfl,rfl,rfl,rfl⟩:=H;have p6:0≤(x8_1:Int):=od;have q6:x8_1 < (a0.size:Int):=od;have hx6:=bt_at a0 x8_1;replace p6:=eq_true p6;replace q6:=eq_true q6;try go_wp2
      replace HO_7:=sd (Kd.R_drew HO_7.out);replace BK174:=sd (blk_drew BK174.out);replace HB:=sd (below_drew1 HB.out);have hcw9:=own_string (P:=Tryd.prog) Tryd.underlying86 Tryd.underlying5 Tryd.underlying9 (Kd.own_of_R HO_7.out);refine start_ (n:=8) (S:=fun w'=>w'.cell? ⟨gb174,0,none⟩=some (.int .i64 x175000_1)∧w'.cell? ⟨gb174,1,none⟩=some (.int .i64 x175001_1)∧(convert 86 9 u7).run Tryd.prog w'=.ok (.string (strOfNums x7_1)) w') (ds:=[7]) #[false,false,false,false,false,false,false,false] (by kernel_rfl) rfl rfl ⟨(blk_cell BK174.out 0).trans rfl,(blk_cell BK174.out 1).trans rfl,hcw9⟩ (fun hHeld=>?_);refine with_tabW words_quoted.tab8 words_quoted.bits8 (fun HT_ HW_=>?_);generalize wr.drew=w8 at HO_7 BK174 HB hHeld ⊢;refine pA 0 28 HT_.out ?_;refine tA 1 29 HT_.out HW_.out hHeld ?_;refine pA 2 30 HT_.out ?_;refine pA 3 31 HT_.out ?_;refine pA 5 4 HT_.out ?_;refine pA 6 5 HT_.out ?_;refine tA 4 32 HT_.out HW_.out hHeld ?_;refine last_ (i:=7) (N:=none) #[true,true,true,true,true,true,true,true] rfl rfl (one_of HT_.out (by kernel_rfl)) (by decide) (fun K hK=>?_);have hs10:w8.cell? ⟨gb174,0,none⟩=some (.int .i64 x175000_1):=(blk_cell BK174.out 0).trans rfl;have hfs10:=blk_frozen BK174.out 0;have hs11:w8.cell? ⟨gb174,1,none⟩=some (.int .i64 x175001_1):=(blk_cell BK174.out 1).trans rfl;have hfs11:=blk_frozen BK174.out 1;refine skip_ (w1:=?_) (by rfl) rfl ?_ ?_;rotate_left
      ·go_simp
       rfl
      refine hK.out _ _ ?_;clear hK K;refine done_ (done_of HT_.out (by kernel_rfl)) ?_;try go_wp2
      refine bodyPost_ret (results_list (rs:=[.tmp 4,.tmp 5,.cell 6 95]) rfl (by simp) (.tmp (.tmp (.cell gb174 95 #[.int .i64 x175000_1,.int .i64 x175001_1] (0,0) _ rfl (by (with_reducible repeat (first | refine blk_drewN ?_ _ | refine blk_drew ?_ | refine blk_alloc ?_ _));refine blk_put (cs:=#[.int .i64 x175000_1,.int .i64 x175001_1]) ?_ 1 _ rfl;(with_reducible repeat (first | refine blk_drewN ?_ _ | refine blk_drew ?_ | refine blk_alloc ?_ _));refine blk_put (cs:=#[.int .i64 x175000_1,.int .i64 x175001_1]) ?_ 0 _ rfl;(with_reducible repeat (first | refine blk_drewN ?_ _ | refine blk_drew ?_ | refine blk_alloc ?_ _));exact BK174.out) Tryd.underlying95 rfl (by kernel_rfl) .nil)))) rfl ?_;exact ⟨zq10,zq120⟩
     obtain ⟨c7b0,c7b1⟩:=neI c7;replace H:=ifI H;rcases H with ⟨c12,H⟩ | ⟨c12,H⟩
     ·obtain ⟨c12b0,c12b1⟩:=eqI c12;clear c12;replace H:=ifI H;rcases H with ⟨c13,H⟩ | ⟨c13,H⟩
      ·have c13b0:decide ((a0.size:Int)≤(wrap64 (x8_1+1)))=true:=decide_eq_true c13;clear c13;simp only [Option.some.injEq,Prod.mk.injEq] at H
       obtain ⟨rfl,rfl,rfl,rfl⟩:=H;have p6:0≤(x8_1:Int):=od;have q6:x8_1 < (a0.size:Int):=od;have hx6:=bt_at a0 x8_1;replace p6:=eq_true p6;replace q6:=eq_true q6;obtain ⟨_,_,_,_⟩:=bk2 BK174;go_wp2
       refine bodyPost_ret (results_list (rs:=[.tmp 4,.tmp 5,.cell 6 95]) rfl (by simp) (.tmp (.tmp (.cell gb174 95 #[.int .i64 (wrap64 ((wrap64 (x8_1+1)) - 1)),.int .i64 5] (0,0) _ rfl (by (with_reducible repeat (first | refine blk_drewN ?_ _ | refine blk_drew ?_ | refine blk_alloc ?_ _));refine blk_put (cs:=#[.int .i64 (wrap64 ((wrap64 (x8_1+1)) - 1)),.int .i64 x175001_1]) ?_ 1 _ rfl;(with_reducible repeat (first | refine blk_drewN ?_ _ | refine blk_drew ?_ | refine blk_alloc ?_ _));refine blk_put (cs:=#[.int .i64 x175000_1,.int .i64 x175001_1]) ?_ 0 _ rfl;(with_reducible repeat (first | refine blk_drewN ?_ _ | refine blk_drew ?_ | refine blk_alloc ?_ _));exact BK174.out) Tryd.underlying95 rfl (by kernel_rfl) .nil)))) rfl ?_;exact ⟨zq10,zq120⟩
      have c13b0:decide ((a0.size:Int)≤(wrap64 (x8_1+1)))=false:=decide_eq_false c13;clear c13;obtain ⟨ji15,hji15⟩:∃ j_:Int,(wrap64 (x8_1+1))=j_:=⟨_,rfl⟩
      replace H:(if 0≤(ji15) then (if (ji15) < (a0.size:Int) then (if (bt a0 (ji15))=34 then (if x7_1.length < 140737488355328 then (words_quoted.l0 k1 a0 a1 (x7_1++[bt a0 (ji15)]) (wrap64 ((ji15)+1)) x175000_1 x175001_1) else (none)) else (if (bt a0 (ji15))=92 then (if x7_1.length < 140737488355328 then (words_quoted.l0 k1 a0 a1 (x7_1++[bt a0 (ji15)]) (wrap64 ((ji15)+1)) x175000_1 x175001_1) else (none)) else (some ((⟨#[]⟩:ByteArray),0,wrap64 ((ji15) - 1),5)))) else (none)) else (none))=some (r1,r2,r3,r4):=by first | (rw [hji15] at H;exact H) | (simp only [hji15] at H ⊢;exact H)
      (try rw [hji15] at c13b0)
      have hji15w:(IntKind.i64.wrap (x8_1+1))=ji15:=(i64_w _).trans hji15;replace H:=ifI H;rcases H with ⟨c16,H⟩ | ⟨c16,H⟩
      ·have c16b0:decide (0≤(ji15))=true:=decide_eq_true c16;clear c16;replace H:=ifI H;rcases H with ⟨c17,H⟩ | ⟨c17,H⟩
       ·have c17b0:decide ((ji15) < (a0.size:Int))=true:=decide_eq_true c17;clear c17;replace H:=ifI H;rcases H with ⟨c19,H⟩ | ⟨c19,H⟩
        ·obtain ⟨c19b0,c19b1⟩:=eqI c19;clear c19;replace H:=ifI H;rcases H with ⟨c21,H⟩ | ⟨c21,H⟩
         ·have LMc21:=sd c21;clear c21;obtain ⟨y175,hy175⟩:∃ y_:List Int,y_=(x7_1++[bt a0 (ji15)]):=⟨_,rfl⟩
          replace H:(words_quoted.l0 k1 a0 a1 y175 (wrap64 ((ji15)+1)) x175000_1 x175001_1)=some (r1,r2,r3,r4):=by first | (rw [hy175];with_reducible exact H) | (have H2_:=(Option.bind_some _ _).symm.trans H;rw [hy175];with_reducible exact H2_) | (have H2_:=(Option.bind_some _ _).symm.trans H;with_reducible exact H2_) | with_reducible exact H | (rw [hy175];exact H) | exact H
          have Ny175:=sd hy175;clear hy175;have H':=sd H;clear H;have p6:0≤(x8_1:Int):=od;have q6:x8_1 < (a0.size:Int):=od;have hx6:=bt_at a0 x8_1;replace p6:=eq_true p6;replace q6:=eq_true q6;have p18:0≤((ji15):Int):=od;have q18:(ji15) < (a0.size:Int):=od;have hx18:=bt_at a0 (ji15);replace p18:=eq_true p18;replace q18:=eq_true q18;have p20:0≤((ji15):Int):=od;have q20:(ji15) < (a0.size:Int):=od;have hx20:=bt_at a0 (ji15);replace p20:=eq_true p20;replace q20:=eq_true q20;go_wp2_with (first | ((with_reducible refine gate_builtin (b:=.append) (xs:=#[.tmp 57,.tmp 61]) rfl ?_);at_builtin;refine Kd.R_append (Kd.int .u8) (w0:=w) w.heap.size rfl (.tmp 57) (.tmp 61) 86 5 (.int .u8 0) 1 rfl Tryd.underlying86 info5 rfl (by decide) (by omega) u7 x7_1 (bt a0 (ji15)) [.int .u8 (bt a0 (ji15))] (fun _=>True) (fun _=>False) rfl rfl ?aP (fun _ hk=>hk.elim) ?aF ?aO ?aB ?aS ?aL ?_;(case aP=>exact rfl);(case aB=>exact zq120);(case aF=>exact (fun _ _=>trivial));(case aO=>exact zq121);(case aS=>exact (below_size zq120));(case aL=>have:=LMc21.out;omega);intro v176 w22 ho hb hg hat;rw [← Ny175.out] at ho;have HO177:=sd (ho);replace BK174:=sd (blk_grown (g:=gb174) (o:=.cells #[.int .i64 x175000_1,.int .i64 x175001_1] 95 (0,0)) zq119 hg (Kd.R_ne HO_7.out BK174.out (by decide)));replace HB:=sd (hb);clear HO_7;clear ho hb hg hat))
          go_roundg k1
          case measure=>have:=HK1.out;omega
          case rel=>exact ⟨(y175),(wrap64 ((ji15)+1)),(x175000_1),(x175001_1),(by first | rfl | (simp;done) | (simp only [← hji15] <;> (first | rfl | simp)) | (simp [*];done)),H',⟨by have:=HK1.out;omega⟩,⟨by (with_reducible repeat (first | apply Kd.R_alloc | apply Kd.R_drewN | apply Kd.R_drew));exact HO177.out⟩,⟨zq119⟩,⟨zq120⟩⟩
         exact absurd H (by simp)
        obtain ⟨c19b0,c19b1⟩:=neI c19;replace H:=ifI H;rcases H with ⟨c24,H⟩ | ⟨c24,H⟩
        ·obtain ⟨c24b0,c24b1⟩:=eqI c24;clear c24;replace H:=ifI H;rcases H with ⟨c26,H⟩ | ⟨c26,H⟩
         ·have LMc26:=sd c26;clear c26;obtain ⟨y178,hy178⟩:∃ y_:List Int,y_=(x7_1++[bt a0 (ji15)]):=⟨_,rfl⟩
          replace H:(words_quoted.l0 k1 a0 a1 y178 (wrap64 ((ji15)+1)) x175000_1 x175001_1)=some (r1,r2,r3,r4):=by first | (rw [hy178];with_reducible exact H) | (have H2_:=(Option.bind_some _ _).symm.trans H;rw [hy178];with_reducible exact H2_) | (have H2_:=(Option.bind_some _ _).symm.trans H;with_reducible exact H2_) | with_reducible exact H | (rw [hy178];exact H) | exact H
          have Ny178:=sd hy178;clear hy178;have H':=sd H;clear H;have p6:0≤(x8_1:Int):=od;have q6:x8_1 < (a0.size:Int):=od;have hx6:=bt_at a0 x8_1;replace p6:=eq_true p6;replace q6:=eq_true q6;have p18:0≤((ji15):Int):=od;have q18:(ji15) < (a0.size:Int):=od;have hx18:=bt_at a0 (ji15);replace p18:=eq_true p18;replace q18:=eq_true q18;have p23:0≤((ji15):Int):=od;have q23:(ji15) < (a0.size:Int):=od;have hx23:=bt_at a0 (ji15);replace p23:=eq_true p23;replace q23:=eq_true q23;have p25:0≤((ji15):Int):=od;have q25:(ji15) < (a0.size:Int):=od;have hx25:=bt_at a0 (ji15);replace p25:=eq_true p25;replace q25:=eq_true q25;go_wp2_with (first | ((with_reducible refine gate_builtin (b:=.append) (xs:=#[.tmp 57,.tmp 61]) rfl ?_);at_builtin;refine Kd.R_append (Kd.int .u8) (w0:=w) w.heap.size rfl (.tmp 57) (.tmp 61) 86 5 (.int .u8 0) 1 rfl Tryd.underlying86 info5 rfl (by decide) (by omega) u7 x7_1 (bt a0 (ji15)) [.int .u8 (bt a0 (ji15))] (fun _=>True) (fun _=>False) rfl rfl ?aP (fun _ hk=>hk.elim) ?aF ?aO ?aB ?aS ?aL ?_;(case aP=>exact rfl);(case aB=>exact zq120);(case aF=>exact (fun _ _=>trivial));(case aO=>exact zq121);(case aS=>exact (below_size zq120));(case aL=>have:=LMc26.out;omega);intro v179 w27 ho hb hg hat;rw [← Ny178.out] at ho;have HO180:=sd (ho);replace BK174:=sd (blk_grown (g:=gb174) (o:=.cells #[.int .i64 x175000_1,.int .i64 x175001_1] 95 (0,0)) zq119 hg (Kd.R_ne HO_7.out BK174.out (by decide)));replace HB:=sd (hb);clear HO_7;clear ho hb hg hat))
          go_roundg k1
          case measure=>have:=HK1.out;omega
          case rel=>exact ⟨(y178),(wrap64 ((ji15)+1)),(x175000_1),(x175001_1),(by first | rfl | (simp;done) | (simp only [← hji15] <;> (first | rfl | simp)) | (simp [*];done)),H',⟨by have:=HK1.out;omega⟩,⟨by (with_reducible repeat (first | apply Kd.R_alloc | apply Kd.R_drewN | apply Kd.R_drew));exact HO180.out⟩,⟨zq119⟩,⟨zq120⟩⟩
         exact absurd H (by simp)
        obtain ⟨c24b0,c24b1⟩:=neI c24;simp only [Option.some.injEq,Prod.mk.injEq] at H
        obtain ⟨rfl,rfl,rfl,rfl⟩:=H;have p6:0≤(x8_1:Int):=od;have q6:x8_1 < (a0.size:Int):=od;have hx6:=bt_at a0 x8_1;replace p6:=eq_true p6;replace q6:=eq_true q6;have p18:0≤((ji15):Int):=od;have q18:(ji15) < (a0.size:Int):=od;have hx18:=bt_at a0 (ji15);replace p18:=eq_true p18;replace q18:=eq_true q18;have p23:0≤((ji15):Int):=od;have q23:(ji15) < (a0.size:Int):=od;have hx23:=bt_at a0 (ji15);replace p23:=eq_true p23;replace q23:=eq_true q23;obtain ⟨_,_,_,_⟩:=bk2 BK174;go_wp2
        refine bodyPost_ret (results_list (rs:=[.tmp 4,.tmp 5,.cell 6 95]) rfl (by simp) (.tmp (.tmp (.cell gb174 95 #[.int .i64 (wrap64 ((ji15) - 1)),.int .i64 5] (0,0) _ rfl (by (with_reducible repeat (first | refine blk_drewN ?_ _ | refine blk_drew ?_ | refine blk_alloc ?_ _));refine blk_put (cs:=#[.int .i64 (wrap64 ((ji15) - 1)),.int .i64 x175001_1]) ?_ 1 _ rfl;(with_reducible repeat (first | refine blk_drewN ?_ _ | refine blk_drew ?_ | refine blk_alloc ?_ _));refine blk_put (cs:=#[.int .i64 x175000_1,.int .i64 x175001_1]) ?_ 0 _ rfl;(with_reducible repeat (first | refine blk_drewN ?_ _ | refine blk_drew ?_ | refine blk_alloc ?_ _));exact BK174.out) Tryd.underlying95 rfl (by kernel_rfl) .nil)))) rfl ?_;exact ⟨by first | rfl | (simp [errW_none,errW_some] <;> rfl) | (simp only [← hji15];first | rfl | (simp [errW_none,errW_some] <;> rfl)) | (simp [*,errW_none,errW_some] <;> rfl),zq120⟩
       exact absurd H (by simp)
      exact absurd H (by simp)
     obtain ⟨c12b0,c12b1⟩:=neI c12;replace H:=bdI H;obtain ⟨t181,A29,H⟩:=H;(try dsimp only at H)
     by_cases c30:t181=true
     ·subst c30;rw [if_pos rfl] at H;replace H:=ifI H;rcases H with ⟨c31,H⟩ | ⟨c31,H⟩
      ·have LMc31:=sd c31;clear c31;obtain ⟨y182,hy182⟩:∃ y_:List Int,y_=(x7_1++[bt a0 x8_1]):=⟨_,rfl⟩
       replace H:(words_quoted.l0 k1 a0 a1 y182 (wrap64 (x8_1+1)) x175000_1 x175001_1)=some (r1,r2,r3,r4):=by first | (rw [hy182];with_reducible exact H) | (have H2_:=(Option.bind_some _ _).symm.trans H;rw [hy182];with_reducible exact H2_) | (have H2_:=(Option.bind_some _ _).symm.trans H;with_reducible exact H2_) | with_reducible exact H | (rw [hy182];exact H) | exact H
       have Ny182:=sd hy182;clear hy182;have H':=sd H;clear H;have p6:0≤(x8_1:Int):=od;have q6:x8_1 < (a0.size:Int):=od;have hx6:=bt_at a0 x8_1;replace p6:=eq_true p6;replace q6:=eq_true q6;go_wp2_with (first | ((with_reducible refine gate_callee (f:=79) rfl ?_);refine gL 65 Tryd.func79 #[.int .u8 (bt a0 x8_1)] ?_;(with_reducible refine (words_printable.calls (bt a0 x8_1) true _ A29.out).mono ?_);rintro e w' ⟨rfl,⟨nd,rfl⟩⟩;refine ⟨_,rfl,?_⟩) | ((with_reducible refine gate_builtin (b:=.append) (xs:=#[.tmp 21,.tmp 23]) rfl ?_);at_builtin;refine Kd.R_append (Kd.int .u8) (w0:=w) w.heap.size rfl (.tmp 21) (.tmp 23) 86 5 (.int .u8 0) 1 rfl Tryd.underlying86 info5 rfl (by decide) (by omega) u7 x7_1 (bt a0 x8_1) [.int .u8 (bt a0 x8_1)] (fun _=>True) (fun _=>False) rfl rfl ?aP (fun _ hk=>hk.elim) ?aF ?aO ?aB ?aS ?aL ?_;(case aP=>exact rfl);(case aB=>exact zq120);(case aF=>exact (fun _ _=>trivial));(case aO=>exact zq121);(case aS=>exact (below_size zq120));(case aL=>have:=LMc31.out;omega);intro v183 w32 ho hb hg hat;rw [← Ny182.out] at ho;have HO184:=sd (ho);replace BK174:=sd (blk_grown (g:=gb174) (o:=.cells #[.int .i64 x175000_1,.int .i64 x175001_1] 95 (0,0)) zq119 hg (Kd.R_ne HO_7.out BK174.out (by decide)));replace HB:=sd (hb);clear HO_7;clear ho hb hg hat))
       go_roundg k1
       case measure=>have:=HK1.out;omega
       case rel=>exact ⟨(y182),(wrap64 (x8_1+1)),(x175000_1),(x175001_1),zq1,H',⟨by have:=HK1.out;omega⟩,⟨by (with_reducible repeat (first | apply Kd.R_alloc | apply Kd.R_drewN | apply Kd.R_drew));exact HO184.out⟩,⟨zq119⟩,⟨zq120⟩⟩
      exact absurd H (by simp)
     replace c30:=Bool.eq_false_iff.mpr c30;subst c30;rw [if_neg Bool.false_ne_true] at H;simp only [Option.some.injEq,Prod.mk.injEq] at H
     obtain ⟨rfl,rfl,rfl,rfl⟩:=H;have p6:0≤(x8_1:Int):=od;have q6:x8_1 < (a0.size:Int):=od;have hx6:=bt_at a0 x8_1;replace p6:=eq_true p6;replace q6:=eq_true q6;go_wp2_with (first | ((with_reducible refine gate_callee (f:=79) rfl ?_);refine gL 65 Tryd.func79 #[.int .u8 (bt a0 x8_1)] ?_;(with_reducible refine (words_printable.calls (bt a0 x8_1) false _ A29.out).mono ?_);rintro e w' ⟨rfl,⟨nd,rfl⟩⟩;refine ⟨_,rfl,?_⟩;(try (rw [drewN_self wr];generalize hq_:World.drewN wr _=wr;have n0_:Aside0 (Kd.R (Kd.int .u8) 5 wr w.heap.size (fun _=>True) u7 x7_1):=⟨by rw [← hq_];exact zq121⟩;have n1_:Aside0 (wr.heap[gb174]?=some (.cells #[.int .i64 x175000_1,.int .i64 x175001_1] 95 (0,0))):=⟨by rw [← hq_];exact zq119⟩;have n2_:Aside0 (Below w.heap.size w wr):=⟨by rw [← hq_];exact zq120⟩;clear HO_7 BK174 HB hq_;have HO_7:=n0_;have BK174:=n1_;have HB:=n2_;clear n0_ n1_ n2_;(try (have hdBK174_0:=(blk_cell BK174.out 0).trans rfl;have heBK174_0:=blk_frozen BK174.out 0;have hdBK174_1:=(blk_cell BK174.out 1).trans rfl;have heBK174_1:=blk_frozen BK174.out 1))));obtain ⟨_,_,_,_⟩:=bk2 BK174))
     refine bodyPost_ret (results_list (rs:=[.tmp 4,.tmp 5,.cell 6 95]) rfl (by simp) (.tmp (.tmp (.cell gb174 95 #[.int .i64 x8_1,.int .i64 5] (0,0) _ rfl (by (with_reducible repeat (first | refine blk_drewN ?_ _ | refine blk_drew ?_ | refine blk_alloc ?_ _));refine blk_put (cs:=#[.int .i64 x8_1,.int .i64 x175001_1]) ?_ 1 _ rfl;(with_reducible repeat (first | refine blk_drewN ?_ _ | refine blk_drew ?_ | refine blk_alloc ?_ _));refine blk_put (cs:=#[.int .i64 x175000_1,.int .i64 x175001_1]) ?_ 0 _ rfl;(with_reducible repeat (first | refine blk_drewN ?_ _ | refine blk_drew ?_ | refine blk_alloc ?_ _));exact BK174.out) Tryd.underlying95 rfl (by kernel_rfl) .nil)))) rfl ?_;exact ⟨zq10,zq120⟩
    exact absurd H (by simp)
   have c4b0:decide (x8_1 < (a0.size:Int))=false:=decide_eq_false c4;clear c4;simp only [Option.some.injEq,Prod.mk.injEq] at H
   obtain ⟨rfl,rfl,rfl,rfl⟩:=H;obtain ⟨_,_,_,_⟩:=bk2 BK174;go_wp2
   refine bodyPost_ret (results_list (rs:=[.tmp 4,.tmp 5,.cell 6 95]) rfl (by simp) (.tmp (.tmp (.cell gb174 95 #[.int .i64 a1,.int .i64 6] (0,0) _ rfl (by (with_reducible repeat (first | refine blk_drewN ?_ _ | refine blk_drew ?_ | refine blk_alloc ?_ _));refine blk_put (cs:=#[.int .i64 a1,.int .i64 x175001_1]) ?_ 1 _ rfl;(with_reducible repeat (first | refine blk_drewN ?_ _ | refine blk_drew ?_ | refine blk_alloc ?_ _));refine blk_put (cs:=#[.int .i64 x175000_1,.int .i64 x175001_1]) ?_ 0 _ rfl;(with_reducible repeat (first | refine blk_drewN ?_ _ | refine blk_drew ?_ | refine blk_alloc ?_ _));exact BK174.out) Tryd.underlying95 rfl (by kernel_rfl) .nil)))) rfl ?_;exact ⟨zq10,zq120⟩
end Go.Proofs.YtmlcdpfcafmmcaaDoor.A
