-- By pack.py, a program of this session's.
import Derived.Test.YtmlcdpfcafmmcaaDoorX18
import Derived.Test.YtmlcdpfcafmmcaaDoorX20
import Derived.Test.YtmlcdpfcafmmcaaDoorX28
import Derived.Test.YtmlcdpfcafmmcaaDoorX29
set_option linter.unusedVariables false
set_option linter.unusedSimpArgs false
namespace Go.Proofs.YtmlcdpfcafmmcaaDoor.A
open Go.RowKit B WW WL WM
theorem zq87 {P:Prop} (h:P:=by repeat (first | (with_reducible first | exact HB.out | exact Below.refl _ _ | apply below_alloc | apply pw_below_drewN | apply below_drew1 | refine below_set ?_ GE500.out) | exact HB.out)):P:=h
theorem zq88 {P:Prop} (h:P:=by exact Kd.C_below HR1.out (by repeat (first | (with_reducible first | exact HB.out | apply below_alloc | apply pw_below_drewN | apply below_drew1 | refine below_set ?_ GE500.out) | exact HB.out))):P:=h
theorem zq89 {P:Prop} (h:P:=by repeat (first | (with_reducible first | exact HB.out | apply below_alloc | apply pw_below_drewN | apply below_drew1 | refine below_set ?_ GE500.out) | exact HB.out)):P:=h
theorem zq90 {P:Prop} (h:P:=by (with_reducible repeat (first | refine blk_drewN ?_ _ | refine blk_drew ?_ | refine blk_alloc ?_ _));refine blk_put (cs:=#[.string t490,.string t491,.int .i64 t492,.int .i64 t493,.int .i64 t494,.slice none 0 0]) ?_ 5 _ rfl;(with_reducible repeat (first | refine blk_drewN ?_ _ | refine blk_drew ?_ | refine blk_alloc ?_ _));refine blk_put (cs:=#[.string t490,.string t491,.int .i64 t492,.int .i64 t493,.int .i64 0,.slice none 0 0]) ?_ 4 _ rfl;(with_reducible repeat (first | refine blk_drewN ?_ _ | refine blk_drew ?_ | refine blk_alloc ?_ _));refine blk_put (cs:=#[.string t490,.string t491,.int .i64 t492,.int .i64 0,.int .i64 0,.slice none 0 0]) ?_ 3 _ rfl;(with_reducible repeat (first | refine blk_drewN ?_ _ | refine blk_drew ?_ | refine blk_alloc ?_ _));refine blk_put (cs:=#[.string t490,.string t491,.int .i64 0,.int .i64 0,.int .i64 0,.slice none 0 0]) ?_ 2 _ rfl;(with_reducible repeat (first | refine blk_drewN ?_ _ | refine blk_drew ?_ | refine blk_alloc ?_ _));refine blk_put (cs:=#[.string t490,.string (⟨#[]⟩:ByteArray),.int .i64 0,.int .i64 0,.int .i64 0,.slice none 0 0]) ?_ 1 _ rfl;(with_reducible repeat (first | refine blk_drewN ?_ _ | refine blk_drew ?_ | refine blk_alloc ?_ _));refine blk_put (cs:=#[.string (⟨#[]⟩:ByteArray),.string (⟨#[]⟩:ByteArray),.int .i64 0,.int .i64 0,.int .i64 0,.slice none 0 0]) ?_ 0 _ rfl;(with_reducible repeat (first | refine blk_drewN ?_ _ | refine blk_drew ?_ | refine blk_alloc ?_ _));exact BK500.out):P:=h
theorem zq91 {P:Prop} (h:P:=by (with_reducible repeat (first | refine blk_drewN ?_ _ | refine blk_drew ?_ | refine blk_alloc ?_ _));refine blk_far ?_ NB500_511.out _;(with_reducible repeat (first | refine blk_drewN ?_ _ | refine blk_drew ?_ | refine blk_alloc ?_ _));refine blk_far ?_ NB500_511.out _;(with_reducible repeat (first | refine blk_drewN ?_ _ | refine blk_drew ?_ | refine blk_alloc ?_ _));refine blk_far ?_ NB500_511.out _;(with_reducible repeat (first | refine blk_drewN ?_ _ | refine blk_drew ?_ | refine blk_alloc ?_ _));refine blk_far ?_ NB500_511.out _;(with_reducible repeat (first | refine blk_drewN ?_ _ | refine blk_drew ?_ | refine blk_alloc ?_ _));refine blk_far ?_ NB500_511.out _;(with_reducible repeat (first | refine blk_drewN ?_ _ | refine blk_drew ?_ | refine blk_alloc ?_ _));refine blk_far ?_ NB500_511.out _;(with_reducible repeat (first | refine blk_drewN ?_ _ | refine blk_drew ?_ | refine blk_alloc ?_ _));exact BK500.out):P:=h
theorem zq92 {P:Prop} (h:P:=by (with_reducible repeat (first | refine blk_drewN ?_ _ | refine blk_drew ?_ | refine blk_alloc ?_ _));refine blk_put (cs:=#[.string t501,.string t502,.int .i64 t503,.int .i64 t504,.int .i64 t505,.slice none 0 0]) ?_ 5 _ rfl;(with_reducible repeat (first | refine blk_drewN ?_ _ | refine blk_drew ?_ | refine blk_alloc ?_ _));refine blk_put (cs:=#[.string t501,.string t502,.int .i64 t503,.int .i64 t504,.int .i64 0,.slice none 0 0]) ?_ 4 _ rfl;(with_reducible repeat (first | refine blk_drewN ?_ _ | refine blk_drew ?_ | refine blk_alloc ?_ _));refine blk_put (cs:=#[.string t501,.string t502,.int .i64 t503,.int .i64 0,.int .i64 0,.slice none 0 0]) ?_ 3 _ rfl;(with_reducible repeat (first | refine blk_drewN ?_ _ | refine blk_drew ?_ | refine blk_alloc ?_ _));refine blk_put (cs:=#[.string t501,.string t502,.int .i64 0,.int .i64 0,.int .i64 0,.slice none 0 0]) ?_ 2 _ rfl;(with_reducible repeat (first | refine blk_drewN ?_ _ | refine blk_drew ?_ | refine blk_alloc ?_ _));refine blk_put (cs:=#[.string t501,.string (⟨#[]⟩:ByteArray),.int .i64 0,.int .i64 0,.int .i64 0,.slice none 0 0]) ?_ 1 _ rfl;(with_reducible repeat (first | refine blk_drewN ?_ _ | refine blk_drew ?_ | refine blk_alloc ?_ _));refine blk_put (cs:=#[.string (⟨#[]⟩:ByteArray),.string (⟨#[]⟩:ByteArray),.int .i64 0,.int .i64 0,.int .i64 0,.slice none 0 0]) ?_ 0 _ rfl;(with_reducible repeat (first | refine blk_drewN ?_ _ | refine blk_drew ?_ | refine blk_alloc ?_ _));exact BK511.out):P:=h
theorem zq93 {P:Prop} (h:P:=by repeat (first | (with_reducible first | exact HB.out | exact Below.refl _ _ | apply below_alloc | apply pw_below_drewN | apply below_drew1 | refine below_set ?_ GE500.out | refine below_set ?_ GE511.out) | exact HB.out)):P:=h
theorem zq94 {P:Prop} (h:P:=by repeat (first | (with_reducible first | exact HB.out | apply below_alloc | apply pw_below_drewN | apply below_drew1 | refine below_set ?_ GE500.out | refine below_set ?_ GE511.out) | exact HB.out)):P:=h
theorem zq95 {P:Prop} (h:P:=by (with_reducible repeat (first | apply Kd.R_alloc | apply Kd.R_drewN | apply Kd.R_drew));exact Kd.R_mono (Kd.R_far (p:=⟨gb511,5,none⟩) (Kd.R_far (p:=⟨gb511,4,none⟩) (Kd.R_far (p:=⟨gb511,3,none⟩) (Kd.R_far (p:=⟨gb511,2,none⟩) (Kd.R_far (p:=⟨gb511,1,none⟩) (Kd.R_far (p:=⟨gb511,0,none⟩) (Kd.R_types HO497.out BK511.out (by decide)) (fun _ hk=>hk.2) (.string t501)) (fun _ hk=>hk.2) (.string t502)) (fun _ hk=>hk.2) (.int .i64 t503)) (fun _ hk=>hk.2) (.int .i64 t504)) (fun _ hk=>hk.2) (.int .i64 t505)) (fun _ hk=>hk.2) (.slice Ao78 t506.length co78)) (fun _ hk=>hk.1.2)):P:=h
theorem zq96 {P:Prop} (h:P:=by (with_reducible repeat (first | apply Kd.R_alloc | apply Kd.R_drewN | apply Kd.R_drew));exact Kd.R_mono (Kd.R_far (p:=⟨gb511,5,none⟩) (Kd.R_far (p:=⟨gb511,4,none⟩) (Kd.R_far (p:=⟨gb511,3,none⟩) (Kd.R_far (p:=⟨gb511,2,none⟩) (Kd.R_far (p:=⟨gb511,1,none⟩) (Kd.R_far (p:=⟨gb511,0,none⟩) (Kd.R_types HO508.out BK511.out (by decide)) (fun _ hk=>hk.2) (.string t501)) (fun _ hk=>hk.2) (.string t502)) (fun _ hk=>hk.2) (.int .i64 t503)) (fun _ hk=>hk.2) (.int .i64 t504)) (fun _ hk=>hk.2) (.int .i64 t505)) (fun _ hk=>hk.2) (.slice Ao78 t506.length co78)) (fun _ hk=>hk.1.2)):P:=h
end Go.Proofs.YtmlcdpfcafmmcaaDoor.A
namespace Go.Proofs.YtmlcdpfcafmmcaaDoor.A
open Go.RowKit B WW WL WM
theorem goS_le (cs:List S77) (A:List (List UInt8)):∀ (p:PSt) (i:Nat),(goS cs p A i).2.2≤i+A.length:=by
  induction A with
  | nil=>intro p i;exact Nat.le_refl _
  | cons x r ih =>
    intro p i;rw [goS,List.length_cons];split
    · have:=ih (stepS cs p x).1 (i+1);omega
    · show i≤_;omega
end Go.Proofs.YtmlcdpfcafmmcaaDoor.A
namespace Go.Proofs.YtmlcdpfcafmmcaaDoor.A
open Go.RowKit B WW WL WM
attribute [local go_sem] max2_int min2_int max_two min_two max_three min_three max_four min_four
set_option maxHeartbeats 8000000
set_option maxRecDepth 100000
mutual
def lw47_StmtBlank.j0:Nat→ByteArray→List (S77)→Bool→Option (Bool)
 | 0,_,_,_=>none
 | k+1,x0,x1,x18=>if x18=true then ((lw47_lives.f).bind fun t489=>(some t489)) else ((stmt_Parse.f k x0 x1).bind fun bt490=>(if 11+x0.size≤9223372036854775807 then (if ((⟨#[35,32,102,105,114,115,116,10,32,32,10]⟩:ByteArray)++x0).size+7≤9223372036854775807 then ((stmt_Parse.f k (((⟨#[35,32,102,105,114,115,116,10,32,32,10]⟩:ByteArray)++x0)++(⟨#[10,35,32,108,97,115,116]⟩:ByteArray)) x1).bind fun bt501=>(if bt490.2.2.2.2.2.2.2=0 then (if bt501.2.2.2.2.2.2.2=0 then (if bt490.2.2.2.2.2.2.1=0 then (if bt501.2.2.2.2.2.2.1=0 then ((rf47_Same.f k bt490.1 bt490.2.1 bt490.2.2.1 bt490.2.2.2.1 bt490.2.2.2.2.1 bt490.2.2.2.2.2.1 bt501.1 bt501.2.1 bt501.2.2.1 bt501.2.2.2.1 bt501.2.2.2.2.1 bt501.2.2.2.2.2.1).bind fun t512=>(if t512=true then ((lw47_lives.f).bind fun t513=>(some t513)) else (some false))) else (some false)) else (some false)) else (some false)) else (if bt501.2.2.2.2.2.2.2=bt490.2.2.2.2.2.2.2 then (if bt490.2.2.2.2.2.2.2=2 then (if bt490.2.2.2.2.2.2.1=0 then (lw47_StmtBlank.j1 k bt490.2.2.2.2.2.2.1 bt490.2.2.2.2.2.2.2 bt501.2.2.2.2.2.2.1 bt501.2.2.2.2.2.2.2 (bt501.2.2.2.2.2.2.1 == 0)) else (lw47_StmtBlank.j1 k bt490.2.2.2.2.2.2.1 bt490.2.2.2.2.2.2.2 bt501.2.2.2.2.2.2.1 bt501.2.2.2.2.2.2.2 false)) else (lw47_StmtBlank.j1 k bt490.2.2.2.2.2.2.1 bt490.2.2.2.2.2.2.2 bt501.2.2.2.2.2.2.1 bt501.2.2.2.2.2.2.2 false)) else (lw47_StmtBlank.j1 k bt490.2.2.2.2.2.2.1 bt490.2.2.2.2.2.2.2 bt501.2.2.2.2.2.2.1 bt501.2.2.2.2.2.2.2 true)))) else (none)) else (none)))
def lw47_StmtBlank.j1:Nat→Int→Int→Int→Int→Bool→Option (Bool)
 | 0,_,_,_,_,_=>none
 | k+1,x6,x7,x9,x10,x70=>if x70=true then (if x10=x7 then ((lw47_lives.f).bind fun t514=>(some t514)) else (some false)) else (if x9 ≥ (wrap64 (x6+2)) then ((lw47_lives.f).bind fun t515=>(some t515)) else (some false))
end
def lw47_StmtBlank.f (k:Nat) (a0:ByteArray) (l1:List (S77)):Option (Bool):=if (a0.size:Int) > 3000 then (lw47_StmtBlank.j0 k a0 l1 true) else (lw47_StmtBlank.j0 k a0 l1 (decide ((l1.length:Int) > 60)))
theorem lw47_StmtBlank.calls (k:Nat) (a0:ByteArray) (A1:Option Addr) (c1:Nat) (l1:List (S77)) (r:Bool) (w:World) (hr1:Kd.C k77 w A1 l1.length l1) (hc1:l1.length≤c1) (h:lw47_StmtBlank.f k a0 l1=some r) (hG:Gl w) :
  Calls Tryd.prog 8 #[.string a0,.slice A1 l1.length c1] w fun e w'=>e=.returned (.bool r)∧Below w.heap.size w w':=by
 have HG:=sd hG;clear hG;have hu24:=Tryd.underlying24;have HR1:=sd hr1;have HC1:=sd hc1;clear hr1 hc1;have HB:=sd (Below.refl w.heap.size w);have H:=h;clear h;unfold lw47_StmtBlank.f at H;have HC3:=sd H;clear H;go_enter Tryd.func8,Tryd.ntmps8
 go_upto_region 1 with (fail)
 go_cut [18] (fun v18 wc=>∃ (kq:Nat) (x18_2:Bool),v18=.bool x18_2∧Aside0 (lw47_StmtBlank.j0 kq a0 l1 x18_2=some r)∧Aside0 (kq≤k)∧Aside0 (Below w.heap.size w wc))
 case first =>
  have H:=HC3.out;clear HC3;replace H:=ifI H;rcases H with ⟨c4,H⟩ | ⟨c4,H⟩
  ·have c4b0:decide (3000 < (a0.size:Int))=true:=decide_eq_true c4;have c4b1:decide (3000 < a0.size)=true:=decide_eq_true (by omega);clear c4;(first | rw [c4b0] | (simp only [i64_w,i32_w];rw [c4b0]) | skip)
   have H':=sd H;clear H;go_wp2
   go_meet
   case rel=>exact ⟨_,(true),zq1,H',⟨by first | omega | exact Nat.le_refl _⟩,⟨zq7⟩⟩
  have c4b0:decide (3000 < (a0.size:Int))=false:=decide_eq_false c4;have c4b1:decide (3000 < a0.size)=false:=decide_eq_false (by omega);clear c4;(first | rw [c4b0] | (simp only [i64_w,i32_w];rw [c4b0]) | skip)
  have H':=sd H;clear H;go_wp2
  go_meet
  case rel=>exact ⟨_,(decide ((l1.length:Int) > 60)),zq1,H',⟨by first | omega | exact Nat.le_refl _⟩,⟨zq7⟩⟩
 case rest =>
  clear HC3;try clear c1
  try clear p2
  try clear c4
  try clear c4b0
  try clear c4b1
  obtain ⟨kq,x18_2,rfl,HA,HJ2,HB⟩:=hcut
  cases kq with
  | zero=>exact absurd HA.out (by simp [lw47_StmtBlank.j0])
  | succ kj2 =>
   have H:=HA.out;clear HA;simp only [lw47_StmtBlank.j0] at H
   by_cases c5:x18_2=true
   ·subst c5;rw [if_pos rfl] at H;replace H:=bdI H;obtain ⟨t489,A6,H⟩:=H;(try dsimp only at H)
    obtain rfl:=Option.some.inj H;go_wp2_with (first | ((with_reducible refine gate_callee (f:=11) rfl ?_);refine gL 19 Tryd.func11 #[] ?_;(with_reducible refine (lw47_lives.calls  t489 _ A6.out (gl_below HG.out zq13)).mono ?_);rintro e w7 ⟨rfl,hb⟩;refine ⟨_,rfl,?_⟩;replace HB:=hbm HB hb;clear hb))
    go_ret
    exact ⟨zq10,zq7⟩
   replace c5:=Bool.eq_false_iff.mpr c5;subst c5;rw [if_neg Bool.false_ne_true] at H;replace H:=bdI H;obtain ⟨⟨t490,t491,t492,t493,t494,t495,t498,t499⟩,A8,H⟩:=H;(try dsimp only at H)
   replace H:=ifI H;rcases H with ⟨c9,H⟩ | ⟨c9,H⟩
   ·have c9b0:=eq_true c9;have c9b1:decide (11+a0.size≤9223372036854775807)=true:=decide_eq_true c9;try have c9b2:(9223372036854775807 < 11+a0.size)=False:=eq_false (Nat.not_lt.2 c9)
    replace H:=ifI H;rcases H with ⟨c10,H⟩ | ⟨c10,H⟩
    ·have c10b0:=eq_true c10;have c10b1:decide (((⟨#[35,32,102,105,114,115,116,10,32,32,10]⟩:ByteArray)++a0).size+7≤9223372036854775807)=true:=decide_eq_true c10;try have c10b2:(9223372036854775807 < ((⟨#[35,32,102,105,114,115,116,10,32,32,10]⟩:ByteArray)++a0).size+7)=False:=eq_false (Nat.not_lt.2 c10)
     try have c10y:(9223372036854775807 < 11+a0.size+7)=False:=by have h_:=c10b2;simp only [ByteArray.size_append] at h_;exact h_
     replace H:=bdI H;obtain ⟨⟨t501,t502,t503,t504,t505,t506,t509,t510⟩,A11,H⟩:=H;(try dsimp only at H)
     replace H:=ifI H;rcases H with ⟨c12,H⟩ | ⟨c12,H⟩
     ·obtain ⟨c12b0,c12b1⟩:=eqI c12;clear c12;replace H:=ifI H;rcases H with ⟨c13,H⟩ | ⟨c13,H⟩
      ·obtain ⟨c13b0,c13b1⟩:=eqI c13;clear c13;replace H:=ifI H;rcases H with ⟨c14,H⟩ | ⟨c14,H⟩
       ·obtain ⟨c14b0,c14b1⟩:=eqI c14;clear c14;replace H:=ifI H;rcases H with ⟨c15,H⟩ | ⟨c15,H⟩
        ·obtain ⟨c15b0,c15b1⟩:=eqI c15;clear c15;replace H:=bdI H;obtain ⟨t512,A16,H⟩:=H;(try dsimp only at H)
         by_cases c17:t512=true
         ·subst c17;rw [if_pos rfl] at H;replace H:=bdI H;obtain ⟨t513,A18,H⟩:=H;(try dsimp only at H)
          obtain rfl:=Option.some.inj H;go_wp2_with (first | ((with_reducible refine gate_callee (f:=18) rfl ?_);refine gL 23 Tryd.func18 #[.string a0,.slice A1 l1.length c1] ?_;(with_reducible refine (stmt_Parse.calls kj2 a0 _ _ l1 t490 t491 t492 t493 t494 t495 t498 t499 _ ?side1 ?side2 A8.out (gl_below HG.out zq13)).mono ?_);(case side1=>exact zq35);(case side2=>exact HC1.out);rintro e w19 ⟨v496,rfl,ho0,hb⟩;refine ⟨_,rfl,?_⟩;have HO497:=sd (Kd.R_lower ho0 (below_size zq7));replace HB:=hbm HB hb;clear hb;(try clear ho0)) | ((with_reducible refine gate_dst (N:=5) rfl ?_);(try (refine gate_guard (by rfl) ?_;dsimp only));refine bxA 5 #[.string (⟨#[]⟩:ByteArray),.string (⟨#[]⟩:ByteArray),.int .i64 0,.int .i64 0,.int .i64 0,.slice none 0 0] 24 ?_;intro gb500 hg w20 hbox hb;have BK500:=sd (hbox);have GW500:=gem hg HB;have GE500:=GW500;replace HO497:=rbm HO497 hb;replace HB:=hbm HB hb;clear hb hbox hg;obtain ⟨_,_,_,_,_,_,_,_,_,_,_,_⟩:=bk6 BK500;obtain ⟨Ao22,co22,eo22⟩:=Kd.R_slice HO497.out;subst eo22) | ((with_reducible refine gate_callee (f:=18) rfl ?_);refine gL 32 Tryd.func18 #[.string (((⟨#[35,32,102,105,114,115,116,10,32,32,10]⟩:ByteArray)++a0)++(⟨#[10,35,32,108,97,115,116]⟩:ByteArray)),.slice A1 l1.length c1] ?_;(with_reducible refine (stmt_Parse.calls kj2 (((⟨#[35,32,102,105,114,115,116,10,32,32,10]⟩:ByteArray)++a0)++(⟨#[10,35,32,108,97,115,116]⟩:ByteArray)) _ _ l1 t501 t502 t503 t504 t505 t506 t509 t510 _ ?side1 ?side2 A11.out (gl_below HG.out zq87)).mono ?_);(case side1=>exact zq88);(case side2=>exact HC1.out);rintro e w23 ⟨v507,rfl,ho0,hb⟩;refine ⟨_,rfl,?_⟩;have HO508:=sd (Kd.R_lower (Kd.R_new' ho0 (Kd.R_lt (by (with_reducible repeat (first | apply Kd.R_alloc | apply Kd.R_drewN | apply Kd.R_drew));exact (Kd.R_mono (Kd.R_far (p:=⟨gb500,5,none⟩) (Kd.R_far (p:=⟨gb500,4,none⟩) (Kd.R_far (p:=⟨gb500,3,none⟩) (Kd.R_far (p:=⟨gb500,2,none⟩) (Kd.R_far (p:=⟨gb500,1,none⟩) (Kd.R_far (p:=⟨gb500,0,none⟩) (Kd.R_types HO497.out BK500.out (by decide)) (fun _ hk=>hk.2) (.string t490)) (fun _ hk=>hk.2) (.string t491)) (fun _ hk=>hk.2) (.int .i64 t492)) (fun _ hk=>hk.2) (.int .i64 t493)) (fun _ hk=>hk.2) (.int .i64 t494)) (fun _ hk=>hk.2) (.slice Ao22 t495.length co22)) (fun _ h_=>h_.1))))) (below_size zq89));replace HO497:=sd (Kd.R_elder' (by (with_reducible repeat (first | apply Kd.R_alloc | apply Kd.R_drewN | apply Kd.R_drew));exact (Kd.R_mono (Kd.R_far (p:=⟨gb500,5,none⟩) (Kd.R_far (p:=⟨gb500,4,none⟩) (Kd.R_far (p:=⟨gb500,3,none⟩) (Kd.R_far (p:=⟨gb500,2,none⟩) (Kd.R_far (p:=⟨gb500,1,none⟩) (Kd.R_far (p:=⟨gb500,0,none⟩) (Kd.R_types HO497.out BK500.out (by decide)) (fun _ hk=>hk.2) (.string t490)) (fun _ hk=>hk.2) (.string t491)) (fun _ hk=>hk.2) (.int .i64 t492)) (fun _ hk=>hk.2) (.int .i64 t493)) (fun _ hk=>hk.2) (.int .i64 t494)) (fun _ hk=>hk.2) (.slice Ao22 t495.length co22)) (fun _ h_=>h_.1))) (Kd.R_base ho0) hb);replace BK500:=sd (blk_below (g:=gb500) (o:=.cells #[.string t490,.string t491,.int .i64 t492,.int .i64 t493,.int .i64 t494,.slice Ao22 t495.length co22] 24 (0,0)) zq90 hb);replace HB:=hbm HB hb;clear hb;(try clear ho0)) | ((with_reducible refine gate_dst (N:=8) rfl ?_);(try (refine gate_guard (by rfl) ?_;dsimp only));refine bxA 8 #[.string (⟨#[]⟩:ByteArray),.string (⟨#[]⟩:ByteArray),.int .i64 0,.int .i64 0,.int .i64 0,.slice none 0 0] 24 ?_;intro gb511 hg w24 hbox hb;have BK511:=sd (hbox);have GW511:=gem hg HB;have GE511:=GW511;have NB500_511:=nlm hg BK500;have NB511_500:=ngm hg BK500;replace HO497:=rbm HO497 hb;replace HO508:=rbm HO508 hb;replace BK500:=bkm BK500 hb;replace HB:=hbm HB hb;clear hb hbox hg;have hnb25:=NB511_500.out;have hnc25:=NB500_511.out;obtain ⟨_,_,_,_,_,_,_,_,_,_,_,_⟩:=bk6 BK511;obtain ⟨Ao27,co27,eo27⟩:=Kd.R_slice HO508.out;subst eo27;obtain ⟨_,_,_,_,_,_,_,_,_,_,_,_⟩:=bk6 BK500) | (go_at_call 20;(with_reducible refine (rf47_Same.calls kj2 t490 t491 t492 t493 t494 _ _ t495 t501 t502 t503 t504 t505 _ _ t506 true _ ?side1 ?side2 ?side3 ?side4 A16.out).mono ?_);(case side1=>exact (by refine (Kd.R_reads' (e:=44) (base:=w.heap.size) (ok:=fun k_=>(True∧some k_≠(.slice Ao27 t506.length co27:Value).ownBlock)) (n:=t495.length) (c:=co22) ?_).2.2;exact (by (with_reducible repeat (first | apply Kd.R_alloc | apply Kd.R_drewN | apply Kd.R_drew));exact (Kd.R_mono (Kd.R_far (p:=⟨gb511,5,none⟩) (Kd.R_far (p:=⟨gb511,4,none⟩) (Kd.R_far (p:=⟨gb511,3,none⟩) (Kd.R_far (p:=⟨gb511,2,none⟩) (Kd.R_far (p:=⟨gb511,1,none⟩) (Kd.R_far (p:=⟨gb511,0,none⟩) (Kd.R_types HO497.out BK511.out (by decide)) (fun _ hk=>hk.2) (.string t501)) (fun _ hk=>hk.2) (.string t502)) (fun _ hk=>hk.2) (.int .i64 t503)) (fun _ hk=>hk.2) (.int .i64 t504)) (fun _ hk=>hk.2) (.int .i64 t505)) (fun _ hk=>hk.2) (.slice Ao27 t506.length co27)) (fun _ h_=>h_.1)))));(case side2=>exact (Kd.R_reads' HO497.out).2.1);(case side3=>exact (by refine (Kd.R_reads' (e:=44) (base:=w.heap.size) (ok:=fun k_=>(True∧some k_≠(.slice Ao22 t495.length co22:Value).ownBlock)) (n:=t506.length) (c:=co27) ?_).2.2;exact (by (with_reducible repeat (first | apply Kd.R_alloc | apply Kd.R_drewN | apply Kd.R_drew));exact (Kd.R_mono (Kd.R_far (p:=⟨gb511,5,none⟩) (Kd.R_far (p:=⟨gb511,4,none⟩) (Kd.R_far (p:=⟨gb511,3,none⟩) (Kd.R_far (p:=⟨gb511,2,none⟩) (Kd.R_far (p:=⟨gb511,1,none⟩) (Kd.R_far (p:=⟨gb511,0,none⟩) (Kd.R_types HO508.out BK511.out (by decide)) (fun _ hk=>hk.2) (.string t501)) (fun _ hk=>hk.2) (.string t502)) (fun _ hk=>hk.2) (.int .i64 t503)) (fun _ hk=>hk.2) (.int .i64 t504)) (fun _ hk=>hk.2) (.int .i64 t505)) (fun _ hk=>hk.2) (.slice Ao27 t506.length co27)) (fun _ h_=>h_.1)))));(case side4=>exact (Kd.R_reads' HO508.out).2.1);rintro e w29 ⟨rfl,hb⟩;replace HO497:=sd (Kd.R_below (by (with_reducible repeat (first | apply Kd.R_alloc | apply Kd.R_drewN | apply Kd.R_drew));exact (Kd.R_mono (Kd.R_far (p:=⟨gb511,5,none⟩) (Kd.R_far (p:=⟨gb511,4,none⟩) (Kd.R_far (p:=⟨gb511,3,none⟩) (Kd.R_far (p:=⟨gb511,2,none⟩) (Kd.R_far (p:=⟨gb511,1,none⟩) (Kd.R_far (p:=⟨gb511,0,none⟩) (Kd.R_types HO497.out BK511.out (by decide)) (fun _ hk=>hk.2) (.string t501)) (fun _ hk=>hk.2) (.string t502)) (fun _ hk=>hk.2) (.int .i64 t503)) (fun _ hk=>hk.2) (.int .i64 t504)) (fun _ hk=>hk.2) (.int .i64 t505)) (fun _ hk=>hk.2) (.slice Ao27 t506.length co27)) (fun _ h_=>h_.1))) hb);replace HO508:=sd (Kd.R_below (by (with_reducible repeat (first | apply Kd.R_alloc | apply Kd.R_drewN | apply Kd.R_drew));exact (Kd.R_mono (Kd.R_far (p:=⟨gb511,5,none⟩) (Kd.R_far (p:=⟨gb511,4,none⟩) (Kd.R_far (p:=⟨gb511,3,none⟩) (Kd.R_far (p:=⟨gb511,2,none⟩) (Kd.R_far (p:=⟨gb511,1,none⟩) (Kd.R_far (p:=⟨gb511,0,none⟩) (Kd.R_types HO508.out BK511.out (by decide)) (fun _ hk=>hk.2) (.string t501)) (fun _ hk=>hk.2) (.string t502)) (fun _ hk=>hk.2) (.int .i64 t503)) (fun _ hk=>hk.2) (.int .i64 t504)) (fun _ hk=>hk.2) (.int .i64 t505)) (fun _ hk=>hk.2) (.slice Ao27 t506.length co27)) (fun _ h_=>h_.1))) hb);replace BK500:=sd (blk_below (g:=gb500) (o:=.cells #[.string t490,.string t491,.int .i64 t492,.int .i64 t493,.int .i64 t494,.slice Ao22 t495.length co22] 24 (0,0)) zq91 hb);replace BK511:=sd (blk_below (g:=gb511) (o:=.cells #[.string t501,.string t502,.int .i64 t503,.int .i64 t504,.int .i64 t505,.slice Ao27 t506.length co27] 24 (0,0)) zq92 hb);replace HB:=hbm HB hb;clear hb) | (go_at_call 11;(with_reducible refine (lw47_lives.calls  t513 _ A18.out (gl_below HG.out zq93)).mono ?_);rintro e w30 ⟨rfl,hb⟩;replace HO497:=rbm HO497 hb;replace HO508:=rbm HO508 hb;replace BK500:=bkm BK500 hb;replace BK511:=bkm BK511 hb;replace HB:=hbm HB hb;clear hb))
          go_ret
          exact ⟨zq10,zq94⟩
         replace c17:=Bool.eq_false_iff.mpr c17;subst c17;rw [if_neg Bool.false_ne_true] at H;obtain rfl:=Option.some.inj H;go_wp2_with (first | ((with_reducible refine gate_callee (f:=18) rfl ?_);refine gL 23 Tryd.func18 #[.string a0,.slice A1 l1.length c1] ?_;(with_reducible refine (stmt_Parse.calls kj2 a0 _ _ l1 t490 t491 t492 t493 t494 t495 t498 t499 _ ?side1 ?side2 A8.out (gl_below HG.out zq13)).mono ?_);(case side1=>exact zq35);(case side2=>exact HC1.out);rintro e w31 ⟨v496,rfl,ho0,hb⟩;refine ⟨_,rfl,?_⟩;have HO497:=sd (Kd.R_lower ho0 (below_size zq7));replace HB:=hbm HB hb;clear hb;(try clear ho0)) | ((with_reducible refine gate_dst (N:=5) rfl ?_);(try (refine gate_guard (by rfl) ?_;dsimp only));refine bxA 5 #[.string (⟨#[]⟩:ByteArray),.string (⟨#[]⟩:ByteArray),.int .i64 0,.int .i64 0,.int .i64 0,.slice none 0 0] 24 ?_;intro gb500 hg w32 hbox hb;have BK500:=sd (hbox);have GW500:=gem hg HB;have GE500:=GW500;replace HO497:=rbm HO497 hb;replace HB:=hbm HB hb;clear hb hbox hg;obtain ⟨_,_,_,_,_,_,_,_,_,_,_,_⟩:=bk6 BK500;obtain ⟨Ao34,co34,eo34⟩:=Kd.R_slice HO497.out;subst eo34) | ((with_reducible refine gate_callee (f:=18) rfl ?_);refine gL 32 Tryd.func18 #[.string (((⟨#[35,32,102,105,114,115,116,10,32,32,10]⟩:ByteArray)++a0)++(⟨#[10,35,32,108,97,115,116]⟩:ByteArray)),.slice A1 l1.length c1] ?_;(with_reducible refine (stmt_Parse.calls kj2 (((⟨#[35,32,102,105,114,115,116,10,32,32,10]⟩:ByteArray)++a0)++(⟨#[10,35,32,108,97,115,116]⟩:ByteArray)) _ _ l1 t501 t502 t503 t504 t505 t506 t509 t510 _ ?side1 ?side2 A11.out (gl_below HG.out zq87)).mono ?_);(case side1=>exact zq88);(case side2=>exact HC1.out);rintro e w35 ⟨v507,rfl,ho0,hb⟩;refine ⟨_,rfl,?_⟩;have HO508:=sd (Kd.R_lower (Kd.R_new' ho0 (Kd.R_lt (by (with_reducible repeat (first | apply Kd.R_alloc | apply Kd.R_drewN | apply Kd.R_drew));exact (Kd.R_mono (Kd.R_far (p:=⟨gb500,5,none⟩) (Kd.R_far (p:=⟨gb500,4,none⟩) (Kd.R_far (p:=⟨gb500,3,none⟩) (Kd.R_far (p:=⟨gb500,2,none⟩) (Kd.R_far (p:=⟨gb500,1,none⟩) (Kd.R_far (p:=⟨gb500,0,none⟩) (Kd.R_types HO497.out BK500.out (by decide)) (fun _ hk=>hk.2) (.string t490)) (fun _ hk=>hk.2) (.string t491)) (fun _ hk=>hk.2) (.int .i64 t492)) (fun _ hk=>hk.2) (.int .i64 t493)) (fun _ hk=>hk.2) (.int .i64 t494)) (fun _ hk=>hk.2) (.slice Ao34 t495.length co34)) (fun _ h_=>h_.1))))) (below_size zq89));replace HO497:=sd (Kd.R_elder' (by (with_reducible repeat (first | apply Kd.R_alloc | apply Kd.R_drewN | apply Kd.R_drew));exact (Kd.R_mono (Kd.R_far (p:=⟨gb500,5,none⟩) (Kd.R_far (p:=⟨gb500,4,none⟩) (Kd.R_far (p:=⟨gb500,3,none⟩) (Kd.R_far (p:=⟨gb500,2,none⟩) (Kd.R_far (p:=⟨gb500,1,none⟩) (Kd.R_far (p:=⟨gb500,0,none⟩) (Kd.R_types HO497.out BK500.out (by decide)) (fun _ hk=>hk.2) (.string t490)) (fun _ hk=>hk.2) (.string t491)) (fun _ hk=>hk.2) (.int .i64 t492)) (fun _ hk=>hk.2) (.int .i64 t493)) (fun _ hk=>hk.2) (.int .i64 t494)) (fun _ hk=>hk.2) (.slice Ao34 t495.length co34)) (fun _ h_=>h_.1))) (Kd.R_base ho0) hb);replace BK500:=sd (blk_below (g:=gb500) (o:=.cells #[.string t490,.string t491,.int .i64 t492,.int .i64 t493,.int .i64 t494,.slice Ao34 t495.length co34] 24 (0,0)) zq90 hb);replace HB:=hbm HB hb;clear hb;(try clear ho0)) | ((with_reducible refine gate_dst (N:=8) rfl ?_);(try (refine gate_guard (by rfl) ?_;dsimp only));refine bxA 8 #[.string (⟨#[]⟩:ByteArray),.string (⟨#[]⟩:ByteArray),.int .i64 0,.int .i64 0,.int .i64 0,.slice none 0 0] 24 ?_;intro gb511 hg w36 hbox hb;have BK511:=sd (hbox);have GW511:=gem hg HB;have GE511:=GW511;have NB500_511:=nlm hg BK500;have NB511_500:=ngm hg BK500;replace HO497:=rbm HO497 hb;replace HO508:=rbm HO508 hb;replace BK500:=bkm BK500 hb;replace HB:=hbm HB hb;clear hb hbox hg;have hnb37:=NB511_500.out;have hnc37:=NB500_511.out;obtain ⟨_,_,_,_,_,_,_,_,_,_,_,_⟩:=bk6 BK511;obtain ⟨Ao39,co39,eo39⟩:=Kd.R_slice HO508.out;subst eo39;obtain ⟨_,_,_,_,_,_,_,_,_,_,_,_⟩:=bk6 BK500) | (go_at_call 20;(with_reducible refine (rf47_Same.calls kj2 t490 t491 t492 t493 t494 _ _ t495 t501 t502 t503 t504 t505 _ _ t506 false _ ?side1 ?side2 ?side3 ?side4 A16.out).mono ?_);(case side1=>exact (by refine (Kd.R_reads' (e:=44) (base:=w.heap.size) (ok:=fun k_=>(True∧some k_≠(.slice Ao39 t506.length co39:Value).ownBlock)) (n:=t495.length) (c:=co34) ?_).2.2;exact (by (with_reducible repeat (first | apply Kd.R_alloc | apply Kd.R_drewN | apply Kd.R_drew));exact (Kd.R_mono (Kd.R_far (p:=⟨gb511,5,none⟩) (Kd.R_far (p:=⟨gb511,4,none⟩) (Kd.R_far (p:=⟨gb511,3,none⟩) (Kd.R_far (p:=⟨gb511,2,none⟩) (Kd.R_far (p:=⟨gb511,1,none⟩) (Kd.R_far (p:=⟨gb511,0,none⟩) (Kd.R_types HO497.out BK511.out (by decide)) (fun _ hk=>hk.2) (.string t501)) (fun _ hk=>hk.2) (.string t502)) (fun _ hk=>hk.2) (.int .i64 t503)) (fun _ hk=>hk.2) (.int .i64 t504)) (fun _ hk=>hk.2) (.int .i64 t505)) (fun _ hk=>hk.2) (.slice Ao39 t506.length co39)) (fun _ h_=>h_.1)))));(case side2=>exact (Kd.R_reads' HO497.out).2.1);(case side3=>exact (by refine (Kd.R_reads' (e:=44) (base:=w.heap.size) (ok:=fun k_=>(True∧some k_≠(.slice Ao34 t495.length co34:Value).ownBlock)) (n:=t506.length) (c:=co39) ?_).2.2;exact (by (with_reducible repeat (first | apply Kd.R_alloc | apply Kd.R_drewN | apply Kd.R_drew));exact (Kd.R_mono (Kd.R_far (p:=⟨gb511,5,none⟩) (Kd.R_far (p:=⟨gb511,4,none⟩) (Kd.R_far (p:=⟨gb511,3,none⟩) (Kd.R_far (p:=⟨gb511,2,none⟩) (Kd.R_far (p:=⟨gb511,1,none⟩) (Kd.R_far (p:=⟨gb511,0,none⟩) (Kd.R_types HO508.out BK511.out (by decide)) (fun _ hk=>hk.2) (.string t501)) (fun _ hk=>hk.2) (.string t502)) (fun _ hk=>hk.2) (.int .i64 t503)) (fun _ hk=>hk.2) (.int .i64 t504)) (fun _ hk=>hk.2) (.int .i64 t505)) (fun _ hk=>hk.2) (.slice Ao39 t506.length co39)) (fun _ h_=>h_.1)))));(case side4=>exact (Kd.R_reads' HO508.out).2.1);rintro e w41 ⟨rfl,hb⟩;replace HO497:=sd (Kd.R_below (by (with_reducible repeat (first | apply Kd.R_alloc | apply Kd.R_drewN | apply Kd.R_drew));exact (Kd.R_mono (Kd.R_far (p:=⟨gb511,5,none⟩) (Kd.R_far (p:=⟨gb511,4,none⟩) (Kd.R_far (p:=⟨gb511,3,none⟩) (Kd.R_far (p:=⟨gb511,2,none⟩) (Kd.R_far (p:=⟨gb511,1,none⟩) (Kd.R_far (p:=⟨gb511,0,none⟩) (Kd.R_types HO497.out BK511.out (by decide)) (fun _ hk=>hk.2) (.string t501)) (fun _ hk=>hk.2) (.string t502)) (fun _ hk=>hk.2) (.int .i64 t503)) (fun _ hk=>hk.2) (.int .i64 t504)) (fun _ hk=>hk.2) (.int .i64 t505)) (fun _ hk=>hk.2) (.slice Ao39 t506.length co39)) (fun _ h_=>h_.1))) hb);replace HO508:=sd (Kd.R_below (by (with_reducible repeat (first | apply Kd.R_alloc | apply Kd.R_drewN | apply Kd.R_drew));exact (Kd.R_mono (Kd.R_far (p:=⟨gb511,5,none⟩) (Kd.R_far (p:=⟨gb511,4,none⟩) (Kd.R_far (p:=⟨gb511,3,none⟩) (Kd.R_far (p:=⟨gb511,2,none⟩) (Kd.R_far (p:=⟨gb511,1,none⟩) (Kd.R_far (p:=⟨gb511,0,none⟩) (Kd.R_types HO508.out BK511.out (by decide)) (fun _ hk=>hk.2) (.string t501)) (fun _ hk=>hk.2) (.string t502)) (fun _ hk=>hk.2) (.int .i64 t503)) (fun _ hk=>hk.2) (.int .i64 t504)) (fun _ hk=>hk.2) (.int .i64 t505)) (fun _ hk=>hk.2) (.slice Ao39 t506.length co39)) (fun _ h_=>h_.1))) hb);replace BK500:=sd (blk_below (g:=gb500) (o:=.cells #[.string t490,.string t491,.int .i64 t492,.int .i64 t493,.int .i64 t494,.slice Ao34 t495.length co34] 24 (0,0)) zq91 hb);replace BK511:=sd (blk_below (g:=gb511) (o:=.cells #[.string t501,.string t502,.int .i64 t503,.int .i64 t504,.int .i64 t505,.slice Ao39 t506.length co39] 24 (0,0)) zq92 hb);replace HB:=hbm HB hb;clear hb))
         go_ret
         exact ⟨zq10,zq94⟩
        obtain ⟨c15b0,c15b1⟩:=neI c15;obtain rfl:=Option.some.inj H;go_wp2_with (first | ((with_reducible refine gate_callee (f:=18) rfl ?_);refine gL 23 Tryd.func18 #[.string a0,.slice A1 l1.length c1] ?_;(with_reducible refine (stmt_Parse.calls kj2 a0 _ _ l1 t490 t491 t492 t493 t494 t495 t498 t499 _ ?side1 ?side2 A8.out (gl_below HG.out zq13)).mono ?_);(case side1=>exact zq35);(case side2=>exact HC1.out);rintro e w42 ⟨v496,rfl,ho0,hb⟩;refine ⟨_,rfl,?_⟩;have HO497:=sd (Kd.R_lower ho0 (below_size zq7));replace HB:=hbm HB hb;clear hb;(try clear ho0)) | ((with_reducible refine gate_dst (N:=5) rfl ?_);(try (refine gate_guard (by rfl) ?_;dsimp only));refine bxA 5 #[.string (⟨#[]⟩:ByteArray),.string (⟨#[]⟩:ByteArray),.int .i64 0,.int .i64 0,.int .i64 0,.slice none 0 0] 24 ?_;intro gb500 hg w43 hbox hb;have BK500:=sd (hbox);have GW500:=gem hg HB;have GE500:=GW500;replace HO497:=rbm HO497 hb;replace HB:=hbm HB hb;clear hb hbox hg;obtain ⟨_,_,_,_,_,_,_,_,_,_,_,_⟩:=bk6 BK500;obtain ⟨Ao45,co45,eo45⟩:=Kd.R_slice HO497.out;subst eo45) | ((with_reducible refine gate_callee (f:=18) rfl ?_);refine gL 32 Tryd.func18 #[.string (((⟨#[35,32,102,105,114,115,116,10,32,32,10]⟩:ByteArray)++a0)++(⟨#[10,35,32,108,97,115,116]⟩:ByteArray)),.slice A1 l1.length c1] ?_;(with_reducible refine (stmt_Parse.calls kj2 (((⟨#[35,32,102,105,114,115,116,10,32,32,10]⟩:ByteArray)++a0)++(⟨#[10,35,32,108,97,115,116]⟩:ByteArray)) _ _ l1 t501 t502 t503 t504 t505 t506 t509 t510 _ ?side1 ?side2 A11.out (gl_below HG.out zq87)).mono ?_);(case side1=>exact zq88);(case side2=>exact HC1.out);rintro e w46 ⟨v507,rfl,ho0,hb⟩;refine ⟨_,rfl,?_⟩;have HO508:=sd (Kd.R_lower (Kd.R_new' ho0 (Kd.R_lt (by (with_reducible repeat (first | apply Kd.R_alloc | apply Kd.R_drewN | apply Kd.R_drew));exact (Kd.R_mono (Kd.R_far (p:=⟨gb500,5,none⟩) (Kd.R_far (p:=⟨gb500,4,none⟩) (Kd.R_far (p:=⟨gb500,3,none⟩) (Kd.R_far (p:=⟨gb500,2,none⟩) (Kd.R_far (p:=⟨gb500,1,none⟩) (Kd.R_far (p:=⟨gb500,0,none⟩) (Kd.R_types HO497.out BK500.out (by decide)) (fun _ hk=>hk.2) (.string t490)) (fun _ hk=>hk.2) (.string t491)) (fun _ hk=>hk.2) (.int .i64 t492)) (fun _ hk=>hk.2) (.int .i64 t493)) (fun _ hk=>hk.2) (.int .i64 t494)) (fun _ hk=>hk.2) (.slice Ao45 t495.length co45)) (fun _ h_=>h_.1))))) (below_size zq89));replace HO497:=sd (Kd.R_elder' (by (with_reducible repeat (first | apply Kd.R_alloc | apply Kd.R_drewN | apply Kd.R_drew));exact (Kd.R_mono (Kd.R_far (p:=⟨gb500,5,none⟩) (Kd.R_far (p:=⟨gb500,4,none⟩) (Kd.R_far (p:=⟨gb500,3,none⟩) (Kd.R_far (p:=⟨gb500,2,none⟩) (Kd.R_far (p:=⟨gb500,1,none⟩) (Kd.R_far (p:=⟨gb500,0,none⟩) (Kd.R_types HO497.out BK500.out (by decide)) (fun _ hk=>hk.2) (.string t490)) (fun _ hk=>hk.2) (.string t491)) (fun _ hk=>hk.2) (.int .i64 t492)) (fun _ hk=>hk.2) (.int .i64 t493)) (fun _ hk=>hk.2) (.int .i64 t494)) (fun _ hk=>hk.2) (.slice Ao45 t495.length co45)) (fun _ h_=>h_.1))) (Kd.R_base ho0) hb);replace BK500:=sd (blk_below (g:=gb500) (o:=.cells #[.string t490,.string t491,.int .i64 t492,.int .i64 t493,.int .i64 t494,.slice Ao45 t495.length co45] 24 (0,0)) zq90 hb);replace HB:=hbm HB hb;clear hb;(try clear ho0)) | ((with_reducible refine gate_dst (N:=8) rfl ?_);(try (refine gate_guard (by rfl) ?_;dsimp only));refine bxA 8 #[.string (⟨#[]⟩:ByteArray),.string (⟨#[]⟩:ByteArray),.int .i64 0,.int .i64 0,.int .i64 0,.slice none 0 0] 24 ?_;intro gb511 hg w47 hbox hb;have BK511:=sd (hbox);have GW511:=gem hg HB;have GE511:=GW511;have NB500_511:=nlm hg BK500;have NB511_500:=ngm hg BK500;replace HO497:=rbm HO497 hb;replace HO508:=rbm HO508 hb;replace BK500:=bkm BK500 hb;replace HB:=hbm HB hb;clear hb hbox hg;have hnb48:=NB511_500.out;have hnc48:=NB500_511.out;obtain ⟨_,_,_,_,_,_,_,_,_,_,_,_⟩:=bk6 BK511;obtain ⟨Ao50,co50,eo50⟩:=Kd.R_slice HO508.out;subst eo50))
        go_ret
        exact ⟨zq10,zq94⟩
       obtain ⟨c14b0,c14b1⟩:=neI c14;obtain rfl:=Option.some.inj H;go_wp2_with (first | ((with_reducible refine gate_callee (f:=18) rfl ?_);refine gL 23 Tryd.func18 #[.string a0,.slice A1 l1.length c1] ?_;(with_reducible refine (stmt_Parse.calls kj2 a0 _ _ l1 t490 t491 t492 t493 t494 t495 t498 t499 _ ?side1 ?side2 A8.out (gl_below HG.out zq13)).mono ?_);(case side1=>exact zq35);(case side2=>exact HC1.out);rintro e w51 ⟨v496,rfl,ho0,hb⟩;refine ⟨_,rfl,?_⟩;have HO497:=sd (Kd.R_lower ho0 (below_size zq7));replace HB:=hbm HB hb;clear hb;(try clear ho0)) | ((with_reducible refine gate_dst (N:=5) rfl ?_);(try (refine gate_guard (by rfl) ?_;dsimp only));refine bxA 5 #[.string (⟨#[]⟩:ByteArray),.string (⟨#[]⟩:ByteArray),.int .i64 0,.int .i64 0,.int .i64 0,.slice none 0 0] 24 ?_;intro gb500 hg w52 hbox hb;have BK500:=sd (hbox);have GW500:=gem hg HB;have GE500:=GW500;replace HO497:=rbm HO497 hb;replace HB:=hbm HB hb;clear hb hbox hg;obtain ⟨_,_,_,_,_,_,_,_,_,_,_,_⟩:=bk6 BK500;obtain ⟨Ao54,co54,eo54⟩:=Kd.R_slice HO497.out;subst eo54) | ((with_reducible refine gate_callee (f:=18) rfl ?_);refine gL 32 Tryd.func18 #[.string (((⟨#[35,32,102,105,114,115,116,10,32,32,10]⟩:ByteArray)++a0)++(⟨#[10,35,32,108,97,115,116]⟩:ByteArray)),.slice A1 l1.length c1] ?_;(with_reducible refine (stmt_Parse.calls kj2 (((⟨#[35,32,102,105,114,115,116,10,32,32,10]⟩:ByteArray)++a0)++(⟨#[10,35,32,108,97,115,116]⟩:ByteArray)) _ _ l1 t501 t502 t503 t504 t505 t506 t509 t510 _ ?side1 ?side2 A11.out (gl_below HG.out zq87)).mono ?_);(case side1=>exact zq88);(case side2=>exact HC1.out);rintro e w55 ⟨v507,rfl,ho0,hb⟩;refine ⟨_,rfl,?_⟩;have HO508:=sd (Kd.R_lower (Kd.R_new' ho0 (Kd.R_lt (by (with_reducible repeat (first | apply Kd.R_alloc | apply Kd.R_drewN | apply Kd.R_drew));exact (Kd.R_mono (Kd.R_far (p:=⟨gb500,5,none⟩) (Kd.R_far (p:=⟨gb500,4,none⟩) (Kd.R_far (p:=⟨gb500,3,none⟩) (Kd.R_far (p:=⟨gb500,2,none⟩) (Kd.R_far (p:=⟨gb500,1,none⟩) (Kd.R_far (p:=⟨gb500,0,none⟩) (Kd.R_types HO497.out BK500.out (by decide)) (fun _ hk=>hk.2) (.string t490)) (fun _ hk=>hk.2) (.string t491)) (fun _ hk=>hk.2) (.int .i64 t492)) (fun _ hk=>hk.2) (.int .i64 t493)) (fun _ hk=>hk.2) (.int .i64 t494)) (fun _ hk=>hk.2) (.slice Ao54 t495.length co54)) (fun _ h_=>h_.1))))) (below_size zq89));replace HO497:=sd (Kd.R_elder' (by (with_reducible repeat (first | apply Kd.R_alloc | apply Kd.R_drewN | apply Kd.R_drew));exact (Kd.R_mono (Kd.R_far (p:=⟨gb500,5,none⟩) (Kd.R_far (p:=⟨gb500,4,none⟩) (Kd.R_far (p:=⟨gb500,3,none⟩) (Kd.R_far (p:=⟨gb500,2,none⟩) (Kd.R_far (p:=⟨gb500,1,none⟩) (Kd.R_far (p:=⟨gb500,0,none⟩) (Kd.R_types HO497.out BK500.out (by decide)) (fun _ hk=>hk.2) (.string t490)) (fun _ hk=>hk.2) (.string t491)) (fun _ hk=>hk.2) (.int .i64 t492)) (fun _ hk=>hk.2) (.int .i64 t493)) (fun _ hk=>hk.2) (.int .i64 t494)) (fun _ hk=>hk.2) (.slice Ao54 t495.length co54)) (fun _ h_=>h_.1))) (Kd.R_base ho0) hb);replace BK500:=sd (blk_below (g:=gb500) (o:=.cells #[.string t490,.string t491,.int .i64 t492,.int .i64 t493,.int .i64 t494,.slice Ao54 t495.length co54] 24 (0,0)) zq90 hb);replace HB:=hbm HB hb;clear hb;(try clear ho0)) | ((with_reducible refine gate_dst (N:=8) rfl ?_);(try (refine gate_guard (by rfl) ?_;dsimp only));refine bxA 8 #[.string (⟨#[]⟩:ByteArray),.string (⟨#[]⟩:ByteArray),.int .i64 0,.int .i64 0,.int .i64 0,.slice none 0 0] 24 ?_;intro gb511 hg w56 hbox hb;have BK511:=sd (hbox);have GW511:=gem hg HB;have GE511:=GW511;have NB500_511:=nlm hg BK500;have NB511_500:=ngm hg BK500;replace HO497:=rbm HO497 hb;replace HO508:=rbm HO508 hb;replace BK500:=bkm BK500 hb;replace HB:=hbm HB hb;clear hb hbox hg;have hnb57:=NB511_500.out;have hnc57:=NB500_511.out;obtain ⟨_,_,_,_,_,_,_,_,_,_,_,_⟩:=bk6 BK511;obtain ⟨Ao59,co59,eo59⟩:=Kd.R_slice HO508.out;subst eo59))
       go_ret
       exact ⟨zq10,zq94⟩
      obtain ⟨c13b0,c13b1⟩:=neI c13;obtain rfl:=Option.some.inj H;go_wp2_with (first | ((with_reducible refine gate_callee (f:=18) rfl ?_);refine gL 23 Tryd.func18 #[.string a0,.slice A1 l1.length c1] ?_;(with_reducible refine (stmt_Parse.calls kj2 a0 _ _ l1 t490 t491 t492 t493 t494 t495 t498 t499 _ ?side1 ?side2 A8.out (gl_below HG.out zq13)).mono ?_);(case side1=>exact zq35);(case side2=>exact HC1.out);rintro e w60 ⟨v496,rfl,ho0,hb⟩;refine ⟨_,rfl,?_⟩;have HO497:=sd (Kd.R_lower ho0 (below_size zq7));replace HB:=hbm HB hb;clear hb;(try clear ho0)) | ((with_reducible refine gate_dst (N:=5) rfl ?_);(try (refine gate_guard (by rfl) ?_;dsimp only));refine bxA 5 #[.string (⟨#[]⟩:ByteArray),.string (⟨#[]⟩:ByteArray),.int .i64 0,.int .i64 0,.int .i64 0,.slice none 0 0] 24 ?_;intro gb500 hg w61 hbox hb;have BK500:=sd (hbox);have GW500:=gem hg HB;have GE500:=GW500;replace HO497:=rbm HO497 hb;replace HB:=hbm HB hb;clear hb hbox hg;obtain ⟨_,_,_,_,_,_,_,_,_,_,_,_⟩:=bk6 BK500;obtain ⟨Ao63,co63,eo63⟩:=Kd.R_slice HO497.out;subst eo63) | ((with_reducible refine gate_callee (f:=18) rfl ?_);refine gL 32 Tryd.func18 #[.string (((⟨#[35,32,102,105,114,115,116,10,32,32,10]⟩:ByteArray)++a0)++(⟨#[10,35,32,108,97,115,116]⟩:ByteArray)),.slice A1 l1.length c1] ?_;(with_reducible refine (stmt_Parse.calls kj2 (((⟨#[35,32,102,105,114,115,116,10,32,32,10]⟩:ByteArray)++a0)++(⟨#[10,35,32,108,97,115,116]⟩:ByteArray)) _ _ l1 t501 t502 t503 t504 t505 t506 t509 t510 _ ?side1 ?side2 A11.out (gl_below HG.out zq87)).mono ?_);(case side1=>exact zq88);(case side2=>exact HC1.out);rintro e w64 ⟨v507,rfl,ho0,hb⟩;refine ⟨_,rfl,?_⟩;have HO508:=sd (Kd.R_lower (Kd.R_new' ho0 (Kd.R_lt (by (with_reducible repeat (first | apply Kd.R_alloc | apply Kd.R_drewN | apply Kd.R_drew));exact (Kd.R_mono (Kd.R_far (p:=⟨gb500,5,none⟩) (Kd.R_far (p:=⟨gb500,4,none⟩) (Kd.R_far (p:=⟨gb500,3,none⟩) (Kd.R_far (p:=⟨gb500,2,none⟩) (Kd.R_far (p:=⟨gb500,1,none⟩) (Kd.R_far (p:=⟨gb500,0,none⟩) (Kd.R_types HO497.out BK500.out (by decide)) (fun _ hk=>hk.2) (.string t490)) (fun _ hk=>hk.2) (.string t491)) (fun _ hk=>hk.2) (.int .i64 t492)) (fun _ hk=>hk.2) (.int .i64 t493)) (fun _ hk=>hk.2) (.int .i64 t494)) (fun _ hk=>hk.2) (.slice Ao63 t495.length co63)) (fun _ h_=>h_.1))))) (below_size zq89));replace HO497:=sd (Kd.R_elder' (by (with_reducible repeat (first | apply Kd.R_alloc | apply Kd.R_drewN | apply Kd.R_drew));exact (Kd.R_mono (Kd.R_far (p:=⟨gb500,5,none⟩) (Kd.R_far (p:=⟨gb500,4,none⟩) (Kd.R_far (p:=⟨gb500,3,none⟩) (Kd.R_far (p:=⟨gb500,2,none⟩) (Kd.R_far (p:=⟨gb500,1,none⟩) (Kd.R_far (p:=⟨gb500,0,none⟩) (Kd.R_types HO497.out BK500.out (by decide)) (fun _ hk=>hk.2) (.string t490)) (fun _ hk=>hk.2) (.string t491)) (fun _ hk=>hk.2) (.int .i64 t492)) (fun _ hk=>hk.2) (.int .i64 t493)) (fun _ hk=>hk.2) (.int .i64 t494)) (fun _ hk=>hk.2) (.slice Ao63 t495.length co63)) (fun _ h_=>h_.1))) (Kd.R_base ho0) hb);replace BK500:=sd (blk_below (g:=gb500) (o:=.cells #[.string t490,.string t491,.int .i64 t492,.int .i64 t493,.int .i64 t494,.slice Ao63 t495.length co63] 24 (0,0)) zq90 hb);replace HB:=hbm HB hb;clear hb;(try clear ho0)) | ((with_reducible refine gate_dst (N:=8) rfl ?_);(try (refine gate_guard (by rfl) ?_;dsimp only));refine bxA 8 #[.string (⟨#[]⟩:ByteArray),.string (⟨#[]⟩:ByteArray),.int .i64 0,.int .i64 0,.int .i64 0,.slice none 0 0] 24 ?_;intro gb511 hg w65 hbox hb;have BK511:=sd (hbox);have GW511:=gem hg HB;have GE511:=GW511;have NB500_511:=nlm hg BK500;have NB511_500:=ngm hg BK500;replace HO497:=rbm HO497 hb;replace HO508:=rbm HO508 hb;replace BK500:=bkm BK500 hb;replace HB:=hbm HB hb;clear hb hbox hg;have hnb66:=NB511_500.out;have hnc66:=NB500_511.out;obtain ⟨_,_,_,_,_,_,_,_,_,_,_,_⟩:=bk6 BK511;obtain ⟨Ao68,co68,eo68⟩:=Kd.R_slice HO508.out;subst eo68))
      go_ret
      exact ⟨zq10,zq94⟩
     obtain ⟨c12b0,c12b1⟩:=neI c12;have HC69:=sd H;clear H;go_upto_region 7 with (first | ((with_reducible refine gate_callee (f:=18) rfl ?_);refine gL 23 Tryd.func18 #[.string a0,.slice A1 l1.length c1] ?_;(with_reducible refine (stmt_Parse.calls kj2 a0 _ _ l1 t490 t491 t492 t493 t494 t495 t498 t499 _ ?side1 ?side2 A8.out (gl_below HG.out zq13)).mono ?_);(case side1=>exact zq35);(case side2=>exact HC1.out);rintro e w70 ⟨v496,rfl,ho0,hb⟩;refine ⟨_,rfl,?_⟩;have HO497:=sd (Kd.R_lower ho0 (below_size zq7));replace HB:=hbm HB hb;clear hb;(try clear ho0)) | ((with_reducible refine gate_dst (N:=5) rfl ?_);(try (refine gate_guard (by rfl) ?_;dsimp only));refine bxA 5 #[.string (⟨#[]⟩:ByteArray),.string (⟨#[]⟩:ByteArray),.int .i64 0,.int .i64 0,.int .i64 0,.slice none 0 0] 24 ?_;intro gb500 hg w71 hbox hb;have BK500:=sd (hbox);have GW500:=gem hg HB;have GE500:=GW500;replace HO497:=rbm HO497 hb;replace HB:=hbm HB hb;clear hb hbox hg;obtain ⟨_,_,_,_,_,_,_,_,_,_,_,_⟩:=bk6 BK500;obtain ⟨Ao73,co73,eo73⟩:=Kd.R_slice HO497.out;subst eo73) | ((with_reducible refine gate_callee (f:=18) rfl ?_);refine gL 32 Tryd.func18 #[.string (((⟨#[35,32,102,105,114,115,116,10,32,32,10]⟩:ByteArray)++a0)++(⟨#[10,35,32,108,97,115,116]⟩:ByteArray)),.slice A1 l1.length c1] ?_;(with_reducible refine (stmt_Parse.calls kj2 (((⟨#[35,32,102,105,114,115,116,10,32,32,10]⟩:ByteArray)++a0)++(⟨#[10,35,32,108,97,115,116]⟩:ByteArray)) _ _ l1 t501 t502 t503 t504 t505 t506 t509 t510 _ ?side1 ?side2 A11.out (gl_below HG.out zq87)).mono ?_);(case side1=>exact zq88);(case side2=>exact HC1.out);rintro e w74 ⟨v507,rfl,ho0,hb⟩;refine ⟨_,rfl,?_⟩;have HO508:=sd (Kd.R_lower (Kd.R_new' ho0 (Kd.R_lt (by (with_reducible repeat (first | apply Kd.R_alloc | apply Kd.R_drewN | apply Kd.R_drew));exact (Kd.R_mono (Kd.R_far (p:=⟨gb500,5,none⟩) (Kd.R_far (p:=⟨gb500,4,none⟩) (Kd.R_far (p:=⟨gb500,3,none⟩) (Kd.R_far (p:=⟨gb500,2,none⟩) (Kd.R_far (p:=⟨gb500,1,none⟩) (Kd.R_far (p:=⟨gb500,0,none⟩) (Kd.R_types HO497.out BK500.out (by decide)) (fun _ hk=>hk.2) (.string t490)) (fun _ hk=>hk.2) (.string t491)) (fun _ hk=>hk.2) (.int .i64 t492)) (fun _ hk=>hk.2) (.int .i64 t493)) (fun _ hk=>hk.2) (.int .i64 t494)) (fun _ hk=>hk.2) (.slice Ao73 t495.length co73)) (fun _ h_=>h_.1))))) (below_size zq89));replace HO497:=sd (Kd.R_elder' (by (with_reducible repeat (first | apply Kd.R_alloc | apply Kd.R_drewN | apply Kd.R_drew));exact (Kd.R_mono (Kd.R_far (p:=⟨gb500,5,none⟩) (Kd.R_far (p:=⟨gb500,4,none⟩) (Kd.R_far (p:=⟨gb500,3,none⟩) (Kd.R_far (p:=⟨gb500,2,none⟩) (Kd.R_far (p:=⟨gb500,1,none⟩) (Kd.R_far (p:=⟨gb500,0,none⟩) (Kd.R_types HO497.out BK500.out (by decide)) (fun _ hk=>hk.2) (.string t490)) (fun _ hk=>hk.2) (.string t491)) (fun _ hk=>hk.2) (.int .i64 t492)) (fun _ hk=>hk.2) (.int .i64 t493)) (fun _ hk=>hk.2) (.int .i64 t494)) (fun _ hk=>hk.2) (.slice Ao73 t495.length co73)) (fun _ h_=>h_.1))) (Kd.R_base ho0) hb);replace BK500:=sd (blk_below (g:=gb500) (o:=.cells #[.string t490,.string t491,.int .i64 t492,.int .i64 t493,.int .i64 t494,.slice Ao73 t495.length co73] 24 (0,0)) zq90 hb);replace HB:=hbm HB hb;clear hb;(try clear ho0)) | ((with_reducible refine gate_dst (N:=8) rfl ?_);(try (refine gate_guard (by rfl) ?_;dsimp only));refine bxA 8 #[.string (⟨#[]⟩:ByteArray),.string (⟨#[]⟩:ByteArray),.int .i64 0,.int .i64 0,.int .i64 0,.slice none 0 0] 24 ?_;intro gb511 hg w75 hbox hb;have BK511:=sd (hbox);have GW511:=gem hg HB;have GE511:=GW511;have NB500_511:=nlm hg BK500;have NB511_500:=ngm hg BK500;replace HO497:=rbm HO497 hb;replace HO508:=rbm HO508 hb;replace BK500:=bkm BK500 hb;replace HB:=hbm HB hb;clear hb hbox hg;have hnb76:=NB511_500.out;have hnc76:=NB500_511.out;obtain ⟨_,_,_,_,_,_,_,_,_,_,_,_⟩:=bk6 BK511;obtain ⟨Ao78,co78,eo78⟩:=Kd.R_slice HO508.out;subst eo78))
     (try simp only [Act.put,List.setIfInBounds_toArray,List.set_cons_zero,List.set_cons_succ])
     go_cut [70] (fun v70 wc=>∃ (kq:Nat) (x70_68:Bool),v70=.bool x70_68∧Aside0 (lw47_StmtBlank.j1 kq t498 t499 t509 t510 x70_68=some r)∧Aside0 (kq≤kj2)∧Aside0 (Kd.R k44 44 wc w.heap.size (fun k_=>some k_≠((.slice Ao78 t506.length co78):Value).ownBlock) (.slice Ao73 t495.length co73) t495)∧Aside0 (Kd.R k44 44 wc w.heap.size (fun k_=>some k_≠((.slice Ao73 t495.length co73):Value).ownBlock) (.slice Ao78 t506.length co78) t506)∧Aside0 (wc.heap[gb500]?=some (.cells #[.string t490,.string t491,.int .i64 t492,.int .i64 t493,.int .i64 t494,(.slice Ao73 t495.length co73)] 24 (0,0)))∧Aside0 (wc.heap[gb511]?=some (.cells #[.string t501,.string t502,.int .i64 t503,.int .i64 t504,.int .i64 t505,(.slice Ao78 t506.length co78)] 24 (0,0)))∧Aside0 (Below w.heap.size w wc))
     case first =>
      have H:=HC69.out;clear HC69;replace H:=ifI H;rcases H with ⟨c79,H⟩ | ⟨c79,H⟩
      ·obtain ⟨c79b0,c79b1⟩:=eqI c79;clear c79;(first | rw [c79b0] | (simp only [i64_w,i32_w];rw [c79b0]) | skip)
       replace H:=ifI H;rcases H with ⟨c80,H⟩ | ⟨c80,H⟩
       ·obtain ⟨c80b0,c80b1⟩:=eqI c80;clear c80;replace H:=ifI H;rcases H with ⟨c81,H⟩ | ⟨c81,H⟩
        ·obtain ⟨c81b0,c81b1⟩:=eqI c81;clear c81;have H':=sd H;clear H;go_wp2
         go_meet
         case rel=>exact ⟨_,((t509 == 0)),zq1,H',⟨zq30⟩,⟨zq95⟩,⟨zq96⟩,⟨zq91⟩,⟨zq92⟩,⟨zq94⟩⟩
        obtain ⟨c81b0,c81b1⟩:=neI c81;have H':=sd H;clear H;go_wp2
        go_meet
        case rel=>exact ⟨_,(false),zq1,H',⟨zq30⟩,⟨zq95⟩,⟨zq96⟩,⟨zq91⟩,⟨zq92⟩,⟨zq94⟩⟩
       obtain ⟨c80b0,c80b1⟩:=neI c80;have H':=sd H;clear H;go_wp2
       go_meet
       case rel=>exact ⟨_,(false),zq1,H',⟨zq30⟩,⟨zq95⟩,⟨zq96⟩,⟨zq91⟩,⟨zq92⟩,⟨zq94⟩⟩
      obtain ⟨c79b0,c79b1⟩:=neI c79;(first | rw [c79b0] | (simp only [i64_w,i32_w];rw [c79b0]) | skip)
      have H':=sd H;clear H;go_wp2
      go_meet
      case rel=>exact ⟨_,(true),zq1,H',⟨zq30⟩,⟨zq95⟩,⟨zq96⟩,⟨zq91⟩,⟨zq92⟩,⟨zq94⟩⟩
     case rest =>
      clear HC69;try clear c1
      try clear c2
      try clear p2
      try clear c3
      try clear c4
      try clear c4b0
      try clear c4b1
      try clear c5
      try clear c6
      try clear c7
      try clear c8
      try clear c9
      try clear c9b0
      try clear c9b1
      try clear c9b2
      try clear c10
      try clear c10b0
      try clear c10b1
      try clear c10b2
      try clear c11
      try clear c12
      try clear c12b0
      try clear c12b1
      try clear c13
      try clear c13b0
      try clear c13b1
      try clear c14
      try clear c14b0
      try clear c14b1
      try clear c15
      try clear c15b0
      try clear c15b1
      try clear c17
      try clear c18
      try clear c25
      try clear c37
      try clear c48
      try clear c57
      try clear c66
      try clear c76
      try clear c79
      try clear c79b0
      try clear c79b1
      try clear c80
      try clear c80b0
      try clear c80b1
      try clear c81
      try clear c81b0
      try clear c81b1
      try clear hcz21_0
      try clear hcz21_1
      try clear hcz21_2
      try clear hcz21_3
      try clear hcz21_4
      try clear hcz21_5
      try clear hcz26_0
      try clear hcz26_1
      try clear hcz26_2
      try clear hcz26_3
      try clear hcz26_4
      try clear hcz26_5
      try clear hcz28_0
      try clear hcz28_1
      try clear hcz28_2
      try clear hcz28_3
      try clear hcz28_4
      try clear hcz28_5
      try clear hcz33_0
      try clear hcz33_1
      try clear hcz33_2
      try clear hcz33_3
      try clear hcz33_4
      try clear hcz33_5
      try clear hcz38_0
      try clear hcz38_1
      try clear hcz38_2
      try clear hcz38_3
      try clear hcz38_4
      try clear hcz38_5
      try clear hcz40_0
      try clear hcz40_1
      try clear hcz40_2
      try clear hcz40_3
      try clear hcz40_4
      try clear hcz40_5
      try clear hcz44_0
      try clear hcz44_1
      try clear hcz44_2
      try clear hcz44_3
      try clear hcz44_4
      try clear hcz44_5
      try clear hcz49_0
      try clear hcz49_1
      try clear hcz49_2
      try clear hcz49_3
      try clear hcz49_4
      try clear hcz49_5
      try clear hcz53_0
      try clear hcz53_1
      try clear hcz53_2
      try clear hcz53_3
      try clear hcz53_4
      try clear hcz53_5
      try clear hcz58_0
      try clear hcz58_1
      try clear hcz58_2
      try clear hcz58_3
      try clear hcz58_4
      try clear hcz58_5
      try clear hcz62_0
      try clear hcz62_1
      try clear hcz62_2
      try clear hcz62_3
      try clear hcz62_4
      try clear hcz62_5
      try clear hcz67_0
      try clear hcz67_1
      try clear hcz67_2
      try clear hcz67_3
      try clear hcz67_4
      try clear hcz67_5
      try clear hcz72_0
      try clear hcz72_1
      try clear hcz72_2
      try clear hcz72_3
      try clear hcz72_4
      try clear hcz72_5
      try clear hcz77_0
      try clear hcz77_1
      try clear hcz77_2
      try clear hcz77_3
      try clear hcz77_4
      try clear hcz77_5
      try clear hfz21_0
      try clear hfz21_1
      try clear hfz21_2
      try clear hfz21_3
      try clear hfz21_4
      try clear hfz21_5
      try clear hfz26_0
      try clear hfz26_1
      try clear hfz26_2
      try clear hfz26_3
      try clear hfz26_4
      try clear hfz26_5
      try clear hfz28_0
      try clear hfz28_1
      try clear hfz28_2
      try clear hfz28_3
      try clear hfz28_4
      try clear hfz28_5
      try clear hfz33_0
      try clear hfz33_1
      try clear hfz33_2
      try clear hfz33_3
      try clear hfz33_4
      try clear hfz33_5
      try clear hfz38_0
      try clear hfz38_1
      try clear hfz38_2
      try clear hfz38_3
      try clear hfz38_4
      try clear hfz38_5
      try clear hfz40_0
      try clear hfz40_1
      try clear hfz40_2
      try clear hfz40_3
      try clear hfz40_4
      try clear hfz40_5
      try clear hfz44_0
      try clear hfz44_1
      try clear hfz44_2
      try clear hfz44_3
      try clear hfz44_4
      try clear hfz44_5
      try clear hfz49_0
      try clear hfz49_1
      try clear hfz49_2
      try clear hfz49_3
      try clear hfz49_4
      try clear hfz49_5
      try clear hfz53_0
      try clear hfz53_1
      try clear hfz53_2
      try clear hfz53_3
      try clear hfz53_4
      try clear hfz53_5
      try clear hfz58_0
      try clear hfz58_1
      try clear hfz58_2
      try clear hfz58_3
      try clear hfz58_4
      try clear hfz58_5
      try clear hfz62_0
      try clear hfz62_1
      try clear hfz62_2
      try clear hfz62_3
      try clear hfz62_4
      try clear hfz62_5
      try clear hfz67_0
      try clear hfz67_1
      try clear hfz67_2
      try clear hfz67_3
      try clear hfz67_4
      try clear hfz67_5
      try clear hfz72_0
      try clear hfz72_1
      try clear hfz72_2
      try clear hfz72_3
      try clear hfz72_4
      try clear hfz72_5
      try clear hfz77_0
      try clear hfz77_1
      try clear hfz77_2
      try clear hfz77_3
      try clear hfz77_4
      try clear hfz77_5
      try clear p2
      obtain ⟨kq,x70_68,rfl,HA,HJ68,HO_501005,HO_512005,BK500,BK511,HB⟩:=hcut
      cases kq with
      | zero=>exact absurd HA.out (by simp [lw47_StmtBlank.j1])
      | succ kj68 =>
       have H:=HA.out;clear HA;simp only [lw47_StmtBlank.j1] at H
       by_cases c82:x70_68=true
       ·subst c82;rw [if_pos rfl] at H;replace H:=ifI H;rcases H with ⟨c83,H⟩ | ⟨c83,H⟩
        ·obtain ⟨c83b0,c83b1⟩:=eqI c83;clear c83;replace H:=bdI H;obtain ⟨t514,A84,H⟩:=H;(try dsimp only at H)
         obtain rfl:=Option.some.inj H;go_wp2_with (first | (go_at_call 11;(with_reducible refine (lw47_lives.calls  t514 _ A84.out (gl_below HG.out zq93)).mono ?_);rintro e w85 ⟨rfl,hb⟩;replace HO_501005:=rbm HO_501005 hb;replace HO_512005:=rbm HO_512005 hb;replace BK500:=bkm BK500 hb;replace BK511:=bkm BK511 hb;replace HB:=hbm HB hb;clear hb))
         go_ret
         exact ⟨zq10,zq94⟩
        obtain ⟨c83b0,c83b1⟩:=neI c83;obtain rfl:=Option.some.inj H;go_wp2
        go_ret
        exact ⟨zq10,zq94⟩
       replace c82:=Bool.eq_false_iff.mpr c82;subst c82;rw [if_neg Bool.false_ne_true] at H;replace H:=ifI H;rcases H with ⟨c86,H⟩ | ⟨c86,H⟩
       ·have c86b0:decide ((wrap64 (t498+2))≤t509)=true:=decide_eq_true c86;clear c86;replace H:=bdI H;obtain ⟨t515,A87,H⟩:=H;(try dsimp only at H)
        obtain rfl:=Option.some.inj H;go_wp2_with (first | (go_at_call 11;(with_reducible refine (lw47_lives.calls  t515 _ A87.out (gl_below HG.out zq93)).mono ?_);rintro e w88 ⟨rfl,hb⟩;replace HO_501005:=rbm HO_501005 hb;replace HO_512005:=rbm HO_512005 hb;replace BK500:=bkm BK500 hb;replace BK511:=bkm BK511 hb;replace HB:=hbm HB hb;clear hb))
        go_ret
        exact ⟨zq10,zq94⟩
       have c86b0:decide ((wrap64 (t498+2))≤t509)=false:=decide_eq_false c86;clear c86;obtain rfl:=Option.some.inj H;go_wp2
       go_ret
       exact ⟨zq10,zq94⟩
    exact absurd H (by simp)
   exact absurd H (by simp)
end Go.Proofs.YtmlcdpfcafmmcaaDoor.A
