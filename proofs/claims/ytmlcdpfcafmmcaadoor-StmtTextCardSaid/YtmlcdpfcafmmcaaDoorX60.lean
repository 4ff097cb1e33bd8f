-- By pack.py, a program of this session's.
import Derived.Test.YtmlcdpfcafmmcaaDoorX18
import Derived.Test.YtmlcdpfcafmmcaaDoorX20
import Derived.Test.YtmlcdpfcafmmcaaDoorX58
import Derived.Test.YtmlcdpfcafmmcaaDoorX59
set_option linter.unusedVariables false
set_option linter.unusedSimpArgs false
namespace Go.Proofs.YtmlcdpfcafmmcaaDoor.A
open Go.RowKit B WW WL WM
attribute [local go_sem] max2_int min2_int max_two min_two max_three min_three max_four min_four
set_option maxHeartbeats 8000000
set_option maxRecDepth 100000
theorem lw47_StmtText.calls (k:Nat) (a0_0 a0_1:ByteArray) (a0_2 a0_3 a0_4:Int) (A0_5:Option Addr) (c0_5:Nat) (l0_5:List (S44)) (A1:Option Addr) (c1:Nat) (l1:List (S77)) (r:Bool) (w:World) (hr0_5:Kd.C k44 w A0_5 l0_5.length l0_5) (hc0_5:l0_5.length≤c0_5) (hr1:Kd.C k77 w A1 l1.length l1) (hc1:l1.length≤c1) (h:lw47_StmtText.f k a0_0 a0_1 a0_2 a0_3 a0_4 l0_5 l1=some r) (hG:Gl w) :
  Calls Tryd.prog 5 #[.agg #[.string a0_0,.string a0_1,.int .i64 a0_2,.int .i64 a0_3,.int .i64 a0_4,.slice A0_5 l0_5.length c0_5],.slice A1 l1.length c1] w fun e w'=>e=.returned (.bool r)∧Below w.heap.size w w':=by
 have HG:=sd hG;clear hG;have hu24:=Tryd.underlying24;have HR0_5:=sd hr0_5;have HC0_5:=sd hc0_5;clear hr0_5 hc0_5;have HR1:=sd hr1;have HC1:=sd hc1;clear hr1 hc1;have HB:=sd (Below.refl w.heap.size w);have H:=h;clear h;unfold lw47_StmtText.f at H;have HC3:=sd H;clear H;go_enter Tryd.func5,Tryd.ntmps5
 go_upto_region 1 with (first | ((with_reducible refine gate_dst (N:=2) rfl ?_);(try (refine gate_guard (by rfl) ?_;dsimp only));refine bxA 2 #[.string a0_0,.string a0_1,.int .i64 a0_2,.int .i64 a0_3,.int .i64 a0_4,.slice A0_5 l0_5.length c0_5] 24 ?_;intro gb328 hg w4 hbox hb;have BK328:=sd (hbox);have GW328:=gem hg HB;have GE328:=GW328;replace HB:=hbm HB hb;clear hb hbox hg))
 (try simp only [Act.put,List.setIfInBounds_toArray,List.set_cons_zero,List.set_cons_succ])
 go_cut [16] (fun v16 wc=>∃ (kq:Nat) (x16_2:Bool),v16=.bool x16_2∧Aside0 (lw47_StmtText.j0 kq l1 x16_2 a0_0 a0_1 a0_2 a0_3 a0_4 l0_5=some r)∧Aside0 (kq≤k)∧Aside0 (wc.heap[gb328]?=some (.cells #[.string a0_0,.string a0_1,.int .i64 a0_2,.int .i64 a0_3,.int .i64 a0_4,(.slice A0_5 l0_5.length c0_5)] 24 (0,0)))∧Aside0 (Below w.heap.size w wc))
 case first =>
  have H:=HC3.out;clear HC3;replace H:=bdI H;obtain ⟨t329,A5,H⟩:=H;(try dsimp only at H)
  by_cases c6:t329=true
  ·subst c6;rw [if_pos rfl] at H;have H':=sd H;clear H;obtain ⟨_,_,_,_,_,_,_,_,_,_,_,_⟩:=bk6 BK328;go_wp2_with (first | ((with_reducible refine gate_callee (f:=10) rfl ?_);refine gL 10 Tryd.func10 #[.agg #[.string a0_0,.string a0_1,.int .i64 a0_2,.int .i64 a0_3,.int .i64 a0_4,.slice A0_5 l0_5.length c0_5]] ?_;(with_reducible refine (lw47_light.calls k a0_0 a0_1 a0_2 a0_3 a0_4 _ _ l0_5 true _ ?side1 ?side2 A5.out).mono ?_);(case side1=>exact zq25);(case side2=>exact HC0_5.out);rintro e w8 ⟨rfl,hb⟩;refine ⟨_,rfl,?_⟩;replace BK328:=bkm BK328 hb;replace HB:=hbm HB hb;clear hb))
   go_meet
   case rel=>exact ⟨_,(decide ((l1.length:Int) > 60)),zq1,H',⟨by first | omega | exact Nat.le_refl _⟩,⟨by (with_reducible repeat (first | refine blk_drewN ?_ _ | refine blk_drew ?_ | refine blk_alloc ?_ _));exact BK328.out⟩,⟨zq111⟩⟩
  replace c6:=Bool.eq_false_iff.mpr c6;subst c6;rw [if_neg Bool.false_ne_true] at H;have H':=sd H;clear H;obtain ⟨_,_,_,_,_,_,_,_,_,_,_,_⟩:=bk6 BK328;go_wp2_with (first | ((with_reducible refine gate_callee (f:=10) rfl ?_);refine gL 10 Tryd.func10 #[.agg #[.string a0_0,.string a0_1,.int .i64 a0_2,.int .i64 a0_3,.int .i64 a0_4,.slice A0_5 l0_5.length c0_5]] ?_;(with_reducible refine (lw47_light.calls k a0_0 a0_1 a0_2 a0_3 a0_4 _ _ l0_5 false _ ?side1 ?side2 A5.out).mono ?_);(case side1=>exact zq25);(case side2=>exact HC0_5.out);rintro e w10 ⟨rfl,hb⟩;refine ⟨_,rfl,?_⟩;replace BK328:=bkm BK328 hb;replace HB:=hbm HB hb;clear hb))
  go_meet
  case rel=>exact ⟨_,(true),zq1,H',⟨by first | omega | exact Nat.le_refl _⟩,⟨by (with_reducible repeat (first | refine blk_drewN ?_ _ | refine blk_drew ?_ | refine blk_alloc ?_ _));exact BK328.out⟩,⟨zq111⟩⟩
 case rest =>
  clear HC3;try clear c1
  try clear p2
  try clear c5
  try clear c6
  try clear c10
  try clear hcz7_0
  try clear hcz7_1
  try clear hcz7_2
  try clear hcz7_3
  try clear hcz7_4
  try clear hcz7_5
  try clear hcz9_0
  try clear hcz9_1
  try clear hcz9_2
  try clear hcz9_3
  try clear hcz9_4
  try clear hcz9_5
  try clear hfz7_0
  try clear hfz7_1
  try clear hfz7_2
  try clear hfz7_3
  try clear hfz7_4
  try clear hfz7_5
  try clear hfz9_0
  try clear hfz9_1
  try clear hfz9_2
  try clear hfz9_3
  try clear hfz9_4
  try clear hfz9_5
  obtain ⟨kq,x16_2,rfl,HA,HJ2,BK328,HB⟩:=hcut
  cases kq with
  | zero=>exact absurd HA.out (by simp [lw47_StmtText.j0])
  | succ kj2 =>
   have H:=HA.out;clear HA;simp only [lw47_StmtText.j0] at H
   by_cases c11:x16_2=true
   ·subst c11;rw [if_pos rfl] at H;replace H:=bdI H;obtain ⟨t330,A12,H⟩:=H;(try dsimp only at H)
    obtain rfl:=Option.some.inj H;go_wp2_with (first | ((with_reducible refine gate_callee (f:=11) rfl ?_);refine gL 17 Tryd.func11 #[] ?_;(with_reducible refine (lw47_lives.calls  t330 _ A12.out (gl_below HG.out zq112)).mono ?_);rintro e w13 ⟨rfl,hb⟩;refine ⟨_,rfl,?_⟩;replace BK328:=bkm BK328 hb;replace HB:=hbm HB hb;clear hb))
    go_ret
    exact ⟨zq10,zq111⟩
   replace c11:=Bool.eq_false_iff.mpr c11;subst c11;rw [if_neg Bool.false_ne_true] at H;replace H:=bdI H;obtain ⟨⟨t331,t332⟩,A14,H⟩:=H;(try dsimp only at H)
   replace H:=bdI H;obtain ⟨⟨t333,t334⟩,A15,H⟩:=H;(try dsimp only at H)
   replace H:=ifI H;rcases H with ⟨c16,H⟩ | ⟨c16,H⟩
   ·obtain ⟨c16b0,c16b1⟩:=eqI c16;clear c16;replace H:=ifI H;rcases H with ⟨c17,H⟩ | ⟨c17,H⟩
    ·obtain ⟨c17b0,c17b1⟩:=eqI c17;clear c17;replace H:=bdI H;obtain ⟨t335,A18,H⟩:=H;(try dsimp only at H)
     obtain rfl:=Option.some.inj H;obtain ⟨_,_,_,_,_,_,_,_,_,_,_,_⟩:=bk6 BK328;go_wp2_with (first | ((with_reducible refine gate_callee (f:=16) rfl ?_);refine gL 21 Tryd.func16 #[.agg #[.string a0_0,.string a0_1,.int .i64 a0_2,.int .i64 a0_3,.int .i64 a0_4,.slice A0_5 l0_5.length c0_5],.slice A1 l1.length c1] ?_;(with_reducible refine (stmt_Text.calls kj2 a0_0 a0_1 a0_2 a0_3 a0_4 _ _ l0_5 _ _ l1 t331 t332 _ ?side1 ?side2 ?side3 ?side4 A14.out (gl_below HG.out zq112)).mono ?_);(case side1=>exact zq25);(case side2=>exact HC0_5.out);(case side3=>exact zq35);(case side4=>exact HC1.out);rintro e w20 ⟨rfl,hb⟩;refine ⟨_,rfl,?_⟩;replace BK328:=bkm BK328 hb;replace HB:=hbm HB hb;clear hb;obtain ⟨_,_,_,_,_,_,_,_,_,_,_,_⟩:=bk6 BK328) | ((with_reducible refine gate_callee (f:=17) rfl ?_);refine gL 27 Tryd.func17 #[.agg #[.string a0_0,.string a0_1,.int .i64 a0_2,.int .i64 a0_3,.int .i64 a0_4,.slice A0_5 l0_5.length c0_5],.slice A1 l1.length c1] ?_;(with_reducible refine (rf47_Text.calls kj2 a0_0 a0_1 a0_2 a0_3 a0_4 _ _ l0_5 _ _ l1 t333 t334 _ ?side1 ?side2 ?side3 ?side4 A15.out).mono ?_);(case side1=>exact zq25);(case side2=>exact HC0_5.out);(case side3=>exact zq35);(case side4=>exact HC1.out);rintro e w22 ⟨rfl,hb⟩;refine ⟨_,rfl,?_⟩;replace BK328:=bkm BK328 hb;replace HB:=hbm HB hb;clear hb) | (go_at_call 11;(with_reducible refine (lw47_lives.calls  t335 _ A18.out (gl_below HG.out zq112)).mono ?_);rintro e w23 ⟨rfl,hb⟩;replace BK328:=bkm BK328 hb;replace HB:=hbm HB hb;clear hb))
     go_ret
     exact ⟨zq10,zq111⟩
    obtain ⟨c17b0,c17b1⟩:=neI c17;obtain rfl:=Option.some.inj H;obtain ⟨_,_,_,_,_,_,_,_,_,_,_,_⟩:=bk6 BK328;go_wp2_with (first | ((with_reducible refine gate_callee (f:=16) rfl ?_);refine gL 21 Tryd.func16 #[.agg #[.string a0_0,.string a0_1,.int .i64 a0_2,.int .i64 a0_3,.int .i64 a0_4,.slice A0_5 l0_5.length c0_5],.slice A1 l1.length c1] ?_;(with_reducible refine (stmt_Text.calls kj2 a0_0 a0_1 a0_2 a0_3 a0_4 _ _ l0_5 _ _ l1 t331 t332 _ ?side1 ?side2 ?side3 ?side4 A14.out (gl_below HG.out zq112)).mono ?_);(case side1=>exact zq25);(case side2=>exact HC0_5.out);(case side3=>exact zq35);(case side4=>exact HC1.out);rintro e w25 ⟨rfl,hb⟩;refine ⟨_,rfl,?_⟩;replace BK328:=bkm BK328 hb;replace HB:=hbm HB hb;clear hb;obtain ⟨_,_,_,_,_,_,_,_,_,_,_,_⟩:=bk6 BK328) | ((with_reducible refine gate_callee (f:=17) rfl ?_);refine gL 27 Tryd.func17 #[.agg #[.string a0_0,.string a0_1,.int .i64 a0_2,.int .i64 a0_3,.int .i64 a0_4,.slice A0_5 l0_5.length c0_5],.slice A1 l1.length c1] ?_;(with_reducible refine (rf47_Text.calls kj2 a0_0 a0_1 a0_2 a0_3 a0_4 _ _ l0_5 _ _ l1 t333 t334 _ ?side1 ?side2 ?side3 ?side4 A15.out).mono ?_);(case side1=>exact zq25);(case side2=>exact HC0_5.out);(case side3=>exact zq35);(case side4=>exact HC1.out);rintro e w27 ⟨rfl,hb⟩;refine ⟨_,rfl,?_⟩;replace BK328:=bkm BK328 hb;replace HB:=hbm HB hb;clear hb))
    go_ret
    exact ⟨zq10,zq111⟩
   obtain ⟨c16b0,c16b1⟩:=neI c16;obtain rfl:=Option.some.inj H;obtain ⟨_,_,_,_,_,_,_,_,_,_,_,_⟩:=bk6 BK328;go_wp2_with (first | ((with_reducible refine gate_callee (f:=16) rfl ?_);refine gL 21 Tryd.func16 #[.agg #[.string a0_0,.string a0_1,.int .i64 a0_2,.int .i64 a0_3,.int .i64 a0_4,.slice A0_5 l0_5.length c0_5],.slice A1 l1.length c1] ?_;(with_reducible refine (stmt_Text.calls kj2 a0_0 a0_1 a0_2 a0_3 a0_4 _ _ l0_5 _ _ l1 t331 t332 _ ?side1 ?side2 ?side3 ?side4 A14.out (gl_below HG.out zq112)).mono ?_);(case side1=>exact zq25);(case side2=>exact HC0_5.out);(case side3=>exact zq35);(case side4=>exact HC1.out);rintro e w29 ⟨rfl,hb⟩;refine ⟨_,rfl,?_⟩;replace BK328:=bkm BK328 hb;replace HB:=hbm HB hb;clear hb;obtain ⟨_,_,_,_,_,_,_,_,_,_,_,_⟩:=bk6 BK328) | ((with_reducible refine gate_callee (f:=17) rfl ?_);refine gL 27 Tryd.func17 #[.agg #[.string a0_0,.string a0_1,.int .i64 a0_2,.int .i64 a0_3,.int .i64 a0_4,.slice A0_5 l0_5.length c0_5],.slice A1 l1.length c1] ?_;(with_reducible refine (rf47_Text.calls kj2 a0_0 a0_1 a0_2 a0_3 a0_4 _ _ l0_5 _ _ l1 t333 t334 _ ?side1 ?side2 ?side3 ?side4 A15.out).mono ?_);(case side1=>exact zq25);(case side2=>exact HC0_5.out);(case side3=>exact zq35);(case side4=>exact HC1.out);rintro e w31 ⟨rfl,hb⟩;refine ⟨_,rfl,?_⟩;replace BK328:=bkm BK328 hb;replace HB:=hbm HB hb;clear hb))
   go_ret
   exact ⟨zq10,zq111⟩
end Go.Proofs.YtmlcdpfcafmmcaaDoor.A
