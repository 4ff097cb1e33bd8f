-- By pack.py, a program of this session's.
import Derived.Test.YtkbgkekegjfkfaaGreatDoorX23
set_option linter.unusedVariables false
set_option linter.unusedSimpArgs false
namespace Go.Proofs.YtkbgkekegjfkfaaGreatDoor.A
open Go.RowKit B WW WL WM
attribute [local go_sem] max2_int min2_int max_two min_two max_three min_three max_four min_four
set_option maxHeartbeats 8000000
set_option maxRecDepth 100000
def lw48_RulesChecks.f (k:Nat) (a0_0:ByteArray) (l0_1:List (S48)) (a0_2:ByteArray) (a0_3:ByteArray) (l0_4:List (S50)):Option (Bool):=(lw48_large.f k a0_0 l0_1 a0_2 a0_3 l0_4).bind fun t258=>(if t258=true then (some true) else ((rules_Check.f k a0_0 l0_1 a0_2 a0_3 l0_4).bind fun t259=>((rf48_Check.f k a0_0 l0_1 a0_2 a0_3 l0_4).bind fun t260=>(if t259=t260 then ((lw48_lives.f).bind fun t261=>(some t261)) else (some false)))))
def lw48_RulesChecks.T1:Bool×List (List Nat×List Nat):=(true,[([],[]),([0],[0]),([1,1],[1]),([2],[2]),([3,2,2],[2,3]),([2],[2]),([5,4,2],[2,5]),([4,6,2],[2,4,6]),([7,6,2],[2,7]),([8,8],[8]),([8,9,2],[2,8,9]),([2,10],[2,10]),([11,9,0,1,2,3,4,5,6,7,8,9,10,11],[11])])
def lw48_RulesChecks.B1:List Nat:=[0,1,3,7,15,7,63,127,255,511,1023,2047,4095]
theorem lw48_RulesChecks.tab1:rtab .any (opsOf Tryz.f3 1)=lw48_RulesChecks.T1:=by kernel_rfl
theorem lw48_RulesChecks.bits1:waitsOk lw48_RulesChecks.T1.2 lw48_RulesChecks.B1=true:=by kernel_rfl
end Go.Proofs.YtkbgkekegjfkfaaGreatDoor.A
namespace Go.Proofs.YtkbgkekegjfkfaaGreatDoor.A
open Go.RowKit B WW WL WM
theorem zq95 {P:Prop} (h:P:=by repeat (first | (with_reducible first | exact HB.out | apply below_alloc | apply pw_below_drewN | apply below_drew1 | refine below_set ?_ GE257.out) | exact HB.out)):P:=h
end Go.Proofs.YtkbgkekegjfkfaaGreatDoor.A
namespace Go.Proofs.YtkbgkekegjfkfaaGreatDoor.A
open Go.RowKit B WW WL WM
attribute [local go_sem] max2_int min2_int max_two min_two max_three min_three max_four min_four
set_option maxHeartbeats 8000000
set_option maxRecDepth 100000
theorem lw48_RulesChecks.calls (k:Nat) (a0_0:ByteArray) (A0_1:Option Addr) (c0_1:Nat) (l0_1:List (S48)) (a0_2 a0_3:ByteArray) (A0_4:Option Addr) (c0_4:Nat) (l0_4:List (S50)) (r:Bool) (w:World) (hr0_1:Kd.C k48 w A0_1 l0_1.length l0_1) (hc0_1:l0_1.length≤c0_1) (hr0_4:Kd.C k50 w A0_4 l0_4.length l0_4) (hc0_4:l0_4.length≤c0_4) (h:lw48_RulesChecks.f k a0_0 l0_1 a0_2 a0_3 l0_4=some r) (hG:Gl w) :
  Calls Tryz.prog 3 #[.agg #[.string a0_0,.slice A0_1 l0_1.length c0_1,.string a0_2,.string a0_3,.slice A0_4 l0_4.length c0_4]] w fun e w'=>e=.returned (.bool r)∧Below w.heap.size w w':=by
 have HG:=sd hG;clear hG;have hu25:=Tryz.underlying25;have HR0_1:=sd hr0_1;have HC0_1:=sd hc0_1;clear hr0_1 hc0_1;have HR0_4:=sd hr0_4;have HC0_4:=sd hc0_4;clear hr0_4 hc0_4;have HB:=sd (Below.refl w.heap.size w);have H:=h;clear h;unfold lw48_RulesChecks.f at H;replace H:=bdI H;obtain ⟨t258,A2,H⟩:=H;(try dsimp only at H)
 by_cases c3:t258=true
 ·subst c3;rw [if_pos rfl] at H;obtain rfl:=Option.some.inj H;go_enter Tryz.func3,Tryz.ntmps3
  try go_wp2_with (first | ((with_reducible refine gate_dst (N:=1) rfl ?_);refine bxA 1 #[.string a0_0,.slice A0_1 l0_1.length c0_1,.string a0_2,.string a0_3,.slice A0_4 l0_4.length c0_4] 25 ?_;intro gb257 hg w4 hbox hb;have BK257:=sd (hbox);have GW257:=gem hg HB;have GE257:=GW257;replace HB:=hbm HB hb;clear hb hbox hg))
  replace BK257:=sd (blk_drew BK257.out);replace HB:=sd (below_drew1 HB.out);refine start_ (n:=13) (S:=fun w'=>w'.cell? ⟨gb257,0,none⟩=some (.string a0_0)∧w'.cell? ⟨gb257,1,none⟩=some (.slice A0_1 l0_1.length c0_1)∧w'.cell? ⟨gb257,2,none⟩=some (.string a0_2)∧w'.cell? ⟨gb257,3,none⟩=some (.string a0_3)∧w'.cell? ⟨gb257,4,none⟩=some (.slice A0_4 l0_4.length c0_4)) (ds:=[]) #[false,false,false,false,false,false,false,false,false,false,false,false,false] (by kernel_rfl) rfl rfl ⟨(blk_cell BK257.out 0).trans rfl,(blk_cell BK257.out 1).trans rfl,(blk_cell BK257.out 2).trans rfl,(blk_cell BK257.out 3).trans rfl,(blk_cell BK257.out 4).trans rfl⟩ (fun hHeld=>?_);refine with_tabW lw48_RulesChecks.tab1 lw48_RulesChecks.bits1 (fun HT_ HW_=>?_);generalize w4.drew=w5 at BK257 HB hHeld ⊢;refine tA 0 3 HT_.out HW_.out hHeld ?_;refine one_ (i:=1) (N:=some 4) #[true,true,false,false,false,false,false,false,false,false,false,false,false] rfl rfl (one_of HT_.out (by kernel_rfl)) (by decide) (fun K hK=>?_);refine goes_ Tryz.func8 (by kernel_rfl) rfl #[.agg #[.string a0_0,.slice A0_1 l0_1.length c0_1,.string a0_2,.string a0_3,.slice A0_4 l0_4.length c0_4]] (by rfl) rfl rfl zq34 ?_;with_reducible refine (lw48_large.calls k a0_0 _ _ l0_1 a0_2 a0_3 _ _ l0_4 true _ ?side1 ?side2 ?side3 ?side4 A2.out).mono ?_
  (case side1=>exact zq48)
  (case side2=>exact HC0_1.out)
  (case side3=>exact zq40)
  (case side4=>exact HC0_4.out)
  rintro e w6 ⟨rfl,hb⟩;refine ⟨_,rfl,?_⟩;replace BK257:=bkm BK257 hb;replace HB:=hbm HB hb;clear hb;refine hK.out _ _ ⟨(blk_cell BK257.out 0).trans rfl,(blk_cell BK257.out 1).trans rfl,(blk_cell BK257.out 2).trans rfl,(blk_cell BK257.out 3).trans rfl,(blk_cell BK257.out 4).trans rfl⟩ (fun hHeld=>?_);clear hK K;refine nA 4 ?_;refine pA 2 5 HT_.out ?_;refine oA 3 6 HT_.out ?_;refine oA 4 7 HT_.out ?_;refine oA 5 8 HT_.out ?_;refine oA 6 9 HT_.out ?_;refine oA 7 10 HT_.out ?_;refine oA 8 11 HT_.out ?_;refine oA 9 12 HT_.out ?_;refine oA 10 13 HT_.out ?_;refine pA 11 14 HT_.out ?_;refine pA 12 2 HT_.out ?_;refine done_ (done_of HT_.out (by kernel_rfl)) ?_;try go_wp2
  go_ret
  exact ⟨zq4,zq95⟩
 replace c3:=Bool.eq_false_iff.mpr c3;subst c3;rw [if_neg Bool.false_ne_true] at H;replace H:=bdI H;obtain ⟨t259,A7,H⟩:=H;(try dsimp only at H)
 replace H:=bdI H;obtain ⟨t260,A8,H⟩:=H;(try dsimp only at H)
 replace H:=ifI H;rcases H with ⟨c9,H⟩ | ⟨c9,H⟩
 ·obtain ⟨c9b0,c9b1⟩:=eqI c9;clear c9;replace H:=bdI H;obtain ⟨t261,A10,H⟩:=H;(try dsimp only at H)
  obtain rfl:=Option.some.inj H;go_enter Tryz.func3,Tryz.ntmps3
  try go_wp2_with (first | ((with_reducible refine gate_dst (N:=1) rfl ?_);refine bxA 1 #[.string a0_0,.slice A0_1 l0_1.length c0_1,.string a0_2,.string a0_3,.slice A0_4 l0_4.length c0_4] 25 ?_;intro gb257 hg w11 hbox hb;have BK257:=sd (hbox);have GW257:=gem hg HB;have GE257:=GW257;replace HB:=hbm HB hb;clear hb hbox hg))
  replace BK257:=sd (blk_drew BK257.out);replace HB:=sd (below_drew1 HB.out);refine start_ (n:=13) (S:=fun w'=>w'.cell? ⟨gb257,0,none⟩=some (.string a0_0)∧w'.cell? ⟨gb257,1,none⟩=some (.slice A0_1 l0_1.length c0_1)∧w'.cell? ⟨gb257,2,none⟩=some (.string a0_2)∧w'.cell? ⟨gb257,3,none⟩=some (.string a0_3)∧w'.cell? ⟨gb257,4,none⟩=some (.slice A0_4 l0_4.length c0_4)) (ds:=[]) #[false,false,false,false,false,false,false,false,false,false,false,false,false] (by kernel_rfl) rfl rfl ⟨(blk_cell BK257.out 0).trans rfl,(blk_cell BK257.out 1).trans rfl,(blk_cell BK257.out 2).trans rfl,(blk_cell BK257.out 3).trans rfl,(blk_cell BK257.out 4).trans rfl⟩ (fun hHeld=>?_);refine with_tabW lw48_RulesChecks.tab1 lw48_RulesChecks.bits1 (fun HT_ HW_=>?_);generalize w11.drew=w12 at BK257 HB hHeld ⊢;refine tA 0 3 HT_.out HW_.out hHeld ?_;refine one_ (i:=1) (N:=some 4) #[true,true,false,false,false,false,false,false,false,false,false,false,false] rfl rfl (one_of HT_.out (by kernel_rfl)) (by decide) (fun K hK=>?_);refine goes_ Tryz.func8 (by kernel_rfl) rfl #[.agg #[.string a0_0,.slice A0_1 l0_1.length c0_1,.string a0_2,.string a0_3,.slice A0_4 l0_4.length c0_4]] (by rfl) rfl rfl zq34 ?_;with_reducible refine (lw48_large.calls k a0_0 _ _ l0_1 a0_2 a0_3 _ _ l0_4 false _ ?side1 ?side2 ?side3 ?side4 A2.out).mono ?_
  (case side1=>exact zq48)
  (case side2=>exact HC0_1.out)
  (case side3=>exact zq40)
  (case side4=>exact HC0_4.out)
  rintro e w13 ⟨rfl,hb⟩;refine ⟨_,rfl,?_⟩;replace BK257:=bkm BK257 hb;replace HB:=hbm HB hb;clear hb;refine hK.out _ _ ⟨(blk_cell BK257.out 0).trans rfl,(blk_cell BK257.out 1).trans rfl,(blk_cell BK257.out 2).trans rfl,(blk_cell BK257.out 3).trans rfl,(blk_cell BK257.out 4).trans rfl⟩ (fun hHeld=>?_);clear hK K;refine nA 4 ?_;refine pA 2 5 HT_.out ?_;refine tA 3 6 HT_.out HW_.out hHeld ?_;refine tA 5 8 HT_.out HW_.out hHeld ?_;refine one_ (i:=4) (N:=some 7) #[true,true,true,true,true,true,false,false,false,false,false,false,false] rfl rfl (one_of HT_.out (by kernel_rfl)) (by decide) (fun K hK=>?_);refine goes_ Tryz.func9 (by kernel_rfl) rfl #[.agg #[.string a0_0,.slice A0_1 l0_1.length c0_1,.string a0_2,.string a0_3,.slice A0_4 l0_4.length c0_4]] (by rfl) rfl rfl zq34 ?_;with_reducible refine (rules_Check.calls k a0_0 _ _ l0_1 a0_2 a0_3 _ _ l0_4 t259 _ ?side1 ?side2 ?side3 ?side4 A7.out).mono ?_
  (case side1=>exact zq48)
  (case side2=>exact HC0_1.out)
  (case side3=>exact zq40)
  (case side4=>exact HC0_4.out)
  rintro e w14 ⟨rfl,hb⟩;refine ⟨_,rfl,?_⟩;replace BK257:=bkm BK257 hb;replace HB:=hbm HB hb;clear hb;refine hK.out _ _ ⟨(blk_cell BK257.out 0).trans rfl,(blk_cell BK257.out 1).trans rfl,(blk_cell BK257.out 2).trans rfl,(blk_cell BK257.out 3).trans rfl,(blk_cell BK257.out 4).trans rfl⟩ (fun hHeld=>?_);clear hK K;refine nA 7 ?_;refine one_ (i:=6) (N:=some 9) #[true,true,true,true,true,true,true,false,false,false,false,false,false] rfl rfl (one_of HT_.out (by kernel_rfl)) (by decide) (fun K hK=>?_);refine goes_ Tryz.func10 (by kernel_rfl) rfl #[.agg #[.string a0_0,.slice A0_1 l0_1.length c0_1,.string a0_2,.string a0_3,.slice A0_4 l0_4.length c0_4]] (by rfl) rfl rfl zq34 ?_;with_reducible refine (rf48_Check.calls k a0_0 _ _ l0_1 a0_2 a0_3 _ _ l0_4 t260 _ ?side1 ?side2 ?side3 ?side4 A8.out).mono ?_
  (case side1=>exact zq48)
  (case side2=>exact HC0_1.out)
  (case side3=>exact zq40)
  (case side4=>exact HC0_4.out)
  rintro e w15 ⟨rfl,hb⟩;refine ⟨_,rfl,?_⟩;replace BK257:=bkm BK257 hb;replace HB:=hbm HB hb;clear hb;refine hK.out _ _ ⟨(blk_cell BK257.out 0).trans rfl,(blk_cell BK257.out 1).trans rfl,(blk_cell BK257.out 2).trans rfl,(blk_cell BK257.out 3).trans rfl,(blk_cell BK257.out 4).trans rfl⟩ (fun hHeld=>?_);clear hK K;refine nA 9 ?_;refine pA 7 10 HT_.out ?_;refine pA 8 11 HT_.out ?_;refine one_ (i:=9) (N:=some 12) #[true,true,true,true,true,true,true,true,true,true,false,false,false] rfl rfl (one_of HT_.out (by kernel_rfl)) (by decide) (fun K hK=>?_);refine goes_ Tryz.func11 (by kernel_rfl) rfl #[] (by rfl) rfl rfl zq34 ?_;with_reducible refine (lw48_lives.calls  t261 _ A10.out (gl_below HG.out (by repeat (first | (with_reducible first | exact HB.out | exact Below.refl _ _ | apply below_alloc | apply pw_below_drewN | apply below_drew1 | refine below_set ?_ GE257.out) | exact HB.out)))).mono ?_
  rintro e w16 ⟨rfl,hb⟩;refine ⟨_,rfl,?_⟩;replace BK257:=bkm BK257 hb;replace HB:=hbm HB hb;clear hb;refine hK.out _ _ ⟨(blk_cell BK257.out 0).trans rfl,(blk_cell BK257.out 1).trans rfl,(blk_cell BK257.out 2).trans rfl,(blk_cell BK257.out 3).trans rfl,(blk_cell BK257.out 4).trans rfl⟩ (fun hHeld=>?_);clear hK K;refine nA 12 ?_;refine pA 10 13 HT_.out ?_;refine pA 11 14 HT_.out ?_;refine pA 12 2 HT_.out ?_;refine done_ (done_of HT_.out (by kernel_rfl)) ?_;try go_wp2
  go_ret
  exact ⟨zq4,zq95⟩
 obtain ⟨c9b0,c9b1⟩:=neI c9;obtain rfl:=Option.some.inj H;go_enter Tryz.func3,Tryz.ntmps3
 try go_wp2_with (first | ((with_reducible refine gate_dst (N:=1) rfl ?_);refine bxA 1 #[.string a0_0,.slice A0_1 l0_1.length c0_1,.string a0_2,.string a0_3,.slice A0_4 l0_4.length c0_4] 25 ?_;intro gb257 hg w17 hbox hb;have BK257:=sd (hbox);have GW257:=gem hg HB;have GE257:=GW257;replace HB:=hbm HB hb;clear hb hbox hg))
 replace BK257:=sd (blk_drew BK257.out);replace HB:=sd (below_drew1 HB.out);refine start_ (n:=13) (S:=fun w'=>w'.cell? ⟨gb257,0,none⟩=some (.string a0_0)∧w'.cell? ⟨gb257,1,none⟩=some (.slice A0_1 l0_1.length c0_1)∧w'.cell? ⟨gb257,2,none⟩=some (.string a0_2)∧w'.cell? ⟨gb257,3,none⟩=some (.string a0_3)∧w'.cell? ⟨gb257,4,none⟩=some (.slice A0_4 l0_4.length c0_4)) (ds:=[]) #[false,false,false,false,false,false,false,false,false,false,false,false,false] (by kernel_rfl) rfl rfl ⟨(blk_cell BK257.out 0).trans rfl,(blk_cell BK257.out 1).trans rfl,(blk_cell BK257.out 2).trans rfl,(blk_cell BK257.out 3).trans rfl,(blk_cell BK257.out 4).trans rfl⟩ (fun hHeld=>?_);refine with_tabW lw48_RulesChecks.tab1 lw48_RulesChecks.bits1 (fun HT_ HW_=>?_);generalize w17.drew=w18 at BK257 HB hHeld ⊢;refine tA 0 3 HT_.out HW_.out hHeld ?_;refine one_ (i:=1) (N:=some 4) #[true,true,false,false,false,false,false,false,false,false,false,false,false] rfl rfl (one_of HT_.out (by kernel_rfl)) (by decide) (fun K hK=>?_);refine goes_ Tryz.func8 (by kernel_rfl) rfl #[.agg #[.string a0_0,.slice A0_1 l0_1.length c0_1,.string a0_2,.string a0_3,.slice A0_4 l0_4.length c0_4]] (by rfl) rfl rfl zq34 ?_;with_reducible refine (lw48_large.calls k a0_0 _ _ l0_1 a0_2 a0_3 _ _ l0_4 false _ ?side1 ?side2 ?side3 ?side4 A2.out).mono ?_
 (case side1=>exact zq48)
 (case side2=>exact HC0_1.out)
 (case side3=>exact zq40)
 (case side4=>exact HC0_4.out)
 rintro e w19 ⟨rfl,hb⟩;refine ⟨_,rfl,?_⟩;replace BK257:=bkm BK257 hb;replace HB:=hbm HB hb;clear hb;refine hK.out _ _ ⟨(blk_cell BK257.out 0).trans rfl,(blk_cell BK257.out 1).trans rfl,(blk_cell BK257.out 2).trans rfl,(blk_cell BK257.out 3).trans rfl,(blk_cell BK257.out 4).trans rfl⟩ (fun hHeld=>?_);clear hK K;refine nA 4 ?_;refine pA 2 5 HT_.out ?_;refine tA 3 6 HT_.out HW_.out hHeld ?_;refine tA 5 8 HT_.out HW_.out hHeld ?_;refine one_ (i:=4) (N:=some 7) #[true,true,true,true,true,true,false,false,false,false,false,false,false] rfl rfl (one_of HT_.out (by kernel_rfl)) (by decide) (fun K hK=>?_);refine goes_ Tryz.func9 (by kernel_rfl) rfl #[.agg #[.string a0_0,.slice A0_1 l0_1.length c0_1,.string a0_2,.string a0_3,.slice A0_4 l0_4.length c0_4]] (by rfl) rfl rfl zq34 ?_;with_reducible refine (rules_Check.calls k a0_0 _ _ l0_1 a0_2 a0_3 _ _ l0_4 t259 _ ?side1 ?side2 ?side3 ?side4 A7.out).mono ?_
 (case side1=>exact zq48)
 (case side2=>exact HC0_1.out)
 (case side3=>exact zq40)
 (case side4=>exact HC0_4.out)
 rintro e w20 ⟨rfl,hb⟩;refine ⟨_,rfl,?_⟩;replace BK257:=bkm BK257 hb;replace HB:=hbm HB hb;clear hb;refine hK.out _ _ ⟨(blk_cell BK257.out 0).trans rfl,(blk_cell BK257.out 1).trans rfl,(blk_cell BK257.out 2).trans rfl,(blk_cell BK257.out 3).trans rfl,(blk_cell BK257.out 4).trans rfl⟩ (fun hHeld=>?_);clear hK K;refine nA 7 ?_;refine one_ (i:=6) (N:=some 9) #[true,true,true,true,true,true,true,false,false,false,false,false,false] rfl rfl (one_of HT_.out (by kernel_rfl)) (by decide) (fun K hK=>?_);refine goes_ Tryz.func10 (by kernel_rfl) rfl #[.agg #[.string a0_0,.slice A0_1 l0_1.length c0_1,.string a0_2,.string a0_3,.slice A0_4 l0_4.length c0_4]] (by rfl) rfl rfl zq34 ?_;with_reducible refine (rf48_Check.calls k a0_0 _ _ l0_1 a0_2 a0_3 _ _ l0_4 t260 _ ?side1 ?side2 ?side3 ?side4 A8.out).mono ?_
 (case side1=>exact zq48)
 (case side2=>exact HC0_1.out)
 (case side3=>exact zq40)
 (case side4=>exact HC0_4.out)
 rintro e w21 ⟨rfl,hb⟩;refine ⟨_,rfl,?_⟩;replace BK257:=bkm BK257 hb;replace HB:=hbm HB hb;clear hb;refine hK.out _ _ ⟨(blk_cell BK257.out 0).trans rfl,(blk_cell BK257.out 1).trans rfl,(blk_cell BK257.out 2).trans rfl,(blk_cell BK257.out 3).trans rfl,(blk_cell BK257.out 4).trans rfl⟩ (fun hHeld=>?_);clear hK K;refine nA 9 ?_;refine pA 7 10 HT_.out ?_;refine pA 8 11 HT_.out ?_;refine oA 9 12 HT_.out ?_;refine pA 10 13 HT_.out ?_;refine pA 11 14 HT_.out ?_;refine pA 12 2 HT_.out ?_;refine done_ (done_of HT_.out (by kernel_rfl)) ?_;try go_wp2
 go_ret
 exact ⟨zq4,zq95⟩
end Go.Proofs.YtkbgkekegjfkfaaGreatDoor.A
