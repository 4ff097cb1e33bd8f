-- By pack.py, a program of this session's.
import Derived.Test.YtmlcdpfcafmmcaaDoorX18
import Derived.Test.YtmlcdpfcafmmcaaDoorX20
import Derived.Test.YtmlcdpfcafmmcaaDoorX22
import Derived.Test.YtmlcdpfcafmmcaaDoorX26
import Derived.Test.YtmlcdpfcafmmcaaDoorX34
set_option linter.unusedVariables false
set_option linter.unusedSimpArgs false
namespace Go.Proofs.YtmlcdpfcafmmcaaDoor.A
open Go.RowKit B WW WL WM
attribute [local go_sem] max2_int min2_int max_two min_two max_three min_three max_four min_four
set_option maxHeartbeats 8000000
set_option maxRecDepth 100000
def rf47_Follows.f (k:Nat) (a0_0:ByteArray) (a0_1:ByteArray) (a0_2:Int) (a0_3:Int) (a0_4:Int) (l0_5:List (S44)) (a1_0:ByteArray) (a1_1:ByteArray) (a1_2:Int) (a1_3:Int) (a1_4:Int) (l1_5:List (S44)):Option (Bool):=(rf47_Check.f k a0_0 a0_1 a0_2 a0_3 a0_4 l0_5).bind fun t242=>(if t242=0 then ((rf47_Check.f k a1_0 a1_1 a1_2 a1_3 a1_4 l1_5).bind fun t243=>(if t243=0 then (if a0_0.toList=a1_0.toList then (if a0_1.toList=a1_1.toList then (if a1_2=(wrap64 (a0_2+1)) then (some (a1_3 == a0_4)) else (some false)) else (some false)) else (some false)) else (some false))) else (some false))
def lw47_StmtFollows.j0:Nat→Bool→ByteArray→ByteArray→Int→Int→Int→List (S44)→ByteArray→ByteArray→Int→Int→Int→List (S44)→Option (Bool)
 | 0,_,_,_,_,_,_,_,_,_,_,_,_,_=>none
 | k+1,x12,x245000,x245001,x245002,x245003,x245004,x245005,x246000,x246001,x246002,x246003,x246004,x246005=>if x12=true then ((lw47_lives.f).bind fun t248=>(some t248)) else ((stmt_Follows.f k x245000 x245001 x245002 x245003 x245004 x245005 x246000 x246001 x246002 x246003 x246004 x246005).bind fun t249=>((rf47_Follows.f k x245000 x245001 x245002 x245003 x245004 x245005 x246000 x246001 x246002 x246003 x246004 x246005).bind fun t250=>(if (t249 == t250)=true then ((lw47_lives.f).bind fun t251=>(some t251)) else (some false))))
def lw47_StmtFollows.f (k:Nat) (a0_0:ByteArray) (a0_1:ByteArray) (a0_2:Int) (a0_3:Int) (a0_4:Int) (l0_5:List (S44)) (a1_0:ByteArray) (a1_1:ByteArray) (a1_2:Int) (a1_3:Int) (a1_4:Int) (l1_5:List (S44)):Option (Bool):=(lw47_light.f k a0_0 a0_1 a0_2 a0_3 a0_4 l0_5).bind fun t246=>(if t246=true then ((lw47_light.f k a1_0 a1_1 a1_2 a1_3 a1_4 l1_5).bind fun t247=>(lw47_StmtFollows.j0 k (!t247) a0_0 a0_1 a0_2 a0_3 a0_4 l0_5 a1_0 a1_1 a1_2 a1_3 a1_4 l1_5)) else (lw47_StmtFollows.j0 k true a0_0 a0_1 a0_2 a0_3 a0_4 l0_5 a1_0 a1_1 a1_2 a1_3 a1_4 l1_5))
def lw47_StmtFollows.T3:Bool×List (List Nat×List Nat):=(true,[([],[]),([],[]),([0,1],[0,1]),([],[]),([],[]),([3,4,2],[3,4]),([2,5],[2,5]),([6,5],[6]),([7,7],[7]),([7,8],[7,8]),([9,8,0,1,2,3,4,5,6,7,8,9],[9])])
def lw47_StmtFollows.B3:List Nat:=[0,0,3,0,0,31,63,127,255,511,1023]
theorem lw47_StmtFollows.tab3:rtab .any (opsOf Tryd.f4 3)=lw47_StmtFollows.T3:=by kernel_rfl
theorem lw47_StmtFollows.bits3:waitsOk lw47_StmtFollows.T3.2 lw47_StmtFollows.B3=true:=by kernel_rfl
end Go.Proofs.YtmlcdpfcafmmcaaDoor.A
namespace Go.Proofs.YtmlcdpfcafmmcaaDoor.A
open Go.RowKit B WW WL WM
theorem zq27 {P:Prop} (h:P:=by repeat (first | (with_reducible first | exact HB.out | apply below_alloc | apply pw_below_drewN | apply below_drew1 | refine below_set ?_ GE240.out | refine below_set ?_ GE241.out) | exact HB.out)):P:=h
theorem zq103 {P:Prop} (h:P:=by repeat (first | (with_reducible first | exact HB.out | apply below_alloc | apply pw_below_drewN | apply below_drew1 | refine below_set ?_ GE244.out | refine below_set ?_ GE245.out) | exact HB.out)):P:=h
theorem zq104 {P:Prop} (h:P:=by repeat (first | (with_reducible first | exact HB.out | exact Below.refl _ _ | apply below_alloc | apply pw_below_drewN | apply below_drew1 | refine below_set ?_ GE244.out | refine below_set ?_ GE245.out) | exact HB.out)):P:=h
end Go.Proofs.YtmlcdpfcafmmcaaDoor.A
namespace Go.Proofs.YtmlcdpfcafmmcaaDoor.A
open Go.RowKit B WW WL WM
theorem ref47_Follows_ev (a b:ByteArray×ByteArray×Int×Int×Int×List S44) (ha:a.1.size≤1000000∧a.2.1.size≤1000000∧Short a.2.2.2.2.2) (hb:b.1.size≤1000000∧b.2.1.size≤1000000∧Short b.2.2.2.2.2) :
    Ev (fun k=>rf47_Follows.f k a.1 a.2.1 a.2.2.1 a.2.2.2.1 a.2.2.2.2.1 a.2.2.2.2.2 b.1 b.2.1 b.2.2.1 b.2.2.2.1 b.2.2.2.2.1 b.2.2.2.2.2) (followsS a b):=by
  unfold rf47_Follows.f followsS;refine Ev.bind (ref47_Check_ev _ _ _ _ _ _ ha.1 ha.2.1 ha.2.2) (Ev.both (fun e1=>Ev.bind (ref47_Check_ev _ _ _ _ _ _ hb.1 hb.2.1 hb.2.2) (Ev.both (fun e2=>?_) (fun e2=>Ev.is ?_))) (fun e1=>Ev.is ?_))
  · refine Ev.both (fun e3=>Ev.both (fun e4=>Ev.both (fun e5=>Ev.is ?_) (fun e5=>Ev.is ?_)) (fun e4=>Ev.is ?_)) (fun e3=>Ev.is ?_)
    · rw [Bool.eq_iff_iff,decide_eq_true_iff,beq_iff_eq]
      exact ⟨fun h=>⟨e1,e2,e3,e4,e5,h⟩,fun h=>h.2.2.2.2.2⟩
    · exact (decide_eq_false (fun h=>e5 h.2.2.2.2.1)).symm
    · exact (decide_eq_false (fun h=>e4 h.2.2.2.1)).symm
    · exact (decide_eq_false (fun h=>e3 h.2.2.1)).symm
  · exact (decide_eq_false (fun h=>e2 h.2.1)).symm
  · exact (decide_eq_false (fun h=>e1 h.1)).symm
end Go.Proofs.YtmlcdpfcafmmcaaDoor.A
namespace Go.Proofs.YtmlcdpfcafmmcaaDoor.A
open Go.RowKit B WW WL WM
attribute [local go_sem] max2_int min2_int max_two min_two max_three min_three max_four min_four
set_option maxHeartbeats 8000000
set_option maxRecDepth 100000
theorem rf47_Follows.calls (k:Nat) (a0_0 a0_1:ByteArray) (a0_2 a0_3 a0_4:Int) (A0_5:Option Addr) (c0_5:Nat) (l0_5:List (S44)) (a1_0 a1_1:ByteArray) (a1_2 a1_3 a1_4:Int) (A1_5:Option Addr) (c1_5:Nat) (l1_5:List (S44)) (r:Bool) (w:World) (hr0_5:Kd.C k44 w A0_5 l0_5.length l0_5) (hc0_5:l0_5.length≤c0_5) (hr1_5:Kd.C k44 w A1_5 l1_5.length l1_5) (hc1_5:l1_5.length≤c1_5) (h:rf47_Follows.f k a0_0 a0_1 a0_2 a0_3 a0_4 l0_5 a1_0 a1_1 a1_2 a1_3 a1_4 l1_5=some r) :
  Calls Tryd.prog 15 #[.agg #[.string a0_0,.string a0_1,.int .i64 a0_2,.int .i64 a0_3,.int .i64 a0_4,.slice A0_5 l0_5.length c0_5],.agg #[.string a1_0,.string a1_1,.int .i64 a1_2,.int .i64 a1_3,.int .i64 a1_4,.slice A1_5 l1_5.length c1_5]] w fun e w'=>e=.returned (.bool r)∧Below w.heap.size w w':=by
 have hu24:=Tryd.underlying24;have HR0_5:=sd hr0_5;have HC0_5:=sd hc0_5;clear hr0_5 hc0_5;have HR1_5:=sd hr1_5;have HC1_5:=sd hc1_5;clear hr1_5 hc1_5;have HB:=sd (Below.refl w.heap.size w);have H:=h;clear h;unfold rf47_Follows.f at H;replace H:=bdI H;obtain ⟨t242,A3,H⟩:=H;(try dsimp only at H)
 replace H:=ifI H;rcases H with ⟨c4,H⟩ | ⟨c4,H⟩
 ·obtain ⟨c4b0,c4b1⟩:=eqI c4;clear c4;replace H:=bdI H;obtain ⟨t243,A5,H⟩:=H;(try dsimp only at H)
  replace H:=ifI H;rcases H with ⟨c6,H⟩ | ⟨c6,H⟩
  ·obtain ⟨c6b0,c6b1⟩:=eqI c6;clear c6;replace H:=ifI H;rcases H with ⟨c7,H⟩ | ⟨c7,H⟩
   ·obtain ⟨c7b0,c7b1⟩:=eqI c7;clear c7;replace H:=ifI H;rcases H with ⟨c8,H⟩ | ⟨c8,H⟩
    ·obtain ⟨c8b0,c8b1⟩:=eqI c8;clear c8;replace H:=ifI H;rcases H with ⟨c9,H⟩ | ⟨c9,H⟩
     ·obtain ⟨c9b0,c9b1⟩:=eqI c9;clear c9;obtain rfl:=Option.some.inj H;go_enter Tryd.func15,Tryd.ntmps15
      go_wp2_with (first | ((with_reducible refine gate_dst (N:=2) rfl ?_);refine bxA 2 #[.string a0_0,.string a0_1,.int .i64 a0_2,.int .i64 a0_3,.int .i64 a0_4,.slice A0_5 l0_5.length c0_5] 24 ?_;intro gb240 hg w10 hbox hb;have BK240:=sd (hbox);have GW240:=gem hg HB;have GE240:=GW240;replace HB:=hbm HB hb;clear hb hbox hg) | ((with_reducible refine gate_dst (N:=3) rfl ?_);refine bxA 3 #[.string a1_0,.string a1_1,.int .i64 a1_2,.int .i64 a1_3,.int .i64 a1_4,.slice A1_5 l1_5.length c1_5] 24 ?_;intro gb241 hg w11 hbox hb;have BK241:=sd (hbox);have GW241:=gem hg HB;have GE241:=GW241;have NB240_241:=nlm hg BK240;have NB241_240:=ngm hg BK240;replace BK240:=bkm BK240 hb;replace HB:=hbm HB hb;clear hb hbox hg;have hnb12:=NB240_241.out;have hnc12:=NB241_240.out;obtain ⟨_,_,_,_,_,_,_,_,_,_,_,_⟩:=bk6 BK240) | ((with_reducible refine gate_callee (f:=13) rfl ?_);refine gL 6 Tryd.func13 #[.agg #[.string a0_0,.string a0_1,.int .i64 a0_2,.int .i64 a0_3,.int .i64 a0_4,.slice A0_5 l0_5.length c0_5]] ?_;(with_reducible refine (rf47_Check.calls k a0_0 a0_1 a0_2 a0_3 a0_4 _ _ l0_5 t242 _ ?side1 ?side2 A3.out).mono ?_);(case side1=>exact zq25);(case side2=>exact HC0_5.out);rintro e w14 ⟨rfl,hb⟩;refine ⟨_,rfl,?_⟩;replace BK240:=bkm BK240 hb;replace BK241:=bkm BK241 hb;replace HB:=hbm HB hb;clear hb;obtain ⟨_,_,_,_,_,_,_,_,_,_,_,_⟩:=bk6 BK241) | (go_at_call 13;(with_reducible refine (rf47_Check.calls k a1_0 a1_1 a1_2 a1_3 a1_4 _ _ l1_5 t243 _ ?side1 ?side2 A5.out).mono ?_);(case side1=>exact zq26);(case side2=>exact HC1_5.out);rintro e w16 ⟨rfl,hb⟩;replace BK240:=bkm BK240 hb;replace BK241:=bkm BK241 hb;replace HB:=hbm HB hb;clear hb;obtain ⟨_,_,_,_,_,_,_,_,_,_,_,_⟩:=bk6 BK240;obtain ⟨_,_,_,_,_,_,_,_,_,_,_,_⟩:=bk6 BK241))
      go_ret
      exact ⟨zq10,zq27⟩
     obtain ⟨c9b0,c9b1⟩:=neI c9;obtain rfl:=Option.some.inj H;go_enter Tryd.func15,Tryd.ntmps15
     go_wp2_with (first | ((with_reducible refine gate_dst (N:=2) rfl ?_);refine bxA 2 #[.string a0_0,.string a0_1,.int .i64 a0_2,.int .i64 a0_3,.int .i64 a0_4,.slice A0_5 l0_5.length c0_5] 24 ?_;intro gb240 hg w19 hbox hb;have BK240:=sd (hbox);have GW240:=gem hg HB;have GE240:=GW240;replace HB:=hbm HB hb;clear hb hbox hg) | ((with_reducible refine gate_dst (N:=3) rfl ?_);refine bxA 3 #[.string a1_0,.string a1_1,.int .i64 a1_2,.int .i64 a1_3,.int .i64 a1_4,.slice A1_5 l1_5.length c1_5] 24 ?_;intro gb241 hg w20 hbox hb;have BK241:=sd (hbox);have GW241:=gem hg HB;have GE241:=GW241;have NB240_241:=nlm hg BK240;have NB241_240:=ngm hg BK240;replace BK240:=bkm BK240 hb;replace HB:=hbm HB hb;clear hb hbox hg;have hnb21:=NB240_241.out;have hnc21:=NB241_240.out;obtain ⟨_,_,_,_,_,_,_,_,_,_,_,_⟩:=bk6 BK240) | ((with_reducible refine gate_callee (f:=13) rfl ?_);refine gL 6 Tryd.func13 #[.agg #[.string a0_0,.string a0_1,.int .i64 a0_2,.int .i64 a0_3,.int .i64 a0_4,.slice A0_5 l0_5.length c0_5]] ?_;(with_reducible refine (rf47_Check.calls k a0_0 a0_1 a0_2 a0_3 a0_4 _ _ l0_5 t242 _ ?side1 ?side2 A3.out).mono ?_);(case side1=>exact zq25);(case side2=>exact HC0_5.out);rintro e w23 ⟨rfl,hb⟩;refine ⟨_,rfl,?_⟩;replace BK240:=bkm BK240 hb;replace BK241:=bkm BK241 hb;replace HB:=hbm HB hb;clear hb;obtain ⟨_,_,_,_,_,_,_,_,_,_,_,_⟩:=bk6 BK241) | (go_at_call 13;(with_reducible refine (rf47_Check.calls k a1_0 a1_1 a1_2 a1_3 a1_4 _ _ l1_5 t243 _ ?side1 ?side2 A5.out).mono ?_);(case side1=>exact zq26);(case side2=>exact HC1_5.out);rintro e w25 ⟨rfl,hb⟩;replace BK240:=bkm BK240 hb;replace BK241:=bkm BK241 hb;replace HB:=hbm HB hb;clear hb;obtain ⟨_,_,_,_,_,_,_,_,_,_,_,_⟩:=bk6 BK240;obtain ⟨_,_,_,_,_,_,_,_,_,_,_,_⟩:=bk6 BK241))
     go_ret
     exact ⟨zq10,zq27⟩
    obtain ⟨c8b0,c8b1⟩:=neI c8;obtain rfl:=Option.some.inj H;go_enter Tryd.func15,Tryd.ntmps15
    go_wp2_with (first | ((with_reducible refine gate_dst (N:=2) rfl ?_);refine bxA 2 #[.string a0_0,.string a0_1,.int .i64 a0_2,.int .i64 a0_3,.int .i64 a0_4,.slice A0_5 l0_5.length c0_5] 24 ?_;intro gb240 hg w28 hbox hb;have BK240:=sd (hbox);have GW240:=gem hg HB;have GE240:=GW240;replace HB:=hbm HB hb;clear hb hbox hg) | ((with_reducible refine gate_dst (N:=3) rfl ?_);refine bxA 3 #[.string a1_0,.string a1_1,.int .i64 a1_2,.int .i64 a1_3,.int .i64 a1_4,.slice A1_5 l1_5.length c1_5] 24 ?_;intro gb241 hg w29 hbox hb;have BK241:=sd (hbox);have GW241:=gem hg HB;have GE241:=GW241;have NB240_241:=nlm hg BK240;have NB241_240:=ngm hg BK240;replace BK240:=bkm BK240 hb;replace HB:=hbm HB hb;clear hb hbox hg;have hnb30:=NB240_241.out;have hnc30:=NB241_240.out;obtain ⟨_,_,_,_,_,_,_,_,_,_,_,_⟩:=bk6 BK240) | ((with_reducible refine gate_callee (f:=13) rfl ?_);refine gL 6 Tryd.func13 #[.agg #[.string a0_0,.string a0_1,.int .i64 a0_2,.int .i64 a0_3,.int .i64 a0_4,.slice A0_5 l0_5.length c0_5]] ?_;(with_reducible refine (rf47_Check.calls k a0_0 a0_1 a0_2 a0_3 a0_4 _ _ l0_5 t242 _ ?side1 ?side2 A3.out).mono ?_);(case side1=>exact zq25);(case side2=>exact HC0_5.out);rintro e w32 ⟨rfl,hb⟩;refine ⟨_,rfl,?_⟩;replace BK240:=bkm BK240 hb;replace BK241:=bkm BK241 hb;replace HB:=hbm HB hb;clear hb;obtain ⟨_,_,_,_,_,_,_,_,_,_,_,_⟩:=bk6 BK241) | (go_at_call 13;(with_reducible refine (rf47_Check.calls k a1_0 a1_1 a1_2 a1_3 a1_4 _ _ l1_5 t243 _ ?side1 ?side2 A5.out).mono ?_);(case side1=>exact zq26);(case side2=>exact HC1_5.out);rintro e w34 ⟨rfl,hb⟩;replace BK240:=bkm BK240 hb;replace BK241:=bkm BK241 hb;replace HB:=hbm HB hb;clear hb;obtain ⟨_,_,_,_,_,_,_,_,_,_,_,_⟩:=bk6 BK240;obtain ⟨_,_,_,_,_,_,_,_,_,_,_,_⟩:=bk6 BK241))
    go_ret
    exact ⟨zq10,zq27⟩
   obtain ⟨c7b0,c7b1⟩:=neI c7;obtain rfl:=Option.some.inj H;go_enter Tryd.func15,Tryd.ntmps15
   go_wp2_with (first | ((with_reducible refine gate_dst (N:=2) rfl ?_);refine bxA 2 #[.string a0_0,.string a0_1,.int .i64 a0_2,.int .i64 a0_3,.int .i64 a0_4,.slice A0_5 l0_5.length c0_5] 24 ?_;intro gb240 hg w37 hbox hb;have BK240:=sd (hbox);have GW240:=gem hg HB;have GE240:=GW240;replace HB:=hbm HB hb;clear hb hbox hg) | ((with_reducible refine gate_dst (N:=3) rfl ?_);refine bxA 3 #[.string a1_0,.string a1_1,.int .i64 a1_2,.int .i64 a1_3,.int .i64 a1_4,.slice A1_5 l1_5.length c1_5] 24 ?_;intro gb241 hg w38 hbox hb;have BK241:=sd (hbox);have GW241:=gem hg HB;have GE241:=GW241;have NB240_241:=nlm hg BK240;have NB241_240:=ngm hg BK240;replace BK240:=bkm BK240 hb;replace HB:=hbm HB hb;clear hb hbox hg;have hnb39:=NB240_241.out;have hnc39:=NB241_240.out;obtain ⟨_,_,_,_,_,_,_,_,_,_,_,_⟩:=bk6 BK240) | ((with_reducible refine gate_callee (f:=13) rfl ?_);refine gL 6 Tryd.func13 #[.agg #[.string a0_0,.string a0_1,.int .i64 a0_2,.int .i64 a0_3,.int .i64 a0_4,.slice A0_5 l0_5.length c0_5]] ?_;(with_reducible refine (rf47_Check.calls k a0_0 a0_1 a0_2 a0_3 a0_4 _ _ l0_5 t242 _ ?side1 ?side2 A3.out).mono ?_);(case side1=>exact zq25);(case side2=>exact HC0_5.out);rintro e w41 ⟨rfl,hb⟩;refine ⟨_,rfl,?_⟩;replace BK240:=bkm BK240 hb;replace BK241:=bkm BK241 hb;replace HB:=hbm HB hb;clear hb;obtain ⟨_,_,_,_,_,_,_,_,_,_,_,_⟩:=bk6 BK241) | (go_at_call 13;(with_reducible refine (rf47_Check.calls k a1_0 a1_1 a1_2 a1_3 a1_4 _ _ l1_5 t243 _ ?side1 ?side2 A5.out).mono ?_);(case side1=>exact zq26);(case side2=>exact HC1_5.out);rintro e w43 ⟨rfl,hb⟩;replace BK240:=bkm BK240 hb;replace BK241:=bkm BK241 hb;replace HB:=hbm HB hb;clear hb;obtain ⟨_,_,_,_,_,_,_,_,_,_,_,_⟩:=bk6 BK240;obtain ⟨_,_,_,_,_,_,_,_,_,_,_,_⟩:=bk6 BK241))
   go_ret
   exact ⟨zq10,zq27⟩
  obtain ⟨c6b0,c6b1⟩:=neI c6;obtain rfl:=Option.some.inj H;go_enter Tryd.func15,Tryd.ntmps15
  go_wp2_with (first | ((with_reducible refine gate_dst (N:=2) rfl ?_);refine bxA 2 #[.string a0_0,.string a0_1,.int .i64 a0_2,.int .i64 a0_3,.int .i64 a0_4,.slice A0_5 l0_5.length c0_5] 24 ?_;intro gb240 hg w46 hbox hb;have BK240:=sd (hbox);have GW240:=gem hg HB;have GE240:=GW240;replace HB:=hbm HB hb;clear hb hbox hg) | ((with_reducible refine gate_dst (N:=3) rfl ?_);refine bxA 3 #[.string a1_0,.string a1_1,.int .i64 a1_2,.int .i64 a1_3,.int .i64 a1_4,.slice A1_5 l1_5.length c1_5] 24 ?_;intro gb241 hg w47 hbox hb;have BK241:=sd (hbox);have GW241:=gem hg HB;have GE241:=GW241;have NB240_241:=nlm hg BK240;have NB241_240:=ngm hg BK240;replace BK240:=bkm BK240 hb;replace HB:=hbm HB hb;clear hb hbox hg;have hnb48:=NB240_241.out;have hnc48:=NB241_240.out;obtain ⟨_,_,_,_,_,_,_,_,_,_,_,_⟩:=bk6 BK240) | ((with_reducible refine gate_callee (f:=13) rfl ?_);refine gL 6 Tryd.func13 #[.agg #[.string a0_0,.string a0_1,.int .i64 a0_2,.int .i64 a0_3,.int .i64 a0_4,.slice A0_5 l0_5.length c0_5]] ?_;(with_reducible refine (rf47_Check.calls k a0_0 a0_1 a0_2 a0_3 a0_4 _ _ l0_5 t242 _ ?side1 ?side2 A3.out).mono ?_);(case side1=>exact zq25);(case side2=>exact HC0_5.out);rintro e w50 ⟨rfl,hb⟩;refine ⟨_,rfl,?_⟩;replace BK240:=bkm BK240 hb;replace BK241:=bkm BK241 hb;replace HB:=hbm HB hb;clear hb;obtain ⟨_,_,_,_,_,_,_,_,_,_,_,_⟩:=bk6 BK241) | (go_at_call 13;(with_reducible refine (rf47_Check.calls k a1_0 a1_1 a1_2 a1_3 a1_4 _ _ l1_5 t243 _ ?side1 ?side2 A5.out).mono ?_);(case side1=>exact zq26);(case side2=>exact HC1_5.out);rintro e w52 ⟨rfl,hb⟩;replace BK240:=bkm BK240 hb;replace BK241:=bkm BK241 hb;replace HB:=hbm HB hb;clear hb))
  go_ret
  exact ⟨zq10,zq27⟩
 obtain ⟨c4b0,c4b1⟩:=neI c4;obtain rfl:=Option.some.inj H;go_enter Tryd.func15,Tryd.ntmps15
 go_wp2_with (first | ((with_reducible refine gate_dst (N:=2) rfl ?_);refine bxA 2 #[.string a0_0,.string a0_1,.int .i64 a0_2,.int .i64 a0_3,.int .i64 a0_4,.slice A0_5 l0_5.length c0_5] 24 ?_;intro gb240 hg w53 hbox hb;have BK240:=sd (hbox);have GW240:=gem hg HB;have GE240:=GW240;replace HB:=hbm HB hb;clear hb hbox hg) | ((with_reducible refine gate_dst (N:=3) rfl ?_);refine bxA 3 #[.string a1_0,.string a1_1,.int .i64 a1_2,.int .i64 a1_3,.int .i64 a1_4,.slice A1_5 l1_5.length c1_5] 24 ?_;intro gb241 hg w54 hbox hb;have BK241:=sd (hbox);have GW241:=gem hg HB;have GE241:=GW241;have NB240_241:=nlm hg BK240;have NB241_240:=ngm hg BK240;replace BK240:=bkm BK240 hb;replace HB:=hbm HB hb;clear hb hbox hg;have hnb55:=NB240_241.out;have hnc55:=NB241_240.out;obtain ⟨_,_,_,_,_,_,_,_,_,_,_,_⟩:=bk6 BK240) | ((with_reducible refine gate_callee (f:=13) rfl ?_);refine gL 6 Tryd.func13 #[.agg #[.string a0_0,.string a0_1,.int .i64 a0_2,.int .i64 a0_3,.int .i64 a0_4,.slice A0_5 l0_5.length c0_5]] ?_;(with_reducible refine (rf47_Check.calls k a0_0 a0_1 a0_2 a0_3 a0_4 _ _ l0_5 t242 _ ?side1 ?side2 A3.out).mono ?_);(case side1=>exact zq25);(case side2=>exact HC0_5.out);rintro e w57 ⟨rfl,hb⟩;refine ⟨_,rfl,?_⟩;replace BK240:=bkm BK240 hb;replace BK241:=bkm BK241 hb;replace HB:=hbm HB hb;clear hb))
 go_ret
 exact ⟨zq10,zq27⟩
theorem lw47_StmtFollows.calls (k:Nat) (a0_0 a0_1:ByteArray) (a0_2 a0_3 a0_4:Int) (A0_5:Option Addr) (c0_5:Nat) (l0_5:List (S44)) (a1_0 a1_1:ByteArray) (a1_2 a1_3 a1_4:Int) (A1_5:Option Addr) (c1_5:Nat) (l1_5:List (S44)) (r:Bool) (w:World) (hr0_5:Kd.C k44 w A0_5 l0_5.length l0_5) (hc0_5:l0_5.length≤c0_5) (hr1_5:Kd.C k44 w A1_5 l1_5.length l1_5) (hc1_5:l1_5.length≤c1_5) (h:lw47_StmtFollows.f k a0_0 a0_1 a0_2 a0_3 a0_4 l0_5 a1_0 a1_1 a1_2 a1_3 a1_4 l1_5=some r) (hG:Gl w) :
  Calls Tryd.prog 4 #[.agg #[.string a0_0,.string a0_1,.int .i64 a0_2,.int .i64 a0_3,.int .i64 a0_4,.slice A0_5 l0_5.length c0_5],.agg #[.string a1_0,.string a1_1,.int .i64 a1_2,.int .i64 a1_3,.int .i64 a1_4,.slice A1_5 l1_5.length c1_5]] w fun e w'=>e=.returned (.bool r)∧Below w.heap.size w w':=by
 have HG:=sd hG;clear hG;have hu24:=Tryd.underlying24;have HR0_5:=sd hr0_5;have HC0_5:=sd hc0_5;clear hr0_5 hc0_5;have HR1_5:=sd hr1_5;have HC1_5:=sd hc1_5;clear hr1_5 hc1_5;have HB:=sd (Below.refl w.heap.size w);have H:=h;clear h;unfold lw47_StmtFollows.f at H;have HC3:=sd H;clear H;go_enter Tryd.func4,Tryd.ntmps4
 go_upto_region 1 with (first | ((with_reducible refine gate_dst (N:=2) rfl ?_);refine bxA 2 #[.string a0_0,.string a0_1,.int .i64 a0_2,.int .i64 a0_3,.int .i64 a0_4,.slice A0_5 l0_5.length c0_5] 24 ?_;intro gb244 hg w4 hbox hb;have BK244:=sd (hbox);have GW244:=gem hg HB;have GE244:=GW244;replace HB:=hbm HB hb;clear hb hbox hg) | ((with_reducible refine gate_dst (N:=3) rfl ?_);refine bxA 3 #[.string a1_0,.string a1_1,.int .i64 a1_2,.int .i64 a1_3,.int .i64 a1_4,.slice A1_5 l1_5.length c1_5] 24 ?_;intro gb245 hg w5 hbox hb;have BK245:=sd (hbox);have GW245:=gem hg HB;have GE245:=GW245;have NB244_245:=nlm hg BK244;have NB245_244:=ngm hg BK244;replace BK244:=bkm BK244 hb;replace HB:=hbm HB hb;clear hb hbox hg))
 (try simp only [Act.put,List.setIfInBounds_toArray,List.set_cons_zero,List.set_cons_succ])
 go_cut [12] (fun v12 wc=>∃ (kq:Nat) (x12_2:Bool),v12=.bool x12_2∧Aside0 (lw47_StmtFollows.j0 kq x12_2 a0_0 a0_1 a0_2 a0_3 a0_4 l0_5 a1_0 a1_1 a1_2 a1_3 a1_4 l1_5=some r)∧Aside0 (kq≤k)∧Aside0 (wc.heap[gb244]?=some (.cells #[.string a0_0,.string a0_1,.int .i64 a0_2,.int .i64 a0_3,.int .i64 a0_4,(.slice A0_5 l0_5.length c0_5)] 24 (0,0)))∧Aside0 (wc.heap[gb245]?=some (.cells #[.string a1_0,.string a1_1,.int .i64 a1_2,.int .i64 a1_3,.int .i64 a1_4,(.slice A1_5 l1_5.length c1_5)] 24 (0,0)))∧Aside0 (Below w.heap.size w wc))
 case first =>
  have H:=HC3.out;clear HC3;replace H:=bdI H;obtain ⟨t246,A6,H⟩:=H;(try dsimp only at H)
  by_cases c7:t246=true
  ·subst c7;rw [if_pos rfl] at H;replace H:=bdI H;obtain ⟨t247,A8,H⟩:=H;(try dsimp only at H)
   have H':=sd H;clear H;have hnb9:=NB244_245.out;have hnc9:=NB245_244.out;obtain ⟨_,_,_,_,_,_,_,_,_,_,_,_⟩:=bk6 BK244;go_wp2_with (first | ((with_reducible refine gate_callee (f:=10) rfl ?_);refine gL 6 Tryd.func10 #[.agg #[.string a0_0,.string a0_1,.int .i64 a0_2,.int .i64 a0_3,.int .i64 a0_4,.slice A0_5 l0_5.length c0_5]] ?_;(with_reducible refine (lw47_light.calls k a0_0 a0_1 a0_2 a0_3 a0_4 _ _ l0_5 true _ ?side1 ?side2 A6.out).mono ?_);(case side1=>exact zq25);(case side2=>exact HC0_5.out);rintro e w11 ⟨rfl,hb⟩;refine ⟨_,rfl,?_⟩;replace BK244:=bkm BK244 hb;replace BK245:=bkm BK245 hb;replace HB:=hbm HB hb;clear hb;obtain ⟨_,_,_,_,_,_,_,_,_,_,_,_⟩:=bk6 BK245) | (go_at_call 10;(with_reducible refine (lw47_light.calls k a1_0 a1_1 a1_2 a1_3 a1_4 _ _ l1_5 t247 _ ?side1 ?side2 A8.out).mono ?_);(case side1=>exact zq26);(case side2=>exact HC1_5.out);rintro e w13 ⟨rfl,hb⟩;replace BK244:=bkm BK244 hb;replace BK245:=bkm BK245 hb;replace HB:=hbm HB hb;clear hb))
   go_meet
   case rel=>exact ⟨_,(!t247),zq1,H',⟨by first | omega | exact Nat.le_refl _⟩,⟨by (with_reducible repeat (first | refine blk_drewN ?_ _ | refine blk_drew ?_ | refine blk_alloc ?_ _));exact BK244.out⟩,⟨by (with_reducible repeat (first | refine blk_drewN ?_ _ | refine blk_drew ?_ | refine blk_alloc ?_ _));exact BK245.out⟩,⟨zq103⟩⟩
  replace c7:=Bool.eq_false_iff.mpr c7;subst c7;rw [if_neg Bool.false_ne_true] at H;have H':=sd H;clear H;have hnb14:=NB244_245.out;have hnc14:=NB245_244.out;obtain ⟨_,_,_,_,_,_,_,_,_,_,_,_⟩:=bk6 BK244;go_wp2_with (first | ((with_reducible refine gate_callee (f:=10) rfl ?_);refine gL 6 Tryd.func10 #[.agg #[.string a0_0,.string a0_1,.int .i64 a0_2,.int .i64 a0_3,.int .i64 a0_4,.slice A0_5 l0_5.length c0_5]] ?_;(with_reducible refine (lw47_light.calls k a0_0 a0_1 a0_2 a0_3 a0_4 _ _ l0_5 false _ ?side1 ?side2 A6.out).mono ?_);(case side1=>exact zq25);(case side2=>exact HC0_5.out);rintro e w16 ⟨rfl,hb⟩;refine ⟨_,rfl,?_⟩;replace BK244:=bkm BK244 hb;replace BK245:=bkm BK245 hb;replace HB:=hbm HB hb;clear hb))
  go_meet
  case rel=>exact ⟨_,(true),zq1,H',⟨by first | omega | exact Nat.le_refl _⟩,⟨by (with_reducible repeat (first | refine blk_drewN ?_ _ | refine blk_drew ?_ | refine blk_alloc ?_ _));exact BK244.out⟩,⟨by (with_reducible repeat (first | refine blk_drewN ?_ _ | refine blk_drew ?_ | refine blk_alloc ?_ _));exact BK245.out⟩,⟨zq103⟩⟩
 case rest =>
  clear HC3;try clear c1
  try clear p2
  try clear c4
  try clear c7
  try clear c9
  try clear c10
  try clear c14
  try clear hcz10_0
  try clear hcz10_1
  try clear hcz10_2
  try clear hcz10_3
  try clear hcz10_4
  try clear hcz10_5
  try clear hcz12_0
  try clear hcz12_1
  try clear hcz12_2
  try clear hcz12_3
  try clear hcz12_4
  try clear hcz12_5
  try clear hcz15_0
  try clear hcz15_1
  try clear hcz15_2
  try clear hcz15_3
  try clear hcz15_4
  try clear hcz15_5
  try clear hfz10_0
  try clear hfz10_1
  try clear hfz10_2
  try clear hfz10_3
  try clear hfz10_4
  try clear hfz10_5
  try clear hfz12_0
  try clear hfz12_1
  try clear hfz12_2
  try clear hfz12_3
  try clear hfz12_4
  try clear hfz12_5
  try clear hfz15_0
  try clear hfz15_1
  try clear hfz15_2
  try clear hfz15_3
  try clear hfz15_4
  try clear hfz15_5
  obtain ⟨kq,x12_2,rfl,HA,HJ2,BK244,BK245,HB⟩:=hcut
  cases kq with
  | zero=>exact absurd HA.out (by simp [lw47_StmtFollows.j0])
  | succ kj2 =>
   have H:=HA.out;clear HA;simp only [lw47_StmtFollows.j0] at H
   by_cases c17:x12_2=true
   ·subst c17;rw [if_pos rfl] at H;replace H:=bdI H;obtain ⟨t248,A18,H⟩:=H;(try dsimp only at H)
    obtain rfl:=Option.some.inj H;go_wp2_with (first | ((with_reducible refine gate_callee (f:=11) rfl ?_);refine gL 13 Tryd.func11 #[] ?_;(with_reducible refine (lw47_lives.calls  t248 _ A18.out (gl_below HG.out zq104)).mono ?_);rintro e w19 ⟨rfl,hb⟩;refine ⟨_,rfl,?_⟩;replace BK244:=bkm BK244 hb;replace BK245:=bkm BK245 hb;replace HB:=hbm HB hb;clear hb))
    go_ret
    exact ⟨zq10,zq103⟩
   replace c17:=Bool.eq_false_iff.mpr c17;subst c17;rw [if_neg Bool.false_ne_true] at H;replace H:=bdI H;obtain ⟨t249,A20,H⟩:=H;(try dsimp only at H)
   replace H:=bdI H;obtain ⟨t250,A21,H⟩:=H;(try dsimp only at H)
   replace H:=ifI H;rcases H with ⟨c22,H⟩ | ⟨c22,H⟩
   ·have c22b0:(t249 == t250)=true:=c22;(try (have c22b1:decide (t249=t250)=true:=by simpa using c22))
    (try (have c22b2:(t249 == t250)=true:=by simpa using c22))
    clear c22;replace H:=bdI H;obtain ⟨t251,A23,H⟩:=H;(try dsimp only at H)
    obtain rfl:=Option.some.inj H;try go_wp2
    replace BK244:=sd (blk_drew BK244.out);replace BK245:=sd (blk_drew BK245.out);replace HB:=sd (below_drew1 HB.out);refine start_ (n:=11) (S:=fun w'=>w'.cell? ⟨gb244,0,none⟩=some (.string a0_0)∧w'.cell? ⟨gb244,1,none⟩=some (.string a0_1)∧w'.cell? ⟨gb244,2,none⟩=some (.int .i64 a0_2)∧w'.cell? ⟨gb244,3,none⟩=some (.int .i64 a0_3)∧w'.cell? ⟨gb244,4,none⟩=some (.int .i64 a0_4)∧w'.cell? ⟨gb244,5,none⟩=some (.slice A0_5 l0_5.length c0_5)∧w'.cell? ⟨gb245,0,none⟩=some (.string a1_0)∧w'.cell? ⟨gb245,1,none⟩=some (.string a1_1)∧w'.cell? ⟨gb245,2,none⟩=some (.int .i64 a1_2)∧w'.cell? ⟨gb245,3,none⟩=some (.int .i64 a1_3)∧w'.cell? ⟨gb245,4,none⟩=some (.int .i64 a1_4)∧w'.cell? ⟨gb245,5,none⟩=some (.slice A1_5 l1_5.length c1_5)) (ds:=[]) #[false,false,false,false,false,false,false,false,false,false,false] (by kernel_rfl) rfl rfl ⟨(blk_cell BK244.out 0).trans rfl,(blk_cell BK244.out 1).trans rfl,(blk_cell BK244.out 2).trans rfl,(blk_cell BK244.out 3).trans rfl,(blk_cell BK244.out 4).trans rfl,(blk_cell BK244.out 5).trans rfl,(blk_cell BK245.out 0).trans rfl,(blk_cell BK245.out 1).trans rfl,(blk_cell BK245.out 2).trans rfl,(blk_cell BK245.out 3).trans rfl,(blk_cell BK245.out 4).trans rfl,(blk_cell BK245.out 5).trans rfl⟩ (fun hHeld=>?_);refine with_tabW lw47_StmtFollows.tab3 lw47_StmtFollows.bits3 (fun HT_ HW_=>?_);generalize wc.drew=w24 at BK244 BK245 HB hHeld ⊢;refine tA 0 14 HT_.out HW_.out hHeld ?_;refine tA 1 15 HT_.out HW_.out hHeld ?_;refine tA 3 17 HT_.out HW_.out hHeld ?_;refine tA 4 18 HT_.out HW_.out hHeld ?_;refine one_ (i:=2) (N:=some 16) #[true,true,true,true,true,false,false,false,false,false,false] rfl rfl (one_of HT_.out (by kernel_rfl)) (by decide) (fun K hK=>?_);refine goes_ Tryd.func14 (by kernel_rfl) rfl #[.agg #[.string a0_0,.string a0_1,.int .i64 a0_2,.int .i64 a0_3,.int .i64 a0_4,.slice A0_5 l0_5.length c0_5],.agg #[.string a1_0,.string a1_1,.int .i64 a1_2,.int .i64 a1_3,.int .i64 a1_4,.slice A1_5 l1_5.length c1_5]] (by rfl) rfl rfl zq28 ?_;with_reducible refine (stmt_Follows.calls kj2 a0_0 a0_1 a0_2 a0_3 a0_4 _ _ l0_5 a1_0 a1_1 a1_2 a1_3 a1_4 _ _ l1_5 t249 _ ?side1 ?side2 ?side3 ?side4 A20.out (gl_below HG.out zq104)).mono ?_
    (case side1=>exact zq25)
    (case side2=>exact HC0_5.out)
    (case side3=>exact zq26)
    (case side4=>exact HC1_5.out)
    rintro e w25 ⟨rfl,hb⟩;refine ⟨_,rfl,?_⟩;replace BK244:=bkm BK244 hb;replace BK245:=bkm BK245 hb;replace HB:=hbm HB hb;clear hb;refine hK.out _ _ ⟨(blk_cell BK244.out 0).trans rfl,(blk_cell BK244.out 1).trans rfl,(blk_cell BK244.out 2).trans rfl,(blk_cell BK244.out 3).trans rfl,(blk_cell BK244.out 4).trans rfl,(blk_cell BK244.out 5).trans rfl,(blk_cell BK245.out 0).trans rfl,(blk_cell BK245.out 1).trans rfl,(blk_cell BK245.out 2).trans rfl,(blk_cell BK245.out 3).trans rfl,(blk_cell BK245.out 4).trans rfl,(blk_cell BK245.out 5).trans rfl⟩ (fun hHeld=>?_);clear hK K;refine nA 16 ?_;refine one_ (i:=5) (N:=some 19) #[true,true,true,true,true,true,false,false,false,false,false] rfl rfl (one_of HT_.out (by kernel_rfl)) (by decide) (fun K hK=>?_);refine goes_ Tryd.func15 (by kernel_rfl) rfl #[.agg #[.string a0_0,.string a0_1,.int .i64 a0_2,.int .i64 a0_3,.int .i64 a0_4,.slice A0_5 l0_5.length c0_5],.agg #[.string a1_0,.string a1_1,.int .i64 a1_2,.int .i64 a1_3,.int .i64 a1_4,.slice A1_5 l1_5.length c1_5]] (by rfl) rfl rfl zq28 ?_;with_reducible refine (rf47_Follows.calls kj2 a0_0 a0_1 a0_2 a0_3 a0_4 _ _ l0_5 a1_0 a1_1 a1_2 a1_3 a1_4 _ _ l1_5 t250 _ ?side1 ?side2 ?side3 ?side4 A21.out).mono ?_
    (case side1=>exact zq25)
    (case side2=>exact HC0_5.out)
    (case side3=>exact zq26)
    (case side4=>exact HC1_5.out)
    rintro e w26 ⟨rfl,hb⟩;refine ⟨_,rfl,?_⟩;replace BK244:=bkm BK244 hb;replace BK245:=bkm BK245 hb;replace HB:=hbm HB hb;clear hb;refine hK.out _ _ ⟨(blk_cell BK244.out 0).trans rfl,(blk_cell BK244.out 1).trans rfl,(blk_cell BK244.out 2).trans rfl,(blk_cell BK244.out 3).trans rfl,(blk_cell BK244.out 4).trans rfl,(blk_cell BK244.out 5).trans rfl,(blk_cell BK245.out 0).trans rfl,(blk_cell BK245.out 1).trans rfl,(blk_cell BK245.out 2).trans rfl,(blk_cell BK245.out 3).trans rfl,(blk_cell BK245.out 4).trans rfl,(blk_cell BK245.out 5).trans rfl⟩ (fun hHeld=>?_);clear hK K;refine nA 19 ?_;refine pA 6 20 HT_.out ?_;refine pA 7 21 HT_.out ?_;refine one_ (i:=8) (N:=some 22) #[true,true,true,true,true,true,true,true,true,false,false] rfl rfl (one_of HT_.out (by kernel_rfl)) (by decide) (fun K hK=>?_);refine goes_ Tryd.func11 (by kernel_rfl) rfl #[] (by rfl) rfl rfl zq28 ?_;with_reducible refine (lw47_lives.calls  t251 _ A23.out (gl_below HG.out zq104)).mono ?_
    rintro e w27 ⟨rfl,hb⟩;refine ⟨_,rfl,?_⟩;replace BK244:=bkm BK244 hb;replace BK245:=bkm BK245 hb;replace HB:=hbm HB hb;clear hb;refine hK.out _ _ ⟨(blk_cell BK244.out 0).trans rfl,(blk_cell BK244.out 1).trans rfl,(blk_cell BK244.out 2).trans rfl,(blk_cell BK244.out 3).trans rfl,(blk_cell BK244.out 4).trans rfl,(blk_cell BK244.out 5).trans rfl,(blk_cell BK245.out 0).trans rfl,(blk_cell BK245.out 1).trans rfl,(blk_cell BK245.out 2).trans rfl,(blk_cell BK245.out 3).trans rfl,(blk_cell BK245.out 4).trans rfl,(blk_cell BK245.out 5).trans rfl⟩ (fun hHeld=>?_);clear hK K;refine nA 22 ?_;refine pA 9 23 HT_.out ?_;refine pA 10 4 HT_.out ?_;refine done_ (done_of HT_.out (by kernel_rfl)) ?_;try go_wp2
    go_ret
    exact ⟨zq10,zq103⟩
   have c22b0:(t249 == t250)=false:=by simpa using c22
   (try (have c22b1:decide (t249=t250)=false:=by simpa using c22))
   (try (have c22b2:(t249 == t250)=false:=by simpa using c22))
   (try (have c22b3:¬ (t249=t250):=by simpa using c22))
   clear c22;obtain rfl:=Option.some.inj H;try go_wp2
   replace BK244:=sd (blk_drew BK244.out);replace BK245:=sd (blk_drew BK245.out);replace HB:=sd (below_drew1 HB.out);refine start_ (n:=11) (S:=fun w'=>w'.cell? ⟨gb244,0,none⟩=some (.string a0_0)∧w'.cell? ⟨gb244,1,none⟩=some (.string a0_1)∧w'.cell? ⟨gb244,2,none⟩=some (.int .i64 a0_2)∧w'.cell? ⟨gb244,3,none⟩=some (.int .i64 a0_3)∧w'.cell? ⟨gb244,4,none⟩=some (.int .i64 a0_4)∧w'.cell? ⟨gb244,5,none⟩=some (.slice A0_5 l0_5.length c0_5)∧w'.cell? ⟨gb245,0,none⟩=some (.string a1_0)∧w'.cell? ⟨gb245,1,none⟩=some (.string a1_1)∧w'.cell? ⟨gb245,2,none⟩=some (.int .i64 a1_2)∧w'.cell? ⟨gb245,3,none⟩=some (.int .i64 a1_3)∧w'.cell? ⟨gb245,4,none⟩=some (.int .i64 a1_4)∧w'.cell? ⟨gb245,5,none⟩=some (.slice A1_5 l1_5.length c1_5)) (ds:=[]) #[false,false,false,false,false,false,false,false,false,false,false] (by kernel_rfl) rfl rfl ⟨(blk_cell BK244.out 0).trans rfl,(blk_cell BK244.out 1).trans rfl,(blk_cell BK244.out 2).trans rfl,(blk_cell BK244.out 3).trans rfl,(blk_cell BK244.out 4).trans rfl,(blk_cell BK244.out 5).trans rfl,(blk_cell BK245.out 0).trans rfl,(blk_cell BK245.out 1).trans rfl,(blk_cell BK245.out 2).trans rfl,(blk_cell BK245.out 3).trans rfl,(blk_cell BK245.out 4).trans rfl,(blk_cell BK245.out 5).trans rfl⟩ (fun hHeld=>?_);refine with_tabW lw47_StmtFollows.tab3 lw47_StmtFollows.bits3 (fun HT_ HW_=>?_);generalize wc.drew=w28 at BK244 BK245 HB hHeld ⊢;refine tA 0 14 HT_.out HW_.out hHeld ?_;refine tA 1 15 HT_.out HW_.out hHeld ?_;refine tA 3 17 HT_.out HW_.out hHeld ?_;refine tA 4 18 HT_.out HW_.out hHeld ?_;refine one_ (i:=2) (N:=some 16) #[true,true,true,true,true,false,false,false,false,false,false] rfl rfl (one_of HT_.out (by kernel_rfl)) (by decide) (fun K hK=>?_);refine goes_ Tryd.func14 (by kernel_rfl) rfl #[.agg #[.string a0_0,.string a0_1,.int .i64 a0_2,.int .i64 a0_3,.int .i64 a0_4,.slice A0_5 l0_5.length c0_5],.agg #[.string a1_0,.string a1_1,.int .i64 a1_2,.int .i64 a1_3,.int .i64 a1_4,.slice A1_5 l1_5.length c1_5]] (by rfl) rfl rfl zq28 ?_;with_reducible refine (stmt_Follows.calls kj2 a0_0 a0_1 a0_2 a0_3 a0_4 _ _ l0_5 a1_0 a1_1 a1_2 a1_3 a1_4 _ _ l1_5 t249 _ ?side1 ?side2 ?side3 ?side4 A20.out (gl_below HG.out zq104)).mono ?_
   (case side1=>exact zq25)
   (case side2=>exact HC0_5.out)
   (case side3=>exact zq26)
   (case side4=>exact HC1_5.out)
   rintro e w29 ⟨rfl,hb⟩;refine ⟨_,rfl,?_⟩;replace BK244:=bkm BK244 hb;replace BK245:=bkm BK245 hb;replace HB:=hbm HB hb;clear hb;refine hK.out _ _ ⟨(blk_cell BK244.out 0).trans rfl,(blk_cell BK244.out 1).trans rfl,(blk_cell BK244.out 2).trans rfl,(blk_cell BK244.out 3).trans rfl,(blk_cell BK244.out 4).trans rfl,(blk_cell BK244.out 5).trans rfl,(blk_cell BK245.out 0).trans rfl,(blk_cell BK245.out 1).trans rfl,(blk_cell BK245.out 2).trans rfl,(blk_cell BK245.out 3).trans rfl,(blk_cell BK245.out 4).trans rfl,(blk_cell BK245.out 5).trans rfl⟩ (fun hHeld=>?_);clear hK K;refine nA 16 ?_;refine one_ (i:=5) (N:=some 19) #[true,true,true,true,true,true,false,false,false,false,false] rfl rfl (one_of HT_.out (by kernel_rfl)) (by decide) (fun K hK=>?_);refine goes_ Tryd.func15 (by kernel_rfl) rfl #[.agg #[.string a0_0,.string a0_1,.int .i64 a0_2,.int .i64 a0_3,.int .i64 a0_4,.slice A0_5 l0_5.length c0_5],.agg #[.string a1_0,.string a1_1,.int .i64 a1_2,.int .i64 a1_3,.int .i64 a1_4,.slice A1_5 l1_5.length c1_5]] (by rfl) rfl rfl zq28 ?_;with_reducible refine (rf47_Follows.calls kj2 a0_0 a0_1 a0_2 a0_3 a0_4 _ _ l0_5 a1_0 a1_1 a1_2 a1_3 a1_4 _ _ l1_5 t250 _ ?side1 ?side2 ?side3 ?side4 A21.out).mono ?_
   (case side1=>exact zq25)
   (case side2=>exact HC0_5.out)
   (case side3=>exact zq26)
   (case side4=>exact HC1_5.out)
   rintro e w30 ⟨rfl,hb⟩;refine ⟨_,rfl,?_⟩;replace BK244:=bkm BK244 hb;replace BK245:=bkm BK245 hb;replace HB:=hbm HB hb;clear hb;refine hK.out _ _ ⟨(blk_cell BK244.out 0).trans rfl,(blk_cell BK244.out 1).trans rfl,(blk_cell BK244.out 2).trans rfl,(blk_cell BK244.out 3).trans rfl,(blk_cell BK244.out 4).trans rfl,(blk_cell BK244.out 5).trans rfl,(blk_cell BK245.out 0).trans rfl,(blk_cell BK245.out 1).trans rfl,(blk_cell BK245.out 2).trans rfl,(blk_cell BK245.out 3).trans rfl,(blk_cell BK245.out 4).trans rfl,(blk_cell BK245.out 5).trans rfl⟩ (fun hHeld=>?_);clear hK K;refine nA 19 ?_;refine pA 6 20 HT_.out ?_;refine pA 7 21 HT_.out ?_;refine oA 8 22 HT_.out ?_;refine pA 9 23 HT_.out ?_;refine pA 10 4 HT_.out ?_;refine done_ (done_of HT_.out (by kernel_rfl)) ?_;try go_wp2
   go_ret
   exact ⟨zq10,zq103⟩
end Go.Proofs.YtmlcdpfcafmmcaaDoor.A
