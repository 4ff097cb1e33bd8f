-- By pack.py, a program of this session's.
import Derived.Test.YtlblkojjpagbkaaDoorZ13
import Derived.Test.YtlblkojjpagbkaaDoorZ14
import Derived.Test.YtlblkojjpagbkaaDoorZ15
set_option linter.unusedVariables false
set_option linter.unusedSimpArgs false
namespace Go.Proofs.YtlblkojjpagbkaaDoor
namespace A
open Go.RowKit B WW WL WM
attribute [local go_sem] max2_int min2_int max_two min_two max_three min_three max_four min_four
set_option maxHeartbeats 8000000
set_option maxRecDepth 100000
theorem testK_calls {c:S27} {f:Nat} {cap:Array Value} {g gn gs:Nat} {w:World} (hE:CEnv w g gn gs c) (hK:TestK c f cap g gn gs) (d a:Int) (rf tx:ByteArray) (h1:rf.size < 4294967281) (h2:tx.size < 4294967281) (hm:MxAt w) :
  Calls Tryd.prog f (#[lineV d a rf tx]++cap) w fun e w'=>e=.returned (.bool (testF c d a rf tx))∧Below w.heap.size w w':=by
 have hz:(sOfC c rf tx).size < 4294967281:=by unfold sOfC;split <;> assumption
 unfold testF;rcases hK with ⟨e,rfl,rfl⟩|⟨e,rfl,rfl⟩|⟨e,rfl,rfl⟩|⟨e,rfl,rfl⟩|⟨⟨e2,e3,e4,e5⟩,⟨e,rfl,rfl⟩|⟨e,rfl,rfl⟩⟩
 ·rw [if_pos e];exact least_calls g gn gs c d a rf tx w hE
 ·rw [if_neg (by omega),if_pos e];exact most_calls g gn gs c d a rf tx w hE
 ·rw [if_neg (by omega),if_neg (by omega),if_pos e];exact has_calls g gn gs c d a rf tx w hE hz hm.2
 ·rw [if_neg (by omega),if_neg (by omega),if_neg (by omega),if_pos e];exact begins_calls g gn gs c d a rf tx w hE
 ·rw [if_neg e2,if_neg e3,if_neg e4,if_neg e5,if_pos e];exact same_calls g gn gs c d a rf tx w hE
 ·rw [if_neg e2,if_neg e3,if_neg e4,if_neg e5,if_neg e];refine (is_calls g gn gs c d a rf tx w hE).mono ?_;rintro e w' ⟨rfl,hb⟩;refine ⟨?_,hb⟩;congr 2
  rw [Bool.eq_iff_iff,beq_iff_eq,decide_eq_true_iff]
theorem rules_Holds.calls (k:Nat) (a0_0:ByteArray) (A0_1:Option Addr) (c0_1:Nat) (l0_1:List S27) (a0_2 a0_3:ByteArray) (A0_4:Option Addr) (c0_4:Nat) (l0_4:List S35) (a1_0 a1_1:Int) (a1_2 a1_3:ByteArray) (r:Bool) (w:World) (hr0_1:Kd.C k27 w A0_1 l0_1.length l0_1) (hc0_1:l0_1.length≤c0_1) (hr0_4:Kd.C k35 w A0_4 l0_4.length l0_4) (hc0_4:l0_4.length≤c0_4) (h:rules_Holds.f k a0_0 l0_1 a0_2 a0_3 l0_4 a1_0 a1_1 a1_2 a1_3=some r) (hG:Gl w) :
  Calls Tryd.prog 5 #[.agg #[.string a0_0,.slice A0_1 l0_1.length c0_1,.string a0_2,.string a0_3,.slice A0_4 l0_4.length c0_4],.agg #[.int .i64 a1_0,.int .i64 a1_1,.string a1_2,.string a1_3]] w fun e w'=>e=.returned (.bool r)∧Below w.heap.size w w':=by
 unfold rules_Holds.f at h;obtain ⟨ck,hck,h⟩:=Option.bind_eq_some_iff.mp h;have H:=sd h;have HR1:=sd hr0_1;have HC1:=sd hc0_1;have HR4:=sd hr0_4;have HC4:=sd hc0_4;have HG:=sd hG;have CK:=sd (fun W (h1:Kd.C k27 W A0_1 l0_1.length l0_1) (h4:Kd.C k35 W A0_4 l0_4.length l0_4)=>rules_Check.calls k a0_0 A0_1 c0_1 l0_1 a0_2 a0_3 A0_4 c0_4 l0_4 ck W h1 hc0_1 h4 hc0_4 hck);clear h hck hr0_1 hc0_1 hr0_4 hc0_4 hG;generalize hQ:(fun (e:Ending) (w':World)=>e=.returned (.bool r)∧Below w.heap.size w w')=Post;have HQ:=sd hQ;clear hQ;go_enter Tryd.func5,Tryd.ntmps5
 go_upto_region 1 with (fail)
 have hB1:=below_alloc (Below.refl w.heap.size w) (Obj.cells #[Value.string a0_0,Value.slice A0_1 l0_1.length c0_1,Value.string a0_2,Value.string a0_3,Value.slice A0_4 l0_4.length c0_4] 25);have hs1:(w.alloc (Obj.cells #[Value.string a0_0,Value.slice A0_1 l0_1.length c0_1,Value.string a0_2,Value.string a0_3,Value.slice A0_4 l0_4.length c0_4] 25)).heap.size=w.heap.size+1:=Array.size_push _;have b2:(w.alloc (Obj.cells #[Value.string a0_0,Value.slice A0_1 l0_1.length c0_1,Value.string a0_2,Value.string a0_3,Value.slice A0_4 l0_4.length c0_4] 25)).heap[w.heap.size]?=some (.cells #[Value.string a0_0,Value.slice A0_1 l0_1.length c0_1,Value.string a0_2,Value.string a0_3,Value.slice A0_4 l0_4.length c0_4] 25 (0,0)):=blk_new _ _;rw [← hs1];obtain ⟨g2,hg2⟩:∃ g,g=w.heap.size:=⟨_,rfl⟩
 rw [← hg2] at b2;rw [show (⟨w.heap.size,0,none⟩:Addr)=⟨g2,0,none⟩ from by rw [hg2]];clear hs1;generalize w.alloc (Obj.cells #[Value.string a0_0,Value.slice A0_1 l0_1.length c0_1,Value.string a0_2,Value.string a0_3,Value.slice A0_4 l0_4.length c0_4] 25)=w1 at *;have hB2:=below_alloc (Below.refl w1.heap.size w1) (Obj.cells #[Value.int IntKind.i64 a1_0,Value.int IntKind.i64 a1_1,Value.string a1_2,Value.string a1_3] 29);have b3:(w1.alloc (Obj.cells #[Value.int IntKind.i64 a1_0,Value.int IntKind.i64 a1_1,Value.string a1_2,Value.string a1_3] 29)).heap[w1.heap.size]?=some (.cells #[Value.int IntKind.i64 a1_0,Value.int IntKind.i64 a1_1,Value.string a1_2,Value.string a1_3] 29 (0,0)):=blk_new _ _;replace b2:=blk_below b2 hB2;obtain ⟨g3,hg3⟩:∃ g,g=w1.heap.size:=⟨_,rfl⟩
 rw [← hg3] at b3;rw [show (⟨w1.heap.size,0,none⟩:Addr)=⟨g3,0,none⟩ from by rw [hg3]];have HB:=sd (hB1.trans (hB2.mono hB1.size));clear hB1 hB2 hg2 hg3;generalize w1.alloc (Obj.cells #[Value.int IntKind.i64 a1_0,Value.int IntKind.i64 a1_1,Value.string a1_2,Value.string a1_3] 29)=w2 at *;have B2:=sd b2;have B3:=sd b3;clear b2 b3;have k_:=bk5 B2;obtain ⟨r0,r1,r2,r3,r4,_,_,_,_,_⟩:=k_;go_wp2_with fail
 refine (CK.out _ (Kd.C_below HR1.out HB.out) (Kd.C_below HR4.out HB.out)).mono ?_;rintro e w3 ⟨rfl,hb⟩;replace B2:=sd (blk_below B2.out hb);replace B3:=sd (blk_below B3.out hb);replace HB:=sd (HB.out.trans (hb.mono HB.out.size));clear hb r0 r1 r2 r3 r4 w1 CK;have h:=H.out;clear H;by_cases hz:ck=0
 case neg =>
  have q0:decide (ck=0)=false:=decide_eq_false hz;rw [if_neg hz] at h;obtain rfl:=Option.some.inj h;go_wp2_with fail
  rw [← HQ.out];exact ⟨by (try rfl),HB.out⟩
 subst hz;rw [if_pos rfl] at h;split at h
 case isFalse=>cases h
 rename_i hsz
 have HZ:=sd hsz;have HE:=sd (Option.some.inj h);clear h hsz;have k_:=bk5 B2;obtain ⟨r0,r1,r2,r3,r4,_,_,_,_,_⟩:=k_;go_wp2_with fail
 go_loopw [13] (fun n_ wr=>∃ (i:Nat),i≤l0_1.length∧n_=.int .i64 (i:Int)∧Aside0 (∀ x∈l0_1.take i,testF x a1_0 a1_1 a1_2 a1_3=true)∧Aside0 (Below w.heap.size w wr)∧Aside0 (wr.heap[g2]?=some (.cells #[Value.string a0_0,Value.slice A0_1 l0_1.length c0_1,Value.string a0_2,Value.string a0_3,Value.slice A0_4 l0_4.length c0_4] 25 (0,0)))∧Aside0 (wr.heap[g3]?=some (.cells #[Value.int IntKind.i64 a1_0,Value.int IntKind.i64 a1_1,Value.string a1_2,Value.string a1_3] 29 (0,0)))) (fun n_ _=>(l0_1.length - (RowKit.intOf n_).toNat))
 case atStart=>exact ⟨0,Nat.zero_le _,rfl,⟨fun x hx=>(by cases hx)⟩,HB,B2,B3⟩
 case round =>
  clear HB B2 B3;obtain ⟨i,hi,rfl,HU,HB,B2,B3⟩:=hrel;rename World=>wr
  by_cases hlt:i < l0_1.length
  case neg =>
   obtain rfl:i=l0_1.length:=by omega
   have hlt':¬ (l0_1.length:Int) < (l0_1.length:Int):=by omega
   have hall:(l0_1.all fun c=>testF c a1_0 a1_1 a1_2 a1_3)=true:=by
    rw [List.all_eq_true];intro x hx;exact HU.out x (by rw [List.take_length];exact hx)
   have hr:r=true:=HE.out.symm.trans hall;clear hall;subst hr;go_wp2_with fail
   rw [← HQ.out];exact ⟨by (try rfl),HB.out⟩
  have hlt':(i:Int) < (l0_1.length:Int):=by omega
  have h0:(0:Int)≤(i:Int):=by omega
  have hmx:l0_1.length≤9223372036854775807:=HR1.out.2.1;have hw:wrap64 ((i:Int)+1)=((i+1:Nat):Int):=by unfold wrap64;omega
  obtain ⟨ad,e,x0,x1,x2,x3⟩:=at_T27 HR1.out (i:Int) (by omega) (by omega);replace x0:=(HB.out.cell (World.block_lt_of_cell? w _ x0)).trans x0;replace x1:=(HB.out.cell (World.block_lt_of_cell? w _ x1)).trans x1;replace x2:=(HB.out.cell (World.block_lt_of_cell? w _ x2)).trans x2;replace x3:=(HB.out.cell (World.block_lt_of_cell? w _ x3)).trans x3
  cases e
  simp only [Int.toNat_natCast] at x0 x1 x2 x3
  go_wp2_with fail
  clear x0 x1 x2 x3 r0 r1 r2 r3 r4;obtain ⟨c,hc⟩:∃ c,rd_T27 l0_1 (i:Int)=c:=⟨_,rfl⟩
  rw [hc];have HCc:=sd hc;clear hc;have hB1:=below_alloc (Below.refl wr.heap.size wr) (Obj.cells #[Value.int IntKind.i64 c.f0,Value.int IntKind.i64 c.f1,Value.string c.f2,Value.int IntKind.i64 c.f3] 27);have b6:(wr.alloc (Obj.cells #[Value.int IntKind.i64 c.f0,Value.int IntKind.i64 c.f1,Value.string c.f2,Value.int IntKind.i64 c.f3] 27)).heap[wr.heap.size]?=some (.cells #[Value.int IntKind.i64 c.f0,Value.int IntKind.i64 c.f1,Value.string c.f2,Value.int IntKind.i64 c.f3] 27 (0,0)):=blk_new _ _;replace B2:=sd (blk_below B2.out hB1);replace B3:=sd (blk_below B3.out hB1);replace HB:=sd (HB.out.trans (hB1.mono HB.out.size));clear hB1;generalize wr.alloc (Obj.cells #[Value.int IntKind.i64 c.f0,Value.int IntKind.i64 c.f1,Value.string c.f2,Value.int IntKind.i64 c.f3] 27)=w4 at *;obtain ⟨g6,hg6⟩:∃ g,g=wr.heap.size:=⟨_,rfl⟩
  rw [← hg6] at b6 ⊢;have B6:=sd b6;clear b6 hg6;replace B2:=sd (blk_below B2.out (below_drew1 (Below.refl _ _)));replace B3:=sd (blk_below B3.out (below_drew1 (Below.refl _ _)));replace B6:=sd (blk_below B6.out (below_drew1 (Below.refl _ _)));replace HB:=sd (below_drew1 HB.out);have k3:=bk4 B3;have k6:=bk4 B6;refine start_ (n:=5) (S:=fun w'=>w'.cell? ⟨g6,0,none⟩=some (.int .i64 c.f0)∧w'.cell? ⟨g6,1,none⟩=some (.int .i64 c.f1)∧w'.cell? ⟨g6,2,none⟩=some (.string c.f2)∧w'.cell? ⟨g6,3,none⟩=some (.int .i64 c.f3)∧w'.cell? ⟨g3,0,none⟩=some (.int .i64 a1_0)∧w'.cell? ⟨g3,1,none⟩=some (.int .i64 a1_1)∧w'.cell? ⟨g3,2,none⟩=some (.string a1_2)∧w'.cell? ⟨g3,3,none⟩=some (.string a1_3)) (ds:=[]) #[false,false,false,false,false] (by kernel_rfl) rfl rfl ⟨k6.1,k6.2.1,k6.2.2.1,k6.2.2.2.1,k3.1,k3.2.1,k3.2.2.1,k3.2.2.2.1⟩ (fun hHeld=>?_);clear k3 k6;generalize w4.drew=w5 at hHeld B2 B3 B6 HB ⊢;refine tB 0 17 hHeld ?_;refine tB 2 19 hHeld ?_;refine one_ (i:=1) (N:=some 18) #[true,true,true,false,false] rfl rfl (by kernel_rfl) (by decide) (fun K hK=>?_);refine goes_ Tryd.func8 (by kernel_rfl) rfl #[.agg #[Value.int IntKind.i64 c.f0,Value.int IntKind.i64 c.f1,Value.string c.f2,Value.int IntKind.i64 c.f3]] (by rfl) rfl rfl zq28 ?_;refine (test_calls count_calls c w5).mono ?_;rintro e w6 ⟨hb,f,cap,g,gn,gs,rfl,hE,hT⟩;refine ⟨_,rfl,?_⟩;replace B2:=sd (blk_below B2.out hb);replace B3:=sd (blk_below B3.out hb);replace B6:=sd (blk_below B6.out hb);replace HB:=sd (HB.out.trans (hb.mono HB.out.size));clear hb hHeld;have k3:=bk4 B3;have k6:=bk4 B6;refine hK.out _ _ ⟨k6.1,k6.2.1,k6.2.2.1,k6.2.2.2.1,k3.1,k3.2.1,k3.2.2.1,k3.2.2.2.1⟩ (fun hHeld=>?_);clear hK K k3 k6;refine nA 18 ?_;refine one_ (i:=3) (N:=some 20) #[true,true,true,true,false] rfl rfl (by kernel_rfl) (by decide) (fun K hK=>?_)
  have hfn : ∃ fn, Tryd.prog.funcs[f]? = some fn ∧ (fn.name == "runtime.NumGoroutine") = false ∧ fn.body.isSome = true := by
   rcases hT with ⟨_,rfl,_⟩|⟨_,rfl,_⟩|⟨_,rfl,_⟩|⟨_,rfl,_⟩|⟨_,⟨_,rfl,_⟩|⟨_,rfl,_⟩⟩
   ·exact ⟨_,Tryd.func19,by kernel_rfl,rfl⟩
   ·exact ⟨_,Tryd.func20,by kernel_rfl,rfl⟩
   ·exact ⟨_,Tryd.func21,by kernel_rfl,rfl⟩
   ·exact ⟨_,Tryd.func23,by kernel_rfl,rfl⟩
   ·exact ⟨_,Tryd.func26,by kernel_rfl,rfl⟩
   ·exact ⟨_,Tryd.func27,by kernel_rfl,rfl⟩
  obtain ⟨fn,f1,f2,f3⟩:=hfn;refine goesF_ (cap:=cap) f1 f2 f3 (#[lineV a1_0 a1_1 a1_2 a1_3]++cap) (by rfl) rfl rfl (by rfl) (by (try simp only [List.map_toArray,List.map_cons,List.map_nil]);rfl) ?_;refine (testK_calls hE hT a1_0 a1_1 a1_2 a1_3 HZ.out.1 HZ.out.2 (HG.out.2.2.below HB.out)).mono ?_;rintro e w7 ⟨rfl,hb⟩;refine ⟨_,rfl,?_⟩;replace B2:=sd (blk_below B2.out hb);replace B3:=sd (blk_below B3.out hb);replace B6:=sd (blk_below B6.out hb);replace HB:=sd (HB.out.trans (hb.mono HB.out.size));clear hb hHeld hE hT f1 f2 f3;have k3:=bk4 B3;have k6:=bk4 B6;refine hK.out _ _ ⟨k6.1,k6.2.1,k6.2.2.1,k6.2.2.2.1,k3.1,k3.2.1,k3.2.2.1,k3.2.2.2.1⟩ (fun hHeld=>?_);clear hK K k3 k6 hHeld;refine nA 20 ?_;refine pB 4 21 ?_;refine done_ (by kernel_rfl) ?_
  cases hb:testF c a1_0 a1_1 a1_2 a1_3
  ·have hall:(l0_1.all fun c=>testF c a1_0 a1_1 a1_2 a1_3)=false:=by
    rw [Bool.eq_false_iff];intro hh;have:=List.all_eq_true.mp hh c (by rw [← HCc.out];exact rd48_mem l0_1 i hlt);rw [hb] at this;cases this
   have hr:r=false:=HE.out.symm.trans hall;clear hall;subst hr;go_wp2_with fail
   rw [← HQ.out];exact ⟨by (try rfl),HB.out⟩
  ·have HU2:=sd (show ∀ x∈l0_1.take (i+1),testF x a1_0 a1_1 a1_2 a1_3=true from fun x hx=>by
    rw [take48 l0_1 i hlt,List.mem_append,List.mem_singleton] at hx;rcases hx with hx|hx
    ·exact HU.out x hx
    ·rw [hx,HCc.out];exact hb)
   clear HU hb;go_wp2_with fail
   go_roundw
   case rel=>exact ⟨i+1,by omega,(by congr 1),HU2,HB,B2,B3⟩
   case measure=>simp [RowKit.intOf,hw];omega
theorem rules_operand.calls (k:Nat) (a0_0 a0_1:Int) (a0_2:ByteArray) (a0_3:Int) (r:ByteArray) (w:World) (h:rules_operand.f k a0_0 a0_1 a0_2 a0_3=some r) (hG:Gl w) :
  Calls Tryd.prog 29 #[.agg #[.int .i64 a0_0,.int .i64 a0_1,.string a0_2,.int .i64 a0_3]] w fun e w'=>e=.returned (.string r)∧Below w.heap.size w w':=by
 have HG:=sd hG;clear hG;have hu27:=Tryd.underlying27;have HB:=sd (Below.refl w.heap.size w);have H:=h;clear h;unfold rules_operand.f at H;replace H:=ifI H;rcases H with ⟨c2,H⟩|⟨c2,H⟩
 ·obtain ⟨c2b0,c2b1⟩:=eqI c2;clear c2;replace H:=bdI H;obtain ⟨t167,A3,H⟩:=H;(try dsimp only at H)
  obtain rfl:=Option.some.inj H;go_enter Tryd.func29,Tryd.ntmps29
  go_wp2_with (first|((with_reducible refine gate_dst (N:=1) rfl ?_);refine bxA 1 #[.int .i64 a0_0,.int .i64 a0_1,.string a0_2,.int .i64 a0_3] 27 ?_;intro gb166 hg w4 hbox hb;have BK166:=sd (hbox);have GW166:=gem hg HB;have GE166:=GW166;replace HB:=hbm HB hb;clear hb hbox hg;obtain ⟨_,_,_,_,_,_,_,_⟩:=bk4 BK166)|((with_reducible refine gate_callee (f:=45) rfl ?_);refine gL 13 Tryd.func45 #[.int .i64 a0_3] ?_;(with_reducible refine (num_Text.calls a0_3 t167 _ A3.out).mono ?_);rintro e w6 ⟨rfl,hb⟩;refine ⟨_,rfl,?_⟩;replace BK166:=bkm BK166 hb;replace HB:=hbm HB hb;clear hb))
  go_ret
  exact ⟨zq4,zq78⟩
 obtain ⟨c2b0,c2b1⟩:=neI c2;replace H:=ifI H;rcases H with ⟨c7,H⟩|⟨c7,H⟩
 ·obtain ⟨c7b0,c7b1⟩:=eqI c7;clear c7;replace H:=bdI H;obtain ⟨⟨t168,t169⟩,A8,H⟩:=H;(try dsimp only at H)
  obtain rfl:=Option.some.inj H;go_enter Tryd.func29,Tryd.ntmps29
  go_wp2_with (first|((with_reducible refine gate_dst (N:=1) rfl ?_);refine bxA 1 #[.int .i64 a0_0,.int .i64 a0_1,.string a0_2,.int .i64 a0_3] 27 ?_;intro gb166 hg w9 hbox hb;have BK166:=sd (hbox);have GW166:=gem hg HB;have GE166:=GW166;replace HB:=hbm HB hb;clear hb hbox hg;obtain ⟨_,_,_,_,_,_,_,_⟩:=bk4 BK166)|((with_reducible refine gate_callee (f:=46) rfl ?_);refine gL 19 Tryd.func46 #[.int .i64 a0_3] ?_;(with_reducible refine (days_Text.calls k a0_3 t168 t169 _ A8.out (gl_below HG.out (by repeat (first|(with_reducible first|exact HB.out|exact Below.refl _ _|apply below_alloc|apply pw_below_drewN|apply below_drew1|refine below_set ?_ GE166.out)|exact HB.out)))).mono ?_);rintro e w11 ⟨rfl,hb⟩;refine ⟨_,rfl,?_⟩;replace BK166:=bkm BK166 hb;replace HB:=hbm HB hb;clear hb))
  go_ret
  exact ⟨zq4,zq78⟩
 obtain ⟨c7b0,c7b1⟩:=neI c7;replace H:=bdI H;obtain ⟨⟨t170,t171⟩,A12,H⟩:=H;(try dsimp only at H)
 obtain rfl:=Option.some.inj H;go_enter Tryd.func29,Tryd.ntmps29
 go_wp2_with (first|((with_reducible refine gate_dst (N:=1) rfl ?_);refine bxA 1 #[.int .i64 a0_0,.int .i64 a0_1,.string a0_2,.int .i64 a0_3] 27 ?_;intro gb166 hg w13 hbox hb;have BK166:=sd (hbox);have GW166:=gem hg HB;have GE166:=GW166;replace HB:=hbm HB hb;clear hb hbox hg;obtain ⟨_,_,_,_,_,_,_,_⟩:=bk4 BK166)|((with_reducible refine gate_callee (f:=47) rfl ?_);refine gL 26 Tryd.func47 #[.string a0_2] ?_;(with_reducible refine (words_Quote.calls k a0_2 t170 t171 _ A12.out).mono ?_);rintro e w15 ⟨rfl,hb⟩;refine ⟨_,rfl,?_⟩;replace BK166:=bkm BK166 hb;replace HB:=hbm HB hb;clear hb))
 go_ret
 exact ⟨zq4,zq78⟩
theorem rules_Text.calls (k:Nat) (a0:ByteArray) (A1:Option Addr) (c1:Nat) (l1:List S27) (a2 a3:ByteArray) (A4:Option Addr) (c4:Nat) (l4:List S35) (r1:ByteArray) (r2:Int) (w:World) (hr1:Kd.C k27 w A1 l1.length l1) (hc1:l1.length≤c1) (hr4:Kd.C k35 w A4 l4.length l4) (hc4:l4.length≤c4) (h:rules_Text.f k a0 l1 a2 a3 l4=some (r1,r2)) (hG:Gl w) :
  Calls Tryd.prog 9 #[.agg #[.string a0,.slice A1 l1.length c1,.string a2,.string a3,.slice A4 l4.length c4]] w fun e w'=>e=.returned (.tuple #[.string r1,.int .i64 r2])∧Below w.heap.size w w':=by
 unfold rules_Text.f at h;obtain ⟨ec,hec,h⟩:=Option.bind_eq_some_iff.mp h;have HC:=sd hr1;have HCC:=sd hc1;have HT:=sd hr4;have HTC:=sd hc4;have HG:=sd hG;have NC:=sd (fun W hC hT=>rules_Check.calls k a0 A1 c1 l1 a2 a3 A4 c4 l4 ec W hC hc1 hT hc4 hec);have H:=sd h;clear h hr1 hc1 hr4 hc4 hG hec;generalize hQ:(fun (e:Ending) (w':World)=>e=.returned (.tuple #[.string r1,.int .i64 r2])∧Below w.heap.size w w')=Post;have HQ:=sd hQ;clear hQ;go_enter Tryd.func9,Tryd.ntmps9
 go_upto_region 1 with (fail)
 have hB1:=below_alloc (Below.refl w.heap.size w) (Obj.cells #[Value.string a0,Value.slice A1 l1.length c1,Value.string a2,Value.string a3,Value.slice A4 l4.length c4] 25);have b0:(w.alloc (Obj.cells #[Value.string a0,Value.slice A1 l1.length c1,Value.string a2,Value.string a3,Value.slice A4 l4.length c4] 25)).heap[w.heap.size]?=some (.cells #[Value.string a0,Value.slice A1 l1.length c1,Value.string a2,Value.string a3,Value.slice A4 l4.length c4] 25 (0,0)):=blk_new _ _;generalize w.alloc (Obj.cells #[Value.string a0,Value.slice A1 l1.length c1,Value.string a2,Value.string a3,Value.slice A4 l4.length c4] 25)=w1 at *;obtain ⟨g1,hg1⟩:∃ g,g=w.heap.size:=⟨_,rfl⟩
 rw [← hg1] at b0 ⊢;have B1:=sd b0;have HB:=sd hB1;clear b0 hB1 hg1;obtain ⟨z0,z1,z2,z3,z4,y0,y1,y2,y3,y4⟩:=bk5 B1;go_wp2_with fail
 refine (NC.out _ (Kd.C_below HC.out HB.out) (Kd.C_below HT.out HB.out)).mono ?_;rintro e w2 ⟨rfl,hb⟩;replace B1:=sd (blk_below B1.out hb);replace HB:=sd (HB.out.trans (hb.mono HB.out.size));clear hb NC z0 z1 z2 z3 z4 y0 y1 y2 y3 y4;by_cases e0:ec=0
 case neg =>
  have h:=H.out;rw [if_neg e0] at h;obtain ⟨rfl,rfl⟩:=h;obtain ⟨q1,q2⟩:=neI e0;clear e0 H;go_wp2_with fail
  rw [← HQ.out];exact ⟨rfl,HB.out⟩
 have h:=H.out;rw [if_pos e0] at h;subst e0;split at h
 case isFalse=>cases h
 rename_i hn
 obtain ⟨l,hl,h⟩:=Option.bind_eq_some_iff.mp h;have HLN:=sd hn;have HL:=sd hl;have HJ:=sd h;clear H h hl hn;obtain ⟨z0,z1,z2,z3,z4,y0,y1,y2,y3,y4⟩:=bk5 B1;go_upto_region 5 with (fail)
 have HR:=sd (strs_new [ruleB,a0] (Nat.le_of_ble_eq_true rfl) w2 w.heap.size HB.out.size);have hb3:=below_alloc (Below.refl w2.heap.size w2) (Obj.cells #[Value.string ⟨#[114,117,108,101]⟩,Value.string a0] 9);replace B1:=sd (blk_below B1.out hb3);replace HB:=sd (HB.out.trans (hb3.mono HB.out.size));clear hb3 z0 z1 z2 z3 z4 y0 y1 y2 y3 y4;change Aside0 (Kd.R Kd.string 9 (w2.alloc (Obj.cells #[Value.string ⟨#[114,117,108,101]⟩,Value.string a0] 9)) w.heap.size (fun _=>True) (.slice (some ⟨w2.heap.size,0,none⟩) 2 2) [ruleB,a0]) at HR
 obtain ⟨gl,hgl⟩:∃ g,g=w2.heap.size:=⟨_,rfl⟩
 rw [← hgl] at HR ⊢;generalize w2.alloc (Obj.cells #[Value.string ⟨#[114,117,108,101]⟩,Value.string a0] 9)=w3 at *;clear hgl;obtain ⟨z0,z1,z2,z3,z4,y0,y1,y2,y3,y4⟩:=bk5 B1;go_wp2_with fail
 clear z0 z1 z2 z3 z4 y0 y1 y2 y3 y4;go_loopw [5,6,22] (fun l_ k_ n_ wr=>∃ (i:Nat) (l':List ByteArray) (A:Option Addr) (cap:Nat) (link:ByteArray),i≤l1.length∧n_=.int .i64 (i:Int)∧l_=.slice A l'.length cap∧k_=.string link∧Aside0 (l'.length=2+4 * i)∧Aside0 (txC k (l1.drop i) l' link=some l)∧Aside0 (Kd.R Kd.string 9 wr w.heap.size (fun _=>True) (.slice A l'.length cap) l')∧Aside0 (wr.heap[g1]?=some (.cells #[Value.string a0,Value.slice A1 l1.length c1,Value.string a2,Value.string a3,Value.slice A4 l4.length c4] 25 (0,0)))∧Aside0 (Below w.heap.size w wr)) (fun _ _ n_ _=>(l1.length - (RowKit.intOf n_).toNat))
 case atStart=>exact ⟨0,[ruleB,a0],_,_,_,Nat.zero_le _,rfl,rfl,rfl,⟨rfl⟩,HL,HR,B1,HB⟩
 case round =>
  clear HL HR B1 HB;obtain ⟨i,l',A,cap,link,hi,rfl,rfl,rfl,HLL,HL,HR,B1,HB⟩:=hrel;rename World=>wr
  by_cases hlt:i < l1.length
  case neg =>
   obtain rfl:i=l1.length:=by omega
   have hlt':¬ (l1.length:Int) < (l1.length:Int):=by omega
   have hh:=HL.out;rw [List.drop_length,txC] at hh;obtain rfl:=Option.some.inj hh;clear hh HL;obtain ⟨z0,z1,z2,z3,z4,y0,y1,y2,y3,y4⟩:=bk5 B1;go_upto_region 12 with (fail)
   by_cases hp3:a3.toList=[]
   ·rw [if_pos hp3] at HJ;have qe:a3.toList.isEmpty=true:=by rw [hp3];rfl
    go_upto_region 15 with (first|((with_reducible refine gate_builtin (b:=.append) (xs:=#[.tmp 39,.tmp 42]) rfl ?_);refine strs_app (w0:=w) (W:=wr) w.heap.size rfl (.tmp 39) (.tmp 42) 55 rfl Tryd.underlying55 (by kernel_rfl) (.slice A l'.length cap) l' [thenB,a2] rfl rfl HR.out (Nat.le_of_ble_eq_true rfl) zq79 HB.out HB.out.size ?_;intro v1 w10 hR hb hg;obtain ⟨l2,hl2⟩:∃ q,q=l'++[thenB,a2]:=⟨_,rfl⟩;have HLL2:=sd (show l2.length=l'.length+2 by rw [hl2,List.length_append];rfl);rw [← hl2] at hR HJ;clear hl2;obtain ⟨A',cap',rfl⟩:=Kd.R_slice hR;replace B1:=sd (blk_grown B1.out hg (Kd.R_ne HR.out B1.out (by decide)));replace HB:=sd hb;replace HR:=sd hR;clear hb hg hR z0 z1 z2 z3 z4 y0 y1 y2 y3 y4;obtain ⟨z0,z1,z2,z3,z4,y0,y1,y2,y3,y4⟩:=bk5 B1))
    have HLB:=sd (show l2.length≤5000000∧0 < l2.length from by have:=HLN.out.1;have:=HLL.out;have:=HLL2.out;omega);go_wp2_with fail
    clear z0 z1 z2 z3 z4 y0 y1 y2 y3 y4 hp3;(try clear qe)
    (try clear qe2)
    go_loopw [5,55] (fun l_ n_ wr=>∃ (i:Nat) (l3:List ByteArray) (A:Option Addr) (cap:Nat),i≤l4.length∧n_=.int .i64 (i:Int)∧l_=.slice A l3.length cap∧Aside0 (l3.length=l2.length+4 * i)∧Aside0 (txJ (txT (l4.drop i) l3)=some (r1,r2))∧Aside0 (Kd.R Kd.string 9 wr w.heap.size (fun _=>True) (.slice A l3.length cap) l3)∧Aside0 (wr.heap[g1]?=some (.cells #[Value.string a0,Value.slice A1 l1.length c1,Value.string a2,Value.string a3,Value.slice A4 l4.length c4] 25 (0,0)))∧Aside0 (Below w.heap.size w wr)) (fun _ n_ _=>(l4.length - (RowKit.intOf n_).toNat))
    case atStart=>exact ⟨0,l2,_,_,Nat.zero_le _,rfl,rfl,⟨rfl⟩,HJ,HR,B1,HB⟩
    case round =>
     clear HJ HR B1 HB HLL HLL2;(try clear HLL3)
     obtain ⟨i,l3,A,cap,hi,rfl,rfl,HL3,HJ,HR,B1,HB⟩:=hrel;rename World=>wr
     by_cases hlt:i < l4.length
     case neg =>
      obtain rfl:i=l4.length:=by omega
      have hlt':¬ (l4.length:Int) < (l4.length:Int):=by omega
      have hj:=HJ.out;rw [List.drop_length,txT] at hj;unfold txJ at hj;split at hj
      case isFalse=>cases hj
      rename_i hb
      have hpos:0 < l3.length:=by have:=HL3.out;have:=HLB.out.2;omega
      obtain ⟨gj,capj,hform,hgj,hgl,_⟩:=Kd.R_form HR.out hpos;obtain ⟨rfl,rfl⟩:A=some ⟨gj,0,none⟩∧cap=capj:=by cases hform;exact ⟨rfl,rfl⟩
      obtain ⟨_,hcap,hC⟩:=Kd.R_reads' HR.out;obtain ⟨sj,hsj⟩:∃ s,s=joinB l3:=⟨_,rfl⟩
      have NJ:=sd (show Calls Tryd.prog 30 #[.slice (some ⟨gj,0,none⟩) l3.length cap,.string ⟨#[32]⟩] wr fun e w'=>e=.returned (.string sj)∧Below wr.heap.size wr w' from hsj ▸ Tryd.strings_Join gj 0 cap l3 ⟨#[32]⟩ wr (strs_cells hC hpos) hgl hb.1 hcap (by have:=hb.2;unfold joinB at this;simpa [ByteArray.size] using this));rw [← hsj] at hj;have HJJ:=sd hj;clear hsj hj hb hform hgj hgl hcap hC hpos HJ;go_wp2_with fail
      refine NJ.out.mono ?_;rintro e w6 ⟨rfl,hb⟩;replace HB:=sd (HB.out.trans (hb.mono HB.out.size));clear NJ hb HR B1;have hj:=HJJ.out;by_cases hz:400 < sj.size
      ·rw [if_pos hz] at hj;obtain ⟨rfl,rfl⟩:=hj;have hz':(400:Int) < (sj.size:Int):=by omega
       clear HJJ hz;go_wp2_with fail
       rw [← HQ.out];exact ⟨by (try rfl),HB.out⟩
      rw [if_neg hz] at hj;have hz':¬ (400:Int) < (sj.size:Int):=by omega
      obtain ⟨rfl,rfl⟩:=hj;clear HJJ hz;go_wp2_with fail
      rw [← HQ.out];exact ⟨by (try rfl),HB.out⟩
     have hlt':(i:Int) < (l4.length:Int):=by omega
     have h0:(0:Int)≤(i:Int):=by omega
     have hw:wrap64 ((i:Int)+1)=((i+1:Nat):Int):=by have:=HLN.out.2;unfold wrap64;omega
     obtain ⟨ad,e,x0,x1⟩:=at_T35 (Kd.C_below HT.out HB.out) (i:Int) (by omega) (by omega)
     cases e
     simp only [Int.toNat_natCast] at x0 x1
     have hd:l4.drop i=rd_T35 l4 (i:Int) :: l4.drop (i+1):=by
      unfold rd_T35;rw [List.drop_eq_getElem_cons hlt,Int.toNat_natCast,List.getD_eq_getElem?_getD,List.getElem?_eq_getElem hlt];rfl
     obtain ⟨x,hx⟩:∃ x,rd_T35 l4 (i:Int)=x:=⟨_,rfl⟩
     rw [hx] at hd x0 x1;have hh:=HJ.out;rw [hd,txT] at hh;have HN:=sd hh;clear hd hx HJ hh;go_upto_region 18 with (fail)
     have hbx:=below_alloc (Below.refl wr.heap.size wr) (Obj.cells #[Value.string x.f0,Value.string x.f1] 35);have bx:(wr.alloc (Obj.cells #[Value.string x.f0,Value.string x.f1] 35)).heap[wr.heap.size]?=some (.cells #[Value.string x.f0,Value.string x.f1] 35 (0,0)):=blk_new _ _;replace B1:=sd (blk_below B1.out hbx);replace HR:=sd (Kd.R_below HR.out hbx);replace HB:=sd (HB.out.trans (hbx.mono HB.out.size));clear x0 x1 hbx;generalize wr.alloc (Obj.cells #[Value.string x.f0,Value.string x.f1] 35)=w4 at *;obtain ⟨gx,hgx⟩:∃ g,g=wr.heap.size:=⟨_,rfl⟩
     rw [← hgx] at bx ⊢;have BX:=sd bx;clear bx hgx;obtain ⟨k0,k1,_⟩:=bk2 BX;go_wp2_with (first|((with_reducible refine gate_builtin (b:=.append) (xs:=#[.tmp 59,.tmp 64]) rfl ?_);refine strs_app (w0:=w) (W:=w4) w.heap.size rfl (.tmp 59) (.tmp 64) 55 rfl Tryd.underlying55 (by kernel_rfl) (.slice A l3.length cap) l3 [⟨#[116,97,103]⟩,x.f0,⟨#[61]⟩,x.f1] rfl rfl HR.out (Nat.le_of_ble_eq_true rfl) (by have:=HLN.out.2;have:=HLB.out;have:=HL3.out;omega) HB.out HB.out.size ?_;intro v1 w10 hR hb hg;obtain ⟨l5,hl2⟩:∃ q,q=l3++[⟨#[116,97,103]⟩,x.f0,⟨#[61]⟩,x.f1]:=⟨_,rfl⟩;have HL5:=sd (show l5.length=l2.length+4 * (i+1) by rw [hl2,List.length_append,HL3.out];show l2.length+4 * i+4=_;omega);rw [← hl2] at hR HN;clear hl2;obtain ⟨A',cap',rfl⟩:=Kd.R_slice hR;replace B1:=sd (blk_grown B1.out hg (Kd.R_ne HR.out B1.out (by decide)));replace HB:=sd hb;replace HR:=sd hR;clear hb hg hR))
     go_roundw
     case rel=>exact ⟨i+1,l5,_,_,by omega,(by rw [hw]),rfl,HL5,HN,HR,B1,HB⟩
     case measure =>
      refine Nat.sub_lt_sub_left hlt ?_;rw [hw];exact Nat.lt_succ_self i
   rw [if_neg hp3] at HJ;have qe:a3.toList.isEmpty=false:=by cases hl:a3.toList with|nil=>exact absurd hl hp3|cons _ _=>rfl
   have qe2:(!a3.toList.isEmpty)=true:=by rw [qe];rfl
   go_upto_region 15 with (first|((with_reducible refine gate_builtin (b:=.append) (xs:=#[.tmp 39,.tmp 42]) rfl ?_);refine strs_app (w0:=w) (W:=wr) w.heap.size rfl (.tmp 39) (.tmp 42) 55 rfl Tryd.underlying55 (by kernel_rfl) (.slice A l'.length cap) l' [thenB,a2] rfl rfl HR.out (Nat.le_of_ble_eq_true rfl) zq79 HB.out HB.out.size ?_;intro v1 w10 hR hb hg;obtain ⟨l2,hl2⟩:∃ q,q=l'++[thenB,a2]:=⟨_,rfl⟩;have HLL2:=sd (show l2.length=l'.length+2 by rw [hl2,List.length_append];rfl);rw [← hl2] at hR HJ;clear hl2;obtain ⟨A',cap',rfl⟩:=Kd.R_slice hR;replace B1:=sd (blk_grown B1.out hg (Kd.R_ne HR.out B1.out (by decide)));replace HB:=sd hb;replace HR:=sd hR;clear hb hg hR z0 z1 z2 z3 z4 y0 y1 y2 y3 y4;obtain ⟨z0,z1,z2,z3,z4,y0,y1,y2,y3,y4⟩:=bk5 B1)|((with_reducible refine gate_builtin (b:=.append) (xs:=#[.tmp 47,.tmp 50]) rfl ?_);refine strs_app (w0:=w) (W:=w10) w.heap.size rfl (.tmp 47) (.tmp 50) 55 rfl Tryd.underlying55 (by kernel_rfl) (.slice A' l2.length cap') l2 [partyB,a3] rfl rfl HR.out (Nat.le_of_ble_eq_true rfl) (by have:=HLN.out.1;have:=HLL.out;have:=HLL2.out;omega) HB.out HB.out.size ?_;intro v1 w10 hR hb hg;obtain ⟨l2,hl2⟩:∃ q,q=l2++[partyB,a3]:=⟨_,rfl⟩;have HLL3:=sd (show l2.length=l'.length+4 by rw [hl2,List.length_append,HLL2.out];rfl);rw [← hl2] at hR HJ;clear hl2;obtain ⟨A',cap',rfl⟩:=Kd.R_slice hR;replace B1:=sd (blk_grown B1.out hg (Kd.R_ne HR.out B1.out (by decide)));replace HB:=sd hb;replace HR:=sd hR;clear hb hg hR z0 z1 z2 z3 z4 y0 y1 y2 y3 y4;obtain ⟨z0,z1,z2,z3,z4,y0,y1,y2,y3,y4⟩:=bk5 B1))
   have HLB:=sd (show l2.length≤5000000∧0 < l2.length from by have:=HLN.out.1;have:=HLL.out;have:=HLL3.out;omega);go_wp2_with fail
   clear z0 z1 z2 z3 z4 y0 y1 y2 y3 y4 hp3;(try clear qe)
   (try clear qe2)
   go_loopw [5,55] (fun l_ n_ wr=>∃ (i:Nat) (l3:List ByteArray) (A:Option Addr) (cap:Nat),i≤l4.length∧n_=.int .i64 (i:Int)∧l_=.slice A l3.length cap∧Aside0 (l3.length=l2.length+4 * i)∧Aside0 (txJ (txT (l4.drop i) l3)=some (r1,r2))∧Aside0 (Kd.R Kd.string 9 wr w.heap.size (fun _=>True) (.slice A l3.length cap) l3)∧Aside0 (wr.heap[g1]?=some (.cells #[Value.string a0,Value.slice A1 l1.length c1,Value.string a2,Value.string a3,Value.slice A4 l4.length c4] 25 (0,0)))∧Aside0 (Below w.heap.size w wr)) (fun _ n_ _=>(l4.length - (RowKit.intOf n_).toNat))
   case atStart=>exact ⟨0,l2,_,_,Nat.zero_le _,rfl,rfl,⟨rfl⟩,HJ,HR,B1,HB⟩
   case round =>
    clear HJ HR B1 HB HLL HLL2;(try clear HLL3)
    obtain ⟨i,l3,A,cap,hi,rfl,rfl,HL3,HJ,HR,B1,HB⟩:=hrel;rename World=>wr
    by_cases hlt:i < l4.length
    case neg =>
     obtain rfl:i=l4.length:=by omega
     have hlt':¬ (l4.length:Int) < (l4.length:Int):=by omega
     have hj:=HJ.out;rw [List.drop_length,txT] at hj;unfold txJ at hj;split at hj
     case isFalse=>cases hj
     rename_i hb
     have hpos:0 < l3.length:=by have:=HL3.out;have:=HLB.out.2;omega
     obtain ⟨gj,capj,hform,hgj,hgl,_⟩:=Kd.R_form HR.out hpos;obtain ⟨rfl,rfl⟩:A=some ⟨gj,0,none⟩∧cap=capj:=by cases hform;exact ⟨rfl,rfl⟩
     obtain ⟨_,hcap,hC⟩:=Kd.R_reads' HR.out;obtain ⟨sj,hsj⟩:∃ s,s=joinB l3:=⟨_,rfl⟩
     have NJ:=sd (show Calls Tryd.prog 30 #[.slice (some ⟨gj,0,none⟩) l3.length cap,.string ⟨#[32]⟩] wr fun e w'=>e=.returned (.string sj)∧Below wr.heap.size wr w' from hsj ▸ Tryd.strings_Join gj 0 cap l3 ⟨#[32]⟩ wr (strs_cells hC hpos) hgl hb.1 hcap (by have:=hb.2;unfold joinB at this;simpa [ByteArray.size] using this));rw [← hsj] at hj;have HJJ:=sd hj;clear hsj hj hb hform hgj hgl hcap hC hpos HJ;go_wp2_with fail
     refine NJ.out.mono ?_;rintro e w6 ⟨rfl,hb⟩;replace HB:=sd (HB.out.trans (hb.mono HB.out.size));clear NJ hb HR B1;have hj:=HJJ.out;by_cases hz:400 < sj.size
     ·rw [if_pos hz] at hj;obtain ⟨rfl,rfl⟩:=hj;have hz':(400:Int) < (sj.size:Int):=by omega
      clear HJJ hz;go_wp2_with fail
      rw [← HQ.out];exact ⟨by (try rfl),HB.out⟩
     rw [if_neg hz] at hj;have hz':¬ (400:Int) < (sj.size:Int):=by omega
     obtain ⟨rfl,rfl⟩:=hj;clear HJJ hz;go_wp2_with fail
     rw [← HQ.out];exact ⟨by (try rfl),HB.out⟩
    have hlt':(i:Int) < (l4.length:Int):=by omega
    have h0:(0:Int)≤(i:Int):=by omega
    have hw:wrap64 ((i:Int)+1)=((i+1:Nat):Int):=by have:=HLN.out.2;unfold wrap64;omega
    obtain ⟨ad,e,x0,x1⟩:=at_T35 (Kd.C_below HT.out HB.out) (i:Int) (by omega) (by omega)
    cases e
    simp only [Int.toNat_natCast] at x0 x1
    have hd:l4.drop i=rd_T35 l4 (i:Int) :: l4.drop (i+1):=by
     unfold rd_T35;rw [List.drop_eq_getElem_cons hlt,Int.toNat_natCast,List.getD_eq_getElem?_getD,List.getElem?_eq_getElem hlt];rfl
    obtain ⟨x,hx⟩:∃ x,rd_T35 l4 (i:Int)=x:=⟨_,rfl⟩
    rw [hx] at hd x0 x1;have hh:=HJ.out;rw [hd,txT] at hh;have HN:=sd hh;clear hd hx HJ hh;go_upto_region 18 with (fail)
    have hbx:=below_alloc (Below.refl wr.heap.size wr) (Obj.cells #[Value.string x.f0,Value.string x.f1] 35);have bx:(wr.alloc (Obj.cells #[Value.string x.f0,Value.string x.f1] 35)).heap[wr.heap.size]?=some (.cells #[Value.string x.f0,Value.string x.f1] 35 (0,0)):=blk_new _ _;replace B1:=sd (blk_below B1.out hbx);replace HR:=sd (Kd.R_below HR.out hbx);replace HB:=sd (HB.out.trans (hbx.mono HB.out.size));clear x0 x1 hbx;generalize wr.alloc (Obj.cells #[Value.string x.f0,Value.string x.f1] 35)=w4 at *;obtain ⟨gx,hgx⟩:∃ g,g=wr.heap.size:=⟨_,rfl⟩
    rw [← hgx] at bx ⊢;have BX:=sd bx;clear bx hgx;obtain ⟨k0,k1,_⟩:=bk2 BX;go_wp2_with (first|((with_reducible refine gate_builtin (b:=.append) (xs:=#[.tmp 59,.tmp 64]) rfl ?_);refine strs_app (w0:=w) (W:=w4) w.heap.size rfl (.tmp 59) (.tmp 64) 55 rfl Tryd.underlying55 (by kernel_rfl) (.slice A l3.length cap) l3 [⟨#[116,97,103]⟩,x.f0,⟨#[61]⟩,x.f1] rfl rfl HR.out (Nat.le_of_ble_eq_true rfl) (by have:=HLN.out.2;have:=HLB.out;have:=HL3.out;omega) HB.out HB.out.size ?_;intro v1 w10 hR hb hg;obtain ⟨l5,hl2⟩:∃ q,q=l3++[⟨#[116,97,103]⟩,x.f0,⟨#[61]⟩,x.f1]:=⟨_,rfl⟩;have HL5:=sd (show l5.length=l2.length+4 * (i+1) by rw [hl2,List.length_append,HL3.out];show l2.length+4 * i+4=_;omega);rw [← hl2] at hR HN;clear hl2;obtain ⟨A',cap',rfl⟩:=Kd.R_slice hR;replace B1:=sd (blk_grown B1.out hg (Kd.R_ne HR.out B1.out (by decide)));replace HB:=sd hb;replace HR:=sd hR;clear hb hg hR))
    go_roundw
    case rel=>exact ⟨i+1,l5,_,_,by omega,(by rw [hw]),rfl,HL5,HN,HR,B1,HB⟩
    case measure =>
     refine Nat.sub_lt_sub_left hlt ?_;rw [hw];exact Nat.lt_succ_self i
  have hlt':(i:Int) < (l1.length:Int):=by omega
  have h0:(0:Int)≤(i:Int):=by omega
  have hw:wrap64 ((i:Int)+1)=((i+1:Nat):Int):=by have:=HLN.out.1;unfold wrap64;omega
  obtain ⟨ad,e,x0,x1,x2,x3⟩:=at_T27 (Kd.C_below HC.out HB.out) (i:Int) (by omega) (by omega)
  cases e
  simp only [Int.toNat_natCast] at x0 x1 x2 x3
  have hd:l1.drop i=rd_T27 l1 (i:Int) :: l1.drop (i+1):=by
   unfold rd_T27;rw [List.drop_eq_getElem_cons hlt,Int.toNat_natCast,List.getD_eq_getElem?_getD,List.getElem?_eq_getElem hlt];rfl
  obtain ⟨x,hx⟩:∃ x,rd_T27 l1 (i:Int)=x:=⟨_,rfl⟩
  rw [hx] at hd x0 x1 x2 x3;have hh:=HL.out;rw [hd,txC] at hh;obtain ⟨na,hna,hh⟩:=Option.bind_eq_some_iff.mp hh;obtain ⟨nb,hnb,hh⟩:=Option.bind_eq_some_iff.mp hh;obtain ⟨no,hno,hh⟩:=Option.bind_eq_some_iff.mp hh;have NA:=sd (fun W hG=>nmd_calls fieldL fieldB fieldB_L (by decide) fieldB_a _ _ hna W hG);have NB:=sd (fun W hG=>nmd_calls opL opB opB_L (by decide) opB_a _ _ hnb W hG);have NO:=sd (fun W hG=>rules_operand.calls k x.f0 x.f1 x.f2 x.f3 no W hno hG);have HN:=sd hh;clear hd hx HL hh hna hnb hno;obtain ⟨z0,z1,z2,z3,z4,y0,y1,y2,y3,y4⟩:=bk5 B1;go_upto_region 9 with (fail)
  have hbx:=below_alloc (Below.refl wr.heap.size wr) (Obj.cells #[Value.int IntKind.i64 x.f0,Value.int IntKind.i64 x.f1,Value.string x.f2,Value.int IntKind.i64 x.f3] 27);have bx:(wr.alloc (Obj.cells #[Value.int IntKind.i64 x.f0,Value.int IntKind.i64 x.f1,Value.string x.f2,Value.int IntKind.i64 x.f3] 27)).heap[wr.heap.size]?=some (.cells #[Value.int IntKind.i64 x.f0,Value.int IntKind.i64 x.f1,Value.string x.f2,Value.int IntKind.i64 x.f3] 27 (0,0)):=blk_new _ _;replace B1:=sd (blk_below B1.out hbx);replace HR:=sd (Kd.R_below HR.out hbx);replace HB:=sd (HB.out.trans (hbx.mono HB.out.size));clear x0 x1 x2 x3 hbx z0 z1 z2 z3 z4 y0 y1 y2 y3 y4;generalize wr.alloc (Obj.cells #[Value.int IntKind.i64 x.f0,Value.int IntKind.i64 x.f1,Value.string x.f2,Value.int IntKind.i64 x.f3] 27)=w4 at *;obtain ⟨gx,hgx⟩:∃ g,g=wr.heap.size:=⟨_,rfl⟩
  rw [← hgx] at bx ⊢;have BX:=sd bx;clear bx hgx;replace B1:=sd (blk_below B1.out (below_drew1 (Below.refl _ _)));replace BX:=sd (blk_below BX.out (below_drew1 (Below.refl _ _)));replace HR:=sd (Kd.R_below HR.out (below_drew1 (Below.refl _ _)));replace HB:=sd (below_drew1 HB.out);obtain ⟨k0,k1,k2,k3,_⟩:=bk4 BX;refine start_ (n:=13) (S:=fun w'=>w'.cell? ⟨gx,0,none⟩=some (.int .i64 x.f0)∧w'.cell? ⟨gx,1,none⟩=some (.int .i64 x.f1)∧w'.cell? ⟨gx,2,none⟩=some (.string x.f2)∧w'.cell? ⟨gx,3,none⟩=some (.int .i64 x.f3)) (ds:=[11]) #[false,false,false,false,false,false,false,false,false,false,false,false,false] (by kernel_rfl) rfl rfl ⟨k0,k1,k2,k3⟩ (fun hHeld=>?_);clear k0 k1 k2 k3;generalize w4.drew=w5 at hHeld B1 BX HR HB ⊢;refine pB 0 26 ?_;refine pB 1 27 ?_;refine pB 2 28 ?_;refine tB 3 29 hHeld ?_;refine pB 5 31 ?_;refine tB 6 32 hHeld ?_;refine tB 8 34 hHeld ?_;refine one_ (i:=4) (N:=some 30) #[true,true,true,true,true,true,true,false,true,false,false,false,false] rfl rfl (by kernel_rfl) (by decide) (fun K hK=>?_);refine goes_ Tryd.func28 (by kernel_rfl) rfl #[.string fieldB,.int .i64 x.f0] (by rfl) rfl rfl zq28 ?_;refine (NA.out _ (gl_below HG.out HB.out)).mono ?_;rintro e w6 ⟨rfl,hb⟩;refine ⟨_,rfl,?_⟩;replace B1:=sd (blk_below B1.out hb);replace BX:=sd (blk_below BX.out hb);replace HR:=sd (Kd.R_below HR.out hb);replace HB:=sd (HB.out.trans (hb.mono HB.out.size));clear hb hHeld;obtain ⟨k0,k1,k2,k3,_⟩:=bk4 BX;refine hK.out _ _ ⟨k0,k1,k2,k3⟩ (fun hHeld=>?_);clear hK K k0 k1 k2 k3;refine nA 30 ?_;refine one_ (i:=7) (N:=some 33) #[true,true,true,true,true,true,true,true,true,false,false,false,false] rfl rfl (by kernel_rfl) (by decide) (fun K hK=>?_);refine goes_ Tryd.func28 (by kernel_rfl) rfl #[.string opB,.int .i64 x.f1] (by rfl) rfl rfl zq28 ?_;refine (NB.out _ (gl_below HG.out HB.out)).mono ?_;rintro e w7 ⟨rfl,hb⟩;refine ⟨_,rfl,?_⟩;replace B1:=sd (blk_below B1.out hb);replace BX:=sd (blk_below BX.out hb);replace HR:=sd (Kd.R_below HR.out hb);replace HB:=sd (HB.out.trans (hb.mono HB.out.size));clear hb hHeld;obtain ⟨k0,k1,k2,k3,_⟩:=bk4 BX;refine hK.out _ _ ⟨k0,k1,k2,k3⟩ (fun hHeld=>?_);clear hK K k0 k1 k2 k3;refine nA 33 ?_;refine one_ (i:=9) (N:=some 35) #[true,true,true,true,true,true,true,true,true,true,false,false,false] rfl rfl (by kernel_rfl) (by decide) (fun K hK=>?_);refine goes_ Tryd.func29 (by kernel_rfl) rfl #[.agg #[Value.int IntKind.i64 x.f0,Value.int IntKind.i64 x.f1,Value.string x.f2,Value.int IntKind.i64 x.f3]] (by rfl) rfl rfl zq28 ?_;refine (NO.out _ (gl_below HG.out HB.out)).mono ?_;rintro e w8 ⟨rfl,hb⟩;refine ⟨_,rfl,?_⟩;replace B1:=sd (blk_below B1.out hb);replace BX:=sd (blk_below BX.out hb);replace HR:=sd (Kd.R_below HR.out hb);replace HB:=sd (HB.out.trans (hb.mono HB.out.size));clear hb hHeld;obtain ⟨k0,k1,k2,k3,_⟩:=bk4 BX;refine hK.out _ _ ⟨k0,k1,k2,k3⟩ (fun hHeld=>?_);clear hK K k0 k1 k2 k3;refine nA 35 ?_;refine one_ (i:=10) (N:=some 36) #[true,true,true,true,true,true,true,true,true,true,true,false,false] rfl rfl (by kernel_rfl) (by decide) (fun K hK=>?_);refine value_ (v:=.slice (some ⟨w8.heap.size,0,none⟩) 4 4) (w1:=w8.alloc (.cells #[.string link,.string na,.string nb,.string no] 9)) (by rfl) rfl (by go_simp) ?_;have hb9:=below_alloc (Below.refl w8.heap.size w8) (.cells #[.string link,.string na,.string nb,.string no] 9);refine hK.out _ _ ⟨pw_cell_below hb9 hHeld.1,pw_cell_below hb9 hHeld.2.1,pw_cell_below hb9 hHeld.2.2.1,pw_cell_below hb9 hHeld.2.2.2⟩ (fun hHeld=>?_);clear hK K hb9 hHeld;refine nA 36 ?_;refine last_ (i:=11) (N:=some 37) #[true,true,true,true,true,true,true,true,true,true,true,true,false] rfl rfl (by kernel_rfl) (by decide) (fun K hK=>?_);refine strs_step (w0:=w) (W:=w8) w.heap.size (by rfl) (.tmp 26) (.tmp 36) 55 rfl Tryd.underlying55 (by kernel_rfl) (.slice A l'.length cap) l' [link,na,nb,no] rfl rfl HR.out (Nat.le_of_ble_eq_true rfl) zq79 HB.out HB.out.size ?_;intro v1 w10 hR hb hg;obtain ⟨l2,hl2⟩:∃ l2,l2=l'++[link,na,nb,no]:=⟨_,rfl⟩
  have HLL2:=sd (show l2.length=2+4 * (i+1) by rw [hl2,List.length_append,HLL.out];show 2+4 * i+4=_;omega);rw [← hl2] at hR HN;obtain ⟨A',cap',rfl⟩:=Kd.R_slice hR;replace B1:=sd (blk_grown B1.out hg (Kd.R_ne HR.out B1.out (by decide)));replace HB:=sd hb;replace HR:=sd hR;clear hb hg hR BX hl2;refine hK.out _ _ ?_;clear hK K;refine nA 37 ?_;refine pB 12 5 ?_;refine done_ (by kernel_rfl) ?_;go_wp2_with fail
  go_roundw
  case rel=>exact ⟨i+1,l2,_,_,_,by omega,(by rw [hw]),rfl,rfl,HLL2,HN,HR,B1,HB⟩
  case measure =>
   refine Nat.sub_lt_sub_left hlt ?_;rw [hw];exact Nat.lt_succ_self i
theorem values_calls (k bd g:Nat) (p:PR) (vC vT vW:Value) (cs':List S27) (at_ er:Int) (w:World) (hp:RP w bd g p vC vT vW) (hbd:bd≤w.heap.size) (hn:0 < p.cs.length) (hl:p.ws.length≤1000000) (hG:Gl w) (hgb:GlLt bd) (h:valL k p.ws 0 p.cs=some (cs',at_,er)) :
    Calls Tryd.prog 33 #[.pointer (some ⟨g,0,none⟩)] w (ValPost bd g vC vT vW { p with cs:=cs' } at_ er w):=by
  obtain ⟨gc,cap,hvc,hgc,_,_⟩:=Kd.R_form hp.rC hn;subst hvc;obtain ⟨va,vc,hvw⟩:=Kd.R_slice hp.rW;subst hvw;have HP:=sd hp;have HF:=sd (FP.refl bd g (.slice (some ⟨gc,0,none⟩) p.cs.length cap) vT (.slice va p.ws.length vc) w);have HG:=sd (fun W (hb:Below bd w W)=>gl_bd hG hb hgb);have HH:=sd h;have HGC:=sd hgc;have HLW:=sd hl;clear hp hG h hgc hl hgb;generalize hQ:ValPost bd g (.slice (some ⟨gc,0,none⟩) p.cs.length cap) vT (.slice va p.ws.length vc) { p with cs:=cs' } at_ er w=Post;have HQ:=sd hQ;clear hQ;obtain ⟨⟨k0,k1,k2,k3,k4,k5,k6⟩,f0,f1,f2,f3,f4,f5,f6⟩:=HP.out.facts;go_enter Tryd.func33,Tryd.ntmps33
  go_wp2_with fail
  clear k0 k1 k2 k3 k4 k5 k6 f0 f1 f2 f3 f4 f5 f6;go_loopw [3,12] (fun e_ n_ wr=>∃ (i:Nat) (cs:List S27),i≤p.ws.length∧n_=.int .i64 (i:Int)∧e_=.int .i64 0∧cs.length=p.cs.length∧Aside0 (valL k (p.ws.drop i) i cs=some (cs',at_,er))∧Aside0 (RP wr bd g { p with cs:=cs } (.slice (some ⟨gc,0,none⟩) p.cs.length cap) vT (.slice va p.ws.length vc))∧Aside0 (FP bd g (.slice (some ⟨gc,0,none⟩) p.cs.length cap) vT (.slice va p.ws.length vc) w wr)) (fun _ n_ _=>(p.ws.length - (RowKit.intOf n_).toNat))
  case atStart=>exact ⟨0,p.cs,Nat.zero_le _,rfl,rfl,rfl,HH,HP,HF⟩
  case round =>
    clear HH HP HF;obtain ⟨i,cs,hi,rfl,rfl,hcl,HH,HP,HF⟩:=hrel;rename World=>wr
    by_cases hlt:i < p.ws.length
    case neg =>
      obtain rfl:i=p.ws.length:=by omega
      have hlt':¬ (p.ws.length:Int) < (p.ws.length:Int):=by omega
      have hr:=HH.out;rw [List.drop_length] at hr;obtain ⟨rfl,h2⟩:=Prod.mk.inj (Option.some.inj hr);obtain ⟨rfl,rfl⟩:=Prod.mk.inj h2;clear hr h2 HH;go_wp2_with fail
      rw [← HQ.out];exact ⟨by (try rfl),⟨_,_,_,HP.out⟩,HF.out⟩
    have hlt':(i:Int) < (p.ws.length:Int):=by omega
    have h0:(0:Int)≤(i:Int):=by omega
    have hw:wrap64 ((i:Int)+1)=((i+1:Nat):Int):=by have:=HLW.out;unfold wrap64;omega
    obtain ⟨hwl,hwc,hWC⟩:=Kd.R_reads' HP.out.rW;obtain ⟨ad,e,x0,x1,x2⟩:=at_T66 hWC (i:Int) (by omega) (by omega)
    cases e
    simp only [Int.toNat_natCast] at x0 x1 x2
    obtain ⟨⟨k0,k1,k2,k3,k4,k5,k6⟩,f0,f1,f2,f3,f4,f5,f6⟩:=HP.out.facts
    have hd:p.ws.drop i=rd_T66 p.ws (i:Int) :: p.ws.drop (i+1):=by
      unfold rd_T66;rw [List.drop_eq_getElem_cons hlt,Int.toNat_natCast,List.getD_eq_getElem?_getD,List.getElem?_eq_getElem hlt];rfl
    obtain ⟨x,hx⟩:∃ x,rd_T66 p.ws (i:Int)=x:=⟨_,rfl⟩
    rw [hx] at hd x0 x1 x2;have hh:=HH.out;rw [hd,valL] at hh;clear hd hx HH;by_cases hic:i < cs.length
    case neg=>rw [if_neg hic] at hh;cases hh
    rw [if_pos hic] at hh;obtain ⟨c,hc⟩:∃ c,rd_T27 cs (i:Int)=c:=⟨_,rfl⟩
    rw [hc] at hh;obtain ⟨y,hy,hh⟩:=Option.bind_eq_some_iff.mp hh;have HY:=sd hy;have HN:=sd hh;have HCc:=sd hc;have HIC:=sd hic;have hic':(i:Int) < (p.cs.length:Int):=by omega
    clear hy hh hc hic;go_upto_region 4 with (fail)
    have hbx:=below_alloc (Below.refl wr.heap.size wr) (Obj.cells #[Value.int IntKind.i64 x.f0,Value.string x.f1,Value.int IntKind.i64 x.f2] 66);have bx:(wr.alloc (Obj.cells #[Value.int IntKind.i64 x.f0,Value.string x.f1,Value.int IntKind.i64 x.f2] 66)).heap[wr.heap.size]?=some (.cells #[Value.int IntKind.i64 x.f0,Value.string x.f1,Value.int IntKind.i64 x.f2] 66 (0,0)):=blk_new _ _;replace HP:=sd (HP.out.below hbx);replace HF:=sd (HF.out.below hbx hbd);clear x0 x1 x2 hwl hwc hWC k0 k1 k2 k3 k4 k5 k6 f0 f1 f2 f3 f4 f5 f6 hbx;generalize wr.alloc (Obj.cells #[Value.int IntKind.i64 x.f0,Value.string x.f1,Value.int IntKind.i64 x.f2] 66)=w4 at *;obtain ⟨gx,hgx⟩:∃ g,g=wr.heap.size:=⟨_,rfl⟩
    rw [← hgx] at bx ⊢;have BX:=sd bx;clear bx hgx;obtain ⟨⟨k0,k1,k2,k3,k4,k5,k6⟩,f0,f1,f2,f3,f4,f5,f6⟩:=HP.out.facts;obtain ⟨cc,hcl2,hM,hcc,hfr⟩:=Kd.R_elem HP.out.rC z27 (i:Int) (by omega) (by omega)
    have hce:cc=[Value.int .i64 c.f0,.int .i64 c.f1,.string c.f2,.int .i64 c.f3]:=by
      have:=k27_openM hM;rw [this,← HCc.out];rfl
    subst hce;have e0:w4.cell? ⟨gc,i * 4,none⟩=some (.int .i64 c.f0):=hcc 0 _ rfl;have e2:w4.cell? ⟨gc,i * 4+2,none⟩=some (.string c.f2):=hcc 2 _ rfl;have e3:w4.cell? ⟨gc,i * 4+3,none⟩=some (.int .i64 c.f3):=hcc 3 _ rfl;have g2_:w4.frozen? ⟨gc,i * 4+2,none⟩=false:=hfr 2;have g3_:w4.frozen? ⟨gc,i * 4+3,none⟩=false:=hfr 3;clear hcl2 hM hcc hfr;obtain ⟨z0,z1,z2,_,_,_⟩:=bk3 BX;have hy:=HY.out;unfold valC at hy;clear HY;by_cases ea:c.f0=1
    · rw [if_pos ea] at hy
      obtain ⟨⟨n1,er1⟩,hq,hy⟩:=Option.bind_eq_some_iff.mp hy;obtain rfl:=Option.some.inj hy;have HNP:=sd (fun W=>num_Parse.calls x.f1 (-1000000000000) 1000000000000 n1 er1 W hq);have qa:decide (c.f0=1)=true:=decide_eq_true ea;clear hy hq;go_wp2_with fail
      refine (HNP.out _).mono ?_;rintro e w5 ⟨rfl,hd⟩;obtain ⟨⟨nd,rfl⟩⟩:=hd;have hbx:=pw_below_drewN (Below.refl w4.heap.size w4) nd;replace BX:=sd (blk_below BX.out hbx);replace HP:=sd (HP.out.below hbx);replace HF:=sd (HF.out.below hbx hbd);clear e0 e2 e3 g2_ g3_ z0 z1 z2 k0 k1 k2 k3 k4 k5 k6 f0 f1 f2 f3 f4 f5 f6 hbx;generalize w4.drewN nd=w5 at *;obtain ⟨cc,hcl2,hM,hcc,hfr⟩:=Kd.R_elem HP.out.rC z27 (i:Int) (by omega) (by omega)
      have hce:cc=[Value.int .i64 c.f0,.int .i64 c.f1,.string c.f2,.int .i64 c.f3]:=by
        have:=k27_openM hM;rw [this,← HCc.out];rfl
      subst hce;have e0:w5.cell? ⟨gc,i * 4,none⟩=some (.int .i64 c.f0):=hcc 0 _ rfl;have e2:w5.cell? ⟨gc,i * 4+2,none⟩=some (.string c.f2):=hcc 2 _ rfl;have e3:w5.cell? ⟨gc,i * 4+3,none⟩=some (.int .i64 c.f3):=hcc 3 _ rfl;have g2_:w5.frozen? ⟨gc,i * 4+2,none⟩=false:=hfr 2;have g3_:w5.frozen? ⟨gc,i * 4+3,none⟩=false:=hfr 3;clear hcl2 hM hcc hfr;obtain ⟨z0,z1,z2,_,_,_⟩:=bk3 BX;by_cases ez:er1=0
      · have hh:=HN.out
        rw [if_pos ez] at hh;have HH:=sd hh;have qz:decide (er1=0)=true:=decide_eq_true ez;obtain ⟨qz3,qz4⟩:=eqI ez;clear hh HN;go_wp2_with fail
        replace HF:=sd (FP.far (o:=i * 4+3) HF.out HGC.out (Or.inl rfl) (.int .i64 n1));replace HP:=sd (elemC' hcl (j:=3) (u:=.int .i64 n1) (x':={ c with f3:=n1 }) HP.out HIC.out HCc.out (by decide) rfl);go_roundw
        case rel=>exact ⟨i+1,cs.set i ({ c with f3:=n1 }),by omega,(by rw [hw]),(by first|rfl|(rw [ez])),by rw [List.length_set];exact hcl,HH,HP,HF⟩
        case measure =>
          refine Nat.sub_lt_sub_left hlt ?_;rw [hw];exact Nat.lt_succ_self i
      have hh:=HN.out;rw [if_neg ez] at hh;obtain ⟨h1_,h2_⟩:=Prod.mk.inj (Option.some.inj hh);obtain ⟨h3_,h4_⟩:=Prod.mk.inj h2_;clear hh HN h2_;have qz:decide (er1=0)=false:=decide_eq_false ez;obtain ⟨qz3,qz4⟩:=neI ez;rw [← h1_,← h3_,← h4_] at HQ;clear h1_ h3_ h4_;go_wp2_with fail
      replace HF:=sd (FP.far (o:=i * 4+3) HF.out HGC.out (Or.inl rfl) (.int .i64 n1));replace HP:=sd (elemC' hcl (j:=3) (u:=.int .i64 n1) (x':={ c with f3:=n1 }) HP.out HIC.out HCc.out (by decide) rfl);rw [← HQ.out];exact ⟨by (try rfl),⟨_,_,_,HP.out⟩,HF.out⟩
    rw [if_neg ea] at hy;have qa:decide (c.f0=1)=false:=decide_eq_false ea;by_cases eb:c.f0=4
    · rw [if_pos eb] at hy
      obtain ⟨⟨n1,er1⟩,hq,hy⟩:=Option.bind_eq_some_iff.mp hy;obtain rfl:=Option.some.inj hy;have HNP:=sd (fun W (hG:Gl W)=>days_Parse.calls k x.f1 n1 er1 W hq hG);have qb:decide (c.f0=4)=true:=decide_eq_true eb;clear hy hq;go_wp2_with fail
      refine (HNP.out _ (HG.out _ HF.out.b)).mono ?_;rintro e w5 ⟨rfl,hbx⟩;replace BX:=sd (blk_below BX.out hbx);replace HP:=sd (HP.out.below hbx);replace HF:=sd (HF.out.below hbx hbd);clear e0 e2 e3 g2_ g3_ z0 z1 z2 k0 k1 k2 k3 k4 k5 k6 f0 f1 f2 f3 f4 f5 f6 hbx;obtain ⟨cc,hcl2,hM,hcc,hfr⟩:=Kd.R_elem HP.out.rC z27 (i:Int) (by omega) (by omega)
      have hce:cc=[Value.int .i64 c.f0,.int .i64 c.f1,.string c.f2,.int .i64 c.f3]:=by
        have:=k27_openM hM;rw [this,← HCc.out];rfl
      subst hce;have e0:w5.cell? ⟨gc,i * 4,none⟩=some (.int .i64 c.f0):=hcc 0 _ rfl;have e2:w5.cell? ⟨gc,i * 4+2,none⟩=some (.string c.f2):=hcc 2 _ rfl;have e3:w5.cell? ⟨gc,i * 4+3,none⟩=some (.int .i64 c.f3):=hcc 3 _ rfl;have g2_:w5.frozen? ⟨gc,i * 4+2,none⟩=false:=hfr 2;have g3_:w5.frozen? ⟨gc,i * 4+3,none⟩=false:=hfr 3;clear hcl2 hM hcc hfr;obtain ⟨z0,z1,z2,_,_,_⟩:=bk3 BX;by_cases ez:er1=0
      · have hh:=HN.out
        rw [if_pos ez] at hh;have HH:=sd hh;have qz:decide (er1=0)=true:=decide_eq_true ez;obtain ⟨qz3,qz4⟩:=eqI ez;clear hh HN;go_wp2_with fail
        replace HF:=sd (FP.far (o:=i * 4+3) HF.out HGC.out (Or.inl rfl) (.int .i64 n1));replace HP:=sd (elemC' hcl (j:=3) (u:=.int .i64 n1) (x':={ c with f3:=n1 }) HP.out HIC.out HCc.out (by decide) rfl);go_roundw
        case rel=>exact ⟨i+1,cs.set i ({ c with f3:=n1 }),by omega,(by rw [hw]),(by first|rfl|(rw [ez])),by rw [List.length_set];exact hcl,HH,HP,HF⟩
        case measure =>
          refine Nat.sub_lt_sub_left hlt ?_;rw [hw];exact Nat.lt_succ_self i
      have hh:=HN.out;rw [if_neg ez] at hh;obtain ⟨h1_,h2_⟩:=Prod.mk.inj (Option.some.inj hh);obtain ⟨h3_,h4_⟩:=Prod.mk.inj h2_;clear hh HN h2_;have qz:decide (er1=0)=false:=decide_eq_false ez;obtain ⟨qz3,qz4⟩:=neI ez;rw [← h1_,← h3_,← h4_] at HQ;clear h1_ h3_ h4_;go_wp2_with fail
      replace HF:=sd (FP.far (o:=i * 4+3) HF.out HGC.out (Or.inl rfl) (.int .i64 n1));replace HP:=sd (elemC' hcl (j:=3) (u:=.int .i64 n1) (x':={ c with f3:=n1 }) HP.out HIC.out HCc.out (by decide) rfl);rw [← HQ.out];exact ⟨by (try rfl),⟨_,_,_,HP.out⟩,HF.out⟩
    rw [if_neg eb] at hy;have qb:decide (c.f0=4)=false:=decide_eq_false eb;obtain rfl:=Option.some.inj hy;clear hy;have hh:=HN.out;rw [if_pos rfl] at hh;have HH:=sd hh;clear hh HN;go_wp2_with fail
    replace HF:=sd (FP.far (o:=i * 4+2) HF.out HGC.out (Or.inl rfl) (.string x.f1));replace HP:=sd (elemC' hcl (j:=2) (u:=.string x.f1) (x':={ c with f2:=x.f1 }) HP.out HIC.out HCc.out (by decide) rfl);go_roundw
    case rel=>exact ⟨i+1,cs.set i ({ c with f2:=x.f1 }),by omega,(by rw [hw]),rfl,by rw [List.length_set];exact hcl,HH,HP,HF⟩
    case measure =>
      refine Nat.sub_lt_sub_left hlt ?_;rw [hw];exact Nat.lt_succ_self i
end A

end Go.Proofs.YtlblkojjpagbkaaDoor