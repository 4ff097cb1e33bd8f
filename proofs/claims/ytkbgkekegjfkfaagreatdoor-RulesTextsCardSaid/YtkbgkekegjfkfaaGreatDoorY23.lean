-- By pack.py, a program of this session's.
import Derived.Test.YtkbgkekegjfkfaaGreatDoorY20
import Derived.Test.YtkbgkekegjfkfaaGreatDoorY21
set_option linter.unusedVariables false
set_option linter.unusedSimpArgs false
namespace Go.Proofs.YtkbgkekegjfkfaaGreatDoor.A
open Go.RowKit B WW WL WM
attribute [local go_sem] max2_int min2_int max_two min_two max_three min_three max_four min_four
set_option maxHeartbeats 8000000
set_option maxRecDepth 100000
theorem testK_calls {c:S48} {f:Nat} {cap:Array Value} {g gn gs:Nat} {w:World} (hE:CEnv w g gn gs c) (hK:TestK c f cap g gn gs) (d a:Int) (rf tx:ByteArray) (h1:rf.size < 4294967281) (h2:tx.size < 4294967281) (hm:MxAt w) :
  Calls Tryz.prog f (#[lineV d a rf tx]++cap) w fun e w'=>e=.returned (.bool (testF c d a rf tx))∧Below w.heap.size w w':=by
 have hz:(sOfC c rf tx).size < 4294967281:=by unfold sOfC;split <;> assumption
 unfold testF;rcases hK with ⟨e,rfl,rfl⟩ | ⟨e,rfl,rfl⟩ | ⟨e,rfl,rfl⟩ | ⟨e,rfl,rfl⟩ | ⟨⟨e2,e3,e4,e5⟩,⟨e,rfl,rfl⟩ | ⟨e,rfl,rfl⟩⟩
 ·rw [if_pos e];exact least_calls g gn gs c d a rf tx w hE
 ·rw [if_neg (by omega),if_pos e];exact most_calls g gn gs c d a rf tx w hE
 ·rw [if_neg (by omega),if_neg (by omega),if_pos e];exact has_calls g gn gs c d a rf tx w hE hz hm.2
 ·rw [if_neg (by omega),if_neg (by omega),if_neg (by omega),if_pos e];exact begins_calls g gn gs c d a rf tx w hE
 ·rw [if_neg e2,if_neg e3,if_neg e4,if_neg e5,if_pos e];exact same_calls g gn gs c d a rf tx w hE
 ·rw [if_neg e2,if_neg e3,if_neg e4,if_neg e5,if_neg e];refine (is_calls g gn gs c d a rf tx w hE).mono ?_;rintro e w' ⟨rfl,hb⟩;refine ⟨?_,hb⟩;congr 2
  rw [Bool.eq_iff_iff,beq_iff_eq,decide_eq_true_iff]
theorem rules_Holds.calls (k:Nat) (a0_0:ByteArray) (A0_1:Option Addr) (c0_1:Nat) (l0_1:List S48) (a0_2 a0_3:ByteArray) (A0_4:Option Addr) (c0_4:Nat) (l0_4:List S50) (a1_0 a1_1:Int) (a1_2 a1_3:ByteArray) (r:Bool) (w:World) (hr0_1:Kd.C k48 w A0_1 l0_1.length l0_1) (hc0_1:l0_1.length≤c0_1) (hr0_4:Kd.C k50 w A0_4 l0_4.length l0_4) (hc0_4:l0_4.length≤c0_4) (h:rules_Holds.f k a0_0 l0_1 a0_2 a0_3 l0_4 a1_0 a1_1 a1_2 a1_3=some r) (hG:Gl w) :
  Calls Tryz.prog 12 #[.agg #[.string a0_0,.slice A0_1 l0_1.length c0_1,.string a0_2,.string a0_3,.slice A0_4 l0_4.length c0_4],.agg #[.int .i64 a1_0,.int .i64 a1_1,.string a1_2,.string a1_3]] w fun e w'=>e=.returned (.bool r)∧Below w.heap.size w w':=by
 unfold rules_Holds.f at h;obtain ⟨ck,hck,h⟩:=Option.bind_eq_some_iff.mp h;have H:=sd h;have HR1:=sd hr0_1;have HC1:=sd hc0_1;have HR4:=sd hr0_4;have HC4:=sd hc0_4;have HG:=sd hG;have CK:=sd (fun W (h1:Kd.C k48 W A0_1 l0_1.length l0_1) (h4:Kd.C k50 W A0_4 l0_4.length l0_4)=>rules_Check.calls k a0_0 A0_1 c0_1 l0_1 a0_2 a0_3 A0_4 c0_4 l0_4 ck W h1 hc0_1 h4 hc0_4 hck);clear h hck hr0_1 hc0_1 hr0_4 hc0_4 hG;generalize hQ:(fun (e:Ending) (w':World)=>e=.returned (.bool r)∧Below w.heap.size w w')=Post;have HQ:=sd hQ;clear hQ;go_enter Tryz.func12,Tryz.ntmps12
 go_upto_region 1 with (fail)
 have hB1:=below_alloc (Below.refl w.heap.size w) (Obj.cells #[Value.string a0_0,Value.slice A0_1 l0_1.length c0_1,Value.string a0_2,Value.string a0_3,Value.slice A0_4 l0_4.length c0_4] 25);have hs1:(w.alloc (Obj.cells #[Value.string a0_0,Value.slice A0_1 l0_1.length c0_1,Value.string a0_2,Value.string a0_3,Value.slice A0_4 l0_4.length c0_4] 25)).heap.size=w.heap.size+1:=Array.size_push _;have b2:(w.alloc (Obj.cells #[Value.string a0_0,Value.slice A0_1 l0_1.length c0_1,Value.string a0_2,Value.string a0_3,Value.slice A0_4 l0_4.length c0_4] 25)).heap[w.heap.size]?=some (.cells #[Value.string a0_0,Value.slice A0_1 l0_1.length c0_1,Value.string a0_2,Value.string a0_3,Value.slice A0_4 l0_4.length c0_4] 25 (0,0)):=blk_new _ _;rw [← hs1];obtain ⟨g2,hg2⟩:∃ g,g=w.heap.size:=⟨_,rfl⟩
 rw [← hg2] at b2;rw [show (⟨w.heap.size,0,none⟩:Addr)=⟨g2,0,none⟩ from by rw [hg2]];clear hs1;generalize w.alloc (Obj.cells #[Value.string a0_0,Value.slice A0_1 l0_1.length c0_1,Value.string a0_2,Value.string a0_3,Value.slice A0_4 l0_4.length c0_4] 25)=w1 at *;have hB2:=below_alloc (Below.refl w1.heap.size w1) (Obj.cells #[Value.int IntKind.i64 a1_0,Value.int IntKind.i64 a1_1,Value.string a1_2,Value.string a1_3] 32);have b3:(w1.alloc (Obj.cells #[Value.int IntKind.i64 a1_0,Value.int IntKind.i64 a1_1,Value.string a1_2,Value.string a1_3] 32)).heap[w1.heap.size]?=some (.cells #[Value.int IntKind.i64 a1_0,Value.int IntKind.i64 a1_1,Value.string a1_2,Value.string a1_3] 32 (0,0)):=blk_new _ _;replace b2:=blk_below b2 hB2;obtain ⟨g3,hg3⟩:∃ g,g=w1.heap.size:=⟨_,rfl⟩
 rw [← hg3] at b3;rw [show (⟨w1.heap.size,0,none⟩:Addr)=⟨g3,0,none⟩ from by rw [hg3]];have HB:=sd (hB1.trans (hB2.mono hB1.size));clear hB1 hB2 hg2 hg3;generalize w1.alloc (Obj.cells #[Value.int IntKind.i64 a1_0,Value.int IntKind.i64 a1_1,Value.string a1_2,Value.string a1_3] 32)=w2 at *;have B2:=sd b2;have B3:=sd b3;clear b2 b3;have k_:=bk5 B2;obtain ⟨r0,r1,r2,r3,r4,_,_,_,_,_⟩:=k_;go_wp2_with fail
 refine (CK.out _ (Kd.C_below HR1.out HB.out) (Kd.C_below HR4.out HB.out)).mono ?_;rintro e w3 ⟨rfl,hb⟩;replace B2:=sd (blk_below B2.out hb);replace B3:=sd (blk_below B3.out hb);replace HB:=sd (HB.out.trans (hb.mono HB.out.size));clear hb r0 r1 r2 r3 r4 w1 CK;have h:=H.out;clear H;by_cases hz:ck=0
 case neg =>
  have q0:decide (ck=0)=false:=decide_eq_false hz;rw [if_neg hz] at h;obtain rfl:=Option.some.inj h;go_wp2_with fail
  rw [← HQ.out];exact ⟨by (try rfl),HB.out⟩
 subst hz;rw [if_pos rfl] at h;split at h
 case isFalse=>cases h
 rename_i hsz
 have HZ:=sd hsz;have HE:=sd (Option.some.inj h);clear h hsz;have k_:=bk5 B2;obtain ⟨r0,r1,r2,r3,r4,_,_,_,_,_⟩:=k_;go_wp2_with fail
 go_loopw [13] (fun n_ wr=>∃ (i:Nat),i≤l0_1.length∧n_=.int .i64 (i:Int)∧Aside0 (∀ x∈l0_1.take i,testF x a1_0 a1_1 a1_2 a1_3=true)∧Aside0 (Below w.heap.size w wr)∧Aside0 (wr.heap[g2]?=some (.cells #[Value.string a0_0,Value.slice A0_1 l0_1.length c0_1,Value.string a0_2,Value.string a0_3,Value.slice A0_4 l0_4.length c0_4] 25 (0,0)))∧Aside0 (wr.heap[g3]?=some (.cells #[Value.int IntKind.i64 a1_0,Value.int IntKind.i64 a1_1,Value.string a1_2,Value.string a1_3] 32 (0,0)))) (fun n_ _=>(l0_1.length - (RowKit.intOf n_).toNat))
 case atStart=>exact ⟨0,Nat.zero_le _,rfl,⟨fun x hx=>(by cases hx)⟩,HB,B2,B3⟩
 case round =>
  clear HB B2 B3;obtain ⟨i,hi,rfl,HU,HB,B2,B3⟩:=hrel;rename World=>wr
  by_cases hlt:i < l0_1.length
  case neg =>
   obtain rfl:i=l0_1.length:=by omega
   have hlt':¬ (l0_1.length:Int) < (l0_1.length:Int):=by omega
   have hall:(l0_1.all fun c=>testF c a1_0 a1_1 a1_2 a1_3)=true:=by
    rw [List.all_eq_true];intro x hx;exact HU.out x (by rw [List.take_length];exact hx)
   have hr:r=true:=HE.out.symm.trans hall;clear hall;subst hr;go_wp2_with fail
   rw [← HQ.out];exact ⟨by (try rfl),HB.out⟩
  have hlt':(i:Int) < (l0_1.length:Int):=by omega
  have h0:(0:Int)≤(i:Int):=by omega
  have hmx:l0_1.length≤9223372036854775807:=HR1.out.2.1;have hw:wrap64 ((i:Int)+1)=((i+1:Nat):Int):=by unfold wrap64;omega
  obtain ⟨ad,e,x0,x1,x2,x3⟩:=at_T48 HR1.out (i:Int) (by omega) (by omega);replace x0:=(HB.out.cell (World.block_lt_of_cell? w _ x0)).trans x0;replace x1:=(HB.out.cell (World.block_lt_of_cell? w _ x1)).trans x1;replace x2:=(HB.out.cell (World.block_lt_of_cell? w _ x2)).trans x2;replace x3:=(HB.out.cell (World.block_lt_of_cell? w _ x3)).trans x3
  cases e
  simp only [Int.toNat_natCast] at x0 x1 x2 x3
  go_wp2_with fail
  clear x0 x1 x2 x3 r0 r1 r2 r3 r4;obtain ⟨c,hc⟩:∃ c,rd_T48 l0_1 (i:Int)=c:=⟨_,rfl⟩
  rw [hc];have HCc:=sd hc;clear hc;have hB1:=below_alloc (Below.refl wr.heap.size wr) (Obj.cells #[Value.int IntKind.i64 c.f0,Value.int IntKind.i64 c.f1,Value.string c.f2,Value.int IntKind.i64 c.f3] 48);have b6:(wr.alloc (Obj.cells #[Value.int IntKind.i64 c.f0,Value.int IntKind.i64 c.f1,Value.string c.f2,Value.int IntKind.i64 c.f3] 48)).heap[wr.heap.size]?=some (.cells #[Value.int IntKind.i64 c.f0,Value.int IntKind.i64 c.f1,Value.string c.f2,Value.int IntKind.i64 c.f3] 48 (0,0)):=blk_new _ _;replace B2:=sd (blk_below B2.out hB1);replace B3:=sd (blk_below B3.out hB1);replace HB:=sd (HB.out.trans (hB1.mono HB.out.size));clear hB1;generalize wr.alloc (Obj.cells #[Value.int IntKind.i64 c.f0,Value.int IntKind.i64 c.f1,Value.string c.f2,Value.int IntKind.i64 c.f3] 48)=w4 at *;obtain ⟨g6,hg6⟩:∃ g,g=wr.heap.size:=⟨_,rfl⟩
  rw [← hg6] at b6 ⊢;have B6:=sd b6;clear b6 hg6;replace B2:=sd (blk_below B2.out (below_drew1 (Below.refl _ _)));replace B3:=sd (blk_below B3.out (below_drew1 (Below.refl _ _)));replace B6:=sd (blk_below B6.out (below_drew1 (Below.refl _ _)));replace HB:=sd (below_drew1 HB.out);have k3:=bk4 B3;have k6:=bk4 B6;refine start_ (n:=5) (S:=fun w'=>w'.cell? ⟨g6,0,none⟩=some (.int .i64 c.f0)∧w'.cell? ⟨g6,1,none⟩=some (.int .i64 c.f1)∧w'.cell? ⟨g6,2,none⟩=some (.string c.f2)∧w'.cell? ⟨g6,3,none⟩=some (.int .i64 c.f3)∧w'.cell? ⟨g3,0,none⟩=some (.int .i64 a1_0)∧w'.cell? ⟨g3,1,none⟩=some (.int .i64 a1_1)∧w'.cell? ⟨g3,2,none⟩=some (.string a1_2)∧w'.cell? ⟨g3,3,none⟩=some (.string a1_3)) (ds:=[]) #[false,false,false,false,false] (by kernel_rfl) rfl rfl ⟨k6.1,k6.2.1,k6.2.2.1,k6.2.2.2.1,k3.1,k3.2.1,k3.2.2.1,k3.2.2.2.1⟩ (fun hHeld=>?_);clear k3 k6;generalize w4.drew=w5 at hHeld B2 B3 B6 HB ⊢;refine tB 0 17 hHeld ?_;refine tB 2 19 hHeld ?_;refine one_ (i:=1) (N:=some 18) #[true,true,true,false,false] rfl rfl (by kernel_rfl) (by decide) (fun K hK=>?_);refine goes_ Tryz.func28 (by kernel_rfl) rfl #[.agg #[Value.int IntKind.i64 c.f0,Value.int IntKind.i64 c.f1,Value.string c.f2,Value.int IntKind.i64 c.f3]] (by rfl) rfl rfl zq30 ?_;refine (test_calls count_calls c w5).mono ?_;rintro e w6 ⟨hb,f,cap,g,gn,gs,rfl,hE,hT⟩;refine ⟨_,rfl,?_⟩;replace B2:=sd (blk_below B2.out hb);replace B3:=sd (blk_below B3.out hb);replace B6:=sd (blk_below B6.out hb);replace HB:=sd (HB.out.trans (hb.mono HB.out.size));clear hb hHeld;have k3:=bk4 B3;have k6:=bk4 B6;refine hK.out _ _ ⟨k6.1,k6.2.1,k6.2.2.1,k6.2.2.2.1,k3.1,k3.2.1,k3.2.2.1,k3.2.2.2.1⟩ (fun hHeld=>?_);clear hK K k3 k6;refine nA 18 ?_;refine one_ (i:=3) (N:=some 20) #[true,true,true,true,false] rfl rfl (by kernel_rfl) (by decide) (fun K hK=>?_)
  have hfn : ∃ fn, Tryz.prog.funcs[f]? = some fn ∧ (fn.name == "runtime.NumGoroutine") = false ∧ fn.body.isSome = true := by
   rcases hT with ⟨_,rfl,_⟩ | ⟨_,rfl,_⟩ | ⟨_,rfl,_⟩ | ⟨_,rfl,_⟩ | ⟨_,⟨_,rfl,_⟩ | ⟨_,rfl,_⟩⟩
   ·exact ⟨_,Tryz.func61,by kernel_rfl,rfl⟩
   ·exact ⟨_,Tryz.func62,by kernel_rfl,rfl⟩
   ·exact ⟨_,Tryz.func63,by kernel_rfl,rfl⟩
   ·exact ⟨_,Tryz.func65,by kernel_rfl,rfl⟩
   ·exact ⟨_,Tryz.func68,by kernel_rfl,rfl⟩
   ·exact ⟨_,Tryz.func69,by kernel_rfl,rfl⟩
  obtain ⟨fn,f1,f2,f3⟩:=hfn;refine goesF_ (cap:=cap) f1 f2 f3 (#[lineV a1_0 a1_1 a1_2 a1_3]++cap) (by rfl) rfl rfl (by rfl) (by (try simp only [List.map_toArray,List.map_cons,List.map_nil]);rfl) ?_;refine (testK_calls hE hT a1_0 a1_1 a1_2 a1_3 HZ.out.1 HZ.out.2 (HG.out.2.2.below HB.out)).mono ?_;rintro e w7 ⟨rfl,hb⟩;refine ⟨_,rfl,?_⟩;replace B2:=sd (blk_below B2.out hb);replace B3:=sd (blk_below B3.out hb);replace B6:=sd (blk_below B6.out hb);replace HB:=sd (HB.out.trans (hb.mono HB.out.size));clear hb hHeld hE hT f1 f2 f3;have k3:=bk4 B3;have k6:=bk4 B6;refine hK.out _ _ ⟨k6.1,k6.2.1,k6.2.2.1,k6.2.2.2.1,k3.1,k3.2.1,k3.2.2.1,k3.2.2.2.1⟩ (fun hHeld=>?_);clear hK K k3 k6 hHeld;refine nA 20 ?_;refine pB 4 21 ?_;refine done_ (by kernel_rfl) ?_
  cases hb:testF c a1_0 a1_1 a1_2 a1_3
  ·have hall:(l0_1.all fun c=>testF c a1_0 a1_1 a1_2 a1_3)=false:=by
    rw [Bool.eq_false_iff];intro hh;have:=List.all_eq_true.mp hh c (by rw [← HCc.out];exact rd48_mem l0_1 i hlt);rw [hb] at this;cases this
   have hr:r=false:=HE.out.symm.trans hall;clear hall;subst hr;go_wp2_with fail
   rw [← HQ.out];exact ⟨by (try rfl),HB.out⟩
  ·have HU2:=sd (show ∀ x∈l0_1.take (i+1),testF x a1_0 a1_1 a1_2 a1_3=true from fun x hx=>by
    rw [take48 l0_1 i hlt,List.mem_append,List.mem_singleton] at hx;rcases hx with hx | hx
    ·exact HU.out x hx
    ·rw [hx,HCc.out];exact hb)
   clear HU hb;go_wp2_with fail
   go_roundw
   case rel=>exact ⟨i+1,by omega,(by congr 1),HU2,HB,B2,B3⟩
   case measure=>simp [RowKit.intOf,hw];omega
theorem rules_First.calls (k:Nat) (A0:Option Addr) (c0:Nat) (l0:List (S25)) (a1_0 a1_1:Int) (a1_2 a1_3:ByteArray) (r:Int) (w:World) (hr0:Kd.C k25 w A0 l0.length l0) (hc0:l0.length≤c0) (h:rules_First.f k l0 a1_0 a1_1 a1_2 a1_3=some r) (hG:Gl w) :
  Calls Tryz.prog 14 #[.slice A0 l0.length c0,.agg #[.int .i64 a1_0,.int .i64 a1_1,.string a1_2,.string a1_3]] w fun e w'=>e=.returned (.int .i64 r)∧Below w.heap.size w w':=by
 have HG:=sd hG;clear hG;have hu32:=Tryz.underlying32;have hu25:=Tryz.underlying25;have HR0:=sd hr0;have HC0:=sd hc0;clear hr0 hc0;have HB:=sd (Below.refl w.heap.size w);have H:=h;clear h;unfold rules_First.f at H;have H':=sd H;clear H;go_enter Tryz.func14,Tryz.ntmps14
 go_wp2_with (first | ((with_reducible refine gate_dst (N:=3) rfl ?_);refine bxA 3 #[.int .i64 a1_0,.int .i64 a1_1,.string a1_2,.string a1_3] 32 ?_;intro gb156 hg w3 hbox hb;have BK156:=sd (hbox);have GW156:=gem hg HB;have GE156:=GW156;replace HB:=hbm HB hb;clear hb hbox hg))
 go_loopg [9] k (fun kq v9 w'=>∃ (x9_1:Int),v9=.int .i64 x9_1∧Aside0 (rules_First.l0 kq l0 (l0.length:Int) x9_1 a1_0 a1_1 a1_2 a1_3=some r)∧Aside0 (kq≤k)∧Aside0 (w'.heap[gb156]?=some (.cells #[.int .i64 a1_0,.int .i64 a1_1,.string a1_2,.string a1_3] 32 (0,0)))∧Aside0 (Below w.heap.size w w'))
 case atStart=>exact ⟨(0),zq7,H',⟨Nat.le_refl _⟩,⟨by (with_reducible repeat (first | refine blk_drewN ?_ _ | refine blk_drew ?_ | refine blk_alloc ?_ _));exact BK156.out⟩,⟨by repeat (first | (with_reducible first | exact HB.out | apply below_alloc | apply pw_below_drewN | apply below_drew1 | refine below_set ?_ GE156.out) | exact HB.out)⟩⟩
 case round =>
  clear H';try clear c1
  try clear p2
  obtain ⟨x9_1,rfl,HA,HK1,BK156,HB⟩:=hrel
  cases gk with
  | zero=>exact absurd HA.out (by simp [rules_First.l0])
  | succ k1 =>
   have H:=HA.out;clear HA;simp only [rules_First.l0] at H
   replace H:=ifI H;rcases H with ⟨c4,H⟩ | ⟨c4,H⟩
   ·have c4b0:decide (x9_1 < (l0.length:Int))=true:=decide_eq_true c4;clear c4;replace H:=ifI H;rcases H with ⟨c5,H⟩ | ⟨c5,H⟩
    ·have c5b0:decide (0≤x9_1)=true:=decide_eq_true c5;clear c5;replace H:=ifI H;rcases H with ⟨c6,H⟩ | ⟨c6,H⟩
     ·have c6b0:decide (x9_1 < (l0.length:Int))=true:=decide_eq_true c6;clear c6;replace H:=bdI H;obtain ⟨t159,A7,H⟩:=H;(try dsimp only at H)
      by_cases c8:t159=true
      ·subst c8;rw [if_pos rfl] at H;obtain rfl:=Option.some.inj H;have p157:0≤(x9_1:Int):=od;have q157:x9_1 < (l0.length:Int):=od;obtain ⟨ad157,A157_1,c157_1,A157_4,c157_4,e157,hx157_0,hx157_1,hx157_2,hx157_3,hx157_4,hl157_1,hi157_1,hl157_4,hi157_4⟩:=at_T25 HR0.out x9_1 p157 q157
       cases e157
       replace hx157_0:=(HB.out.cell (World.block_lt_of_cell? w _ hx157_0)).trans hx157_0;replace hx157_1:=(HB.out.cell (World.block_lt_of_cell? w _ hx157_1)).trans hx157_1;replace hx157_2:=(HB.out.cell (World.block_lt_of_cell? w _ hx157_2)).trans hx157_2;replace hx157_3:=(HB.out.cell (World.block_lt_of_cell? w _ hx157_3)).trans hx157_3;replace hx157_4:=(HB.out.cell (World.block_lt_of_cell? w _ hx157_4)).trans hx157_4;have HR157_1:=sd hi157_1;have HC157_1:=sd hl157_1;clear hi157_1 hl157_1;have HR157_4:=sd hi157_4;have HC157_4:=sd hl157_4;clear hi157_4 hl157_4;replace p157:=eq_true p157;replace q157:=eq_true q157;go_wp2_with (first | ((with_reducible refine gate_dst (N:=6) rfl ?_);refine bxA 6 #[.string (⟨#[]⟩:ByteArray),.slice none 0 0,.string (⟨#[]⟩:ByteArray),.string (⟨#[]⟩:ByteArray),.slice none 0 0] 25 ?_;intro gb158 hg w9 hbox hb;have BK158:=sd (hbox);have GW158:=gem hg HB;have GE158:=GW158;have NB156_158:=nlm hg BK156;have NB158_156:=ngm hg BK156;replace BK156:=bkm BK156 hb;replace HB:=hbm HB hb;clear hb hbox hg;have hnb10:=NB158_156.out;have hnc10:=NB156_158.out;obtain ⟨_,_,_,_,_,_,_,_,_,_⟩:=bk5 BK158;obtain ⟨_,_,_,_,_,_,_,_⟩:=bk4 BK156) | ((with_reducible refine gate_callee (f:=12) rfl ?_);refine gL 16 Tryz.func12 #[.agg #[.string ((rd_T25 l0 x9_1).f0),.slice A157_1 ((rd_T25 l0 x9_1).f1).length c157_1,.string ((rd_T25 l0 x9_1).f2),.string ((rd_T25 l0 x9_1).f3),.slice A157_4 ((rd_T25 l0 x9_1).f4).length c157_4],.agg #[.int .i64 a1_0,.int .i64 a1_1,.string a1_2,.string a1_3]] ?_;(with_reducible refine (rules_Holds.calls k1 ((rd_T25 l0 x9_1).f0) _ _ ((rd_T25 l0 x9_1).f1) ((rd_T25 l0 x9_1).f2) ((rd_T25 l0 x9_1).f3) _ _ ((rd_T25 l0 x9_1).f4) a1_0 a1_1 a1_2 a1_3 true _ ?side1 ?side2 ?side3 ?side4 A7.out (gl_below HG.out (by repeat (first | (with_reducible first | exact HB.out | exact Below.refl _ _ | apply below_alloc | apply pw_below_drewN | apply below_drew1 | refine below_set ?_ GE156.out | refine below_set ?_ GE158.out) | exact HB.out)))).mono ?_);(case side1=>exact (by exact Kd.C_below HR157_1.out zq123));(case side2=>exact HC157_1.out);(case side3=>exact (by exact Kd.C_below HR157_4.out zq123));(case side4=>exact HC157_4.out);rintro e w13 ⟨rfl,hb⟩;refine ⟨_,rfl,?_⟩;replace BK156:=sd (blk_below (g:=gb156) (o:=.cells #[.int .i64 a1_0,.int .i64 a1_1,.string a1_2,.string a1_3] 32 (0,0)) (by (with_reducible repeat (first | refine blk_drewN ?_ _ | refine blk_drew ?_ | refine blk_alloc ?_ _));refine blk_far ?_ NB156_158.out _;(with_reducible repeat (first | refine blk_drewN ?_ _ | refine blk_drew ?_ | refine blk_alloc ?_ _));refine blk_far ?_ NB156_158.out _;(with_reducible repeat (first | refine blk_drewN ?_ _ | refine blk_drew ?_ | refine blk_alloc ?_ _));refine blk_far ?_ NB156_158.out _;(with_reducible repeat (first | refine blk_drewN ?_ _ | refine blk_drew ?_ | refine blk_alloc ?_ _));refine blk_far ?_ NB156_158.out _;(with_reducible repeat (first | refine blk_drewN ?_ _ | refine blk_drew ?_ | refine blk_alloc ?_ _));refine blk_far ?_ NB156_158.out _;(with_reducible repeat (first | refine blk_drewN ?_ _ | refine blk_drew ?_ | refine blk_alloc ?_ _));exact BK156.out) hb);replace BK158:=sd (blk_below (g:=gb158) (o:=.cells #[.string ((rd_T25 l0 x9_1).f0),.slice A157_1 ((rd_T25 l0 x9_1).f1).length c157_1,.string ((rd_T25 l0 x9_1).f2),.string ((rd_T25 l0 x9_1).f3),.slice A157_4 ((rd_T25 l0 x9_1).f4).length c157_4] 25 (0,0)) (by (with_reducible repeat (first | refine blk_drewN ?_ _ | refine blk_drew ?_ | refine blk_alloc ?_ _));refine blk_put (cs:=#[.string ((rd_T25 l0 x9_1).f0),.slice A157_1 ((rd_T25 l0 x9_1).f1).length c157_1,.string ((rd_T25 l0 x9_1).f2),.string ((rd_T25 l0 x9_1).f3),.slice none 0 0]) ?_ 4 _ rfl;(with_reducible repeat (first | refine blk_drewN ?_ _ | refine blk_drew ?_ | refine blk_alloc ?_ _));refine blk_put (cs:=#[.string ((rd_T25 l0 x9_1).f0),.slice A157_1 ((rd_T25 l0 x9_1).f1).length c157_1,.string ((rd_T25 l0 x9_1).f2),.string (⟨#[]⟩:ByteArray),.slice none 0 0]) ?_ 3 _ rfl;(with_reducible repeat (first | refine blk_drewN ?_ _ | refine blk_drew ?_ | refine blk_alloc ?_ _));refine blk_put (cs:=#[.string ((rd_T25 l0 x9_1).f0),.slice A157_1 ((rd_T25 l0 x9_1).f1).length c157_1,.string (⟨#[]⟩:ByteArray),.string (⟨#[]⟩:ByteArray),.slice none 0 0]) ?_ 2 _ rfl;(with_reducible repeat (first | refine blk_drewN ?_ _ | refine blk_drew ?_ | refine blk_alloc ?_ _));refine blk_put (cs:=#[.string ((rd_T25 l0 x9_1).f0),.slice none 0 0,.string (⟨#[]⟩:ByteArray),.string (⟨#[]⟩:ByteArray),.slice none 0 0]) ?_ 1 _ rfl;(with_reducible repeat (first | refine blk_drewN ?_ _ | refine blk_drew ?_ | refine blk_alloc ?_ _));refine blk_put (cs:=#[.string (⟨#[]⟩:ByteArray),.slice none 0 0,.string (⟨#[]⟩:ByteArray),.string (⟨#[]⟩:ByteArray),.slice none 0 0]) ?_ 0 _ rfl;(with_reducible repeat (first | refine blk_drewN ?_ _ | refine blk_drew ?_ | refine blk_alloc ?_ _));exact BK158.out) hb);replace HB:=hbm HB hb;clear hb))
       go_ret
       exact ⟨zq4,zq123⟩
      replace c8:=Bool.eq_false_iff.mpr c8;subst c8;rw [if_neg Bool.false_ne_true] at H;have H':=sd H;clear H;have p157:0≤(x9_1:Int):=od;have q157:x9_1 < (l0.length:Int):=od;obtain ⟨ad157,A157_1,c157_1,A157_4,c157_4,e157,hx157_0,hx157_1,hx157_2,hx157_3,hx157_4,hl157_1,hi157_1,hl157_4,hi157_4⟩:=at_T25 HR0.out x9_1 p157 q157
      cases e157
      replace hx157_0:=(HB.out.cell (World.block_lt_of_cell? w _ hx157_0)).trans hx157_0;replace hx157_1:=(HB.out.cell (World.block_lt_of_cell? w _ hx157_1)).trans hx157_1;replace hx157_2:=(HB.out.cell (World.block_lt_of_cell? w _ hx157_2)).trans hx157_2;replace hx157_3:=(HB.out.cell (World.block_lt_of_cell? w _ hx157_3)).trans hx157_3;replace hx157_4:=(HB.out.cell (World.block_lt_of_cell? w _ hx157_4)).trans hx157_4;have HR157_1:=sd hi157_1;have HC157_1:=sd hl157_1;clear hi157_1 hl157_1;have HR157_4:=sd hi157_4;have HC157_4:=sd hl157_4;clear hi157_4 hl157_4;replace p157:=eq_true p157;replace q157:=eq_true q157;go_wp2_with (first | ((with_reducible refine gate_dst (N:=6) rfl ?_);refine bxA 6 #[.string (⟨#[]⟩:ByteArray),.slice none 0 0,.string (⟨#[]⟩:ByteArray),.string (⟨#[]⟩:ByteArray),.slice none 0 0] 25 ?_;intro gb158 hg w14 hbox hb;have BK158:=sd (hbox);have GW158:=gem hg HB;have GE158:=GW158;have NB156_158:=nlm hg BK156;have NB158_156:=ngm hg BK156;replace BK156:=bkm BK156 hb;replace HB:=hbm HB hb;clear hb hbox hg;have hnb15:=NB158_156.out;have hnc15:=NB156_158.out;obtain ⟨_,_,_,_,_,_,_,_,_,_⟩:=bk5 BK158;obtain ⟨_,_,_,_,_,_,_,_⟩:=bk4 BK156) | ((with_reducible refine gate_callee (f:=12) rfl ?_);refine gL 16 Tryz.func12 #[.agg #[.string ((rd_T25 l0 x9_1).f0),.slice A157_1 ((rd_T25 l0 x9_1).f1).length c157_1,.string ((rd_T25 l0 x9_1).f2),.string ((rd_T25 l0 x9_1).f3),.slice A157_4 ((rd_T25 l0 x9_1).f4).length c157_4],.agg #[.int .i64 a1_0,.int .i64 a1_1,.string a1_2,.string a1_3]] ?_;(with_reducible refine (rules_Holds.calls k1 ((rd_T25 l0 x9_1).f0) _ _ ((rd_T25 l0 x9_1).f1) ((rd_T25 l0 x9_1).f2) ((rd_T25 l0 x9_1).f3) _ _ ((rd_T25 l0 x9_1).f4) a1_0 a1_1 a1_2 a1_3 false _ ?side1 ?side2 ?side3 ?side4 A7.out (gl_below HG.out (by repeat (first | (with_reducible first | exact HB.out | exact Below.refl _ _ | apply below_alloc | apply pw_below_drewN | apply below_drew1 | refine below_set ?_ GE156.out | refine below_set ?_ GE158.out) | exact HB.out)))).mono ?_);(case side1=>exact (by exact Kd.C_below HR157_1.out zq123));(case side2=>exact HC157_1.out);(case side3=>exact (by exact Kd.C_below HR157_4.out zq123));(case side4=>exact HC157_4.out);rintro e w18 ⟨rfl,hb⟩;refine ⟨_,rfl,?_⟩;replace BK156:=sd (blk_below (g:=gb156) (o:=.cells #[.int .i64 a1_0,.int .i64 a1_1,.string a1_2,.string a1_3] 32 (0,0)) (by (with_reducible repeat (first | refine blk_drewN ?_ _ | refine blk_drew ?_ | refine blk_alloc ?_ _));refine blk_far ?_ NB156_158.out _;(with_reducible repeat (first | refine blk_drewN ?_ _ | refine blk_drew ?_ | refine blk_alloc ?_ _));refine blk_far ?_ NB156_158.out _;(with_reducible repeat (first | refine blk_drewN ?_ _ | refine blk_drew ?_ | refine blk_alloc ?_ _));refine blk_far ?_ NB156_158.out _;(with_reducible repeat (first | refine blk_drewN ?_ _ | refine blk_drew ?_ | refine blk_alloc ?_ _));refine blk_far ?_ NB156_158.out _;(with_reducible repeat (first | refine blk_drewN ?_ _ | refine blk_drew ?_ | refine blk_alloc ?_ _));refine blk_far ?_ NB156_158.out _;(with_reducible repeat (first | refine blk_drewN ?_ _ | refine blk_drew ?_ | refine blk_alloc ?_ _));exact BK156.out) hb);replace BK158:=sd (blk_below (g:=gb158) (o:=.cells #[.string ((rd_T25 l0 x9_1).f0),.slice A157_1 ((rd_T25 l0 x9_1).f1).length c157_1,.string ((rd_T25 l0 x9_1).f2),.string ((rd_T25 l0 x9_1).f3),.slice A157_4 ((rd_T25 l0 x9_1).f4).length c157_4] 25 (0,0)) (by (with_reducible repeat (first | refine blk_drewN ?_ _ | refine blk_drew ?_ | refine blk_alloc ?_ _));refine blk_put (cs:=#[.string ((rd_T25 l0 x9_1).f0),.slice A157_1 ((rd_T25 l0 x9_1).f1).length c157_1,.string ((rd_T25 l0 x9_1).f2),.string ((rd_T25 l0 x9_1).f3),.slice none 0 0]) ?_ 4 _ rfl;(with_reducible repeat (first | refine blk_drewN ?_ _ | refine blk_drew ?_ | refine blk_alloc ?_ _));refine blk_put (cs:=#[.string ((rd_T25 l0 x9_1).f0),.slice A157_1 ((rd_T25 l0 x9_1).f1).length c157_1,.string ((rd_T25 l0 x9_1).f2),.string (⟨#[]⟩:ByteArray),.slice none 0 0]) ?_ 3 _ rfl;(with_reducible repeat (first | refine blk_drewN ?_ _ | refine blk_drew ?_ | refine blk_alloc ?_ _));refine blk_put (cs:=#[.string ((rd_T25 l0 x9_1).f0),.slice A157_1 ((rd_T25 l0 x9_1).f1).length c157_1,.string (⟨#[]⟩:ByteArray),.string (⟨#[]⟩:ByteArray),.slice none 0 0]) ?_ 2 _ rfl;(with_reducible repeat (first | refine blk_drewN ?_ _ | refine blk_drew ?_ | refine blk_alloc ?_ _));refine blk_put (cs:=#[.string ((rd_T25 l0 x9_1).f0),.slice none 0 0,.string (⟨#[]⟩:ByteArray),.string (⟨#[]⟩:ByteArray),.slice none 0 0]) ?_ 1 _ rfl;(with_reducible repeat (first | refine blk_drewN ?_ _ | refine blk_drew ?_ | refine blk_alloc ?_ _));refine blk_put (cs:=#[.string (⟨#[]⟩:ByteArray),.slice none 0 0,.string (⟨#[]⟩:ByteArray),.string (⟨#[]⟩:ByteArray),.slice none 0 0]) ?_ 0 _ rfl;(with_reducible repeat (first | refine blk_drewN ?_ _ | refine blk_drew ?_ | refine blk_alloc ?_ _));exact BK158.out) hb);replace HB:=hbm HB hb;clear hb))
      go_roundg k1
      case measure=>have:=HK1.out;omega
      case rel=>exact ⟨(wrap64 (x9_1+1)),zq7,H',⟨by have:=HK1.out;omega⟩,⟨by (with_reducible repeat (first | refine blk_drewN ?_ _ | refine blk_drew ?_ | refine blk_alloc ?_ _));exact BK156.out⟩,⟨zq123⟩⟩
     exact absurd H (by simp)
    exact absurd H (by simp)
   have c4b0:decide (x9_1 < (l0.length:Int))=false:=decide_eq_false c4;clear c4;obtain rfl:=Option.some.inj H;go_wp2
   go_ret
   exact ⟨zq4,by repeat (first | (with_reducible first | exact HB.out | apply below_alloc | apply pw_below_drewN | apply below_drew1 | refine below_set ?_ GE156.out) | exact HB.out)⟩
theorem head_4 (bd g:Nat) (p:PR) (vC vT vW:Value) (x:S73) (code:Bool) (w:World) (hp:RP w bd g p vC vT vW) (hbd:bd≤w.heap.size) (hst:p.st=4) (hG:Gl w) (hn:0 < p.cs.length) (k:Nat) (b:Bool) (hsu:rules_suits.f k (rd_T48 p.cs ((p.cs.length - 1:Nat):Int)).f0 (numS opL x.f1 0)=some b) :
    Calls Tryz.prog 81 #[.pointer (some ⟨g,0,none⟩),.agg #[.int .i64 x.f0,.string x.f1,.int .i64 x.f2],.bool code] w (StepPost bd g vC vT vW ({ p with cs:=p.cs.set (p.cs.length - 1) { rd_T48 p.cs ((p.cs.length - 1:Nat):Int) with f1:=numS opL x.f1 0 } }) (fol (decide (x.f0=1) && b) 5) w):=by
  have hmf:∀ (fn:Fn) (first cap:Array Value) (w:World),(Instr.makeFunc fn first cap).run Tryz.prog w=.ok (.func fn first cap) w:=fun _ _ _ _=>rfl
  have HP:=sd hp;obtain ⟨gc,cap,rfl,hgc,_,_⟩:=Kd.R_form HP.out.rC hn;have HSU:=sd hsu;have HN:=sd hn;have HGC:=sd hgc;clear hsu hn hgc;have HG:=sd hG;clear hG;have HNE:=sd (show ¬ w.heap.size=g from fun h=>by have:=blk_lt hp.blk;omega);have HNW:=sd (Kd.R_lt HP.out.rW);have HF:=sd (FP.refl bd g (.slice (some ⟨gc,0,none⟩) p.cs.length cap) vT vW w);clear hp;generalize hQ:StepPost bd g (.slice (some ⟨gc,0,none⟩) p.cs.length cap) vT vW ({ p with cs:=p.cs.set (p.cs.length - 1) { rd_T48 p.cs ((p.cs.length - 1:Nat):Int) with f1:=numS opL x.f1 0 } }) (fol (decide (x.f0=1) && b) 5) w=Post;have HQ:=sd hQ;clear hQ;go_enter Tryz.func81,Tryz.ntmps81
  go_upto_region 1 with (fail)
  have hB1:=below_alloc (Below.refl w.heap.size w) (Obj.cells #[Value.int IntKind.i64 x.f0,Value.string x.f1,Value.int IntKind.i64 x.f2] 73);have b0:(w.alloc (Obj.cells #[Value.int IntKind.i64 x.f0,Value.string x.f1,Value.int IntKind.i64 x.f2] 73)).heap[w.heap.size]?=some (.cells #[Value.int IntKind.i64 x.f0,Value.string x.f1,Value.int IntKind.i64 x.f2] 73 (0,0)):=blk_new _ _;replace HP:=sd (HP.out.below hB1);replace HF:=sd (HF.out.below hB1 hbd);generalize w.alloc (Obj.cells #[Value.int IntKind.i64 x.f0,Value.string x.f1,Value.int IntKind.i64 x.f2] 73)=w1 at *;obtain ⟨gw,hgw⟩:∃ gw,gw=w.heap.size:=⟨_,rfl⟩
  have hgg:gw≠g:=by have:=blk_lt HP.out.blk;have:=hB1.size;intro h;rw [hgw] at h;exact absurd h (HNE.out)
  have HGN:=sd (show some gw≠Value.ownBlock vW from fun e=>by have:=HNW.out gw e.symm;omega);clear HNW;rw [← hgw] at b0 ⊢;have BW:=sd b0;have HB1:=sd hB1;clear b0 hB1 hgw;obtain ⟨⟨k0,k1,k2,k3,k4,k5,k6⟩,f0,f1,f2,f3,f4,f5,f6⟩:=HP.out.facts;rw [hst] at k5;obtain ⟨w0_,w1_,w2_,_,_,_⟩:=bk3 BW;go_wp2_with fail
  refine (last_calls bd g gc cap p vT vW _ HP.out HN.out).mono ?_;rintro e wn ⟨rfl,hd⟩;obtain ⟨⟨nd,rfl⟩⟩:=hd;replace HB1:=sd (pw_below_drewN HB1.out nd);replace HP:=sd (HP.out.below (pw_below_drewN (Below.refl _ _) nd));replace HF:=sd (HF.out.below (pw_below_drewN (Below.refl _ _) nd) hbd);replace BW:=sd (blk_below BW.out (pw_below_drewN (Below.refl _ _) nd));clear k0 k1 k2 k3 k4 k5 k6 f0 f1 f2 f3 f4 f5 f6 w0_ w1_ w2_;generalize w1.drewN nd=w2 at *;obtain ⟨w0_,w1_,w2_,_,_,_⟩:=bk3 BW;go_wp2_with fail
  refine (op_calls x.f1 w2 (gl_below HG.out HB1.out)).mono ?_;rintro e wn ⟨rfl,hb⟩;replace HP:=sd (HP.out.below hb);replace HF:=sd (HF.out.below hb hbd);replace BW:=sd (blk_below BW.out hb);clear hb w0_ w1_ w2_;obtain ⟨op,hop⟩:∃ n,numS opL x.f1 0=n:=⟨_,rfl⟩
  rw [hop] at HQ HSU ⊢;clear hop;obtain ⟨m,hm⟩:∃ m,p.cs.length - 1=m:=⟨_,rfl⟩
  rw [hm] at HQ HSU ⊢;have hml:m < p.cs.length:=by have:=HN.out;omega
  obtain ⟨c,hc⟩:∃ c,rd_T48 p.cs (m:Int)=c:=⟨_,rfl⟩
  rw [hc] at HQ HSU;clear hm;obtain ⟨cc,hcl,hM,hcc,hfr⟩:=Kd.R_elem HP.out.rC z48 (m:Int) (by omega) (by omega)
  have hce:cc=[Value.int .i64 c.f0,.int .i64 c.f1,.string c.f2,.int .i64 c.f3]:=by
    have:=k48_openM hM;rw [this,← hc];rfl
  subst hce;have e0:wn.cell? ⟨gc,m * 4,none⟩=some (.int .i64 c.f0):=hcc 0 _ rfl;have e1:wn.cell? ⟨gc,m * 4+1,none⟩=some (.int .i64 c.f1):=hcc 1 _ rfl;have e2:wn.frozen? ⟨gc,m * 4+1,none⟩=false:=hfr 1;clear hcl hM hcc hfr;obtain ⟨w0_,w1_,w2_,_,_,_⟩:=bk3 BW;go_wp2_with fail
  have hne:gw≠gc:=fun e=>Kd.R_ne HP.out.rC BW.out (by decide) (by rw [e];rfl)
  replace BW:=sd (blk_far (p:=⟨gc,m * 4+1,none⟩) BW.out hne (.int .i64 op));replace HF:=sd (FP.far (o:=m * 4+1) HF.out HGC.out (Or.inl rfl) (.int .i64 op));replace HP:=sd (RP.elemC (j:=1) (u:=.int .i64 op) (x':={ c with f1:=op }) HP.out hml hc (by decide) rfl);clear e0 e1 e2 w0_ w1_ w2_ hne;generalize wn.setCell ⟨gc,m * 4+1,none⟩ (.int .i64 op)=w4 at HP HF BW ⊢;obtain ⟨cc,hcl,hM,hcc,hfr⟩:=Kd.R_elem HP.out.rC z48 (m:Int) (by omega) (by rw [List.length_set];omega)
  have hce:cc=[Value.int .i64 c.f0,.int .i64 op,.string c.f2,.int .i64 c.f3]:=by
    have:=k48_openM hM
    have h2:(p.cs.set m { c with f1:=op }).getD (m:Int).toNat z48={ c with f1:=op }:=by
      rw [Int.toNat_natCast,List.getD_eq_getElem?_getD,List.getElem?_set_self hml];rfl
    rw [this,h2]
  subst hce;have e0:w4.cell? ⟨gc,m * 4,none⟩=some (.int .i64 c.f0):=hcc 0 _ rfl;have e1:w4.cell? ⟨gc,m * 4+1,none⟩=some (.int .i64 op):=hcc 1 _ rfl;clear hcl hM hcc hfr hc;obtain ⟨w0_,w1_,w2_,_,_,_⟩:=bk3 BW;have HS:=sd (fun W=>rules_suits.calls k c.f0 op b W HSU.out);by_cases ex:x.f0=1
  · have q1:decide (x.f0=1)=true:=decide_eq_true ex
    rw [q1,Bool.true_and] at HQ;repeat (go_quiet (first | (go_at_call 52;exact Calls.quiet_of ((HS.out _).mono fun e w' h=>⟨h.1,h.2.out⟩)) | (go_at_call 112;exact Calls.quiet_of ((follow_calls _ _ _).mono fun e w' h=>⟨h.1,h.2.out⟩)));try go_wp2)
    rw [← HQ.out];exact ⟨by (try rfl),⟨_,_,_,HP.out.below (pw_below_drewN (Below.refl _ _) _)⟩,HF.out.below (pw_below_drewN (Below.refl _ _) _) hbd⟩
  have q1:decide (x.f0=1)=false:=decide_eq_false ex;rw [q1,Bool.false_and] at HQ;repeat (go_quiet (first | (go_at_call 52;exact Calls.quiet_of ((HS.out _).mono fun e w' h=>⟨h.1,h.2.out⟩)) | (go_at_call 112;exact Calls.quiet_of ((follow_calls _ _ _).mono fun e w' h=>⟨h.1,h.2.out⟩)));try go_wp2)
  rw [← HQ.out];exact ⟨by (try rfl),⟨_,_,_,HP.out.below (pw_below_drewN (Below.refl _ _) _)⟩,HF.out.below (pw_below_drewN (Below.refl _ _) _) hbd⟩
theorem values_calls (k bd g:Nat) (p:PR) (vC vT vW:Value) (cs':List S48) (at_ er:Int) (w:World) (hp:RP w bd g p vC vT vW) (hbd:bd≤w.heap.size) (hn:0 < p.cs.length) (hl:p.ws.length≤1000000) (hG:Gl w) (hgb:GlLt bd) (h:valL k p.ws 0 p.cs=some (cs',at_,er)) :
    Calls Tryz.prog 41 #[.pointer (some ⟨g,0,none⟩)] w (ValPost bd g vC vT vW { p with cs:=cs' } at_ er w):=by
  obtain ⟨gc,cap,hvc,hgc,_,_⟩:=Kd.R_form hp.rC hn;subst hvc;obtain ⟨va,vc,hvw⟩:=Kd.R_slice hp.rW;subst hvw;have HP:=sd hp;have HF:=sd (FP.refl bd g (.slice (some ⟨gc,0,none⟩) p.cs.length cap) vT (.slice va p.ws.length vc) w);have HG:=sd (fun W (hb:Below bd w W)=>gl_bd hG hb hgb);have HH:=sd h;have HGC:=sd hgc;have HLW:=sd hl;clear hp hG h hgc hl hgb;generalize hQ:ValPost bd g (.slice (some ⟨gc,0,none⟩) p.cs.length cap) vT (.slice va p.ws.length vc) { p with cs:=cs' } at_ er w=Post;have HQ:=sd hQ;clear hQ;obtain ⟨⟨k0,k1,k2,k3,k4,k5,k6⟩,f0,f1,f2,f3,f4,f5,f6⟩:=HP.out.facts;go_enter Tryz.func41,Tryz.ntmps41
  go_wp2_with fail
  clear k0 k1 k2 k3 k4 k5 k6 f0 f1 f2 f3 f4 f5 f6;go_loopw [3,12] (fun e_ n_ wr=>∃ (i:Nat) (cs:List S48),i≤p.ws.length∧n_=.int .i64 (i:Int)∧e_=.int .i64 0∧cs.length=p.cs.length∧Aside0 (valL k (p.ws.drop i) i cs=some (cs',at_,er))∧Aside0 (RP wr bd g { p with cs:=cs } (.slice (some ⟨gc,0,none⟩) p.cs.length cap) vT (.slice va p.ws.length vc))∧Aside0 (FP bd g (.slice (some ⟨gc,0,none⟩) p.cs.length cap) vT (.slice va p.ws.length vc) w wr)) (fun _ n_ _=>(p.ws.length - (RowKit.intOf n_).toNat))
  case atStart=>exact ⟨0,p.cs,Nat.zero_le _,rfl,rfl,rfl,HH,HP,HF⟩
  case round =>
    clear HH HP HF;obtain ⟨i,cs,hi,rfl,rfl,hcl,HH,HP,HF⟩:=hrel;rename World=>wr
    by_cases hlt:i < p.ws.length
    case neg =>
      obtain rfl:i=p.ws.length:=by omega
      have hlt':¬ (p.ws.length:Int) < (p.ws.length:Int):=by omega
      have hr:=HH.out;rw [List.drop_length] at hr;obtain ⟨rfl,h2⟩:=Prod.mk.inj (Option.some.inj hr);obtain ⟨rfl,rfl⟩:=Prod.mk.inj h2;clear hr h2 HH;go_wp2_with fail
      rw [← HQ.out];exact ⟨by (try rfl),⟨_,_,_,HP.out⟩,HF.out⟩
    have hlt':(i:Int) < (p.ws.length:Int):=by omega
    have h0:(0:Int)≤(i:Int):=by omega
    have hw:wrap64 ((i:Int)+1)=((i+1:Nat):Int):=by have:=HLW.out;unfold wrap64;omega
    obtain ⟨hwl,hwc,hWC⟩:=Kd.R_reads' HP.out.rW;obtain ⟨ad,e,x0,x1,x2⟩:=at_T73 hWC (i:Int) (by omega) (by omega)
    cases e
    simp only [Int.toNat_natCast] at x0 x1 x2
    obtain ⟨⟨k0,k1,k2,k3,k4,k5,k6⟩,f0,f1,f2,f3,f4,f5,f6⟩:=HP.out.facts
    have hd:p.ws.drop i=rd_T73 p.ws (i:Int) :: p.ws.drop (i+1):=by
      unfold rd_T73;rw [List.drop_eq_getElem_cons hlt,Int.toNat_natCast,List.getD_eq_getElem?_getD,List.getElem?_eq_getElem hlt];rfl
    obtain ⟨x,hx⟩:∃ x,rd_T73 p.ws (i:Int)=x:=⟨_,rfl⟩
    rw [hx] at hd x0 x1 x2;have hh:=HH.out;rw [hd,valL] at hh;clear hd hx HH;by_cases hic:i < cs.length
    case neg=>rw [if_neg hic] at hh;cases hh
    rw [if_pos hic] at hh;obtain ⟨c,hc⟩:∃ c,rd_T48 cs (i:Int)=c:=⟨_,rfl⟩
    rw [hc] at hh;obtain ⟨y,hy,hh⟩:=Option.bind_eq_some_iff.mp hh;have HY:=sd hy;have HN:=sd hh;have HCc:=sd hc;have HIC:=sd hic;have hic':(i:Int) < (p.cs.length:Int):=by omega
    clear hy hh hc hic;go_upto_region 4 with (fail)
    have hbx:=below_alloc (Below.refl wr.heap.size wr) (Obj.cells #[Value.int IntKind.i64 x.f0,Value.string x.f1,Value.int IntKind.i64 x.f2] 73);have bx:(wr.alloc (Obj.cells #[Value.int IntKind.i64 x.f0,Value.string x.f1,Value.int IntKind.i64 x.f2] 73)).heap[wr.heap.size]?=some (.cells #[Value.int IntKind.i64 x.f0,Value.string x.f1,Value.int IntKind.i64 x.f2] 73 (0,0)):=blk_new _ _;replace HP:=sd (HP.out.below hbx);replace HF:=sd (HF.out.below hbx hbd);clear x0 x1 x2 hwl hwc hWC k0 k1 k2 k3 k4 k5 k6 f0 f1 f2 f3 f4 f5 f6 hbx;generalize wr.alloc (Obj.cells #[Value.int IntKind.i64 x.f0,Value.string x.f1,Value.int IntKind.i64 x.f2] 73)=w4 at *;obtain ⟨gx,hgx⟩:∃ g,g=wr.heap.size:=⟨_,rfl⟩
    rw [← hgx] at bx ⊢;have BX:=sd bx;clear bx hgx;obtain ⟨⟨k0,k1,k2,k3,k4,k5,k6⟩,f0,f1,f2,f3,f4,f5,f6⟩:=HP.out.facts;obtain ⟨cc,hcl2,hM,hcc,hfr⟩:=Kd.R_elem HP.out.rC z48 (i:Int) (by omega) (by omega)
    have hce:cc=[Value.int .i64 c.f0,.int .i64 c.f1,.string c.f2,.int .i64 c.f3]:=by
      have:=k48_openM hM;rw [this,← HCc.out];rfl
    subst hce;have e0:w4.cell? ⟨gc,i * 4,none⟩=some (.int .i64 c.f0):=hcc 0 _ rfl;have e2:w4.cell? ⟨gc,i * 4+2,none⟩=some (.string c.f2):=hcc 2 _ rfl;have e3:w4.cell? ⟨gc,i * 4+3,none⟩=some (.int .i64 c.f3):=hcc 3 _ rfl;have g2_:w4.frozen? ⟨gc,i * 4+2,none⟩=false:=hfr 2;have g3_:w4.frozen? ⟨gc,i * 4+3,none⟩=false:=hfr 3;clear hcl2 hM hcc hfr;obtain ⟨z0,z1,z2,_,_,_⟩:=bk3 BX;have hy:=HY.out;unfold valC at hy;clear HY;by_cases ea:c.f0=1
    · rw [if_pos ea] at hy
      obtain ⟨⟨n1,er1⟩,hq,hy⟩:=Option.bind_eq_some_iff.mp hy;obtain rfl:=Option.some.inj hy;have HNP:=sd (fun W=>num_Parse.calls x.f1 (-1000000000000) 1000000000000 n1 er1 W hq);have qa:decide (c.f0=1)=true:=decide_eq_true ea;clear hy hq;go_wp2_with fail
      refine (HNP.out _).mono ?_;rintro e w5 ⟨rfl,hd⟩;obtain ⟨⟨nd,rfl⟩⟩:=hd;have hbx:=pw_below_drewN (Below.refl w4.heap.size w4) nd;replace BX:=sd (blk_below BX.out hbx);replace HP:=sd (HP.out.below hbx);replace HF:=sd (HF.out.below hbx hbd);clear e0 e2 e3 g2_ g3_ z0 z1 z2 k0 k1 k2 k3 k4 k5 k6 f0 f1 f2 f3 f4 f5 f6 hbx;generalize w4.drewN nd=w5 at *;obtain ⟨cc,hcl2,hM,hcc,hfr⟩:=Kd.R_elem HP.out.rC z48 (i:Int) (by omega) (by omega)
      have hce:cc=[Value.int .i64 c.f0,.int .i64 c.f1,.string c.f2,.int .i64 c.f3]:=by
        have:=k48_openM hM;rw [this,← HCc.out];rfl
      subst hce;have e0:w5.cell? ⟨gc,i * 4,none⟩=some (.int .i64 c.f0):=hcc 0 _ rfl;have e2:w5.cell? ⟨gc,i * 4+2,none⟩=some (.string c.f2):=hcc 2 _ rfl;have e3:w5.cell? ⟨gc,i * 4+3,none⟩=some (.int .i64 c.f3):=hcc 3 _ rfl;have g2_:w5.frozen? ⟨gc,i * 4+2,none⟩=false:=hfr 2;have g3_:w5.frozen? ⟨gc,i * 4+3,none⟩=false:=hfr 3;clear hcl2 hM hcc hfr;obtain ⟨z0,z1,z2,_,_,_⟩:=bk3 BX;by_cases ez:er1=0
      · have hh:=HN.out
        rw [if_pos ez] at hh;have HH:=sd hh;have qz:decide (er1=0)=true:=decide_eq_true ez;obtain ⟨qz3,qz4⟩:=eqI ez;clear hh HN;go_wp2_with fail
        replace HF:=sd (FP.far (o:=i * 4+3) HF.out HGC.out (Or.inl rfl) (.int .i64 n1));replace HP:=sd (elemC' hcl (j:=3) (u:=.int .i64 n1) (x':={ c with f3:=n1 }) HP.out HIC.out HCc.out (by decide) rfl);go_roundw
        case rel=>exact ⟨i+1,cs.set i ({ c with f3:=n1 }),by omega,(by rw [hw]),(by first | rfl | (rw [ez])),by rw [List.length_set];exact hcl,HH,HP,HF⟩
        case measure =>
          refine Nat.sub_lt_sub_left hlt ?_;rw [hw];exact Nat.lt_succ_self i
      have hh:=HN.out;rw [if_neg ez] at hh;obtain ⟨h1_,h2_⟩:=Prod.mk.inj (Option.some.inj hh);obtain ⟨h3_,h4_⟩:=Prod.mk.inj h2_;clear hh HN h2_;have qz:decide (er1=0)=false:=decide_eq_false ez;obtain ⟨qz3,qz4⟩:=neI ez;rw [← h1_,← h3_,← h4_] at HQ;clear h1_ h3_ h4_;go_wp2_with fail
      replace HF:=sd (FP.far (o:=i * 4+3) HF.out HGC.out (Or.inl rfl) (.int .i64 n1));replace HP:=sd (elemC' hcl (j:=3) (u:=.int .i64 n1) (x':={ c with f3:=n1 }) HP.out HIC.out HCc.out (by decide) rfl);rw [← HQ.out];exact ⟨by (try rfl),⟨_,_,_,HP.out⟩,HF.out⟩
    rw [if_neg ea] at hy;have qa:decide (c.f0=1)=false:=decide_eq_false ea;by_cases eb:c.f0=4
    · rw [if_pos eb] at hy
      obtain ⟨⟨n1,er1⟩,hq,hy⟩:=Option.bind_eq_some_iff.mp hy;obtain rfl:=Option.some.inj hy;have HNP:=sd (fun W (hG:Gl W)=>days_Parse.calls k x.f1 n1 er1 W hq hG);have qb:decide (c.f0=4)=true:=decide_eq_true eb;clear hy hq;go_wp2_with fail
      refine (HNP.out _ (HG.out _ HF.out.b)).mono ?_;rintro e w5 ⟨rfl,hbx⟩;replace BX:=sd (blk_below BX.out hbx);replace HP:=sd (HP.out.below hbx);replace HF:=sd (HF.out.below hbx hbd);clear e0 e2 e3 g2_ g3_ z0 z1 z2 k0 k1 k2 k3 k4 k5 k6 f0 f1 f2 f3 f4 f5 f6 hbx;obtain ⟨cc,hcl2,hM,hcc,hfr⟩:=Kd.R_elem HP.out.rC z48 (i:Int) (by omega) (by omega)
      have hce:cc=[Value.int .i64 c.f0,.int .i64 c.f1,.string c.f2,.int .i64 c.f3]:=by
        have:=k48_openM hM;rw [this,← HCc.out];rfl
      subst hce;have e0:w5.cell? ⟨gc,i * 4,none⟩=some (.int .i64 c.f0):=hcc 0 _ rfl;have e2:w5.cell? ⟨gc,i * 4+2,none⟩=some (.string c.f2):=hcc 2 _ rfl;have e3:w5.cell? ⟨gc,i * 4+3,none⟩=some (.int .i64 c.f3):=hcc 3 _ rfl;have g2_:w5.frozen? ⟨gc,i * 4+2,none⟩=false:=hfr 2;have g3_:w5.frozen? ⟨gc,i * 4+3,none⟩=false:=hfr 3;clear hcl2 hM hcc hfr;obtain ⟨z0,z1,z2,_,_,_⟩:=bk3 BX;by_cases ez:er1=0
      · have hh:=HN.out
        rw [if_pos ez] at hh;have HH:=sd hh;have qz:decide (er1=0)=true:=decide_eq_true ez;obtain ⟨qz3,qz4⟩:=eqI ez;clear hh HN;go_wp2_with fail
        replace HF:=sd (FP.far (o:=i * 4+3) HF.out HGC.out (Or.inl rfl) (.int .i64 n1));replace HP:=sd (elemC' hcl (j:=3) (u:=.int .i64 n1) (x':={ c with f3:=n1 }) HP.out HIC.out HCc.out (by decide) rfl);go_roundw
        case rel=>exact ⟨i+1,cs.set i ({ c with f3:=n1 }),by omega,(by rw [hw]),(by first | rfl | (rw [ez])),by rw [List.length_set];exact hcl,HH,HP,HF⟩
        case measure =>
          refine Nat.sub_lt_sub_left hlt ?_;rw [hw];exact Nat.lt_succ_self i
      have hh:=HN.out;rw [if_neg ez] at hh;obtain ⟨h1_,h2_⟩:=Prod.mk.inj (Option.some.inj hh);obtain ⟨h3_,h4_⟩:=Prod.mk.inj h2_;clear hh HN h2_;have qz:decide (er1=0)=false:=decide_eq_false ez;obtain ⟨qz3,qz4⟩:=neI ez;rw [← h1_,← h3_,← h4_] at HQ;clear h1_ h3_ h4_;go_wp2_with fail
      replace HF:=sd (FP.far (o:=i * 4+3) HF.out HGC.out (Or.inl rfl) (.int .i64 n1));replace HP:=sd (elemC' hcl (j:=3) (u:=.int .i64 n1) (x':={ c with f3:=n1 }) HP.out HIC.out HCc.out (by decide) rfl);rw [← HQ.out];exact ⟨by (try rfl),⟨_,_,_,HP.out⟩,HF.out⟩
    rw [if_neg eb] at hy;have qb:decide (c.f0=4)=false:=decide_eq_false eb;obtain rfl:=Option.some.inj hy;clear hy;have hh:=HN.out;rw [if_pos rfl] at hh;have HH:=sd hh;clear hh HN;go_wp2_with fail
    replace HF:=sd (FP.far (o:=i * 4+2) HF.out HGC.out (Or.inl rfl) (.string x.f1));replace HP:=sd (elemC' hcl (j:=2) (u:=.string x.f1) (x':={ c with f2:=x.f1 }) HP.out HIC.out HCc.out (by decide) rfl);go_roundw
    case rel=>exact ⟨i+1,cs.set i ({ c with f2:=x.f1 }),by omega,(by rw [hw]),rfl,by rw [List.length_set];exact hcl,HH,HP,HF⟩
    case measure =>
      refine Nat.sub_lt_sub_left hlt ?_;rw [hw];exact Nat.lt_succ_self i
end Go.Proofs.YtkbgkekegjfkfaaGreatDoor.A
