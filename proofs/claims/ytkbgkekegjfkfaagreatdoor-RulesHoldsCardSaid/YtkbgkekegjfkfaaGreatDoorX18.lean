-- By pack.py, a program of this session's.
import Derived.Test.YtkbgkekegjfkfaaGreatDoorX13
import Derived.Test.YtkbgkekegjfkfaaGreatDoorX14
import Derived.Test.YtkbgkekegjfkfaaGreatDoorX15
import Derived.Test.YtkbgkekegjfkfaaGreatDoorX16
set_option linter.unusedVariables false
set_option linter.unusedSimpArgs false
namespace Go.Proofs.YtkbgkekegjfkfaaGreatDoor.A
open Go.RowKit B WW WL WM
attribute [local go_sem] max2_int min2_int max_two min_two max_three min_three max_four min_four
set_option maxHeartbeats 8000000
set_option maxRecDepth 100000
theorem testK_calls {c:S48} {f:Nat} {cap:Array Value} {g gn gs:Nat} {w:World} (hE:CEnv w g gn gs c) (hK:TestK c f cap g gn gs) (d a:Int) (rf tx:ByteArray) (h1:rf.size < 4294967281) (h2:tx.size < 4294967281) (hm:MxAt w) :
  Calls Tryz.prog f (#[lineV d a rf tx]++cap) w fun e w'=>e=.returned (.bool (testF c d a rf tx))∧Below w.heap.size w w':=by
 have hz:(sOfC c rf tx).size < 4294967281:=by unfold sOfC;split <;> assumption
 unfold testF;rcases hK with ⟨e,rfl,rfl⟩ | ⟨e,rfl,rfl⟩ | ⟨e,rfl,rfl⟩ | ⟨e,rfl,rfl⟩ | ⟨⟨e2,e3,e4,e5⟩,⟨e,rfl,rfl⟩ | ⟨e,rfl,rfl⟩⟩
 ·rw [if_pos e];exact least_calls g gn gs c d a rf tx w hE
 ·rw [if_neg (by omega),if_pos e];exact most_calls g gn gs c d a rf tx w hE
 ·rw [if_neg (by omega),if_neg (by omega),if_pos e];exact has_calls g gn gs c d a rf tx w hE hz hm.2
 ·rw [if_neg (by omega),if_neg (by omega),if_neg (by omega),if_pos e];exact begins_calls g gn gs c d a rf tx w hE
 ·rw [if_neg e2,if_neg e3,if_neg e4,if_neg e5,if_pos e];exact same_calls g gn gs c d a rf tx w hE
 ·rw [if_neg e2,if_neg e3,if_neg e4,if_neg e5,if_neg e];refine (is_calls g gn gs c d a rf tx w hE).mono ?_;rintro e w' ⟨rfl,hb⟩;refine ⟨?_,hb⟩;congr 2
  rw [Bool.eq_iff_iff,beq_iff_eq,decide_eq_true_iff]
theorem rd48_mem (l:List S48) (i:Nat) (h:i < l.length):rd_T48 l (i:Int)∈l:=by
 unfold rd_T48;rw [Int.toNat_natCast,List.getD_eq_getElem?_getD,List.getElem?_eq_getElem h];exact List.getElem_mem h
theorem take48 (l:List S48) (i:Nat) (h:i < l.length):l.take (i+1)=l.take i++[rd_T48 l (i:Int)]:=by
 unfold rd_T48;rw [List.take_add_one,List.getElem?_eq_getElem h,Int.toNat_natCast,List.getD_eq_getElem?_getD,List.getElem?_eq_getElem h];rfl
theorem rules_Holds.calls (k:Nat) (a0_0:ByteArray) (A0_1:Option Addr) (c0_1:Nat) (l0_1:List S48) (a0_2 a0_3:ByteArray) (A0_4:Option Addr) (c0_4:Nat) (l0_4:List S50) (a1_0 a1_1:Int) (a1_2 a1_3:ByteArray) (r:Bool) (w:World) (hr0_1:Kd.C k48 w A0_1 l0_1.length l0_1) (hc0_1:l0_1.length≤c0_1) (hr0_4:Kd.C k50 w A0_4 l0_4.length l0_4) (hc0_4:l0_4.length≤c0_4) (h:rules_Holds.f k a0_0 l0_1 a0_2 a0_3 l0_4 a1_0 a1_1 a1_2 a1_3=some r) (hG:Gl w) :
  Calls Tryz.prog 12 #[.agg #[.string a0_0,.slice A0_1 l0_1.length c0_1,.string a0_2,.string a0_3,.slice A0_4 l0_4.length c0_4],.agg #[.int .i64 a1_0,.int .i64 a1_1,.string a1_2,.string a1_3]] w fun e w'=>e=.returned (.bool r)∧Below w.heap.size w w':=by
 unfold rules_Holds.f at h;obtain ⟨ck,hck,h⟩:=Option.bind_eq_some_iff.mp h;have H:=sd h;have HR1:=sd hr0_1;have HC1:=sd hc0_1;have HR4:=sd hr0_4;have HC4:=sd hc0_4;have HG:=sd hG;have CK:=sd (fun W (h1:Kd.C k48 W A0_1 l0_1.length l0_1) (h4:Kd.C k50 W A0_4 l0_4.length l0_4)=>rules_Check.calls k a0_0 A0_1 c0_1 l0_1 a0_2 a0_3 A0_4 c0_4 l0_4 ck W h1 hc0_1 h4 hc0_4 hck);clear h hck hr0_1 hc0_1 hr0_4 hc0_4 hG;generalize hQ:(fun (e:Ending) (w':World)=>e=.returned (.bool r)∧Below w.heap.size w w')=Post;have HQ:=sd hQ;clear hQ;go_enter Tryz.func12,Tryz.ntmps12
 go_upto_region 1 with (fail)
 have hB1:=below_alloc (Below.refl w.heap.size w) (Obj.cells #[Value.string a0_0,Value.slice A0_1 l0_1.length c0_1,Value.string a0_2,Value.string a0_3,Value.slice A0_4 l0_4.length c0_4] 25);have hs1:(w.alloc (Obj.cells #[Value.string a0_0,Value.slice A0_1 l0_1.length c0_1,Value.string a0_2,Value.string a0_3,Value.slice A0_4 l0_4.length c0_4] 25)).heap.size=w.heap.size+1:=Array.size_push _;have b2:(w.alloc (Obj.cells #[Value.string a0_0,Value.slice A0_1 l0_1.length c0_1,Value.string a0_2,Value.string a0_3,Value.slice A0_4 l0_4.length c0_4] 25)).heap[w.heap.size]?=some (.cells #[Value.string a0_0,Value.slice A0_1 l0_1.length c0_1,Value.string a0_2,Value.string a0_3,Value.slice A0_4 l0_4.length c0_4] 25 (0,0)):=blk_new _ _;rw [← hs1];obtain ⟨g2,hg2⟩:∃ g,g=w.heap.size:=⟨_,rfl⟩
 rw [← hg2] at b2;rw [show (⟨w.heap.size,0,none⟩:Addr)=⟨g2,0,none⟩ from by rw [hg2]];clear hs1;generalize w.alloc (Obj.cells #[Value.string a0_0,Value.slice A0_1 l0_1.length c0_1,Value.string a0_2,Value.string a0_3,Value.slice A0_4 l0_4.length c0_4] 25)=w1 at *;have hB2:=below_alloc (Below.refl w1.heap.size w1) (Obj.cells #[Value.int IntKind.i64 a1_0,Value.int IntKind.i64 a1_1,Value.string a1_2,Value.string a1_3] 32);have b3:(w1.alloc (Obj.cells #[Value.int IntKind.i64 a1_0,Value.int IntKind.i64 a1_1,Value.string a1_2,Value.string a1_3] 32)).heap[w1.heap.size]?=some (.cells #[Value.int IntKind.i64 a1_0,Value.int IntKind.i64 a1_1,Value.string a1_2,Value.string a1_3] 32 (0,0)):=blk_new _ _;replace b2:=blk_below b2 hB2;obtain ⟨g3,hg3⟩:∃ g,g=w1.heap.size:=⟨_,rfl⟩
 rw [← hg3] at b3;rw [show (⟨w1.heap.size,0,none⟩:Addr)=⟨g3,0,none⟩ from by rw [hg3]];have HB:=sd (hB1.trans (hB2.mono hB1.size));clear hB1 hB2 hg2 hg3;generalize w1.alloc (Obj.cells #[Value.int IntKind.i64 a1_0,Value.int IntKind.i64 a1_1,Value.string a1_2,Value.string a1_3] 32)=w2 at *;have B2:=sd b2;have B3:=sd b3;clear b2 b3;have k_:=bk5 B2;obtain ⟨r0,r1,r2,r3,r4,_,_,_,_,_⟩:=k_;go_wp2_with fail
 refine (CK.out _ (Kd.C_below HR1.out HB.out) (Kd.C_below HR4.out HB.out)).mono ?_;rintro e w3 ⟨rfl,hb⟩;replace B2:=sd (blk_below B2.out hb);replace B3:=sd (blk_below B3.out hb);replace HB:=sd (HB.out.trans (hb.mono HB.out.size));clear hb r0 r1 r2 r3 r4 w1 CK;have h:=H.out;clear H;by_cases hz:ck=0
 case neg =>
  have q0:decide (ck=0)=false:=decide_eq_false hz;rw [if_neg hz] at h;obtain rfl:=Option.some.inj h;go_wp2_with fail
  rw [← HQ.out];exact ⟨by (try rfl),HB.out⟩
 subst hz;rw [if_pos rfl] at h;split at h
 case isFalse=>cases h
 rename_i hsz
 have HZ:=sd hsz;have HE:=sd (Option.some.inj h);clear h hsz;have k_:=bk5 B2;obtain ⟨r0,r1,r2,r3,r4,_,_,_,_,_⟩:=k_;go_wp2_with fail
 go_loopw [13] (fun n_ wr=>∃ (i:Nat),i≤l0_1.length∧n_=.int .i64 (i:Int)∧Aside0 (∀ x∈l0_1.take i,testF x a1_0 a1_1 a1_2 a1_3=true)∧Aside0 (Below w.heap.size w wr)∧Aside0 (wr.heap[g2]?=some (.cells #[Value.string a0_0,Value.slice A0_1 l0_1.length c0_1,Value.string a0_2,Value.string a0_3,Value.slice A0_4 l0_4.length c0_4] 25 (0,0)))∧Aside0 (wr.heap[g3]?=some (.cells #[Value.int IntKind.i64 a1_0,Value.int IntKind.i64 a1_1,Value.string a1_2,Value.string a1_3] 32 (0,0)))) (fun n_ _=>(l0_1.length - (RowKit.intOf n_).toNat))
 case atStart=>exact ⟨0,Nat.zero_le _,rfl,⟨fun x hx=>(by cases hx)⟩,HB,B2,B3⟩
 case round =>
  clear HB B2 B3;obtain ⟨i,hi,rfl,HU,HB,B2,B3⟩:=hrel;rename World=>wr
  by_cases hlt:i < l0_1.length
  case neg =>
   obtain rfl:i=l0_1.length:=by omega
   have hlt':¬ (l0_1.length:Int) < (l0_1.length:Int):=by omega
   have hall:(l0_1.all fun c=>testF c a1_0 a1_1 a1_2 a1_3)=true:=by
    rw [List.all_eq_true];intro x hx;exact HU.out x (by rw [List.take_length];exact hx)
   have hr:r=true:=HE.out.symm.trans hall;clear hall;subst hr;go_wp2_with fail
   rw [← HQ.out];exact ⟨by (try rfl),HB.out⟩
  have hlt':(i:Int) < (l0_1.length:Int):=by omega
  have h0:(0:Int)≤(i:Int):=by omega
  have hmx:l0_1.length≤9223372036854775807:=HR1.out.2.1;have hw:wrap64 ((i:Int)+1)=((i+1:Nat):Int):=by unfold wrap64;omega
  obtain ⟨ad,e,x0,x1,x2,x3⟩:=at_T48 HR1.out (i:Int) (by omega) (by omega);replace x0:=(HB.out.cell (World.block_lt_of_cell? w _ x0)).trans x0;replace x1:=(HB.out.cell (World.block_lt_of_cell? w _ x1)).trans x1;replace x2:=(HB.out.cell (World.block_lt_of_cell? w _ x2)).trans x2;replace x3:=(HB.out.cell (World.block_lt_of_cell? w _ x3)).trans x3
  cases e
  simp only [Int.toNat_natCast] at x0 x1 x2 x3
  go_wp2_with fail
  clear x0 x1 x2 x3 r0 r1 r2 r3 r4;obtain ⟨c,hc⟩:∃ c,rd_T48 l0_1 (i:Int)=c:=⟨_,rfl⟩
  rw [hc];have HCc:=sd hc;clear hc;have hB1:=below_alloc (Below.refl wr.heap.size wr) (Obj.cells #[Value.int IntKind.i64 c.f0,Value.int IntKind.i64 c.f1,Value.string c.f2,Value.int IntKind.i64 c.f3] 48);have b6:(wr.alloc (Obj.cells #[Value.int IntKind.i64 c.f0,Value.int IntKind.i64 c.f1,Value.string c.f2,Value.int IntKind.i64 c.f3] 48)).heap[wr.heap.size]?=some (.cells #[Value.int IntKind.i64 c.f0,Value.int IntKind.i64 c.f1,Value.string c.f2,Value.int IntKind.i64 c.f3] 48 (0,0)):=blk_new _ _;replace B2:=sd (blk_below B2.out hB1);replace B3:=sd (blk_below B3.out hB1);replace HB:=sd (HB.out.trans (hB1.mono HB.out.size));clear hB1;generalize wr.alloc (Obj.cells #[Value.int IntKind.i64 c.f0,Value.int IntKind.i64 c.f1,Value.string c.f2,Value.int IntKind.i64 c.f3] 48)=w4 at *;obtain ⟨g6,hg6⟩:∃ g,g=wr.heap.size:=⟨_,rfl⟩
  rw [← hg6] at b6 ⊢;have B6:=sd b6;clear b6 hg6;replace B2:=sd (blk_below B2.out (below_drew1 (Below.refl _ _)));replace B3:=sd (blk_below B3.out (below_drew1 (Below.refl _ _)));replace B6:=sd (blk_below B6.out (below_drew1 (Below.refl _ _)));replace HB:=sd (below_drew1 HB.out);have k3:=bk4 B3;have k6:=bk4 B6;refine start_ (n:=5) (S:=fun w'=>w'.cell? ⟨g6,0,none⟩=some (.int .i64 c.f0)∧w'.cell? ⟨g6,1,none⟩=some (.int .i64 c.f1)∧w'.cell? ⟨g6,2,none⟩=some (.string c.f2)∧w'.cell? ⟨g6,3,none⟩=some (.int .i64 c.f3)∧w'.cell? ⟨g3,0,none⟩=some (.int .i64 a1_0)∧w'.cell? ⟨g3,1,none⟩=some (.int .i64 a1_1)∧w'.cell? ⟨g3,2,none⟩=some (.string a1_2)∧w'.cell? ⟨g3,3,none⟩=some (.string a1_3)) (ds:=[]) #[false,false,false,false,false] (by kernel_rfl) rfl rfl ⟨k6.1,k6.2.1,k6.2.2.1,k6.2.2.2.1,k3.1,k3.2.1,k3.2.2.1,k3.2.2.2.1⟩ (fun hHeld=>?_);clear k3 k6;generalize w4.drew=w5 at hHeld B2 B3 B6 HB ⊢;refine tB 0 17 hHeld ?_;refine tB 2 19 hHeld ?_;refine one_ (i:=1) (N:=some 18) #[true,true,true,false,false] rfl rfl (by kernel_rfl) (by decide) (fun K hK=>?_);refine goes_ Tryz.func28 (by kernel_rfl) rfl #[.agg #[Value.int IntKind.i64 c.f0,Value.int IntKind.i64 c.f1,Value.string c.f2,Value.int IntKind.i64 c.f3]] (by rfl) rfl rfl zq30 ?_;refine (test_calls count_calls c w5).mono ?_;rintro e w6 ⟨hb,f,cap,g,gn,gs,rfl,hE,hT⟩;refine ⟨_,rfl,?_⟩;replace B2:=sd (blk_below B2.out hb);replace B3:=sd (blk_below B3.out hb);replace B6:=sd (blk_below B6.out hb);replace HB:=sd (HB.out.trans (hb.mono HB.out.size));clear hb hHeld;have k3:=bk4 B3;have k6:=bk4 B6;refine hK.out _ _ ⟨k6.1,k6.2.1,k6.2.2.1,k6.2.2.2.1,k3.1,k3.2.1,k3.2.2.1,k3.2.2.2.1⟩ (fun hHeld=>?_);clear hK K k3 k6;refine nA 18 ?_;refine one_ (i:=3) (N:=some 20) #[true,true,true,true,false] rfl rfl (by kernel_rfl) (by decide) (fun K hK=>?_)
  have hfn : ∃ fn, Tryz.prog.funcs[f]? = some fn ∧ (fn.name == "runtime.NumGoroutine") = false ∧ fn.body.isSome = true := by
   rcases hT with ⟨_,rfl,_⟩ | ⟨_,rfl,_⟩ | ⟨_,rfl,_⟩ | ⟨_,rfl,_⟩ | ⟨_,⟨_,rfl,_⟩ | ⟨_,rfl,_⟩⟩
   ·exact ⟨_,Tryz.func61,by kernel_rfl,rfl⟩
   ·exact ⟨_,Tryz.func62,by kernel_rfl,rfl⟩
   ·exact ⟨_,Tryz.func63,by kernel_rfl,rfl⟩
   ·exact ⟨_,Tryz.func65,by kernel_rfl,rfl⟩
   ·exact ⟨_,Tryz.func68,by kernel_rfl,rfl⟩
   ·exact ⟨_,Tryz.func69,by kernel_rfl,rfl⟩
  obtain ⟨fn,f1,f2,f3⟩:=hfn;refine goesF_ (cap:=cap) f1 f2 f3 (#[lineV a1_0 a1_1 a1_2 a1_3]++cap) (by rfl) rfl rfl (by rfl) (by (try simp only [List.map_toArray,List.map_cons,List.map_nil]);rfl) ?_;refine (testK_calls hE hT a1_0 a1_1 a1_2 a1_3 HZ.out.1 HZ.out.2 (HG.out.2.2.below HB.out)).mono ?_;rintro e w7 ⟨rfl,hb⟩;refine ⟨_,rfl,?_⟩;replace B2:=sd (blk_below B2.out hb);replace B3:=sd (blk_below B3.out hb);replace B6:=sd (blk_below B6.out hb);replace HB:=sd (HB.out.trans (hb.mono HB.out.size));clear hb hHeld hE hT f1 f2 f3;have k3:=bk4 B3;have k6:=bk4 B6;refine hK.out _ _ ⟨k6.1,k6.2.1,k6.2.2.1,k6.2.2.2.1,k3.1,k3.2.1,k3.2.2.1,k3.2.2.2.1⟩ (fun hHeld=>?_);clear hK K k3 k6 hHeld;refine nA 20 ?_;refine pB 4 21 ?_;refine done_ (by kernel_rfl) ?_
  cases hb:testF c a1_0 a1_1 a1_2 a1_3
  ·have hall:(l0_1.all fun c=>testF c a1_0 a1_1 a1_2 a1_3)=false:=by
    rw [Bool.eq_false_iff];intro hh;have:=List.all_eq_true.mp hh c (by rw [← HCc.out];exact rd48_mem l0_1 i hlt);rw [hb] at this;cases this
   have hr:r=false:=HE.out.symm.trans hall;clear hall;subst hr;go_wp2_with fail
   rw [← HQ.out];exact ⟨by (try rfl),HB.out⟩
  ·have HU2:=sd (show ∀ x∈l0_1.take (i+1),testF x a1_0 a1_1 a1_2 a1_3=true from fun x hx=>by
    rw [take48 l0_1 i hlt,List.mem_append,List.mem_singleton] at hx;rcases hx with hx | hx
    ·exact HU.out x hx
    ·rw [hx,HCc.out];exact hb)
   clear HU hb;go_wp2_with fail
   go_roundw
   case rel=>exact ⟨i+1,by omega,(by congr 1),HU2,HB,B2,B3⟩
   case measure=>simp [RowKit.intOf,hw];omega
theorem key_calls (gw:Nat) (kd:Int) (s x:ByteArray) (w:World) (h0:w.cell? ⟨gw,0,none⟩=some (.int .i64 kd)) (h1:w.cell? ⟨gw,1,none⟩=some (.string s)) :
    Calls Tryz.prog 111 #[.string x,.pointer (some ⟨gw,0,none⟩)] w fun e w'=>e=.returned (.bool (keyV kd s x))∧Drawn0 w w':=by
  unfold keyV;by_cases e:kd=1
  · have q:decide (kd=1)=true:=decide_eq_true e
    have hr:decide (kd=1∧s.toList=x.toList)=(s.toList == x.toList):=by
      rw [Bool.eq_iff_iff,decide_eq_true_iff,beq_iff_eq];exact ⟨fun h=>h.2,fun h=>⟨e,h⟩⟩
    rw [hr];clear hr;go_enter Tryz.func111,Tryz.ntmps111
    go_wp2_with fail
    go_ret
    exact ⟨rfl,Drawn0.refl _⟩
  have q:decide (kd=1)=false:=decide_eq_false e;have hr:decide (kd=1∧s.toList=x.toList)=false:=decide_eq_false (fun h=>e h.1);rw [hr];clear hr;go_enter Tryz.func111,Tryz.ntmps111
  go_wp2_with fail
  go_ret
  exact ⟨rfl,Drawn0.refl _⟩
theorem head_0 (bd g:Nat) (p:PR) (vC vT vW:Value) (x:S73) (code:Bool) (w:World) (hp:RP w bd g p vC vT vW) (hbd:bd≤w.heap.size) (hst:p.st=0) :
    Calls Tryz.prog 81 #[.pointer (some ⟨g,0,none⟩),.agg #[.int .i64 x.f0,.string x.f1,.int .i64 x.f2],.bool code] w (StepPost bd g vC vT vW (p) (fol (keyB x (⟨#[114,117,108,101]⟩:ByteArray)) 1) w):=by
  have hmf:∀ (fn:Fn) (first cap:Array Value) (w:World),(Instr.makeFunc fn first cap).run Tryz.prog w=.ok (.func fn first cap) w:=fun _ _ _ _=>rfl
  have HP:=sd hp;have HNE:=sd (show ¬ w.heap.size=g from fun h=>by have:=blk_lt hp.blk;omega);have HNW:=sd (Kd.R_lt HP.out.rW);have HF:=sd (FP.refl bd g vC vT vW w);clear hp;generalize hQ:StepPost bd g vC vT vW (p) (fol (keyB x (⟨#[114,117,108,101]⟩:ByteArray)) 1) w=Post;have HQ:=sd hQ;clear hQ;go_enter Tryz.func81,Tryz.ntmps81
  go_upto_region 1 with (fail)
  have hB1:=below_alloc (Below.refl w.heap.size w) (Obj.cells #[Value.int IntKind.i64 x.f0,Value.string x.f1,Value.int IntKind.i64 x.f2] 73);have b0:(w.alloc (Obj.cells #[Value.int IntKind.i64 x.f0,Value.string x.f1,Value.int IntKind.i64 x.f2] 73)).heap[w.heap.size]?=some (.cells #[Value.int IntKind.i64 x.f0,Value.string x.f1,Value.int IntKind.i64 x.f2] 73 (0,0)):=blk_new _ _;replace HP:=sd (HP.out.below hB1);replace HF:=sd (HF.out.below hB1 hbd);generalize w.alloc (Obj.cells #[Value.int IntKind.i64 x.f0,Value.string x.f1,Value.int IntKind.i64 x.f2] 73)=w1 at *;obtain ⟨gw,hgw⟩:∃ gw,gw=w.heap.size:=⟨_,rfl⟩
  have hgg:gw≠g:=by have:=blk_lt HP.out.blk;have:=hB1.size;intro h;rw [hgw] at h;exact absurd h (HNE.out)
  have HGN:=sd (show some gw≠Value.ownBlock vW from fun e=>by have:=HNW.out gw e.symm;omega);clear HNW;rw [← hgw] at b0 ⊢;have BW:=sd b0;have HB1:=sd hB1;clear b0 hB1 hgw;obtain ⟨⟨k0,k1,k2,k3,k4,k5,k6⟩,f0,f1,f2,f3,f4,f5,f6⟩:=HP.out.facts;rw [hst] at k5;obtain ⟨w0_,w1_,w2_,_,_,_⟩:=bk3 BW;go_wp2_with fail
  refine (key_calls gw x.f0 x.f1 (⟨#[114,117,108,101]⟩:ByteArray) _ w0_ w1_).mono ?_;rintro e wn ⟨rfl,hd⟩;obtain ⟨⟨nd,rfl⟩⟩:=hd;replace HP:=sd (HP.out.below (pw_below_drewN (Below.refl _ _) nd));replace HF:=sd (HF.out.below (pw_below_drewN (Below.refl _ _) nd) hbd);generalize w1.drewN nd=w2 at HP HF ⊢;go_wp2_with fail
  refine (follow_calls _ 1 _).mono ?_;rintro e wn ⟨rfl,hd⟩;obtain ⟨⟨nd,rfl⟩⟩:=hd;replace HP:=sd (HP.out.below (pw_below_drewN (Below.refl _ _) nd));replace HF:=sd (HF.out.below (pw_below_drewN (Below.refl _ _) nd) hbd);generalize w2.drewN nd=w3 at HP HF ⊢;go_wp2_with fail
  rw [← HQ.out];exact ⟨by (try rfl),⟨_,_,_,HP.out⟩,HF.out⟩
theorem head_2 (bd g:Nat) (p:PR) (vC vT vW:Value) (x:S73) (code:Bool) (w:World) (hp:RP w bd g p vC vT vW) (hbd:bd≤w.heap.size) (hst:p.st=2) :
    Calls Tryz.prog 81 #[.pointer (some ⟨g,0,none⟩),.agg #[.int .i64 x.f0,.string x.f1,.int .i64 x.f2],.bool code] w (StepPost bd g vC vT vW (p) (fol (keyB x (⟨#[105,102]⟩:ByteArray)) 3) w):=by
  have hmf:∀ (fn:Fn) (first cap:Array Value) (w:World),(Instr.makeFunc fn first cap).run Tryz.prog w=.ok (.func fn first cap) w:=fun _ _ _ _=>rfl
  have HP:=sd hp;have HNE:=sd (show ¬ w.heap.size=g from fun h=>by have:=blk_lt hp.blk;omega);have HNW:=sd (Kd.R_lt HP.out.rW);have HF:=sd (FP.refl bd g vC vT vW w);clear hp;generalize hQ:StepPost bd g vC vT vW (p) (fol (keyB x (⟨#[105,102]⟩:ByteArray)) 3) w=Post;have HQ:=sd hQ;clear hQ;go_enter Tryz.func81,Tryz.ntmps81
  go_upto_region 1 with (fail)
  have hB1:=below_alloc (Below.refl w.heap.size w) (Obj.cells #[Value.int IntKind.i64 x.f0,Value.string x.f1,Value.int IntKind.i64 x.f2] 73);have b0:(w.alloc (Obj.cells #[Value.int IntKind.i64 x.f0,Value.string x.f1,Value.int IntKind.i64 x.f2] 73)).heap[w.heap.size]?=some (.cells #[Value.int IntKind.i64 x.f0,Value.string x.f1,Value.int IntKind.i64 x.f2] 73 (0,0)):=blk_new _ _;replace HP:=sd (HP.out.below hB1);replace HF:=sd (HF.out.below hB1 hbd);generalize w.alloc (Obj.cells #[Value.int IntKind.i64 x.f0,Value.string x.f1,Value.int IntKind.i64 x.f2] 73)=w1 at *;obtain ⟨gw,hgw⟩:∃ gw,gw=w.heap.size:=⟨_,rfl⟩
  have hgg:gw≠g:=by have:=blk_lt HP.out.blk;have:=hB1.size;intro h;rw [hgw] at h;exact absurd h (HNE.out)
  have HGN:=sd (show some gw≠Value.ownBlock vW from fun e=>by have:=HNW.out gw e.symm;omega);clear HNW;rw [← hgw] at b0 ⊢;have BW:=sd b0;have HB1:=sd hB1;clear b0 hB1 hgw;obtain ⟨⟨k0,k1,k2,k3,k4,k5,k6⟩,f0,f1,f2,f3,f4,f5,f6⟩:=HP.out.facts;rw [hst] at k5;obtain ⟨w0_,w1_,w2_,_,_,_⟩:=bk3 BW;go_wp2_with fail
  refine (key_calls gw x.f0 x.f1 (⟨#[105,102]⟩:ByteArray) _ w0_ w1_).mono ?_;rintro e wn ⟨rfl,hd⟩;obtain ⟨⟨nd,rfl⟩⟩:=hd;replace HP:=sd (HP.out.below (pw_below_drewN (Below.refl _ _) nd));replace HF:=sd (HF.out.below (pw_below_drewN (Below.refl _ _) nd) hbd);generalize w1.drewN nd=w2 at HP HF ⊢;go_wp2_with fail
  refine (follow_calls _ 3 _).mono ?_;rintro e wn ⟨rfl,hd⟩;obtain ⟨⟨nd,rfl⟩⟩:=hd;replace HP:=sd (HP.out.below (pw_below_drewN (Below.refl _ _) nd));replace HF:=sd (HF.out.below (pw_below_drewN (Below.refl _ _) nd) hbd);generalize w2.drewN nd=w3 at HP HF ⊢;go_wp2_with fail
  rw [← HQ.out];exact ⟨by (try rfl),⟨_,_,_,HP.out⟩,HF.out⟩
theorem head_4 (bd g:Nat) (p:PR) (vC vT vW:Value) (x:S73) (code:Bool) (w:World) (hp:RP w bd g p vC vT vW) (hbd:bd≤w.heap.size) (hst:p.st=4) (hG:Gl w) (hn:0 < p.cs.length) (k:Nat) (b:Bool) (hsu:rules_suits.f k (rd_T48 p.cs ((p.cs.length - 1:Nat):Int)).f0 (numS opL x.f1 0)=some b) :
    Calls Tryz.prog 81 #[.pointer (some ⟨g,0,none⟩),.agg #[.int .i64 x.f0,.string x.f1,.int .i64 x.f2],.bool code] w (StepPost bd g vC vT vW ({ p with cs:=p.cs.set (p.cs.length - 1) { rd_T48 p.cs ((p.cs.length - 1:Nat):Int) with f1:=numS opL x.f1 0 } }) (fol (decide (x.f0=1) && b) 5) w):=by
  have hmf:∀ (fn:Fn) (first cap:Array Value) (w:World),(Instr.makeFunc fn first cap).run Tryz.prog w=.ok (.func fn first cap) w:=fun _ _ _ _=>rfl
  have HP:=sd hp;obtain ⟨gc,cap,rfl,hgc,_,_⟩:=Kd.R_form HP.out.rC hn;have HSU:=sd hsu;have HN:=sd hn;have HGC:=sd hgc;clear hsu hn hgc;have HG:=sd hG;clear hG;have HNE:=sd (show ¬ w.heap.size=g from fun h=>by have:=blk_lt hp.blk;omega);have HNW:=sd (Kd.R_lt HP.out.rW);have HF:=sd (FP.refl bd g (.slice (some ⟨gc,0,none⟩) p.cs.length cap) vT vW w);clear hp;generalize hQ:StepPost bd g (.slice (some ⟨gc,0,none⟩) p.cs.length cap) vT vW ({ p with cs:=p.cs.set (p.cs.length - 1) { rd_T48 p.cs ((p.cs.length - 1:Nat):Int) with f1:=numS opL x.f1 0 } }) (fol (decide (x.f0=1) && b) 5) w=Post;have HQ:=sd hQ;clear hQ;go_enter Tryz.func81,Tryz.ntmps81
  go_upto_region 1 with (fail)
  have hB1:=below_alloc (Below.refl w.heap.size w) (Obj.cells #[Value.int IntKind.i64 x.f0,Value.string x.f1,Value.int IntKind.i64 x.f2] 73);have b0:(w.alloc (Obj.cells #[Value.int IntKind.i64 x.f0,Value.string x.f1,Value.int IntKind.i64 x.f2] 73)).heap[w.heap.size]?=some (.cells #[Value.int IntKind.i64 x.f0,Value.string x.f1,Value.int IntKind.i64 x.f2] 73 (0,0)):=blk_new _ _;replace HP:=sd (HP.out.below hB1);replace HF:=sd (HF.out.below hB1 hbd);generalize w.alloc (Obj.cells #[Value.int IntKind.i64 x.f0,Value.string x.f1,Value.int IntKind.i64 x.f2] 73)=w1 at *;obtain ⟨gw,hgw⟩:∃ gw,gw=w.heap.size:=⟨_,rfl⟩
  have hgg:gw≠g:=by have:=blk_lt HP.out.blk;have:=hB1.size;intro h;rw [hgw] at h;exact absurd h (HNE.out)
  have HGN:=sd (show some gw≠Value.ownBlock vW from fun e=>by have:=HNW.out gw e.symm;omega);clear HNW;rw [← hgw] at b0 ⊢;have BW:=sd b0;have HB1:=sd hB1;clear b0 hB1 hgw;obtain ⟨⟨k0,k1,k2,k3,k4,k5,k6⟩,f0,f1,f2,f3,f4,f5,f6⟩:=HP.out.facts;rw [hst] at k5;obtain ⟨w0_,w1_,w2_,_,_,_⟩:=bk3 BW;go_wp2_with fail
  refine (last_calls bd g gc cap p vT vW _ HP.out HN.out).mono ?_;rintro e wn ⟨rfl,hd⟩;obtain ⟨⟨nd,rfl⟩⟩:=hd;replace HB1:=sd (pw_below_drewN HB1.out nd);replace HP:=sd (HP.out.below (pw_below_drewN (Below.refl _ _) nd));replace HF:=sd (HF.out.below (pw_below_drewN (Below.refl _ _) nd) hbd);replace BW:=sd (blk_below BW.out (pw_below_drewN (Below.refl _ _) nd));clear k0 k1 k2 k3 k4 k5 k6 f0 f1 f2 f3 f4 f5 f6 w0_ w1_ w2_;generalize w1.drewN nd=w2 at *;obtain ⟨w0_,w1_,w2_,_,_,_⟩:=bk3 BW;go_wp2_with fail
  refine (op_calls x.f1 w2 (gl_below HG.out HB1.out)).mono ?_;rintro e wn ⟨rfl,hb⟩;replace HP:=sd (HP.out.below hb);replace HF:=sd (HF.out.below hb hbd);replace BW:=sd (blk_below BW.out hb);clear hb w0_ w1_ w2_;obtain ⟨op,hop⟩:∃ n,numS opL x.f1 0=n:=⟨_,rfl⟩
  rw [hop] at HQ HSU ⊢;clear hop;obtain ⟨m,hm⟩:∃ m,p.cs.length - 1=m:=⟨_,rfl⟩
  rw [hm] at HQ HSU ⊢;have hml:m < p.cs.length:=by have:=HN.out;omega
  obtain ⟨c,hc⟩:∃ c,rd_T48 p.cs (m:Int)=c:=⟨_,rfl⟩
  rw [hc] at HQ HSU;clear hm;obtain ⟨cc,hcl,hM,hcc,hfr⟩:=Kd.R_elem HP.out.rC z48 (m:Int) (by omega) (by omega)
  have hce:cc=[Value.int .i64 c.f0,.int .i64 c.f1,.string c.f2,.int .i64 c.f3]:=by
    have:=k48_openM hM;rw [this,← hc];rfl
  subst hce;have e0:wn.cell? ⟨gc,m * 4,none⟩=some (.int .i64 c.f0):=hcc 0 _ rfl;have e1:wn.cell? ⟨gc,m * 4+1,none⟩=some (.int .i64 c.f1):=hcc 1 _ rfl;have e2:wn.frozen? ⟨gc,m * 4+1,none⟩=false:=hfr 1;clear hcl hM hcc hfr;obtain ⟨w0_,w1_,w2_,_,_,_⟩:=bk3 BW;go_wp2_with fail
  have hne:gw≠gc:=fun e=>Kd.R_ne HP.out.rC BW.out (by decide) (by rw [e];rfl)
  replace BW:=sd (blk_far (p:=⟨gc,m * 4+1,none⟩) BW.out hne (.int .i64 op));replace HF:=sd (FP.far (o:=m * 4+1) HF.out HGC.out (Or.inl rfl) (.int .i64 op));replace HP:=sd (RP.elemC (j:=1) (u:=.int .i64 op) (x':={ c with f1:=op }) HP.out hml hc (by decide) rfl);clear e0 e1 e2 w0_ w1_ w2_ hne;generalize wn.setCell ⟨gc,m * 4+1,none⟩ (.int .i64 op)=w4 at HP HF BW ⊢;obtain ⟨cc,hcl,hM,hcc,hfr⟩:=Kd.R_elem HP.out.rC z48 (m:Int) (by omega) (by rw [List.length_set];omega)
  have hce:cc=[Value.int .i64 c.f0,.int .i64 op,.string c.f2,.int .i64 c.f3]:=by
    have:=k48_openM hM
    have h2:(p.cs.set m { c with f1:=op }).getD (m:Int).toNat z48={ c with f1:=op }:=by
      rw [Int.toNat_natCast,List.getD_eq_getElem?_getD,List.getElem?_set_self hml];rfl
    rw [this,h2]
  subst hce;have e0:w4.cell? ⟨gc,m * 4,none⟩=some (.int .i64 c.f0):=hcc 0 _ rfl;have e1:w4.cell? ⟨gc,m * 4+1,none⟩=some (.int .i64 op):=hcc 1 _ rfl;clear hcl hM hcc hfr hc;obtain ⟨w0_,w1_,w2_,_,_,_⟩:=bk3 BW;have HS:=sd (fun W=>rules_suits.calls k c.f0 op b W HSU.out);by_cases ex:x.f0=1
  · have q1:decide (x.f0=1)=true:=decide_eq_true ex
    rw [q1,Bool.true_and] at HQ;repeat (go_quiet (first | (go_at_call 52;exact Calls.quiet_of ((HS.out _).mono fun e w' h=>⟨h.1,h.2.out⟩)) | (go_at_call 112;exact Calls.quiet_of ((follow_calls _ _ _).mono fun e w' h=>⟨h.1,h.2.out⟩)));try go_wp2)
    rw [← HQ.out];exact ⟨by (try rfl),⟨_,_,_,HP.out.below (pw_below_drewN (Below.refl _ _) _)⟩,HF.out.below (pw_below_drewN (Below.refl _ _) _) hbd⟩
  have q1:decide (x.f0=1)=false:=decide_eq_false ex;rw [q1,Bool.false_and] at HQ;repeat (go_quiet (first | (go_at_call 52;exact Calls.quiet_of ((HS.out _).mono fun e w' h=>⟨h.1,h.2.out⟩)) | (go_at_call 112;exact Calls.quiet_of ((follow_calls _ _ _).mono fun e w' h=>⟨h.1,h.2.out⟩)));try go_wp2)
  rw [← HQ.out];exact ⟨by (try rfl),⟨_,_,_,HP.out.below (pw_below_drewN (Below.refl _ _) _)⟩,HF.out.below (pw_below_drewN (Below.refl _ _) _) hbd⟩
theorem tail_13 (bd g:Nat) (p:PR) (vC vT vW:Value) (x:S73) (code:Bool) (w:World) (hp:RP w bd g p vC vT vW) (hbd:bd≤w.heap.size) (hst:p.st=13) :
    Calls Tryz.prog 115 #[.pointer (some ⟨g,0,none⟩),.agg #[.int .i64 x.f0,.string x.f1,.int .i64 x.f2],.bool code] w (StepPost bd g vC vT vW (p) (fol (keyB x (⟨#[116,97,103]⟩:ByteArray)) 10) w):=by
  have hmf:∀ (fn:Fn) (first cap:Array Value) (w:World),(Instr.makeFunc fn first cap).run Tryz.prog w=.ok (.func fn first cap) w:=fun _ _ _ _=>rfl
  have HP:=sd hp;have HNE:=sd (show ¬ w.heap.size=g from fun h=>by have:=blk_lt hp.blk;omega);have HNW:=sd (Kd.R_lt HP.out.rW);have HF:=sd (FP.refl bd g vC vT vW w);clear hp;generalize hQ:StepPost bd g vC vT vW (p) (fol (keyB x (⟨#[116,97,103]⟩:ByteArray)) 10) w=Post;have HQ:=sd hQ;clear hQ;go_enter Tryz.func115,Tryz.ntmps115
  go_upto_region 1 with (fail)
  have hB1:=below_alloc (Below.refl w.heap.size w) (Obj.cells #[Value.int IntKind.i64 x.f0,Value.string x.f1,Value.int IntKind.i64 x.f2] 73);have b0:(w.alloc (Obj.cells #[Value.int IntKind.i64 x.f0,Value.string x.f1,Value.int IntKind.i64 x.f2] 73)).heap[w.heap.size]?=some (.cells #[Value.int IntKind.i64 x.f0,Value.string x.f1,Value.int IntKind.i64 x.f2] 73 (0,0)):=blk_new _ _;replace HP:=sd (HP.out.below hB1);replace HF:=sd (HF.out.below hB1 hbd);generalize w.alloc (Obj.cells #[Value.int IntKind.i64 x.f0,Value.string x.f1,Value.int IntKind.i64 x.f2] 73)=w1 at *;obtain ⟨gw,hgw⟩:∃ gw,gw=w.heap.size:=⟨_,rfl⟩
  have hgg:gw≠g:=by have:=blk_lt HP.out.blk;have:=hB1.size;intro h;rw [hgw] at h;exact absurd h (HNE.out)
  have HGN:=sd (show some gw≠Value.ownBlock vW from fun e=>by have:=HNW.out gw e.symm;omega);clear HNW;rw [← hgw] at b0 ⊢;have BW:=sd b0;have HB1:=sd hB1;clear b0 hB1 hgw;obtain ⟨⟨k0,k1,k2,k3,k4,k5,k6⟩,f0,f1,f2,f3,f4,f5,f6⟩:=HP.out.facts;rw [hst] at k5;obtain ⟨w0_,w1_,w2_,_,_,_⟩:=bk3 BW;go_wp2_with fail
  refine (key2_calls gw x.f0 x.f1 (⟨#[116,97,103]⟩:ByteArray) _ w0_ w1_).mono ?_;rintro e wn ⟨rfl,hd⟩;obtain ⟨⟨nd,rfl⟩⟩:=hd;replace HP:=sd (HP.out.below (pw_below_drewN (Below.refl _ _) nd));replace HF:=sd (HF.out.below (pw_below_drewN (Below.refl _ _) nd) hbd);generalize w1.drewN nd=w2 at HP HF ⊢;go_wp2_with fail
  refine (follow_calls _ 10 _).mono ?_;rintro e wn ⟨rfl,hd⟩;obtain ⟨⟨nd,rfl⟩⟩:=hd;replace HP:=sd (HP.out.below (pw_below_drewN (Below.refl _ _) nd));replace HF:=sd (HF.out.below (pw_below_drewN (Below.refl _ _) nd) hbd);generalize w2.drewN nd=w3 at HP HF ⊢;go_wp2_with fail
  rw [← HQ.out];exact ⟨by (try rfl),⟨_,_,_,HP.out⟩,HF.out⟩
theorem tail_6 (bd g:Nat) (p:PR) (vC vT vW:Value) (x:S73) (code:Bool) (w:World) (hp:RP w bd g p vC vT vW) (hbd:bd≤w.heap.size) (hst:p.st=6) :
    Calls Tryz.prog 115 #[.pointer (some ⟨g,0,none⟩),.agg #[.int .i64 x.f0,.string x.f1,.int .i64 x.f2],.bool code] w (StepPost bd g vC vT vW (p) (if keyB x (⟨#[97,110,100]⟩:ByteArray)=true then 3 else fol (keyB x (⟨#[116,104,101,110]⟩:ByteArray)) 7) w):=by
  have hmf:∀ (fn:Fn) (first cap:Array Value) (w:World),(Instr.makeFunc fn first cap).run Tryz.prog w=.ok (.func fn first cap) w:=fun _ _ _ _=>rfl
  have HP:=sd hp;have HNE:=sd (show ¬ w.heap.size=g from fun h=>by have:=blk_lt hp.blk;omega);have HNW:=sd (Kd.R_lt HP.out.rW);have HF:=sd (FP.refl bd g vC vT vW w);clear hp;generalize hQ:StepPost bd g vC vT vW (p) (if keyB x (⟨#[97,110,100]⟩:ByteArray)=true then 3 else fol (keyB x (⟨#[116,104,101,110]⟩:ByteArray)) 7) w=Post;have HQ:=sd hQ;clear hQ;go_enter Tryz.func115,Tryz.ntmps115
  go_upto_region 1 with (fail)
  have hB1:=below_alloc (Below.refl w.heap.size w) (Obj.cells #[Value.int IntKind.i64 x.f0,Value.string x.f1,Value.int IntKind.i64 x.f2] 73);have b0:(w.alloc (Obj.cells #[Value.int IntKind.i64 x.f0,Value.string x.f1,Value.int IntKind.i64 x.f2] 73)).heap[w.heap.size]?=some (.cells #[Value.int IntKind.i64 x.f0,Value.string x.f1,Value.int IntKind.i64 x.f2] 73 (0,0)):=blk_new _ _;replace HP:=sd (HP.out.below hB1);replace HF:=sd (HF.out.below hB1 hbd);generalize w.alloc (Obj.cells #[Value.int IntKind.i64 x.f0,Value.string x.f1,Value.int IntKind.i64 x.f2] 73)=w1 at *;obtain ⟨gw,hgw⟩:∃ gw,gw=w.heap.size:=⟨_,rfl⟩
  have hgg:gw≠g:=by have:=blk_lt HP.out.blk;have:=hB1.size;intro h;rw [hgw] at h;exact absurd h (HNE.out)
  have HGN:=sd (show some gw≠Value.ownBlock vW from fun e=>by have:=HNW.out gw e.symm;omega);clear HNW;rw [← hgw] at b0 ⊢;have BW:=sd b0;have HB1:=sd hB1;clear b0 hB1 hgw;obtain ⟨⟨k0,k1,k2,k3,k4,k5,k6⟩,f0,f1,f2,f3,f4,f5,f6⟩:=HP.out.facts;rw [hst] at k5;obtain ⟨w0_,w1_,w2_,_,_,_⟩:=bk3 BW;go_wp2_with fail
  refine (key2_calls gw x.f0 x.f1 (⟨#[97,110,100]⟩:ByteArray) _ w0_ w1_).mono ?_;rintro e wn ⟨rfl,hd⟩;obtain ⟨⟨nd,rfl⟩⟩:=hd;replace HP:=sd (HP.out.below (pw_below_drewN (Below.refl _ _) nd));replace HF:=sd (HF.out.below (pw_below_drewN (Below.refl _ _) nd) hbd);replace BW:=sd (blk_below BW.out (pw_below_drewN (Below.refl _ _) nd));clear k0 k1 k2 k3 k4 k5 k6 f0 f1 f2 f3 f4 f5 f6 w0_ w1_ w2_;generalize w1.drewN nd=w2 at HP HF BW ⊢;obtain ⟨w0_,w1_,w2_,_,_,_⟩:=bk3 BW
  cases hk:keyV x.f0 x.f1 (⟨#[97,110,100]⟩:ByteArray)
  · rw [show keyB x (⟨#[97,110,100]⟩:ByteArray)=false from hk,if_neg (by decide)] at HQ
    go_wp2_with fail
    refine (key2_calls gw x.f0 x.f1 (⟨#[116,104,101,110]⟩:ByteArray) _ w0_ w1_).mono ?_;rintro e wn ⟨rfl,hd⟩;obtain ⟨⟨nd,rfl⟩⟩:=hd;replace HP:=sd (HP.out.below (pw_below_drewN (Below.refl _ _) nd));replace HF:=sd (HF.out.below (pw_below_drewN (Below.refl _ _) nd) hbd);generalize w2.drewN nd=w3 at HP HF ⊢;go_wp2_with fail
    refine (follow_calls _ 7 _).mono ?_;rintro e wn ⟨rfl,hd⟩;obtain ⟨⟨nd,rfl⟩⟩:=hd;replace HP:=sd (HP.out.below (pw_below_drewN (Below.refl _ _) nd));replace HF:=sd (HF.out.below (pw_below_drewN (Below.refl _ _) nd) hbd);generalize w3.drewN nd=w4 at HP HF ⊢;go_wp2_with fail
    rw [← HQ.out];exact ⟨by (try rfl),⟨_,_,_,HP.out⟩,HF.out⟩
  · rw [show keyB x (⟨#[97,110,100]⟩:ByteArray)=true from hk,if_pos rfl] at HQ
    go_wp2_with fail
    rw [← HQ.out];exact ⟨by (try rfl),⟨_,_,_,HP.out⟩,HF.out⟩
theorem tail_8 (bd g:Nat) (p:PR) (vC vT vW:Value) (x:S73) (code:Bool) (w:World) (hp:RP w bd g p vC vT vW) (hbd:bd≤w.heap.size) (hst:p.st=8) :
    Calls Tryz.prog 115 #[.pointer (some ⟨g,0,none⟩),.agg #[.int .i64 x.f0,.string x.f1,.int .i64 x.f2],.bool code] w (StepPost bd g vC vT vW (p) (if keyB x (⟨#[112,97,114,116,121]⟩:ByteArray)=true then 9 else fol (keyB x (⟨#[116,97,103]⟩:ByteArray)) 10) w):=by
  have hmf:∀ (fn:Fn) (first cap:Array Value) (w:World),(Instr.makeFunc fn first cap).run Tryz.prog w=.ok (.func fn first cap) w:=fun _ _ _ _=>rfl
  have HP:=sd hp;have HNE:=sd (show ¬ w.heap.size=g from fun h=>by have:=blk_lt hp.blk;omega);have HNW:=sd (Kd.R_lt HP.out.rW);have HF:=sd (FP.refl bd g vC vT vW w);clear hp;generalize hQ:StepPost bd g vC vT vW (p) (if keyB x (⟨#[112,97,114,116,121]⟩:ByteArray)=true then 9 else fol (keyB x (⟨#[116,97,103]⟩:ByteArray)) 10) w=Post;have HQ:=sd hQ;clear hQ;go_enter Tryz.func115,Tryz.ntmps115
  go_upto_region 1 with (fail)
  have hB1:=below_alloc (Below.refl w.heap.size w) (Obj.cells #[Value.int IntKind.i64 x.f0,Value.string x.f1,Value.int IntKind.i64 x.f2] 73);have b0:(w.alloc (Obj.cells #[Value.int IntKind.i64 x.f0,Value.string x.f1,Value.int IntKind.i64 x.f2] 73)).heap[w.heap.size]?=some (.cells #[Value.int IntKind.i64 x.f0,Value.string x.f1,Value.int IntKind.i64 x.f2] 73 (0,0)):=blk_new _ _;replace HP:=sd (HP.out.below hB1);replace HF:=sd (HF.out.below hB1 hbd);generalize w.alloc (Obj.cells #[Value.int IntKind.i64 x.f0,Value.string x.f1,Value.int IntKind.i64 x.f2] 73)=w1 at *;obtain ⟨gw,hgw⟩:∃ gw,gw=w.heap.size:=⟨_,rfl⟩
  have hgg:gw≠g:=by have:=blk_lt HP.out.blk;have:=hB1.size;intro h;rw [hgw] at h;exact absurd h (HNE.out)
  have HGN:=sd (show some gw≠Value.ownBlock vW from fun e=>by have:=HNW.out gw e.symm;omega);clear HNW;rw [← hgw] at b0 ⊢;have BW:=sd b0;have HB1:=sd hB1;clear b0 hB1 hgw;obtain ⟨⟨k0,k1,k2,k3,k4,k5,k6⟩,f0,f1,f2,f3,f4,f5,f6⟩:=HP.out.facts;rw [hst] at k5;obtain ⟨w0_,w1_,w2_,_,_,_⟩:=bk3 BW;go_wp2_with fail
  refine (key2_calls gw x.f0 x.f1 (⟨#[112,97,114,116,121]⟩:ByteArray) _ w0_ w1_).mono ?_;rintro e wn ⟨rfl,hd⟩;obtain ⟨⟨nd,rfl⟩⟩:=hd;replace HP:=sd (HP.out.below (pw_below_drewN (Below.refl _ _) nd));replace HF:=sd (HF.out.below (pw_below_drewN (Below.refl _ _) nd) hbd);replace BW:=sd (blk_below BW.out (pw_below_drewN (Below.refl _ _) nd));clear k0 k1 k2 k3 k4 k5 k6 f0 f1 f2 f3 f4 f5 f6 w0_ w1_ w2_;generalize w1.drewN nd=w2 at HP HF BW ⊢;obtain ⟨w0_,w1_,w2_,_,_,_⟩:=bk3 BW
  cases hk:keyV x.f0 x.f1 (⟨#[112,97,114,116,121]⟩:ByteArray)
  · rw [show keyB x (⟨#[112,97,114,116,121]⟩:ByteArray)=false from hk,if_neg (by decide)] at HQ
    go_wp2_with fail
    refine (key2_calls gw x.f0 x.f1 (⟨#[116,97,103]⟩:ByteArray) _ w0_ w1_).mono ?_;rintro e wn ⟨rfl,hd⟩;obtain ⟨⟨nd,rfl⟩⟩:=hd;replace HP:=sd (HP.out.below (pw_below_drewN (Below.refl _ _) nd));replace HF:=sd (HF.out.below (pw_below_drewN (Below.refl _ _) nd) hbd);generalize w2.drewN nd=w3 at HP HF ⊢;go_wp2_with fail
    refine (follow_calls _ 10 _).mono ?_;rintro e wn ⟨rfl,hd⟩;obtain ⟨⟨nd,rfl⟩⟩:=hd;replace HP:=sd (HP.out.below (pw_below_drewN (Below.refl _ _) nd));replace HF:=sd (HF.out.below (pw_below_drewN (Below.refl _ _) nd) hbd);generalize w3.drewN nd=w4 at HP HF ⊢;go_wp2_with fail
    rw [← HQ.out];exact ⟨by (try rfl),⟨_,_,_,HP.out⟩,HF.out⟩
  · rw [show keyB x (⟨#[112,97,114,116,121]⟩:ByteArray)=true from hk,if_pos rfl] at HQ
    go_wp2_with fail
    rw [← HQ.out];exact ⟨by (try rfl),⟨_,_,_,HP.out⟩,HF.out⟩
def moveR (k:Nat) (p:PR) (x:S73) (code:Bool):Option (PR×Int) :=
  if p.st=0 then some (p,fol (keyB x (⟨#[114,117,108,101]⟩:ByteArray)) 1) else
  if p.st=1 then some ({ p with nm:=x.f1 },fol code 2) else
  if p.st=2 then some (p,fol (keyB x (⟨#[105,102]⟩:ByteArray)) 3) else
  if p.st=3 then (if p.cs.length≤1000000 then some ({ p with cs:=p.cs++[⟨numS fieldL x.f1 0,0,⟨#[]⟩,0⟩] },fol (decide (x.f0=1∧numS fieldL x.f1 0 > 0)) 4) else none) else
  if p.st=4 then (if 0 < p.cs.length then (rules_suits.f k (rd_T48 p.cs ((p.cs.length - 1:Nat):Int)).f0 (numS opL x.f1 0)).bind fun b=>some ({ p with cs:=p.cs.set (p.cs.length - 1) { rd_T48 p.cs ((p.cs.length - 1:Nat):Int) with f1:=numS opL x.f1 0 } },fol (decide (x.f0=1) && b) 5) else none) else
  if p.st=5 then (if p.ws.length≤1000000∧0 < p.cs.length then some ({ p with ws:=p.ws++[x] },if (rd_T48 p.cs ((p.cs.length - 1:Nat):Int)).f0=1∨(rd_T48 p.cs ((p.cs.length - 1:Nat):Int)).f0=4 then fol (decide (x.f0=2)) 6 else fol (decide (x.f0=3)) 6) else none) else
  if p.st=6 then some (p,if keyB x (⟨#[97,110,100]⟩:ByteArray)=true then 3 else fol (keyB x (⟨#[116,104,101,110]⟩:ByteArray)) 7) else
  if p.st=7 then some ({ p with acc:=x.f1 },fol code 8) else
  if p.st=8 then some (p,if keyB x (⟨#[112,97,114,116,121]⟩:ByteArray)=true then 9 else fol (keyB x (⟨#[116,97,103]⟩:ByteArray)) 10) else
  if p.st=9 then some ({ p with par:=x.f1 },fol code 13) else
  if p.st=10 then (if p.tg.length≤1000000 then some ({ p with tg:=p.tg++[⟨x.f1,⟨#[]⟩⟩] },fol code 11) else none) else
  if p.st=11 then some (p,fol (decide (x.f0=4) && (x.f1.toList == ([61]:List UInt8))) 12) else
  if p.st=12 then (if 0 < p.tg.length then some ({ p with tg:=p.tg.set (p.tg.length - 1) { rd_T50 p.tg ((p.tg.length - 1:Nat):Int) with f1:=x.f1 } },fol code 13) else none) else
  if p.st=13 then some (p,fol (keyB x (⟨#[116,97,103]⟩:ByteArray)) 10) else none
theorem head_t (bd g:Nat) (p:PR) (vC vT vW:Value) (x:S73) (code:Bool) (p':PR) (r:Int) (w:World) (hp:RP w bd g p vC vT vW) (hbd:bd≤w.heap.size) (h5:5≤p.st)
    (ht:∀ W,RP W bd g p vC vT vW→bd≤W.heap.size→Calls Tryz.prog 115 #[.pointer (some ⟨g,0,none⟩),.agg #[.int .i64 x.f0,.string x.f1,.int .i64 x.f2],.bool code] W (StepPost bd g vC vT vW p' r W)) :
    Calls Tryz.prog 81 #[.pointer (some ⟨g,0,none⟩),.agg #[.int .i64 x.f0,.string x.f1,.int .i64 x.f2],.bool code] w (StepPost bd g vC vT vW p' r w):=by
  have hmf:∀ (fn:Fn) (first cap:Array Value) (w:World),(Instr.makeFunc fn first cap).run Tryz.prog w=.ok (.func fn first cap) w:=fun _ _ _ _=>rfl
  have HP:=sd hp;have HF:=sd (FP.refl bd g vC vT vW w);have HT:=sd ht;clear hp ht;generalize hQ:StepPost bd g vC vT vW p' r w=Post;have HQ:=sd hQ;clear hQ;have q0:decide (p.st=0)=false:=decide_eq_false (by omega);have q1:decide (p.st=1)=false:=decide_eq_false (by omega);have q2:decide (p.st=2)=false:=decide_eq_false (by omega);have q3:decide (p.st=3)=false:=decide_eq_false (by omega);have q4:decide (p.st=4)=false:=decide_eq_false (by omega);go_enter Tryz.func81,Tryz.ntmps81
  go_upto_region 1 with (fail)
  have hB1:=below_alloc (Below.refl w.heap.size w) (Obj.cells #[Value.int IntKind.i64 x.f0,Value.string x.f1,Value.int IntKind.i64 x.f2] 73);have b0:(w.alloc (Obj.cells #[Value.int IntKind.i64 x.f0,Value.string x.f1,Value.int IntKind.i64 x.f2] 73)).heap[w.heap.size]?=some (.cells #[Value.int IntKind.i64 x.f0,Value.string x.f1,Value.int IntKind.i64 x.f2] 73 (0,0)):=blk_new _ _;replace HP:=sd (HP.out.below hB1);replace HF:=sd (HF.out.below hB1 hbd);generalize w.alloc (Obj.cells #[Value.int IntKind.i64 x.f0,Value.string x.f1,Value.int IntKind.i64 x.f2] 73)=w1 at *;obtain ⟨gw,hgw⟩:∃ gw,gw=w.heap.size:=⟨_,rfl⟩
  rw [← hgw] at b0 ⊢;have BW:=sd b0;clear b0 hB1 hgw;obtain ⟨⟨k0,k1,k2,k3,k4,k5,k6⟩,f0,f1,f2,f3,f4,f5,f6⟩:=HP.out.facts;obtain ⟨w0_,w1_,w2_,_,_,_⟩:=bk3 BW;go_wp2_with fail
  refine (HT.out _ HP.out (below_base HF.out.b hbd)).mono ?_;rintro e w2 ⟨rfl,⟨vC',vT',vW',hp2⟩,hf2⟩;replace HF:=sd (HF.out.trans hf2);have HP2:=sd hp2;clear hf2 hp2 k0 k1 k2 k3 k4 k5 k6 f0 f1 f2 f3 f4 f5 f6 w0_ w1_ w2_;go_wp2_with fail
  rw [← HQ.out];exact ⟨by (try rfl),⟨_,_,_,HP2.out⟩,HF.out⟩
def valL (k:Nat):List S73→Nat→List S48→Option (List S48×Int×Int)
  | [],_,cs=>some (cs,0,0)
  | x :: r,i,cs=>if i < cs.length then (valC k (rd_T48 cs (i:Int)) x).bind fun y=>if y.2=0 then valL k r (i+1) (cs.set i y.1) else some (cs.set i y.1,x.f2,y.2) else none
end Go.Proofs.YtkbgkekegjfkfaaGreatDoor.A
namespace Go.Proofs.YtkbgkekegjfkfaaGreatDoor.A
open Go.RowKit B WW WL WM
attribute [local go_sem] max2_int min2_int max_two min_two max_three min_three max_four min_four
structure S25 where
  f0:ByteArray
  f1:(List S48)
  f2:ByteArray
  f3:ByteArray
  f4:(List S50)
def z25:S25:=⟨(⟨#[]⟩:ByteArray),([]:List S48),(⟨#[]⟩:ByteArray),(⟨#[]⟩:ByteArray),([]:List S50)⟩
def k25:Kd S25:=Kd.iso (Kd.pair Kd.string (Kd.pair (Kd.slice 48 k48) (Kd.pair Kd.string (Kd.pair Kd.string (Kd.slice 50 k50))))) (fun x:S25=>(x.f0,x.f1,x.f2,x.f3,x.f4))
theorem k25_mk (w:World) (x:S25) {A1:Option Addr} {c1:Nat} (l1:x.f1.length≤c1) (g1:k48.C w A1 x.f1.length x.f1) {A4:Option Addr} {c4:Nat} (l4:x.f4.length≤c4) (g4:k50.C w A4 x.f4.length x.f4):k25.K w x [.string x.f0,.slice A1 x.f1.length c1,.string x.f2,.string x.f3,.slice A4 x.f4.length c4]:=⟨[.string x.f0],[.slice A1 x.f1.length c1,.string x.f2,.string x.f3,.slice A4 x.f4.length c4],rfl,rfl,⟨[.slice A1 x.f1.length c1],[.string x.f2,.string x.f3,.slice A4 x.f4.length c4],rfl,⟨A1,c1,rfl,l1,g1⟩,⟨[.string x.f2],[.string x.f3,.slice A4 x.f4.length c4],rfl,rfl,⟨[.string x.f3],[.slice A4 x.f4.length c4],rfl,rfl,⟨A4,c4,rfl,l4,g4⟩⟩⟩⟩⟩
end Go.Proofs.YtkbgkekegjfkfaaGreatDoor.A
namespace Go.Proofs.YtkbgkekegjfkfaaGreatDoor.A
open Go.RowKit B WW WL WM
attribute [local go_sem] max2_int min2_int max_two min_two max_three min_three max_four min_four
set_option maxHeartbeats 8000000
set_option maxRecDepth 100000
theorem two25 (W:World) (x:S25) {A1 A4:Option Addr} {c1 c4:Nat} (l1:x.f1.length≤c1) (h1:Kd.C k48 W A1 x.f1.length x.f1) (l4:x.f4.length≤c4) (h4:Kd.C k50 W A4 x.f4.length x.f4) :
  Kd.C k25 (W.alloc (.cells #[.string ⟨#[]⟩,.slice none 0 0,.string ⟨#[]⟩,.string ⟨#[]⟩,.slice none 0 0,.string x.f0,.slice A1 x.f1.length c1,.string x.f2,.string x.f3,.slice A4 x.f4.length c4] 25)) (some ⟨W.heap.size,0,none⟩) 2 [z25,x]:=by
 have hbl:=below_alloc (Below.refl W.heap.size W) (.cells #[.string ⟨#[]⟩,.slice none 0 0,.string ⟨#[]⟩,.string ⟨#[]⟩,.slice none 0 0,.string x.f0,.slice A1 x.f1.length c1,.string x.f2,.string x.f3,.slice A4 x.f4.length c4] 25);have hb:=fun k=>blk_cell (blk_new W (.cells #[.string ⟨#[]⟩,.slice none 0 0,.string ⟨#[]⟩,.string ⟨#[]⟩,.slice none 0 0,.string x.f0,.slice A1 x.f1.length c1,.string x.f2,.string x.f3,.slice A4 x.f4.length c4] 25)) k
 refine ⟨rfl,by decide,fun _=>⟨_,rfl,fun j p hj=>?_⟩⟩
 cases j with
 | zero =>
  obtain rfl:=Option.some.inj hj;refine ⟨[.string ⟨#[]⟩,.slice none 0 0,.string ⟨#[]⟩,.string ⟨#[]⟩,.slice none 0 0],rfl,k25_mk _ z25 (A1:=none) (c1:=0) (Nat.le_refl _) (Kd.C_nil _ _) (A4:=none) (c4:=0) (Nat.le_refl _) (Kd.C_nil _ _),fun i u hu=>?_⟩;rw [show k25.sz=5 from rfl,add_at];rcases i with _ | _ | _ | _ | _ | i
  ·exact (hb 0).trans hu
  ·exact (hb 1).trans hu
  ·exact (hb 2).trans hu
  ·exact (hb 3).trans hu
  ·exact (hb 4).trans hu
  ·cases hu
 | succ j =>
  cases j with
  | zero =>
   obtain rfl:=Option.some.inj hj;refine ⟨[.string x.f0,.slice A1 x.f1.length c1,.string x.f2,.string x.f3,.slice A4 x.f4.length c4],rfl,k25_mk _ x l1 (Kd.C_below h1 hbl) l4 (Kd.C_below h4 hbl),fun i u hu=>?_⟩;rw [show k25.sz=5 from rfl,add_at];rcases i with _ | _ | _ | _ | _ | i
   ·exact (hb 5).trans hu
   ·exact (hb 6).trans hu
   ·exact (hb 7).trans hu
   ·exact (hb 8).trans hu
   ·exact (hb 9).trans hu
   ·cases hu
  | succ j=>cases hj
end Go.Proofs.YtkbgkekegjfkfaaGreatDoor.A
