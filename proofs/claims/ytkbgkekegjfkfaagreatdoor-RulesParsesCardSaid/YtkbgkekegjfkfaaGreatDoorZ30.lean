-- By pack.py, a program of this session's.
import Derived.Test.YtkbgkekegjfkfaaGreatDoorZ25
import Derived.Test.YtkbgkekegjfkfaaGreatDoorZ26
import Derived.Test.YtkbgkekegjfkfaaGreatDoorZ27
set_option linter.unusedVariables false
set_option linter.unusedSimpArgs false
namespace Go.Proofs.YtkbgkekegjfkfaaGreatDoor
namespace A
open Go.RowKit B WW WL WM
attribute [local go_sem] max2_int min2_int max_two min_two max_three min_three max_four min_four
set_option maxHeartbeats 8000000
set_option maxRecDepth 100000
theorem rules_Holds.calls (k:Nat) (a0_0:ByteArray) (A0_1:Option Addr) (c0_1:Nat) (l0_1:List S48) (a0_2 a0_3:ByteArray) (A0_4:Option Addr) (c0_4:Nat) (l0_4:List S50) (a1_0 a1_1:Int) (a1_2 a1_3:ByteArray) (r:Bool) (w:World) (hr0_1:Kd.C k48 w A0_1 l0_1.length l0_1) (hc0_1:l0_1.length≤c0_1) (hr0_4:Kd.C k50 w A0_4 l0_4.length l0_4) (hc0_4:l0_4.length≤c0_4) (h:rules_Holds.f k a0_0 l0_1 a0_2 a0_3 l0_4 a1_0 a1_1 a1_2 a1_3=some r) (hG:Gl w) :
  Calls Tryz.prog 12 #[.agg #[.string a0_0,.slice A0_1 l0_1.length c0_1,.string a0_2,.string a0_3,.slice A0_4 l0_4.length c0_4],.agg #[.int .i64 a1_0,.int .i64 a1_1,.string a1_2,.string a1_3]] w fun e w'=>e=.returned (.bool r)∧Below w.heap.size w w':=by
 unfold rules_Holds.f at h;obtain ⟨ck,hck,h⟩:=Option.bind_eq_some_iff.mp h;have H:=sd h;have HR1:=sd hr0_1;have HC1:=sd hc0_1;have HR4:=sd hr0_4;have HC4:=sd hc0_4;have HG:=sd hG;have CK:=sd (fun W (h1:Kd.C k48 W A0_1 l0_1.length l0_1) (h4:Kd.C k50 W A0_4 l0_4.length l0_4)=>rules_Check.calls k a0_0 A0_1 c0_1 l0_1 a0_2 a0_3 A0_4 c0_4 l0_4 ck W h1 hc0_1 h4 hc0_4 hck);clear h hck hr0_1 hc0_1 hr0_4 hc0_4 hG;generalize hQ:(fun (e:Ending) (w':World)=>e=.returned (.bool r)∧Below w.heap.size w w')=Post;have HQ:=sd hQ;clear hQ;go_enter Tryz.func12,Tryz.ntmps12
 go_upto_region 1 with (fail)
 have hB1:=below_alloc (Below.refl w.heap.size w) (Obj.cells #[Value.string a0_0,Value.slice A0_1 l0_1.length c0_1,Value.string a0_2,Value.string a0_3,Value.slice A0_4 l0_4.length c0_4] 25);have hs1:(w.alloc (Obj.cells #[Value.string a0_0,Value.slice A0_1 l0_1.length c0_1,Value.string a0_2,Value.string a0_3,Value.slice A0_4 l0_4.length c0_4] 25)).heap.size=w.heap.size+1:=Array.size_push _;have b2:(w.alloc (Obj.cells #[Value.string a0_0,Value.slice A0_1 l0_1.length c0_1,Value.string a0_2,Value.string a0_3,Value.slice A0_4 l0_4.length c0_4] 25)).heap[w.heap.size]?=some (.cells #[Value.string a0_0,Value.slice A0_1 l0_1.length c0_1,Value.string a0_2,Value.string a0_3,Value.slice A0_4 l0_4.length c0_4] 25 (0,0)):=blk_new _ _;rw [← hs1];obtain ⟨g2,hg2⟩:∃ g,g=w.heap.size:=⟨_,rfl⟩
 rw [← hg2] at b2;rw [show (⟨w.heap.size,0,none⟩:Addr)=⟨g2,0,none⟩ from by rw [hg2]];clear hs1;generalize w.alloc (Obj.cells #[Value.string a0_0,Value.slice A0_1 l0_1.length c0_1,Value.string a0_2,Value.string a0_3,Value.slice A0_4 l0_4.length c0_4] 25)=w1 at *;have hB2:=below_alloc (Below.refl w1.heap.size w1) (Obj.cells #[Value.int IntKind.i64 a1_0,Value.int IntKind.i64 a1_1,Value.string a1_2,Value.string a1_3] 32);have b3:(w1.alloc (Obj.cells #[Value.int IntKind.i64 a1_0,Value.int IntKind.i64 a1_1,Value.string a1_2,Value.string a1_3] 32)).heap[w1.heap.size]?=some (.cells #[Value.int IntKind.i64 a1_0,Value.int IntKind.i64 a1_1,Value.string a1_2,Value.string a1_3] 32 (0,0)):=blk_new _ _;replace b2:=blk_below b2 hB2;obtain ⟨g3,hg3⟩:∃ g,g=w1.heap.size:=⟨_,rfl⟩
 rw [← hg3] at b3;rw [show (⟨w1.heap.size,0,none⟩:Addr)=⟨g3,0,none⟩ from by rw [hg3]];have HB:=sd (hB1.trans (hB2.mono hB1.size));clear hB1 hB2 hg2 hg3;generalize w1.alloc (Obj.cells #[Value.int IntKind.i64 a1_0,Value.int IntKind.i64 a1_1,Value.string a1_2,Value.string a1_3] 32)=w2 at *;have B2:=sd b2;have B3:=sd b3;clear b2 b3;have k_:=bk5 B2;obtain ⟨r0,r1,r2,r3,r4,_,_,_,_,_⟩:=k_;go_wp2_with fail
 refine (CK.out _ (Kd.C_below HR1.out HB.out) (Kd.C_below HR4.out HB.out)).mono ?_;rintro e w3 ⟨rfl,hb⟩;replace B2:=sd (blk_below B2.out hb);replace B3:=sd (blk_below B3.out hb);replace HB:=sd (HB.out.trans (hb.mono HB.out.size));clear hb r0 r1 r2 r3 r4 w1 CK;have h:=H.out;clear H;by_cases hz:ck=0
 case neg =>
  have q0:decide (ck=0)=false:=decide_eq_false hz;rw [if_neg hz] at h;obtain rfl:=Option.some.inj h;go_wp2_with fail
  rw [← HQ.out];exact ⟨by (try rfl),HB.out⟩
 subst hz;rw [if_pos rfl] at h;split at h
 case isFalse=>cases h
 rename_i hsz
 have HZ:=sd hsz;have HE:=sd (Option.some.inj h);clear h hsz;have k_:=bk5 B2;obtain ⟨r0,r1,r2,r3,r4,_,_,_,_,_⟩:=k_;go_wp2_with fail
 go_loopw [13] (fun n_ wr=>∃ (i:Nat),i≤l0_1.length∧n_=.int .i64 (i:Int)∧Aside0 (∀ x∈l0_1.take i,testF x a1_0 a1_1 a1_2 a1_3=true)∧Aside0 (Below w.heap.size w wr)∧Aside0 (wr.heap[g2]?=some (.cells #[Value.string a0_0,Value.slice A0_1 l0_1.length c0_1,Value.string a0_2,Value.string a0_3,Value.slice A0_4 l0_4.length c0_4] 25 (0,0)))∧Aside0 (wr.heap[g3]?=some (.cells #[Value.int IntKind.i64 a1_0,Value.int IntKind.i64 a1_1,Value.string a1_2,Value.string a1_3] 32 (0,0)))) (fun n_ _=>(l0_1.length - (RowKit.intOf n_).toNat))
 case atStart=>exact ⟨0,Nat.zero_le _,rfl,⟨fun x hx=>(by cases hx)⟩,HB,B2,B3⟩
 case round =>
  clear HB B2 B3;obtain ⟨i,hi,rfl,HU,HB,B2,B3⟩:=hrel;rename World=>wr
  by_cases hlt:i < l0_1.length
  case neg =>
   obtain rfl:i=l0_1.length:=by omega
   have hlt':¬ (l0_1.length:Int) < (l0_1.length:Int):=by omega
   have hall:(l0_1.all fun c=>testF c a1_0 a1_1 a1_2 a1_3)=true:=by
    rw [List.all_eq_true];intro x hx;exact HU.out x (by rw [List.take_length];exact hx)
   have hr:r=true:=HE.out.symm.trans hall;clear hall;subst hr;go_wp2_with fail
   rw [← HQ.out];exact ⟨by (try rfl),HB.out⟩
  have hlt':(i:Int) < (l0_1.length:Int):=by omega
  have h0:(0:Int)≤(i:Int):=by omega
  have hmx:l0_1.length≤9223372036854775807:=HR1.out.2.1;have hw:wrap64 ((i:Int)+1)=((i+1:Nat):Int):=by unfold wrap64;omega
  obtain ⟨ad,e,x0,x1,x2,x3⟩:=at_T48 HR1.out (i:Int) (by omega) (by omega);replace x0:=(HB.out.cell (World.block_lt_of_cell? w _ x0)).trans x0;replace x1:=(HB.out.cell (World.block_lt_of_cell? w _ x1)).trans x1;replace x2:=(HB.out.cell (World.block_lt_of_cell? w _ x2)).trans x2;replace x3:=(HB.out.cell (World.block_lt_of_cell? w _ x3)).trans x3
  cases e
  simp only [Int.toNat_natCast] at x0 x1 x2 x3
  go_wp2_with fail
  clear x0 x1 x2 x3 r0 r1 r2 r3 r4;obtain ⟨c,hc⟩:∃ c,rd_T48 l0_1 (i:Int)=c:=⟨_,rfl⟩
  rw [hc];have HCc:=sd hc;clear hc;have hB1:=below_alloc (Below.refl wr.heap.size wr) (Obj.cells #[Value.int IntKind.i64 c.f0,Value.int IntKind.i64 c.f1,Value.string c.f2,Value.int IntKind.i64 c.f3] 48);have b6:(wr.alloc (Obj.cells #[Value.int IntKind.i64 c.f0,Value.int IntKind.i64 c.f1,Value.string c.f2,Value.int IntKind.i64 c.f3] 48)).heap[wr.heap.size]?=some (.cells #[Value.int IntKind.i64 c.f0,Value.int IntKind.i64 c.f1,Value.string c.f2,Value.int IntKind.i64 c.f3] 48 (0,0)):=blk_new _ _;replace B2:=sd (blk_below B2.out hB1);replace B3:=sd (blk_below B3.out hB1);replace HB:=sd (HB.out.trans (hB1.mono HB.out.size));clear hB1;generalize wr.alloc (Obj.cells #[Value.int IntKind.i64 c.f0,Value.int IntKind.i64 c.f1,Value.string c.f2,Value.int IntKind.i64 c.f3] 48)=w4 at *;obtain ⟨g6,hg6⟩:∃ g,g=wr.heap.size:=⟨_,rfl⟩
  rw [← hg6] at b6 ⊢;have B6:=sd b6;clear b6 hg6;replace B2:=sd (blk_below B2.out (below_drew1 (Below.refl _ _)));replace B3:=sd (blk_below B3.out (below_drew1 (Below.refl _ _)));replace B6:=sd (blk_below B6.out (below_drew1 (Below.refl _ _)));replace HB:=sd (below_drew1 HB.out);have k3:=bk4 B3;have k6:=bk4 B6;refine start_ (n:=5) (S:=fun w'=>w'.cell? ⟨g6,0,none⟩=some (.int .i64 c.f0)∧w'.cell? ⟨g6,1,none⟩=some (.int .i64 c.f1)∧w'.cell? ⟨g6,2,none⟩=some (.string c.f2)∧w'.cell? ⟨g6,3,none⟩=some (.int .i64 c.f3)∧w'.cell? ⟨g3,0,none⟩=some (.int .i64 a1_0)∧w'.cell? ⟨g3,1,none⟩=some (.int .i64 a1_1)∧w'.cell? ⟨g3,2,none⟩=some (.string a1_2)∧w'.cell? ⟨g3,3,none⟩=some (.string a1_3)) (ds:=[]) #[false,false,false,false,false] (by kernel_rfl) rfl rfl ⟨k6.1,k6.2.1,k6.2.2.1,k6.2.2.2.1,k3.1,k3.2.1,k3.2.2.1,k3.2.2.2.1⟩ (fun hHeld=>?_);clear k3 k6;generalize w4.drew=w5 at hHeld B2 B3 B6 HB ⊢;refine tB 0 17 hHeld ?_;refine tB 2 19 hHeld ?_;refine one_ (i:=1) (N:=some 18) #[true,true,true,false,false] rfl rfl (by kernel_rfl) (by decide) (fun K hK=>?_);refine goes_ Tryz.func28 (by kernel_rfl) rfl #[.agg #[Value.int IntKind.i64 c.f0,Value.int IntKind.i64 c.f1,Value.string c.f2,Value.int IntKind.i64 c.f3]] (by rfl) rfl rfl zq30 ?_;refine (test_calls count_calls c w5).mono ?_;rintro e w6 ⟨hb,f,cap,g,gn,gs,rfl,hE,hT⟩;refine ⟨_,rfl,?_⟩;replace B2:=sd (blk_below B2.out hb);replace B3:=sd (blk_below B3.out hb);replace B6:=sd (blk_below B6.out hb);replace HB:=sd (HB.out.trans (hb.mono HB.out.size));clear hb hHeld;have k3:=bk4 B3;have k6:=bk4 B6;refine hK.out _ _ ⟨k6.1,k6.2.1,k6.2.2.1,k6.2.2.2.1,k3.1,k3.2.1,k3.2.2.1,k3.2.2.2.1⟩ (fun hHeld=>?_);clear hK K k3 k6;refine nA 18 ?_;refine one_ (i:=3) (N:=some 20) #[true,true,true,true,false] rfl rfl (by kernel_rfl) (by decide) (fun K hK=>?_)
  have hfn : ∃ fn, Tryz.prog.funcs[f]? = some fn ∧ (fn.name == "runtime.NumGoroutine") = false ∧ fn.body.isSome = true := by
   rcases hT with ⟨_,rfl,_⟩|⟨_,rfl,_⟩|⟨_,rfl,_⟩|⟨_,rfl,_⟩|⟨_,⟨_,rfl,_⟩|⟨_,rfl,_⟩⟩
   ·exact ⟨_,Tryz.func61,by kernel_rfl,rfl⟩
   ·exact ⟨_,Tryz.func62,by kernel_rfl,rfl⟩
   ·exact ⟨_,Tryz.func63,by kernel_rfl,rfl⟩
   ·exact ⟨_,Tryz.func65,by kernel_rfl,rfl⟩
   ·exact ⟨_,Tryz.func68,by kernel_rfl,rfl⟩
   ·exact ⟨_,Tryz.func69,by kernel_rfl,rfl⟩
  obtain ⟨fn,f1,f2,f3⟩:=hfn;refine goesF_ (cap:=cap) f1 f2 f3 (#[lineV a1_0 a1_1 a1_2 a1_3]++cap) (by rfl) rfl rfl (by rfl) (by (try simp only [List.map_toArray,List.map_cons,List.map_nil]);rfl) ?_;refine (testK_calls hE hT a1_0 a1_1 a1_2 a1_3 HZ.out.1 HZ.out.2 (HG.out.2.2.below HB.out)).mono ?_;rintro e w7 ⟨rfl,hb⟩;refine ⟨_,rfl,?_⟩;replace B2:=sd (blk_below B2.out hb);replace B3:=sd (blk_below B3.out hb);replace B6:=sd (blk_below B6.out hb);replace HB:=sd (HB.out.trans (hb.mono HB.out.size));clear hb hHeld hE hT f1 f2 f3;have k3:=bk4 B3;have k6:=bk4 B6;refine hK.out _ _ ⟨k6.1,k6.2.1,k6.2.2.1,k6.2.2.2.1,k3.1,k3.2.1,k3.2.2.1,k3.2.2.2.1⟩ (fun hHeld=>?_);clear hK K k3 k6 hHeld;refine nA 20 ?_;refine pB 4 21 ?_;refine done_ (by kernel_rfl) ?_
  cases hb:testF c a1_0 a1_1 a1_2 a1_3
  ·have hall:(l0_1.all fun c=>testF c a1_0 a1_1 a1_2 a1_3)=false:=by
    rw [Bool.eq_false_iff];intro hh;have:=List.all_eq_true.mp hh c (by rw [← HCc.out];exact rd48_mem l0_1 i hlt);rw [hb] at this;cases this
   have hr:r=false:=HE.out.symm.trans hall;clear hall;subst hr;go_wp2_with fail
   rw [← HQ.out];exact ⟨by (try rfl),HB.out⟩
  ·have HU2:=sd (show ∀ x∈l0_1.take (i+1),testF x a1_0 a1_1 a1_2 a1_3=true from fun x hx=>by
    rw [take48 l0_1 i hlt,List.mem_append,List.mem_singleton] at hx;rcases hx with hx|hx
    ·exact HU.out x hx
    ·rw [hx,HCc.out];exact hb)
   clear HU hb;go_wp2_with fail
   go_roundw
   case rel=>exact ⟨i+1,by omega,(by congr 1),HU2,HB,B2,B3⟩
   case measure=>simp [RowKit.intOf,hw];omega
theorem rules_Parse.calls (k:Nat) (a0 r1:ByteArray) (r2:List S48) (r3 r4:ByteArray) (r5:List S50) (r6 r7:Int) (w:World) (h:rules_Parse.f k a0=some (r1,r2,r3,r4,r5,r6,r7)) (hG:Gl w) :
    Calls Tryz.prog 18 #[.string a0] w fun e w'=>∃ v2_ v5_:Value,e=.returned (.tuple #[.agg #[.string r1,v2_,.string r3,.string r4,v5_],.int .i64 r6,.int .i64 r7])∧Kd.R k48 48 w' w.heap.size (fun _=>True) v2_ r2∧Kd.R k50 50 w' w.heap.size (fun _=>True) v5_ r5∧Below w.heap.size w w':=by
  have hgb:=gl_lt hG;have HG:=sd hG;have HGB:=sd hgb;unfold rules_Parse.f at h;obtain ⟨⟨cw,ca,ce⟩,hc,h⟩:=Option.bind_eq_some_iff.mp h;have HC:=sd (fun W=>words_Cut.calls k a0 cw ca ce W hc);have H:=sd h;clear h hc hG hgb;generalize hQ:(fun (e:Ending) (w':World)=>∃ v2_ v5_:Value,e=.returned (.tuple #[.agg #[.string r1,v2_,.string r3,.string r4,v5_],.int .i64 r6,.int .i64 r7])∧Kd.R k48 48 w' w.heap.size (fun _=>True) v2_ r2∧Kd.R k50 50 w' w.heap.size (fun _=>True) v5_ r5∧Below w.heap.size w w')=Post;have HQ:=sd hQ;clear hQ;go_enter Tryz.func18,Tryz.ntmps18
  go_upto_region 1 with (fail)
  have hB1:=below_alloc (Below.refl w.heap.size w) (Obj.cells #[Value.string ⟨#[]⟩,Value.slice none 0 0,Value.string ⟨#[]⟩,Value.string ⟨#[]⟩,Value.slice none 0 0] 25);have b0:(w.alloc (Obj.cells #[Value.string ⟨#[]⟩,Value.slice none 0 0,Value.string ⟨#[]⟩,Value.string ⟨#[]⟩,Value.slice none 0 0] 25)).heap[w.heap.size]?=some (.cells #[Value.string ⟨#[]⟩,Value.slice none 0 0,Value.string ⟨#[]⟩,Value.string ⟨#[]⟩,Value.slice none 0 0] 25 (0,0)):=blk_new _ _;generalize w.alloc (Obj.cells #[Value.string ⟨#[]⟩,Value.slice none 0 0,Value.string ⟨#[]⟩,Value.string ⟨#[]⟩,Value.slice none 0 0] 25)=w1 at *;obtain ⟨gr,hgr⟩:∃ g,g=w.heap.size:=⟨_,rfl⟩
  have HGR:=sd (show w.heap.size≤gr by omega);have hr2:(⟨w.heap.size,0,none⟩:Addr)=⟨gr,0,none⟩:=by rw [hgr]
  rw [← hgr] at b0;rw [hr2];have BR:=sd b0;have HB:=sd hB1;clear b0 hB1 hgr hr2;go_wp2_with fail
  refine (HC.out _).mono ?_;rintro e w2 ⟨v0,rfl,hR0,hb⟩;obtain ⟨va,vc,rfl⟩:=Kd.R_slice hR0;have HR0:=sd (Kd.R_reads' hR0).2.2;have HCV:=sd (Kd.R_reads' hR0).2.1;replace BR:=sd (blk_below BR.out hb);replace HB:=sd (HB.out.trans (hb.mono HB.out.size));clear hb hR0 HC;by_cases hz:ce=0
  case neg =>
    have h:=H.out;rw [if_neg hz] at h;obtain ⟨rfl,rfl,rfl,rfl,rfl,rfl,rfl⟩:=h;obtain ⟨q1,q2⟩:=neI hz;obtain ⟨z0,z1,z2,z3,z4,y0,y1,y2,y3,y4⟩:=bk5 BR;clear hz H;go_wp2_with fail
    exact noretP Post _ _ w gr _ _ rfl rfl rfl BR.out HB.out HGR.out (fun W' hW'=>by rw [← HQ.out];exact ⟨_,_,rfl,Kd.R_nil _ _ _ _ _,Kd.R_nil _ _ _ _ _,hW'⟩)
  have h:=H.out;rw [if_pos hz] at h;subst hz;obtain ⟨⟨p1,at1,e1⟩,hp,h⟩:=Option.bind_eq_some_iff.mp h;have HP1:=sd hp;have HH:=sd h;clear h H hp;go_upto_region 5 with (fail)
  have hB1:=below_alloc (Below.refl w2.heap.size w2) (Obj.cells #[Value.string ⟨#[]⟩,Value.slice none 0 0,Value.string ⟨#[]⟩,Value.string ⟨#[]⟩,Value.slice none 0 0,Value.int IntKind.i64 0,Value.slice none 0 0] 71);have b0:(w2.alloc (Obj.cells #[Value.string ⟨#[]⟩,Value.slice none 0 0,Value.string ⟨#[]⟩,Value.string ⟨#[]⟩,Value.slice none 0 0,Value.int IntKind.i64 0,Value.slice none 0 0] 71)).heap[w2.heap.size]?=some (.cells #[Value.string ⟨#[]⟩,Value.slice none 0 0,Value.string ⟨#[]⟩,Value.string ⟨#[]⟩,Value.slice none 0 0,Value.int IntKind.i64 0,Value.slice none 0 0] 71 (0,0)):=blk_new _ _;generalize w2.alloc (Obj.cells #[Value.string ⟨#[]⟩,Value.slice none 0 0,Value.string ⟨#[]⟩,Value.string ⟨#[]⟩,Value.slice none 0 0,Value.int IntKind.i64 0,Value.slice none 0 0] 71)=w3 at *;obtain ⟨bd,hbd⟩:∃ b,b=w2.heap.size:=⟨_,rfl⟩
  have hW3:Below bd w2 w3:=by rw [hbd];exact hB1
  rw [show (⟨w2.heap.size,0,none⟩:Addr)=⟨bd,0,none⟩ from by rw [hbd]];rw [← hbd] at b0;have HP:=sd (RP.mk (bd:=bd) (p:=pr0) b0 (Kd.R_nil _ _ _ _ _) (Kd.R_nil _ _ _ _ _) (Kd.R_nil _ _ _ _ _) (Nat.le_refl _));have HBD:=sd (show bd≤w3.heap.size from by rw [hbd];exact hB1.size);have HW:=sd hW3;have HBE:=sd hbd;have HGB2:=sd (show gr < bd by rw [hbd];exact blk_lt BR.out);clear b0 hB1 hW3 hbd;go_wp2_with fail
  have HLE:=sd (show w.heap.size≤bd by rw [HBE.out];exact HB.out.size);have HBRW:=sd (fun (W:World) (hb:Below bd w2 W)=>(hb.block gr HGB2.out).trans BR.out);have HBW:=sd (fun (W:World) (hb:Below bd w2 W)=>(HB.out.trans (hb.mono (Nat.le_trans HB.out.size (Nat.le_of_eq HBE.out.symm))):Below w.heap.size w W));have HGW:=sd (fun (W:World) (hb:Below bd w2 W)=>gl_bd (gl_below HG.out HB.out) hb zq28);have HGBD:=sd (show GlLt bd from zq28);go_loopw [24] (fun n_ wr=>∃ (i:Nat) (p:PR) (vC vT vW:Value),i≤cw.length∧n_=.int .i64 (i:Int)∧Aside0 (parL k (cw.drop i) p=some (p1,at1,e1))∧Aside0 (RP wr bd bd p vC vT vW)∧Aside0 (Below bd w2 wr)) (fun n_ _=>(cw.length - (RowKit.intOf n_).toNat))
  case atStart=>exact ⟨0,pr0,_,_,_,Nat.zero_le _,rfl,HP1,HP,HW⟩
  case round =>
    clear HP1 HP HW;obtain ⟨i,p,vC,vT,vW,hi,rfl,HP1,HP,HW⟩:=hrel;rename World=>wr
    have hlw:cw.length≤9223372036854775807:=HR0.out.2.1;by_cases hlt:i < cw.length
    case neg =>
      obtain rfl:i=cw.length:=by omega
      have hlt':¬ (cw.length:Int) < (cw.length:Int):=by omega
      have hh:=HP1.out;rw [List.drop_length] at hh;obtain ⟨rfl,h2⟩:=Prod.mk.inj (Option.some.inj hh);obtain ⟨rfl,rfl⟩:=Prod.mk.inj h2;clear hh h2 HP1;have h:=HH.out;rw [if_pos rfl] at h;have BRw:=sd (HBRW.out _ HW.out);clear HH BR HR0;by_cases e813:p.st=8∨p.st=13
      case neg =>
        rw [if_neg e813] at h;obtain ⟨rfl,rfl,rfl,rfl,rfl,rfl,rfl⟩:=h;obtain ⟨q1,q2⟩:=neI (show ¬ p.st=8 from fun e=>e813 (Or.inl e));obtain ⟨q3,q4⟩:=neI (show ¬ p.st=13 from fun e=>e813 (Or.inr e));obtain ⟨⟨k0,k1,k2,k3,k4,k5,k6⟩,f0,f1,f2,f3,f4,f5,f6⟩:=HP.out.facts;obtain ⟨z0,z1,z2,z3,z4,y0,y1,y2,y3,y4⟩:=bk5 BRw;clear e813;go_wp2_with fail
        exact noretP Post _ _ w gr _ _ rfl rfl rfl BRw.out (HBW.out _ HW.out) HGR.out (fun W' hW'=>by rw [← HQ.out];exact ⟨_,_,rfl,Kd.R_nil _ _ _ _ _,Kd.R_nil _ _ _ _ _,hW'⟩)
      rw [if_pos e813] at h;by_cases hn:0 < p.cs.length∧p.ws.length≤1000000
      case neg=>rw [if_neg hn] at h;cases h
      rw [if_pos hn] at h;obtain ⟨⟨cs2,at2,e2⟩,hv,h⟩:=Option.bind_eq_some_iff.mp h;have HV:=sd hv;have H2:=sd h;have HN:=sd hn;clear h hv hn;obtain ⟨⟨k0,k1,k2,k3,k4,k5,k6⟩,f0,f1,f2,f3,f4,f5,f6⟩:=HP.out.facts;have hbr:bd≤wr.heap.size:=by rw [HBE.out];exact HW.out.size
      have HBR:=sd hbr;clear hbr;rcases e813 with e8|e8
      all_goals (first|(change p.st=8 at e8;obtain ⟨q1,q2⟩:=eqI e8;clear e8;go_wp2_with fail)|(change p.st=13 at e8;obtain ⟨q1,q2⟩:=eqI e8;obtain ⟨q3,q4⟩:=neI (show ¬ p.st=8 by omega);clear e8;go_wp2_with fail))
      all_goals
        refine (values_calls k bd bd p vC vT vW cs2 at2 e2 wr HP.out HBR.out HN.out.1 HN.out.2 (HGW.out _ HW.out) HGBD.out HV.out).mono ?_;rintro e w5 ⟨rfl,⟨vC',vT',vW',hp2⟩,hf⟩;replace HP:=sd hp2;replace HW:=sd (HW.out.trans hf.b);clear hp2 hf HV k0 k1 k2 k3 k4 k5 k6 f0 f1 f2 f3 f4 f5 f6 q1 q2 BRw;(try clear q3 q4)
        have BRw:=sd (HBRW.out _ HW.out);clear HN;obtain ⟨z0,z1,z2,z3,z4,y0,y1,y2,y3,y4⟩:=bk5 BRw;by_cases e20:e2=0
        case neg =>
          have h:=H2.out;rw [if_neg e20] at h;obtain ⟨rfl,rfl,rfl,rfl,rfl,rfl,rfl⟩:=h;obtain ⟨q1,q2⟩:=neI e20;clear e20 H2;go_wp2_with fail
          exact noretP Post _ _ w gr _ _ rfl rfl rfl BRw.out (HBW.out _ HW.out) HGR.out (fun W' hW'=>by rw [← HQ.out];exact ⟨_,_,rfl,Kd.R_nil _ _ _ _ _,Kd.R_nil _ _ _ _ _,hW'⟩)
        have h:=H2.out;rw [if_pos e20] at h;subst e20;obtain ⟨ec,hec,h⟩:=Option.bind_eq_some_iff.mp h;obtain ⟨AC,cC,rfl⟩:=Kd.R_slice HP.out.rC;obtain ⟨AT,cT,rfl⟩:=Kd.R_slice HP.out.rT;obtain ⟨_,hcC,hCC⟩:=Kd.R_reads' HP.out.rC;obtain ⟨_,hcT,hCT⟩:=Kd.R_reads' HP.out.rT;have NC:=sd (fun W hC hT=>rules_Check.calls k p.nm AC cC cs2 p.acc p.par AT cT p.tg ec W hC hcC hT hcT hec);have H3:=sd h;have CC:=sd hCC;have CT:=sd hCT;clear H2 h hec hcC hCC hcT hCT;obtain ⟨⟨k0,k1,k2,k3,k4,k5,k6⟩,f0,f1,f2,f3,f4,f5,f6⟩:=HP.out.facts;go_wp2_with fail
        refine (NC.out _ CC.out CT.out).mono ?_;rintro e w6 ⟨rfl,hb⟩;clear k0 k1 k2 k3 k4 k5 k6 f0 f1 f2 f3 f4 f5 f6 z0 z1 z2 z3 z4 y0 y1 y2 y3 y4 NC CC CT;replace HP:=sd (HP.out.below hb);replace BRw:=sd (blk_below BRw.out hb);replace HW:=sd (HBW.out _ HW.out |> fun h=>h.trans (hb.mono h.size));clear hb;obtain ⟨z0,z1,z2,z3,z4,y0,y1,y2,y3,y4⟩:=bk5 BRw;obtain ⟨⟨k0,k1,k2,k3,k4,k5,k6⟩,f0,f1,f2,f3,f4,f5,f6⟩:=HP.out.facts;by_cases e30:ec=0
        case neg =>
          have h:=H3.out;rw [if_neg e30] at h;obtain ⟨rfl,rfl,rfl,rfl,rfl,rfl,rfl⟩:=h;obtain ⟨q1,q2⟩:=neI e30;clear e30 H3;go_wp2_with fail
          exact noretP Post _ _ w gr _ _ rfl rfl rfl BRw.out HW.out HGR.out (fun W' hW'=>by rw [← HQ.out];exact ⟨_,_,rfl,Kd.R_nil _ _ _ _ _,Kd.R_nil _ _ _ _ _,hW'⟩)
        have h:=H3.out;rw [if_pos e30] at h;subst e30;obtain ⟨rfl,rfl,rfl,rfl,rfl,rfl,rfl⟩:=h;go_wp2_with fail
        exact yesretP Post _ _ w gr bd _ _ _ _ _ _ _ rfl rfl rfl BRw.out HW.out HGR.out HP.out.rC HP.out.rT (fun W' hC hT hW'=>by rw [← HQ.out];exact ⟨_,_,rfl,Kd.R_lower hC HLE.out,Kd.R_lower hT HLE.out,hW'⟩)
    have hlt':(i:Int) < (cw.length:Int):=by omega
    have h0:(0:Int)≤(i:Int):=by omega
    have hw:wrap64 ((i:Int)+1)=((i+1:Nat):Int):=by unfold wrap64;omega
    obtain ⟨ad,e,x0,x1,x2⟩:=at_T73 HR0.out (i:Int) (by omega) (by omega);have y0:=(HW.out.cell (p:=_) (by rw [HBE.out];exact World.block_lt_of_cell? _ _ x0)).trans x0;have y1:=(HW.out.cell (p:=_) (by rw [HBE.out];exact World.block_lt_of_cell? _ _ x1)).trans x1;have y2:=(HW.out.cell (p:=_) (by rw [HBE.out];exact World.block_lt_of_cell? _ _ x2)).trans x2;clear x0 x1 x2
    cases e
    simp only [Int.toNat_natCast] at y0 y1 y2
    have hd:cw.drop i=rd_T73 cw (i:Int) :: cw.drop (i+1):=by
      unfold rd_T73;rw [List.drop_eq_getElem_cons hlt,Int.toNat_natCast,List.getD_eq_getElem?_getD,List.getElem?_eq_getElem hlt];rfl
    obtain ⟨x,hx⟩:∃ x,rd_T73 cw (i:Int)=x:=⟨_,rfl⟩
    rw [hx] at hd y0 y1 y2;have hh:=HP1.out;rw [hd,parL] at hh;obtain ⟨⟨p2,s2⟩,hm,hh⟩:=Option.bind_eq_some_iff.mp hh;have HM:=sd hm;have HN:=sd hh;clear hd hx HP1 hm hh;have HNP:=sd (show bd < wr.heap.size∧(∀ k,vC.ownBlock=some k→k < wr.heap.size)∧(∀ k,vT.ownBlock=some k→k < wr.heap.size)∧(∀ k,vW.ownBlock=some k→k < wr.heap.size) from ⟨blk_lt HP.out.blk,fun k hk=>((Kd.R_bound HP.out.rC).1 k hk).2.2.1,fun k hk=>((Kd.R_bound HP.out.rT).1 k hk).2.2.1,fun k hk=>((Kd.R_bound HP.out.rW).1 k hk).2.2.1⟩);go_upto_region 8 with (fail)
    have hbr:bd≤wr.heap.size:=by rw [HBE.out];exact HW.out.size
    have hbx:=below_alloc (Below.refl wr.heap.size wr) (Obj.cells #[Value.int IntKind.i64 x.f0,Value.string x.f1,Value.int IntKind.i64 x.f2] 73);have bx:(wr.alloc (Obj.cells #[Value.int IntKind.i64 x.f0,Value.string x.f1,Value.int IntKind.i64 x.f2] 73)).heap[wr.heap.size]?=some (.cells #[Value.int IntKind.i64 x.f0,Value.string x.f1,Value.int IntKind.i64 x.f2] 73 (0,0)):=blk_new _ _;replace HP:=sd (HP.out.below hbx);replace HW:=sd (HW.out.trans (hbx.mono hbr));have hbr4:bd≤(wr.alloc (Obj.cells #[Value.int IntKind.i64 x.f0,Value.string x.f1,Value.int IntKind.i64 x.f2] 73)).heap.size:=Nat.le_trans hbr hbx.size;clear y0 y1 y2 hbx;generalize wr.alloc (Obj.cells #[Value.int IntKind.i64 x.f0,Value.string x.f1,Value.int IntKind.i64 x.f2] 73)=w4 at *;obtain ⟨gx,hgx⟩:∃ g,g=wr.heap.size:=⟨_,rfl⟩
    have HNG:=sd (show bd < gx by rw [hgx];exact HNP.out.1);have HNX:=sd (show gx < w4.heap.size∧gx≠bd∧some gx≠vC.ownBlock∧some gx≠vT.ownBlock∧some gx≠vW.ownBlock from ⟨by rw [hgx];exact blk_lt bx,by rw [hgx];exact Nat.ne_of_gt HNP.out.1,fun e=>Nat.lt_irrefl _ (HNP.out.2.1 gx e.symm |> fun h=>hgx ▸ h),fun e=>Nat.lt_irrefl _ (HNP.out.2.2.1 gx e.symm |> fun h=>hgx ▸ h),fun e=>Nat.lt_irrefl _ (HNP.out.2.2.2 gx e.symm |> fun h=>hgx ▸ h)⟩);rw [← hgx] at bx ⊢;have BX:=sd bx;clear bx hgx;obtain ⟨z0,z1,z2,_,_,_⟩:=bk3 BX;go_wp2_with fail
    have hG4:Gl w4:=gl_bd (gl_below HG.out HB.out) HW.out zq28;refine (read_calls k bd bd p vC vT vW x p2 s2 w4 HP.out hbr4 hG4 HM.out).mono ?_;rintro e w5 ⟨rfl,⟨vC',vT',vW',hp2⟩,hf⟩;replace HP:=sd hp2;replace HW:=sd (HW.out.trans hf.b);clear hp2 z0 z1 z2 hG4;by_cases es:s2=14
    case pos =>
      obtain ⟨qs1,qs2⟩:=eqI es;have hh:=HN.out;rw [if_pos es] at hh;obtain ⟨rfl,h2⟩:=Prod.mk.inj (Option.some.inj hh);obtain ⟨rfl,rfl⟩:=Prod.mk.inj h2;clear hh h2 HN HM;have h:=HH.out;rw [if_neg (by decide)] at h;obtain ⟨rfl,rfl,rfl,rfl,rfl,rfl,rfl⟩:=h;have BX:=sd (hf.fr gx HNX.out.1 HNX.out.2.1 HNX.out.2.2.1 HNX.out.2.2.2.1 HNX.out.2.2.2.2 |>.trans BX.out);have BRw:=sd (HBRW.out _ HW.out);clear HH hf BR HR0 HP;obtain ⟨z0,z1,z2,_,_,_⟩:=bk3 BX;obtain ⟨v0,v1,v2,v3,v4,y0,y1,y2,y3,y4⟩:=bk5 BRw;subst es;go_wp2_with fail
      refine start_ (n:=6) (S:=fun w'=>w'.cell? ⟨gx,2,none⟩=some (.int .i64 x.f2)) (ds:=[]) #[false,false,false,false,false,false] (by kernel_rfl) rfl rfl z2 (fun hHeld=>?_);replace BRw:=sd (blk_below BRw.out (below_drew1 (Below.refl _ _)));replace HW:=sd (HBW.out _ HW.out |> fun h=>h.trans ((below_drew1 (Below.refl w5.heap.size w5)).mono h.size));replace BX:=sd (blk_below BX.out (below_drew1 (Below.refl _ _)));have HNE:=sd (show gx≠gr from fun e=>by have:=HGB2.out;have:=HNX.out.2.1;have:=HNG.out;omega);clear HNX HNP;generalize w5.drew=w9 at BRw HW BX hHeld ⊢;obtain ⟨v0,v1,v2,v3,v4,y0,y1,y2,y3,y4⟩:=bk5 BRw;refine pB 0 32 ?_;refine pB 1 33 ?_;refine tB 2 34 hHeld ?_;refine one_ (i:=3) (N:=none) #[true,true,true,true,false,false] rfl rfl (by kernel_rfl) (by decide) (fun K hK=>?_);refine skip_ (w1:=(((((w9.setCell ⟨gr,0,none⟩ (.string ⟨#[]⟩)).setCell ⟨gr,1,none⟩ (.slice none 0 0)).setCell ⟨gr,2,none⟩ (.string ⟨#[]⟩)).setCell ⟨gr,3,none⟩ (.string ⟨#[]⟩)).setCell ⟨gr,4,none⟩ (.slice none 0 0))) (by rfl) rfl (by go_simp;try rfl) ?_;refine hK.out _ _ ((blk_cell ((Below.heap_setCell _ _ _ gx HNE.out).trans ((Below.heap_setCell _ _ _ gx HNE.out).trans ((Below.heap_setCell _ _ _ gx HNE.out).trans ((Below.heap_setCell _ _ _ gx HNE.out).trans ((Below.heap_setCell _ _ _ gx HNE.out).trans BX.out))))) 2).trans rfl) (fun hHeld=>?_);clear hK K;refine pB 4 3 ?_;refine pB 5 4 ?_;refine done_ (by kernel_rfl) ?_;go_wp2_with fail
      exact noretP Post _ _ w gr _ _ rfl rfl rfl BRw.out HW.out HGR.out (fun W' hW'=>by rw [← HQ.out];exact ⟨_,_,rfl,Kd.R_nil _ _ _ _ _,Kd.R_nil _ _ _ _ _,hW'⟩)
    obtain ⟨qs1,qs2⟩:=neI es;have hh:=HN.out;rw [if_neg es] at hh;have HP1:=sd hh;clear hh HN HM hf;go_wp2_with fail
    go_roundw
    case rel=>exact ⟨i+1,{ p2 with st:=s2 },_,_,_,by omega,rfl,HP1,HP,HW⟩
    case measure =>
      refine Nat.sub_lt_sub_left hlt ?_;exact Nat.lt_succ_self i
theorem rf48_Parse.calls (k:Nat) (a0 r1:ByteArray) (r2:List S48) (r3 r4:ByteArray) (r5:List S50) (r6 r7:Int) (w:World) (h:rf48_Parse.f k a0=some (r1,r2,r3,r4,r5,r6,r7)) :
  Calls Tryz.prog 20 #[.string a0] w fun e w'=>∃ v2_ v5_:Value,e=.returned (.tuple #[.agg #[.string r1,v2_,.string r3,.string r4,v5_],.int .i64 r6,.int .i64 r7])∧Kd.R k48 48 w' w.heap.size (fun _=>True) v2_ r2∧Kd.R k50 50 w' w.heap.size (fun _=>True) v5_ r5∧Below w.heap.size w w':=by
 unfold rf48_Parse.f at h;obtain ⟨⟨cw,ca,ce⟩,hc,h⟩:=Option.bind_eq_some_iff.mp h;have HC:=sd (fun W=>rf06_Cut.calls k a0 cw ca ce W hc);have H:=sd h;clear h hc;have HQ:=sd (show ∀ (v2 v5:Value) (W:World),Kd.R k48 48 W w.heap.size (fun _=>True) v2 r2→Kd.R k50 50 W w.heap.size (fun _=>True) v5 r5→Below w.heap.size w W→(fun (e:Ending) (w':World)=>∃ v2_ v5_:Value,e=.returned (.tuple #[.agg #[.string r1,v2_,.string r3,.string r4,v5_],.int .i64 r6,.int .i64 r7])∧Kd.R k48 48 w' w.heap.size (fun _=>True) v2_ r2∧Kd.R k50 50 w' w.heap.size (fun _=>True) v5_ r5∧Below w.heap.size w w') (.returned (.tuple #[.agg #[.string r1,v2,.string r3,.string r4,v5],.int .i64 r6,.int .i64 r7])) W from fun v2 v5 W a b c=>⟨v2,v5,rfl,a,b,c⟩);generalize (fun (e:Ending) (w':World)=>∃ v2_ v5_:Value,e=.returned (.tuple #[.agg #[.string r1,v2_,.string r3,.string r4,v5_],.int .i64 r6,.int .i64 r7])∧Kd.R k48 48 w' w.heap.size (fun _=>True) v2_ r2∧Kd.R k50 50 w' w.heap.size (fun _=>True) v5_ r5∧Below w.heap.size w w')=Post at HQ ⊢;go_enter Tryz.func20,Tryz.ntmps20
 go_upto_region 1 with (fail)
 have hB1:=below_alloc (Below.refl w.heap.size w) (Obj.cells #[Value.string ⟨#[]⟩,Value.slice none 0 0,Value.string ⟨#[]⟩,Value.string ⟨#[]⟩,Value.slice none 0 0] 25);have b0:(w.alloc (Obj.cells #[Value.string ⟨#[]⟩,Value.slice none 0 0,Value.string ⟨#[]⟩,Value.string ⟨#[]⟩,Value.slice none 0 0] 25)).heap[w.heap.size]?=some (.cells #[Value.string ⟨#[]⟩,Value.slice none 0 0,Value.string ⟨#[]⟩,Value.string ⟨#[]⟩,Value.slice none 0 0] 25 (0,0)):=blk_new _ _;generalize w.alloc (Obj.cells #[Value.string ⟨#[]⟩,Value.slice none 0 0,Value.string ⟨#[]⟩,Value.string ⟨#[]⟩,Value.slice none 0 0] 25)=w1 at *;obtain ⟨gr,hgr⟩:∃ g,g=w.heap.size:=⟨_,rfl⟩
 have HGR:=sd (show w.heap.size≤gr by omega);rw [show (⟨w.heap.size,0,none⟩:Addr)=⟨gr,0,none⟩ by rw [hgr]];rw [← hgr] at b0;have BR:=sd b0;have HB:=sd hB1;clear b0 hB1 hgr;go_wp2_with fail
 refine (HC.out _).mono ?_;rintro e w2 ⟨v0,rfl,hR0,hb⟩;obtain ⟨va,vc,rfl⟩:=Kd.R_slice hR0;have HR0:=sd (Kd.R_reads' hR0).2.2;have HCV:=sd (Kd.R_reads' hR0).2.1;replace BR:=sd (blk_below BR.out hb);have HNA:=sd (show ∀ ad,va=some ad→ad.block≠gr from fun ad e e2=>Kd.R_ne hR0 BR.out (by decide) (by rw [e,← e2];rfl));replace HB:=sd (HB.out.trans (hb.mono HB.out.size));clear hb hR0 HC;by_cases hz:ce=0
 case neg =>
  have h:=H.out;rw [if_neg hz] at h;obtain ⟨rfl,rfl,rfl,rfl,rfl,rfl,rfl⟩:=h;obtain ⟨q1,q2⟩:=neI hz;obtain ⟨z0,z1,z2,z3,z4,y0,y1,y2,y3,y4⟩:=bk5 BR;clear hz H;go_wp2_with fail
  exact noretQ Post _ _ w gr _ _ rfl rfl rfl BR.out HB.out HGR.out (fun W' hW'=>HQ.out _ _ W' (Kd.R_nil _ _ _ _ _) (Kd.R_nil _ _ _ _ _) hW')
 have h:=H.out;rw [if_pos hz] at h;subst hz;obtain ⟨⟨nm,cs,acc,par,tg,vs,at1,fl1⟩,hp,h⟩:=Option.bind_eq_some_iff.mp h;dsimp only at h
 have HP1:=sd hp;have HH:=sd h;clear h H hp;go_upto_region 5 with (fail)
 have hI:=IsS82.new w2 w2 va vc cw 0 false (Below.refl _ _) HR0.out;have hb3:=below_alloc (Below.refl w2.heap.size w2) (Obj.cells #[Value.slice va cw.length vc,Value.int IntKind.i64 0,Value.bool false] 82);generalize w2.alloc (Obj.cells #[Value.slice va cw.length vc,Value.int IntKind.i64 0,Value.bool false] 82)=w3 at *;obtain ⟨gp,hgp⟩:∃ g,g=w2.heap.size:=⟨_,rfl⟩
 rw [← hgp] at hI ⊢;have HI:=sd hI;have HB3:=sd hb3;clear hI hb3 hgp;go_wp2_with fail
 refine (rf48_Reader_rule.calls k gp cw 0 false nm cs acc par tg vs at1 fl1 w2 w3 HI.out HB3.out HP1.out).mono ?_;rintro e w4 ⟨vC,vT,vV,rfl,hrC,hrT,hrV,hI,hB,_⟩;obtain ⟨AC,cC,rfl⟩:=Kd.R_slice hrC;obtain ⟨AT,cT,rfl⟩:=Kd.R_slice hrT;obtain ⟨AV,cV,rfl⟩:=Kd.R_slice hrV;replace HI:=sd hI;replace BR:=sd (blk_below BR.out hB);have HB4:=sd (HB.out.trans (hB.mono HB.out.size));have HW2:=sd hB;have HRC:=sd (Kd.R_lower hrC (Nat.le_trans HB.out.size HB3.out.size));have HRT:=sd (Kd.R_lower hrT (Nat.le_trans HB.out.size HB3.out.size));have HRV:=sd (Kd.R_lower hrV (Nat.le_trans HB.out.size HB3.out.size));clear hrC hrT hrV hI hB HB HB3 HP1;go_upto_region 6 with (fail)
 have hb5:=below_alloc (Below.refl w4.heap.size w4) (Obj.cells #[Value.string nm,Value.slice AC cs.length cC,Value.string acc,Value.string par,Value.slice AT tg.length cT] 25);have b9:(w4.alloc (Obj.cells #[Value.string nm,Value.slice AC cs.length cC,Value.string acc,Value.string par,Value.slice AT tg.length cT] 25)).heap[w4.heap.size]?=some (.cells #[Value.string nm,Value.slice AC cs.length cC,Value.string acc,Value.string par,Value.slice AT tg.length cT] 25 (0,0)):=blk_new _ _;generalize w4.alloc (Obj.cells #[Value.string nm,Value.slice AC cs.length cC,Value.string acc,Value.string par,Value.slice AT tg.length cT] 25)=w5 at *;obtain ⟨g9,hg9⟩:∃ g,g=w4.heap.size:=⟨_,rfl⟩
 rw [← hg9] at b9 ⊢;have Q:=sd (RQ.mk (HB4.out.trans (hb5.mono HB4.out.size)) b9 (blk_below BR.out hb5) (Kd.R_below HRC.out hb5) (Kd.R_below HRT.out hb5) (Kd.R_below HRV.out hb5) HGR.out:RQ w w5 gr g9 nm cs acc par tg vs (.slice AC cs.length cC) (.slice AT tg.length cT) (.slice AV vs.length cV));replace HI:=sd (HI.out.below hb5);replace HR0:=sd (Kd.C_below HR0.out (HW2.out.trans (hb5.mono HW2.out.size)));have HNE:=sd (show gp≠gr from HI.out.ne_blk Q.out.b2 (by decide));clear hb5 b9 hg9 BR HB4 HRC HRT HRV HW2;obtain ⟨A_,c_,x0,x1,x2,x3⟩:=s82_cells HI.out;have h:=HH.out;by_cases hf:fl1=true
 ·subst hf;rw [if_pos rfl] at h;unfold r48_fail at h;by_cases hlt:at1 < (cw.length:Int)
  ·rw [if_pos hlt] at h;split at h
   case isFalse=>cases h
   rename_i h0
   obtain ⟨rfl,rfl,rfl,rfl,rfl,rfl,rfl⟩:=h;obtain ⟨ad,e,t0,t1,t2⟩:=at_T73 HR0.out at1 (by omega) (by omega)
   cases e
   clear t0 t1 HH;obtain ⟨v0,v1,v2,v3,v4,u0,u1,u2,u3,u4⟩:=bk5 (sd Q.out.b2);go_wp2_with fail
   have hna:=HNA.out ad rfl;refine start_ (n:=12) (S:=fun w'=>w'.cell? ⟨gp,1,none⟩=some (.int .i64 at1)∧w'.cell? ⟨(ad.add (at1.toNat * 3)).block,(ad.add (at1.toNat * 3)).off+2,none⟩=some (.int .i64 (rd_T73 cw at1).f2)) (ds:=[]) #[false,false,false,false,false,false,false,false,false,false,false,false] (by kernel_rfl) rfl rfl ⟨x1,t2⟩ (fun hHeld=>?_);replace Q:=sd (Q.out.below (below_drew1 (Below.refl _ _)));clear x0 x1 x2 x3 t2 v0 v1 v2 v3 v4 u0 u1 u2 u3 u4 HR0 HI;generalize w5.drew=w6 at Q hHeld ⊢;obtain ⟨v0,v1,v2,v3,v4,u0,u1,u2,u3,u4⟩:=bk5 (sd Q.out.b2);refine pB 0 46 ?_;refine pB 1 47 ?_;refine pB 2 48 ?_;refine pB 3 49 ?_;refine pB 4 50 ?_;refine tB 5 51 hHeld ?_;refine pB 6 52 ?_;refine pB 7 53 ?_;refine tB 8 54 hHeld ?_;refine one_ (i:=9) (N:=none) #[true,true,true,true,true,true,true,true,true,true,false,false] rfl rfl (by kernel_rfl) (by decide) (fun K hK=>?_);refine skip_ (w1:=(((((w6.setCell ⟨gr,0,none⟩ (.string ⟨#[]⟩)).setCell ⟨gr,1,none⟩ (.slice none 0 0)).setCell ⟨gr,2,none⟩ (.string ⟨#[]⟩)).setCell ⟨gr,3,none⟩ (.string ⟨#[]⟩)).setCell ⟨gr,4,none⟩ (.slice none 0 0))) (by rfl) rfl (by go_simp;try rfl) ?_;refine hK.out _ _ ⟨(z_cell w6 gr ⟨gp,1,none⟩ HNE.out).trans hHeld.1,(z_cell w6 gr ⟨(ad.add (at1.toNat * 3)).block,(ad.add (at1.toNat * 3)).off+2,none⟩ (by show (ad.add (at1.toNat * 3)).block≠gr;rw [add_block];exact hna)).trans hHeld.2⟩ (fun hHeld=>?_);clear hK K;refine pB 10 3 ?_;refine pB 11 4 ?_;refine done_ (by kernel_rfl) ?_;go_wp2_with fail
   exact noretQ Post _ _ w gr _ _ rfl rfl rfl Q.out.b2 Q.out.hB HGR.out (fun W' hW'=>HQ.out _ _ W' (Kd.R_nil _ _ _ _ _) (Kd.R_nil _ _ _ _ _) hW')
  rw [if_neg hlt] at h;obtain ⟨rfl,rfl,rfl,rfl,rfl,rfl,rfl⟩:=h;obtain ⟨v0,v1,v2,v3,v4,u0,u1,u2,u3,u4⟩:=bk5 (sd Q.out.b2);clear HH;go_wp2_with fail
  exact noretQ Post _ _ w gr _ _ rfl rfl rfl Q.out.b2 Q.out.hB HGR.out (fun W' hW'=>HQ.out _ _ W' (Kd.R_nil _ _ _ _ _) (Kd.R_nil _ _ _ _ _) hW')
 have hf':fl1=false:=Bool.eq_false_iff.mpr hf;subst hf';rw [if_neg (by decide)] at h;split at h
 case isFalse=>cases h
 rename_i hvl
 obtain ⟨⟨cs2,at2,e2⟩,hv,h⟩:=Option.bind_eq_some_iff.mp h;have HV:=sd hv;have HE:=sd h;have HVL:=sd hvl;clear hv h hvl HH hf;go_wp2_with fail
 clear x0 x1 x2 x3 HI HR0 HNE;go_loopw [11] (fun n_ wr=>∃ (i:Nat) (cs':List S48),i≤vs.length∧n_=.int .i64 (i:Int)∧Aside0 (cs'.length=cs.length)∧Aside0 (r48_vals k (vs.drop i) cs'=some (cs2,at2,e2))∧Aside0 (RQ w wr gr g9 nm cs' acc par tg vs (.slice AC cs.length cC) (.slice AT tg.length cT) (.slice AV vs.length cV))) (fun n_ _=>(vs.length - (RowKit.intOf n_).toNat))
 case atStart=>exact ⟨0,cs,Nat.zero_le _,rfl,⟨rfl⟩,HV,Q⟩
 case round =>
  clear HV Q;obtain ⟨i,cs',hi,rfl,HCL,HV,Q⟩:=hrel;rename World=>wr
  by_cases hlt:i < vs.length
  case neg =>
   obtain rfl:i=vs.length:=by omega
   have hlt':¬ (vs.length:Int) < (vs.length:Int):=by omega
   have hh:=HV.out;rw [List.drop_length,r48_vals] at hh;obtain ⟨h1,h2⟩:=Prod.mk.inj (Option.some.inj hh);obtain ⟨h3,h4⟩:=Prod.mk.inj h2;subst h1 h3 h4;clear hh h2;have h:=HE.out;unfold r48_end at h;rw [if_pos rfl] at h;obtain ⟨ec,hec,h⟩:=Option.bind_eq_some_iff.mp h;dsimp only at hec h
   obtain ⟨hn1,hcC,hCC⟩:=Kd.R_reads' Q.out.rC;obtain ⟨_,hcT,hCT⟩:=Kd.R_reads' Q.out.rT
   have NC:=sd (show ∀ W,Kd.C k48 W AC cs.length cs'→Kd.C k50 W AT tg.length tg→Calls Tryz.prog 10 #[.agg #[.string nm,.slice AC cs.length cC,.string acc,.string par,.slice AT tg.length cT]] W fun e w'=>e=.returned (.int .i64 ec)∧Below W.heap.size W w' from fun W hC hT=>by
    have:=rf48_Check.calls k nm AC cC cs' acc par AT cT tg ec W (by rw [← hn1];exact hC) (by rw [← hn1];exact hcC) hT hcT hec;rw [← hn1] at this;exact this)
   have H3:=sd h;have CC:=sd (show Kd.C k48 wr AC cs.length cs' by rw [hn1];exact hCC);have CT:=sd hCT;clear HV HE h hec hn1 hcC hCC hcT hCT;obtain ⟨z0,z1,z2,z3,z4,y0,y1,y2,y3,y4⟩:=bk5 (sd Q.out.b9);go_wp2_with fail
   refine (NC.out _ CC.out CT.out).mono ?_;rintro e w6 ⟨rfl,hb⟩;clear z0 z1 z2 z3 z4 y0 y1 y2 y3 y4 NC CC CT;replace Q:=sd (Q.out.below hb);clear hb;obtain ⟨z0,z1,z2,z3,z4,y0,y1,y2,y3,y4⟩:=bk5 (sd Q.out.b9);obtain ⟨v0,v1,v2,v3,v4,u0,u1,u2,u3,u4⟩:=bk5 (sd Q.out.b2);by_cases e30:ec=0
   ·have h:=H3.out;rw [if_pos e30] at h;subst e30;obtain ⟨rfl,rfl,rfl,rfl,rfl,rfl,rfl⟩:=h;go_wp2_with fail
    exact yesretQ Post _ _ w gr w.heap.size _ _ _ _ _ _ _ rfl rfl rfl Q.out.b2 Q.out.hB HGR.out Q.out.rC Q.out.rT (fun W' hC hT hW'=>HQ.out _ _ W' hC hT hW')
   have h:=H3.out;rw [if_neg e30] at h;obtain ⟨rfl,rfl,rfl,rfl,rfl,rfl,rfl⟩:=h;obtain ⟨q1,q2⟩:=neI e30;clear e30 H3;go_wp2_with fail
   exact noretQ Post _ _ w gr _ _ rfl rfl rfl Q.out.b2 Q.out.hB HGR.out (fun W' hW'=>HQ.out _ _ W' (Kd.R_nil _ _ _ _ _) (Kd.R_nil _ _ _ _ _) hW')
  have hlt':(i:Int) < (vs.length:Int):=by omega
  have h0:(0:Int)≤(i:Int):=by omega
  have hw:wrap64 ((i:Int)+1)=((i+1:Nat):Int):=by have:=HVL.out;unfold wrap64;omega
  have hd:vs.drop i=rd_T87 vs (i:Int) :: vs.drop (i+1):=by
   unfold rd_T87;rw [List.drop_eq_getElem_cons hlt,Int.toNat_natCast,List.getD_eq_getElem?_getD,List.getElem?_eq_getElem hlt];rfl
  obtain ⟨av,e,t0,t1,t2⟩:=at_T87 (Kd.R_reads' Q.out.rV).2.2 (i:Int) (by omega) (by omega)
  cases e
  simp only [Int.toNat_natCast] at t0 t1 t2
  obtain ⟨x,hx⟩:∃ x,rd_T87 vs (i:Int)=x:=⟨_,rfl⟩
  rw [hx] at hd t0 t1 t2;have HX:=sd hx;have hh:=HV.out;rw [hd,r48_vals] at hh;clear hd hx HV;split at hh
  case isFalse=>cases hh
  rename_i hcr
  obtain ⟨m,hm⟩:∃ m:Nat,x.f0=(m:Int):=⟨x.f0.toNat,by omega⟩
  rw [hm] at hh t0;rw [Int.toNat_natCast] at hh;have hml:m < cs'.length:=by omega
  have hmi:(m:Int) < (cs.length:Int):=by have:=HCL.out;omega
  have hm0:(0:Int)≤(m:Int):=by omega
  obtain ⟨gc,cap,hv,_,_,_⟩:=Kd.R_form Q.out.rC (by omega);obtain ⟨rfl,hlen,rfl⟩:=Value.slice.inj hv;clear hlen;obtain ⟨c,hc⟩:∃ c,rd_T48 cs' (m:Int)=c:=⟨_,rfl⟩
  rw [hc] at hh;obtain ⟨b,hb,hh⟩:=Option.bind_eq_some_iff.mp hh;have HNB:=sd (fun W=>rf48_number.calls c.f0 b W hb);have HN:=sd hh;have HCc:=sd hc;have HML:=sd hml;clear hh hb hc hml hcr hm hv;obtain ⟨cc,hcl2,hM,hcc,hfr⟩:=Kd.R_elem Q.out.rC z48 (m:Int) (by omega) (by omega)
  have hce:cc=[Value.int .i64 c.f0,.int .i64 c.f1,.string c.f2,.int .i64 c.f3]:=by
   have:=k48_openM hM;rw [this,← HCc.out];rfl
  subst hce;have e0:wr.cell? ⟨gc,m * 4,none⟩=some (.int .i64 c.f0):=hcc 0 _ rfl;clear hcl2 hM hcc hfr;obtain ⟨z0,z1,z2,z3,z4,y0,y1,y2,y3,y4⟩:=bk5 (sd Q.out.b9);go_wp2_with fail
  refine (HNB.out _).mono ?_;rintro e w6 ⟨rfl,hd⟩;obtain ⟨⟨nd,rfl⟩⟩:=hd;have hbx:=pw_below_drewN (Below.refl wr.heap.size wr) nd;replace Q:=sd (Q.out.below hbx);clear e0 t0 t1 t2 z0 z1 z2 z3 z4 y0 y1 y2 y3 y4 HNB hbx;generalize wr.drewN nd=w6 at *
  cases b
  ·have hh:=HN.out;rw [if_neg (by decide)] at hh;have HV:=sd hh;clear HN hh;go_wp2_with fail
   go_roundw
   case rel=>exact ⟨i+1,cs',by omega,(by rw [hw]),HCL,HV,Q⟩
   case measure =>
    refine Nat.sub_lt_sub_left hlt ?_;rw [hw];exact Nat.lt_succ_self i
  have hh:=HN.out;rw [if_pos rfl] at hh;obtain ⟨⟨qn,qe⟩,hq,hh⟩:=Option.bind_eq_some_iff.mp hh;obtain ⟨⟨n1,ne⟩,hn,hh⟩:=Option.bind_eq_some_iff.mp hh;have NP:=sd (fun W=>rf01_Parse.calls k x.f1 (-1000000000000) 1000000000000 qn qe W hq);have H5:=sd hn;have H6:=sd hh;clear HN hh hq hn;obtain ⟨avq,e,t0,t1,t2⟩:=at_T87 (Kd.R_reads' Q.out.rV).2.2 (i:Int) (by omega) (by omega)
  cases e
  rw [HX.out] at t0 t1 t2;simp only [Int.toNat_natCast] at t0 t1 t2
  obtain ⟨cc,hcl2,hM,hcc,hfr⟩:=Kd.R_elem Q.out.rC z48 (m:Int) (by omega) (by omega)
  have hce:cc=[Value.int .i64 c.f0,.int .i64 c.f1,.string c.f2,.int .i64 c.f3]:=by
   have:=k48_openM hM;rw [this,← HCc.out];rfl
  subst hce;have e0:w6.cell? ⟨gc,m * 4,none⟩=some (.int .i64 c.f0):=hcc 0 _ rfl;have e3:w6.cell? ⟨gc,m * 4+3,none⟩=some (.int .i64 c.f3):=hcc 3 _ rfl;have g3_:w6.frozen? ⟨gc,m * 4+3,none⟩=false:=hfr 3;clear hcl2 hM hcc hfr;obtain ⟨z0,z1,z2,z3,z4,y0,y1,y2,y3,y4⟩:=bk5 (sd Q.out.b9);go_wp2_with fail
  refine (NP.out _).mono ?_;rintro e w8 ⟨rfl,hd⟩;obtain ⟨⟨nd,rfl⟩⟩:=hd;have hbx:=pw_below_drewN (Below.refl w6.heap.size w6) nd;replace Q:=sd (Q.out.below hbx);clear NP hbx;clear t0 t1 t2 e0 e3 g3_ z0 z1 z2 z3 z4 y0 y1 y2 y3 y4;generalize w6.drewN nd=w8 at *;by_cases f4:c.f0=4
  case' pos =>
   have h5:=H5.out;unfold r48_n at h5;rw [if_pos f4] at h5;have ND:=sd (fun W=>rf04_Parse.calls k x.f1 n1 ne W h5);obtain ⟨q1,q2⟩:=eqI f4;clear h5 f4 H5;obtain ⟨avq,e,t0,t1,t2⟩:=at_T87 (Kd.R_reads' Q.out.rV).2.2 (i:Int) (by omega) (by omega)
   cases e
   rw [HX.out] at t0 t1 t2;simp only [Int.toNat_natCast] at t0 t1 t2
   obtain ⟨cc,hcl2,hM,hcc,hfr⟩:=Kd.R_elem Q.out.rC z48 (m:Int) (by omega) (by omega)
   have hce:cc=[Value.int .i64 c.f0,.int .i64 c.f1,.string c.f2,.int .i64 c.f3]:=by
    have:=k48_openM hM;rw [this,← HCc.out];rfl
   subst hce;have e0:w8.cell? ⟨gc,m * 4,none⟩=some (.int .i64 c.f0):=hcc 0 _ rfl;have e3:w8.cell? ⟨gc,m * 4+3,none⟩=some (.int .i64 c.f3):=hcc 3 _ rfl;have g3_:w8.frozen? ⟨gc,m * 4+3,none⟩=false:=hfr 3;clear hcl2 hM hcc hfr;obtain ⟨z0,z1,z2,z3,z4,y0,y1,y2,y3,y4⟩:=bk5 (sd Q.out.b9);go_wp2_with fail
   refine (ND.out _).mono ?_;rintro e w9 ⟨rfl,hb⟩;replace Q:=sd (Q.out.below hb);clear hb ND q1 q2;clear t0 t1 t2 e0 e3 g3_ z0 z1 z2 z3 z4 y0 y1 y2 y3 y4
  case' neg =>
   have h5:=H5.out;unfold r48_n at h5;rw [if_neg f4] at h5;obtain ⟨h5a,h5b⟩:=Prod.mk.inj (Option.some.inj h5);have h5a':=h5a.symm;have h5b':=h5b.symm;subst h5a' h5b';obtain ⟨q1,q2⟩:=neI f4;clear h5 f4 H5;obtain ⟨avq,e,t0,t1,t2⟩:=at_T87 (Kd.R_reads' Q.out.rV).2.2 (i:Int) (by omega) (by omega)
   cases e
   rw [HX.out] at t0 t1 t2;simp only [Int.toNat_natCast] at t0 t1 t2
   obtain ⟨cc,hcl2,hM,hcc,hfr⟩:=Kd.R_elem Q.out.rC z48 (m:Int) (by omega) (by omega)
   have hce:cc=[Value.int .i64 c.f0,.int .i64 c.f1,.string c.f2,.int .i64 c.f3]:=by
    have:=k48_openM hM;rw [this,← HCc.out];rfl
   subst hce;have e0:w8.cell? ⟨gc,m * 4,none⟩=some (.int .i64 c.f0):=hcc 0 _ rfl;have e3:w8.cell? ⟨gc,m * 4+3,none⟩=some (.int .i64 c.f3):=hcc 3 _ rfl;have g3_:w8.frozen? ⟨gc,m * 4+3,none⟩=false:=hfr 3;clear hcl2 hM hcc hfr;obtain ⟨z0,z1,z2,z3,z4,y0,y1,y2,y3,y4⟩:=bk5 (sd Q.out.b9);go_upto_region 18 with (fail)
   clear q1 q2;clear t0 t1 t2 e0 e3 g3_ z0 z1 z2 z3 z4 y0 y1 y2 y3 y4
  all_goals
   rename World=>wf
   obtain ⟨avq,e,t0,t1,t2⟩:=at_T87 (Kd.R_reads' Q.out.rV).2.2 (i:Int) (by omega) (by omega)
   cases e
   rw [HX.out] at t0 t1 t2;simp only [Int.toNat_natCast] at t0 t1 t2
   obtain ⟨cc,hcl2,hM,hcc,hfr⟩:=Kd.R_elem Q.out.rC z48 (m:Int) (by omega) (by omega)
   have hce:cc=[Value.int .i64 c.f0,.int .i64 c.f1,.string c.f2,.int .i64 c.f3]:=by
    have:=k48_openM hM;rw [this,← HCc.out];rfl
   subst hce;have e0:wf.cell? ⟨gc,m * 4,none⟩=some (.int .i64 c.f0):=hcc 0 _ rfl;have e3:wf.cell? ⟨gc,m * 4+3,none⟩=some (.int .i64 c.f3):=hcc 3 _ rfl;have g3_:wf.frozen? ⟨gc,m * 4+3,none⟩=false:=hfr 3;clear hcl2 hM hcc hfr;obtain ⟨z0,z1,z2,z3,z4,y0,y1,y2,y3,y4⟩:=bk5 (sd Q.out.b9);by_cases ez:ne=0
   ·have h6:=H6.out;rw [if_pos ez] at h6;have HV:=sd h6;obtain ⟨q1,q2⟩:=eqI ez;clear H6 h6 ez HE;go_wp2_with fail
    replace Q:=sd (Q.out.elem HML.out HCc.out n1);go_roundw
    case rel=>exact ⟨i+1,cs'.set m { c with f3:=n1 },by omega,(by rw [hw]),⟨by rw [List.length_set];exact HCL.out⟩,HV,Q⟩
    case measure =>
     refine Nat.sub_lt_sub_left hlt ?_;rw [hw];exact Nat.lt_succ_self i
   have h6:=H6.out;rw [if_neg ez] at h6;obtain ⟨j1,j2⟩:=Prod.mk.inj (Option.some.inj h6);obtain ⟨j3,j4⟩:=Prod.mk.inj j2;subst j1 j3 j4;have he:=HE.out;unfold r48_end at he;rw [if_neg ez] at he;obtain ⟨rfl,rfl,rfl,rfl,rfl,rfl,rfl⟩:=he;obtain ⟨q1,q2⟩:=neI ez;have hna:av.block≠gr:=fun e=>Kd.R_ne Q.out.rV Q.out.b2 (by decide) (by rw [← e];rfl)
   clear H6 h6 ez HE j2;go_upto_region 19 with (fail)
   refine start_ (n:=10) (S:=fun w'=>w'.cell? ⟨(av.add (i * 3)).block,(av.add (i * 3)).off+2,none⟩=some (.int .i64 x.f2)) (ds:=[]) #[false,false,false,false,false,false,false,false,false,false] (by kernel_rfl) rfl rfl t2 (fun hHeld=>?_);replace Q:=sd (Q.out.below (below_drew1 (Below.refl _ _)));clear t0 t1 t2 e0 e3 g3_ z0 z1 z2 z3 z4 y0 y1 y2 y3 y4;generalize wf.drew=wg at Q hHeld ⊢;obtain ⟨v0,v1,v2,v3,v4,u0,u1,u2,u3,u4⟩:=bk5 (sd Q.out.b2);refine pB 0 104 ?_;refine pB 1 105 ?_;refine pB 2 106 ?_;refine pB 3 107 ?_;refine pB 4 108 ?_;refine tB 5 109 hHeld ?_;refine pB 6 110 ?_;refine one_ (i:=7) (N:=none) #[true,true,true,true,true,true,true,true,false,false] rfl rfl (by kernel_rfl) (by decide) (fun K hK=>?_);refine skip_ (w1:=(((((wg.setCell ⟨gr,0,none⟩ (.string ⟨#[]⟩)).setCell ⟨gr,1,none⟩ (.slice none 0 0)).setCell ⟨gr,2,none⟩ (.string ⟨#[]⟩)).setCell ⟨gr,3,none⟩ (.string ⟨#[]⟩)).setCell ⟨gr,4,none⟩ (.slice none 0 0))) (by rfl) rfl (by go_simp;try rfl) ?_;refine hK.out _ _ ((z_cell wg gr ⟨(av.add (i * 3)).block,(av.add (i * 3)).off+2,none⟩ (by show (av.add (i * 3)).block≠gr;rw [add_block];exact hna)).trans hHeld) (fun hHeld=>?_);clear hK K;refine pB 8 3 ?_;refine pB 9 4 ?_;refine done_ (by kernel_rfl) ?_;go_wp2_with fail
   exact noretQ Post _ _ w gr _ _ rfl rfl rfl Q.out.b2 Q.out.hB HGR.out (fun W' hW'=>HQ.out _ _ W' (Kd.R_nil _ _ _ _ _) (Kd.R_nil _ _ _ _ _) hW')
end A

end Go.Proofs.YtkbgkekegjfkfaaGreatDoor