-- By pack.py, a program of this session's.
import Derived.Test.YtkbgkekegjfkfaaGreatDoorY17
import Derived.Test.YtkbgkekegjfkfaaGreatDoorY18
set_option linter.unusedVariables false
set_option linter.unusedSimpArgs false
namespace Go.Proofs.YtkbgkekegjfkfaaGreatDoor.A
open Go.RowKit B WW WL WM
attribute [local go_sem] max2_int min2_int max_two min_two max_three min_three max_four min_four
set_option maxHeartbeats 8000000
set_option maxRecDepth 100000
theorem least_calls (g gn gs:Nat) (c:S48) (d a:Int) (rf tx:ByteArray) (w:World) (h:CEnv w g gn gs c) :
  Calls Tryz.prog 61 #[lineV d a rf tx,.pointer (some ⟨gn,0,none⟩),.pointer (some ⟨g,0,none⟩)] w fun e w'=>e=.returned (.bool (decide (nOfC c d a ≥ c.f3)))∧Below w.heap.size w w':=by
 have HE:=sd h;clear h;generalize hQ:(fun (e:Ending) (w':World)=>e=.returned (.bool (decide (nOfC c d a ≥ c.f3)))∧Below w.heap.size w w')=Post;have HQ:=sd hQ;clear hQ;unfold lineV;go_enter Tryz.func61,Tryz.ntmps61
 go_wp2_with fail
 have HB:=sd (below_alloc (Below.refl w.heap.size w) (Obj.cells #[Value.int IntKind.i64 d,Value.int IntKind.i64 a,Value.string rf,Value.string tx] 32));have HE1:=sd (HE.out.below HB.out);have b0:(w.alloc (Obj.cells #[Value.int IntKind.i64 d,Value.int IntKind.i64 a,Value.string rf,Value.string tx] 32)).heap[w.heap.size]?=some (.cells #[Value.int IntKind.i64 d,Value.int IntKind.i64 a,Value.string rf,Value.string tx] 32 (0,0)):=blk_new _ _;generalize w.alloc (Obj.cells #[Value.int IntKind.i64 d,Value.int IntKind.i64 a,Value.string rf,Value.string tx] 32)=w1 at *;generalize w.heap.size=gl at b0 ⊢;have b1:(w1.drew).heap[gl]?=some (.cells #[Value.int IntKind.i64 d,Value.int IntKind.i64 a,Value.string rf,Value.string tx] 32 (0,0)):=b0;have l0:w1.drew.cell? ⟨gl,0,none⟩=some (.int .i64 d):=(blk_cell b1 0).trans rfl;have l1:w1.drew.cell? ⟨gl,1,none⟩=some (.int .i64 a):=(blk_cell b1 1).trans rfl;have l2:w1.drew.cell? ⟨gl,2,none⟩=some (.string rf):=(blk_cell b1 2).trans rfl;have l3:w1.drew.cell? ⟨gl,3,none⟩=some (.string tx):=(blk_cell b1 3).trans rfl;have HE2:=sd (HE1.out.below (below_drew1 (Below.refl _ _)));have HB2:=sd (below_drew1 HB.out);clear b0 b1 HB HE1;refine start_ (n:=7) (S:=fun w'=>w'.cell? ⟨gn,0,none⟩=some (.func (.func 59) #[] #[.pointer (some ⟨g,0,none⟩)])∧w'.cell? ⟨g,3,none⟩=some (.int .i64 c.f3)∧w'.cell? ⟨gl,0,none⟩=some (.int .i64 d)∧w'.cell? ⟨gl,1,none⟩=some (.int .i64 a)∧w'.cell? ⟨gl,2,none⟩=some (.string rf)∧w'.cell? ⟨gl,3,none⟩=some (.string tx)) (ds:=[]) #[false,false,false,false,false,false,false] (by kernel_rfl) rfl rfl ⟨HE2.out.fn,HE2.out.c3,l0,l1,l2,l3⟩ (fun hHeld=>?_);clear l0 l1 l2 l3;have hm2:∀ p v,w1.cell? p=some v→w1.drew.cell? p=some v:=fun p v hc=>hc
 clear hm2;generalize w1.drew=w2 at hHeld HE2 HB2  ⊢;refine tB 0 5 hHeld ?_;refine tB 1 6 hHeld ?_;refine pB 3 8 ?_;refine tB 4 9 hHeld ?_;refine one_ (i:=2) (N:=some 7) #[true,true,true,true,true,false,false] rfl rfl (by kernel_rfl) (by decide) (fun K hK=>?_);refine goesF_ (cap:=#[.pointer (some ⟨g,0,none⟩)]) Tryz.func59 (by kernel_rfl) rfl #[.agg #[.int .i64 d,.int .i64 a,.string rf,.string tx],.pointer (some ⟨g,0,none⟩)] (by rfl) rfl rfl (by rfl) zq122 ?_;refine (nOf_calls g c d a rf tx w2 HE2.out.c0).mono ?_;rintro e w3 ⟨rfl,hb⟩;refine ⟨_,rfl,?_⟩;have hk:∀ p v,w2.cell? p=some v→w3.cell? p=some v:=fun p v hc=>(hb.cell (lt_of_cell hc)).trans hc
 obtain ⟨h1,h2,h3,h4,h5,h6⟩:=hHeld;refine hK.out _ _ ⟨hk _ _ h1,hk _ _ h2,hk _ _ h3,hk _ _ h4,hk _ _ h5,hk _ _ h6⟩ (fun hHeld=>?_);clear hK K h1 h2 h3 h4 h5 h6 hk;refine nA 7 ?_;refine pB 5 10 ?_;refine pB 6 4 ?_;refine done_ (by kernel_rfl) ?_;clear hHeld;go_wp2_with fail
 rw [← HQ.out];exact ⟨by (try rfl),HB2.out.trans (hb.mono HB2.out.size)⟩
theorem most_calls (g gn gs:Nat) (c:S48) (d a:Int) (rf tx:ByteArray) (w:World) (h:CEnv w g gn gs c) :
  Calls Tryz.prog 62 #[lineV d a rf tx,.pointer (some ⟨gn,0,none⟩),.pointer (some ⟨g,0,none⟩)] w fun e w'=>e=.returned (.bool (decide (nOfC c d a≤c.f3)))∧Below w.heap.size w w':=by
 have HE:=sd h;clear h;generalize hQ:(fun (e:Ending) (w':World)=>e=.returned (.bool (decide (nOfC c d a≤c.f3)))∧Below w.heap.size w w')=Post;have HQ:=sd hQ;clear hQ;unfold lineV;go_enter Tryz.func62,Tryz.ntmps62
 go_wp2_with fail
 have HB:=sd (below_alloc (Below.refl w.heap.size w) (Obj.cells #[Value.int IntKind.i64 d,Value.int IntKind.i64 a,Value.string rf,Value.string tx] 32));have HE1:=sd (HE.out.below HB.out);have b0:(w.alloc (Obj.cells #[Value.int IntKind.i64 d,Value.int IntKind.i64 a,Value.string rf,Value.string tx] 32)).heap[w.heap.size]?=some (.cells #[Value.int IntKind.i64 d,Value.int IntKind.i64 a,Value.string rf,Value.string tx] 32 (0,0)):=blk_new _ _;generalize w.alloc (Obj.cells #[Value.int IntKind.i64 d,Value.int IntKind.i64 a,Value.string rf,Value.string tx] 32)=w1 at *;generalize w.heap.size=gl at b0 ⊢;have b1:(w1.drew).heap[gl]?=some (.cells #[Value.int IntKind.i64 d,Value.int IntKind.i64 a,Value.string rf,Value.string tx] 32 (0,0)):=b0;have l0:w1.drew.cell? ⟨gl,0,none⟩=some (.int .i64 d):=(blk_cell b1 0).trans rfl;have l1:w1.drew.cell? ⟨gl,1,none⟩=some (.int .i64 a):=(blk_cell b1 1).trans rfl;have l2:w1.drew.cell? ⟨gl,2,none⟩=some (.string rf):=(blk_cell b1 2).trans rfl;have l3:w1.drew.cell? ⟨gl,3,none⟩=some (.string tx):=(blk_cell b1 3).trans rfl;have HE2:=sd (HE1.out.below (below_drew1 (Below.refl _ _)));have HB2:=sd (below_drew1 HB.out);clear b0 b1 HB HE1;refine start_ (n:=7) (S:=fun w'=>w'.cell? ⟨gn,0,none⟩=some (.func (.func 59) #[] #[.pointer (some ⟨g,0,none⟩)])∧w'.cell? ⟨g,3,none⟩=some (.int .i64 c.f3)∧w'.cell? ⟨gl,0,none⟩=some (.int .i64 d)∧w'.cell? ⟨gl,1,none⟩=some (.int .i64 a)∧w'.cell? ⟨gl,2,none⟩=some (.string rf)∧w'.cell? ⟨gl,3,none⟩=some (.string tx)) (ds:=[]) #[false,false,false,false,false,false,false] (by kernel_rfl) rfl rfl ⟨HE2.out.fn,HE2.out.c3,l0,l1,l2,l3⟩ (fun hHeld=>?_);clear l0 l1 l2 l3;have hm2:∀ p v,w1.cell? p=some v→w1.drew.cell? p=some v:=fun p v hc=>hc
 clear hm2;generalize w1.drew=w2 at hHeld HE2 HB2  ⊢;refine tB 0 5 hHeld ?_;refine tB 1 6 hHeld ?_;refine pB 3 8 ?_;refine tB 4 9 hHeld ?_;refine one_ (i:=2) (N:=some 7) #[true,true,true,true,true,false,false] rfl rfl (by kernel_rfl) (by decide) (fun K hK=>?_);refine goesF_ (cap:=#[.pointer (some ⟨g,0,none⟩)]) Tryz.func59 (by kernel_rfl) rfl #[.agg #[.int .i64 d,.int .i64 a,.string rf,.string tx],.pointer (some ⟨g,0,none⟩)] (by rfl) rfl rfl (by rfl) zq122 ?_;refine (nOf_calls g c d a rf tx w2 HE2.out.c0).mono ?_;rintro e w3 ⟨rfl,hb⟩;refine ⟨_,rfl,?_⟩;have hk:∀ p v,w2.cell? p=some v→w3.cell? p=some v:=fun p v hc=>(hb.cell (lt_of_cell hc)).trans hc
 obtain ⟨h1,h2,h3,h4,h5,h6⟩:=hHeld;refine hK.out _ _ ⟨hk _ _ h1,hk _ _ h2,hk _ _ h3,hk _ _ h4,hk _ _ h5,hk _ _ h6⟩ (fun hHeld=>?_);clear hK K h1 h2 h3 h4 h5 h6 hk;refine nA 7 ?_;refine pB 5 10 ?_;refine pB 6 4 ?_;refine done_ (by kernel_rfl) ?_;clear hHeld;go_wp2_with fail
 rw [← HQ.out];exact ⟨by (try rfl),HB2.out.trans (hb.mono HB2.out.size)⟩
theorem same_calls (g gn gs:Nat) (c:S48) (d a:Int) (rf tx:ByteArray) (w:World) (h:CEnv w g gn gs c) :
  Calls Tryz.prog 68 #[lineV d a rf tx,.pointer (some ⟨gn,0,none⟩),.pointer (some ⟨g,0,none⟩)] w fun e w'=>e=.returned (.bool (decide (nOfC c d a=c.f3)))∧Below w.heap.size w w':=by
 have HE:=sd h;clear h;generalize hQ:(fun (e:Ending) (w':World)=>e=.returned (.bool (decide (nOfC c d a=c.f3)))∧Below w.heap.size w w')=Post;have HQ:=sd hQ;clear hQ;unfold lineV;go_enter Tryz.func68,Tryz.ntmps68
 go_wp2_with fail
 have HB:=sd (below_alloc (Below.refl w.heap.size w) (Obj.cells #[Value.int IntKind.i64 d,Value.int IntKind.i64 a,Value.string rf,Value.string tx] 32));have HE1:=sd (HE.out.below HB.out);have b0:(w.alloc (Obj.cells #[Value.int IntKind.i64 d,Value.int IntKind.i64 a,Value.string rf,Value.string tx] 32)).heap[w.heap.size]?=some (.cells #[Value.int IntKind.i64 d,Value.int IntKind.i64 a,Value.string rf,Value.string tx] 32 (0,0)):=blk_new _ _;generalize w.alloc (Obj.cells #[Value.int IntKind.i64 d,Value.int IntKind.i64 a,Value.string rf,Value.string tx] 32)=w1 at *;generalize w.heap.size=gl at b0 ⊢;have b1:(w1.drew).heap[gl]?=some (.cells #[Value.int IntKind.i64 d,Value.int IntKind.i64 a,Value.string rf,Value.string tx] 32 (0,0)):=b0;have l0:w1.drew.cell? ⟨gl,0,none⟩=some (.int .i64 d):=(blk_cell b1 0).trans rfl;have l1:w1.drew.cell? ⟨gl,1,none⟩=some (.int .i64 a):=(blk_cell b1 1).trans rfl;have l2:w1.drew.cell? ⟨gl,2,none⟩=some (.string rf):=(blk_cell b1 2).trans rfl;have l3:w1.drew.cell? ⟨gl,3,none⟩=some (.string tx):=(blk_cell b1 3).trans rfl;have HE2:=sd (HE1.out.below (below_drew1 (Below.refl _ _)));have HB2:=sd (below_drew1 HB.out);clear b0 b1 HB HE1;refine start_ (n:=7) (S:=fun w'=>w'.cell? ⟨gn,0,none⟩=some (.func (.func 59) #[] #[.pointer (some ⟨g,0,none⟩)])∧w'.cell? ⟨g,3,none⟩=some (.int .i64 c.f3)∧w'.cell? ⟨gl,0,none⟩=some (.int .i64 d)∧w'.cell? ⟨gl,1,none⟩=some (.int .i64 a)∧w'.cell? ⟨gl,2,none⟩=some (.string rf)∧w'.cell? ⟨gl,3,none⟩=some (.string tx)) (ds:=[]) #[false,false,false,false,false,false,false] (by kernel_rfl) rfl rfl ⟨HE2.out.fn,HE2.out.c3,l0,l1,l2,l3⟩ (fun hHeld=>?_);clear l0 l1 l2 l3;have hm2:∀ p v,w1.cell? p=some v→w1.drew.cell? p=some v:=fun p v hc=>hc
 clear hm2;generalize w1.drew=w2 at hHeld HE2 HB2  ⊢;refine tB 0 5 hHeld ?_;refine tB 1 6 hHeld ?_;refine pB 3 8 ?_;refine tB 4 9 hHeld ?_;refine one_ (i:=2) (N:=some 7) #[true,true,true,true,true,false,false] rfl rfl (by kernel_rfl) (by decide) (fun K hK=>?_);refine goesF_ (cap:=#[.pointer (some ⟨g,0,none⟩)]) Tryz.func59 (by kernel_rfl) rfl #[.agg #[.int .i64 d,.int .i64 a,.string rf,.string tx],.pointer (some ⟨g,0,none⟩)] (by rfl) rfl rfl (by rfl) zq122 ?_;refine (nOf_calls g c d a rf tx w2 HE2.out.c0).mono ?_;rintro e w3 ⟨rfl,hb⟩;refine ⟨_,rfl,?_⟩;have hk:∀ p v,w2.cell? p=some v→w3.cell? p=some v:=fun p v hc=>(hb.cell (lt_of_cell hc)).trans hc
 obtain ⟨h1,h2,h3,h4,h5,h6⟩:=hHeld;refine hK.out _ _ ⟨hk _ _ h1,hk _ _ h2,hk _ _ h3,hk _ _ h4,hk _ _ h5,hk _ _ h6⟩ (fun hHeld=>?_);clear hK K h1 h2 h3 h4 h5 h6 hk;refine nA 7 ?_;refine pB 5 10 ?_;refine pB 6 4 ?_;refine done_ (by kernel_rfl) ?_;clear hHeld;go_wp2_with fail
 rw [← HQ.out];exact ⟨by (try rfl),HB2.out.trans (hb.mono HB2.out.size)⟩
theorem op_calls (x:ByteArray) (w:World) (hG:Gl w):Calls Tryz.prog 113 #[.string opB,.string x] w fun e w'=>e=.returned (.int .i64 (numS opL x 0))∧Below w.heap.size w w':=number_calls opB opL opB_L (by decide) (ascii_of opB_a) (by decide) x w hG
theorem num_Parse.calls (a0:ByteArray) (a1 a2 r1 r2:Int) (w:World) (h:num_Parse.f a0 a1 a2=some (r1,r2)) :
  Calls Tryz.prog 82 #[.string a0,.int .i64 a1,.int .i64 a2] w fun e w'=>e=.returned (.tuple #[.int .i64 r1,.int .i64 r2])∧Drawn0 w w':=by
 unfold num_Parse.f at h;split at h <;> simp only [Option.some.injEq,reduceCtorEq] at h
 rename_i hs
 have e1:r1=(parseL a0.data.toList a1 a2).1:=by rw [h]
 have e2:r2=(parseL a0.data.toList a1 a2).2:=by rw [h]
 subst e1 e2;clear h
 cases hf:formedL a0.data.toList
 ·have hF:=formed_calls a0 hs;rw [hf] at hF;have hp:parseL a0.data.toList a1 a2=(0,5):=by unfold parseL;rw [hf];rfl
  have HP:=sd hp;have HFc:=sd hF;clear hf hF hp;generalize hP:(fun e w'=>e=Ending.returned (.tuple #[.int .i64 (parseL a0.data.toList a1 a2).1,.int .i64 (parseL a0.data.toList a1 a2).2])∧Drawn0 w w')=Post;rw [HP.out] at hP;have HPo:=sd hP;clear hP;go_enter Tryz.func82,Tryz.ntmps82
  go_wp2_with fail
  refine (HFc.out _).mono ?_;rintro e w1 ⟨rfl,hd1⟩;obtain ⟨⟨n1,rfl⟩⟩:=hd1;go_wp2_with fail
  rw [← HPo.out];exact ⟨rfl,(Drawn0.refl _).step _⟩
 ·cases hn:negOf a0.data.toList
  ·exact parse_pos a0 a1 a2 hs w hf hn
  ·exact parse_neg a0 a1 a2 hs w hf hn
theorem tail_6 (bd g:Nat) (p:PR) (vC vT vW:Value) (x:S73) (code:Bool) (w:World) (hp:RP w bd g p vC vT vW) (hbd:bd≤w.heap.size) (hst:p.st=6) :
    Calls Tryz.prog 115 #[.pointer (some ⟨g,0,none⟩),.agg #[.int .i64 x.f0,.string x.f1,.int .i64 x.f2],.bool code] w (StepPost bd g vC vT vW (p) (if keyB x (⟨#[97,110,100]⟩:ByteArray)=true then 3 else fol (keyB x (⟨#[116,104,101,110]⟩:ByteArray)) 7) w):=by
  have hmf:∀ (fn:Fn) (first cap:Array Value) (w:World),(Instr.makeFunc fn first cap).run Tryz.prog w=.ok (.func fn first cap) w:=fun _ _ _ _=>rfl
  have HP:=sd hp;have HNE:=sd (show ¬ w.heap.size=g from fun h=>by have:=blk_lt hp.blk;omega);have HNW:=sd (Kd.R_lt HP.out.rW);have HF:=sd (FP.refl bd g vC vT vW w);clear hp;generalize hQ:StepPost bd g vC vT vW (p) (if keyB x (⟨#[97,110,100]⟩:ByteArray)=true then 3 else fol (keyB x (⟨#[116,104,101,110]⟩:ByteArray)) 7) w=Post;have HQ:=sd hQ;clear hQ;go_enter Tryz.func115,Tryz.ntmps115
  go_upto_region 1 with (fail)
  have hB1:=below_alloc (Below.refl w.heap.size w) (Obj.cells #[Value.int IntKind.i64 x.f0,Value.string x.f1,Value.int IntKind.i64 x.f2] 73);have b0:(w.alloc (Obj.cells #[Value.int IntKind.i64 x.f0,Value.string x.f1,Value.int IntKind.i64 x.f2] 73)).heap[w.heap.size]?=some (.cells #[Value.int IntKind.i64 x.f0,Value.string x.f1,Value.int IntKind.i64 x.f2] 73 (0,0)):=blk_new _ _;replace HP:=sd (HP.out.below hB1);replace HF:=sd (HF.out.below hB1 hbd);generalize w.alloc (Obj.cells #[Value.int IntKind.i64 x.f0,Value.string x.f1,Value.int IntKind.i64 x.f2] 73)=w1 at *;obtain ⟨gw,hgw⟩:∃ gw,gw=w.heap.size:=⟨_,rfl⟩
  have hgg:gw≠g:=by have:=blk_lt HP.out.blk;have:=hB1.size;intro h;rw [hgw] at h;exact absurd h (HNE.out)
  have HGN:=sd (show some gw≠Value.ownBlock vW from fun e=>by have:=HNW.out gw e.symm;omega);clear HNW;rw [← hgw] at b0 ⊢;have BW:=sd b0;have HB1:=sd hB1;clear b0 hB1 hgw;obtain ⟨⟨k0,k1,k2,k3,k4,k5,k6⟩,f0,f1,f2,f3,f4,f5,f6⟩:=HP.out.facts;rw [hst] at k5;obtain ⟨w0_,w1_,w2_,_,_,_⟩:=bk3 BW;go_wp2_with fail
  refine (key2_calls gw x.f0 x.f1 (⟨#[97,110,100]⟩:ByteArray) _ w0_ w1_).mono ?_;rintro e wn ⟨rfl,hd⟩;obtain ⟨⟨nd,rfl⟩⟩:=hd;replace HP:=sd (HP.out.below (pw_below_drewN (Below.refl _ _) nd));replace HF:=sd (HF.out.below (pw_below_drewN (Below.refl _ _) nd) hbd);replace BW:=sd (blk_below BW.out (pw_below_drewN (Below.refl _ _) nd));clear k0 k1 k2 k3 k4 k5 k6 f0 f1 f2 f3 f4 f5 f6 w0_ w1_ w2_;generalize w1.drewN nd=w2 at HP HF BW ⊢;obtain ⟨w0_,w1_,w2_,_,_,_⟩:=bk3 BW
  cases hk:keyV x.f0 x.f1 (⟨#[97,110,100]⟩:ByteArray)
  · rw [show keyB x (⟨#[97,110,100]⟩:ByteArray)=false from hk,if_neg (by decide)] at HQ
    go_wp2_with fail
    refine (key2_calls gw x.f0 x.f1 (⟨#[116,104,101,110]⟩:ByteArray) _ w0_ w1_).mono ?_;rintro e wn ⟨rfl,hd⟩;obtain ⟨⟨nd,rfl⟩⟩:=hd;replace HP:=sd (HP.out.below (pw_below_drewN (Below.refl _ _) nd));replace HF:=sd (HF.out.below (pw_below_drewN (Below.refl _ _) nd) hbd);generalize w2.drewN nd=w3 at HP HF ⊢;go_wp2_with fail
    refine (follow_calls _ 7 _).mono ?_;rintro e wn ⟨rfl,hd⟩;obtain ⟨⟨nd,rfl⟩⟩:=hd;replace HP:=sd (HP.out.below (pw_below_drewN (Below.refl _ _) nd));replace HF:=sd (HF.out.below (pw_below_drewN (Below.refl _ _) nd) hbd);generalize w3.drewN nd=w4 at HP HF ⊢;go_wp2_with fail
    rw [← HQ.out];exact ⟨by (try rfl),⟨_,_,_,HP.out⟩,HF.out⟩
  · rw [show keyB x (⟨#[97,110,100]⟩:ByteArray)=true from hk,if_pos rfl] at HQ
    go_wp2_with fail
    rw [← HQ.out];exact ⟨by (try rfl),⟨_,_,_,HP.out⟩,HF.out⟩
theorem tail_8 (bd g:Nat) (p:PR) (vC vT vW:Value) (x:S73) (code:Bool) (w:World) (hp:RP w bd g p vC vT vW) (hbd:bd≤w.heap.size) (hst:p.st=8) :
    Calls Tryz.prog 115 #[.pointer (some ⟨g,0,none⟩),.agg #[.int .i64 x.f0,.string x.f1,.int .i64 x.f2],.bool code] w (StepPost bd g vC vT vW (p) (if keyB x (⟨#[112,97,114,116,121]⟩:ByteArray)=true then 9 else fol (keyB x (⟨#[116,97,103]⟩:ByteArray)) 10) w):=by
  have hmf:∀ (fn:Fn) (first cap:Array Value) (w:World),(Instr.makeFunc fn first cap).run Tryz.prog w=.ok (.func fn first cap) w:=fun _ _ _ _=>rfl
  have HP:=sd hp;have HNE:=sd (show ¬ w.heap.size=g from fun h=>by have:=blk_lt hp.blk;omega);have HNW:=sd (Kd.R_lt HP.out.rW);have HF:=sd (FP.refl bd g vC vT vW w);clear hp;generalize hQ:StepPost bd g vC vT vW (p) (if keyB x (⟨#[112,97,114,116,121]⟩:ByteArray)=true then 9 else fol (keyB x (⟨#[116,97,103]⟩:ByteArray)) 10) w=Post;have HQ:=sd hQ;clear hQ;go_enter Tryz.func115,Tryz.ntmps115
  go_upto_region 1 with (fail)
  have hB1:=below_alloc (Below.refl w.heap.size w) (Obj.cells #[Value.int IntKind.i64 x.f0,Value.string x.f1,Value.int IntKind.i64 x.f2] 73);have b0:(w.alloc (Obj.cells #[Value.int IntKind.i64 x.f0,Value.string x.f1,Value.int IntKind.i64 x.f2] 73)).heap[w.heap.size]?=some (.cells #[Value.int IntKind.i64 x.f0,Value.string x.f1,Value.int IntKind.i64 x.f2] 73 (0,0)):=blk_new _ _;replace HP:=sd (HP.out.below hB1);replace HF:=sd (HF.out.below hB1 hbd);generalize w.alloc (Obj.cells #[Value.int IntKind.i64 x.f0,Value.string x.f1,Value.int IntKind.i64 x.f2] 73)=w1 at *;obtain ⟨gw,hgw⟩:∃ gw,gw=w.heap.size:=⟨_,rfl⟩
  have hgg:gw≠g:=by have:=blk_lt HP.out.blk;have:=hB1.size;intro h;rw [hgw] at h;exact absurd h (HNE.out)
  have HGN:=sd (show some gw≠Value.ownBlock vW from fun e=>by have:=HNW.out gw e.symm;omega);clear HNW;rw [← hgw] at b0 ⊢;have BW:=sd b0;have HB1:=sd hB1;clear b0 hB1 hgw;obtain ⟨⟨k0,k1,k2,k3,k4,k5,k6⟩,f0,f1,f2,f3,f4,f5,f6⟩:=HP.out.facts;rw [hst] at k5;obtain ⟨w0_,w1_,w2_,_,_,_⟩:=bk3 BW;go_wp2_with fail
  refine (key2_calls gw x.f0 x.f1 (⟨#[112,97,114,116,121]⟩:ByteArray) _ w0_ w1_).mono ?_;rintro e wn ⟨rfl,hd⟩;obtain ⟨⟨nd,rfl⟩⟩:=hd;replace HP:=sd (HP.out.below (pw_below_drewN (Below.refl _ _) nd));replace HF:=sd (HF.out.below (pw_below_drewN (Below.refl _ _) nd) hbd);replace BW:=sd (blk_below BW.out (pw_below_drewN (Below.refl _ _) nd));clear k0 k1 k2 k3 k4 k5 k6 f0 f1 f2 f3 f4 f5 f6 w0_ w1_ w2_;generalize w1.drewN nd=w2 at HP HF BW ⊢;obtain ⟨w0_,w1_,w2_,_,_,_⟩:=bk3 BW
  cases hk:keyV x.f0 x.f1 (⟨#[112,97,114,116,121]⟩:ByteArray)
  · rw [show keyB x (⟨#[112,97,114,116,121]⟩:ByteArray)=false from hk,if_neg (by decide)] at HQ
    go_wp2_with fail
    refine (key2_calls gw x.f0 x.f1 (⟨#[116,97,103]⟩:ByteArray) _ w0_ w1_).mono ?_;rintro e wn ⟨rfl,hd⟩;obtain ⟨⟨nd,rfl⟩⟩:=hd;replace HP:=sd (HP.out.below (pw_below_drewN (Below.refl _ _) nd));replace HF:=sd (HF.out.below (pw_below_drewN (Below.refl _ _) nd) hbd);generalize w2.drewN nd=w3 at HP HF ⊢;go_wp2_with fail
    refine (follow_calls _ 10 _).mono ?_;rintro e wn ⟨rfl,hd⟩;obtain ⟨⟨nd,rfl⟩⟩:=hd;replace HP:=sd (HP.out.below (pw_below_drewN (Below.refl _ _) nd));replace HF:=sd (HF.out.below (pw_below_drewN (Below.refl _ _) nd) hbd);generalize w3.drewN nd=w4 at HP HF ⊢;go_wp2_with fail
    rw [← HQ.out];exact ⟨by (try rfl),⟨_,_,_,HP.out⟩,HF.out⟩
  · rw [show keyB x (⟨#[112,97,114,116,121]⟩:ByteArray)=true from hk,if_pos rfl] at HQ
    go_wp2_with fail
    rw [← HQ.out];exact ⟨by (try rfl),⟨_,_,_,HP.out⟩,HF.out⟩
theorem tail_10 (bd g:Nat) (p:PR) (vC vT vW:Value) (x:S73) (code:Bool) (w:World) (hp:RP w bd g p vC vT vW) (hbd:bd≤w.heap.size) (hst:p.st=10) (hln:p.tg.length≤1000000) :
    Calls Tryz.prog 115 #[.pointer (some ⟨g,0,none⟩),.agg #[.int .i64 x.f0,.string x.f1,.int .i64 x.f2],.bool code] w (StepPost bd g vC vT vW ({ p with tg:=p.tg++[⟨x.f1,⟨#[]⟩⟩] }) (fol code 11) w):=by
  have hmf:∀ (fn:Fn) (first cap:Array Value) (w:World),(Instr.makeFunc fn first cap).run Tryz.prog w=.ok (.func fn first cap) w:=fun _ _ _ _=>rfl
  have HP:=sd hp;have HLEN:=sd hln;clear hln;obtain ⟨va,vc,hvt⟩:=Kd.R_slice HP.out.rT;subst hvt;have HNE:=sd (show ¬ w.heap.size=g from fun h=>by have:=blk_lt hp.blk;omega);have HNW:=sd (Kd.R_lt HP.out.rW);have HF:=sd (FP.refl bd g vC (.slice va p.tg.length vc) vW w);clear hp;generalize hQ:StepPost bd g vC (.slice va p.tg.length vc) vW ({ p with tg:=p.tg++[⟨x.f1,⟨#[]⟩⟩] }) (fol code 11) w=Post;have HQ:=sd hQ;clear hQ;go_enter Tryz.func115,Tryz.ntmps115
  go_upto_region 1 with (fail)
  have hB1:=below_alloc (Below.refl w.heap.size w) (Obj.cells #[Value.int IntKind.i64 x.f0,Value.string x.f1,Value.int IntKind.i64 x.f2] 73);have b0:(w.alloc (Obj.cells #[Value.int IntKind.i64 x.f0,Value.string x.f1,Value.int IntKind.i64 x.f2] 73)).heap[w.heap.size]?=some (.cells #[Value.int IntKind.i64 x.f0,Value.string x.f1,Value.int IntKind.i64 x.f2] 73 (0,0)):=blk_new _ _;replace HP:=sd (HP.out.below hB1);replace HF:=sd (HF.out.below hB1 hbd);generalize w.alloc (Obj.cells #[Value.int IntKind.i64 x.f0,Value.string x.f1,Value.int IntKind.i64 x.f2] 73)=w1 at *;obtain ⟨gw,hgw⟩:∃ gw,gw=w.heap.size:=⟨_,rfl⟩
  have hgg:gw≠g:=by have:=blk_lt HP.out.blk;have:=hB1.size;intro h;rw [hgw] at h;exact absurd h (HNE.out)
  have HGN:=sd (show some gw≠Value.ownBlock vW from fun e=>by have:=HNW.out gw e.symm;omega);clear HNW;rw [← hgw] at b0 ⊢;have BW:=sd b0;have HB1:=sd hB1;clear b0 hB1 hgw;obtain ⟨⟨k0,k1,k2,k3,k4,k5,k6⟩,f0,f1,f2,f3,f4,f5,f6⟩:=HP.out.facts;rw [hst] at k5;obtain ⟨w0_,w1_,w2_,_,_,_⟩:=bk3 BW;go_wp2_with fail
  clear k0 k1 k2 k3 k4 k5 k6 f0 f1 f2 f3 f4 f5 f6 w0_ w1_ w2_;replace HP:=sd (HP.out.below (below_drew1 (Below.refl _ _)));replace HF:=sd (HF.out.below (below_drew1 (Below.refl _ _)) hbd);replace BW:=sd (blk_below BW.out (below_drew1 (Below.refl _ _)));obtain ⟨⟨k0,k1,k2,k3,k4,k5,k6⟩,f0,f1,f2,f3,f4,f5,f6⟩:=HP.out.facts;obtain ⟨w0_,w1_,w2_,_,_,_⟩:=bk3 BW;refine start_ (n:=15) (S:=fun w'=>w'.cell? ⟨g,4,none⟩=some (.slice va p.tg.length vc)∧w'.cell? ⟨gw,1,none⟩=some (.string x.f1)) (ds:=[10,14]) #[false,false,false,false,false,false,false,false,false,false,false,false,false,false,false] (by kernel_rfl) rfl rfl ⟨k4,w1_⟩ (fun hHeld=>?_);generalize w1.drew=w9 at HP HF BW k0 k1 k2 k3 k4 k5 k6 f0 f1 f2 f3 f4 f5 f6 w0_ w1_ w2_ hHeld ⊢;refine pB 0 80 ?_;refine pB 1 81 ?_;refine pB 2 82 ?_;refine pB 3 83 ?_;refine pB 4 84 ?_;refine pB 6 86 ?_;refine tB 5 85 hHeld ?_;refine tB 7 87 hHeld ?_;refine pB 8 88 ?_;refine one_ (i:=9) (N:=some 89) #[true,true,true,true,true,true,true,true,true,true,false,false,false,false,false] rfl rfl (by kernel_rfl) (by decide) (fun K hK=>?_);refine value_ (v:=.slice (some ⟨w9.heap.size,0,none⟩) 1 1) (w1:=w9.alloc (.cells #[.string x.f1,.string ⟨#[]⟩] 50)) (by rfl) rfl (by go_simp) ?_;have hb9:=below_alloc (Below.refl w9.heap.size w9) (.cells #[.string x.f1,.string ⟨#[]⟩] 50);refine hK.out _ _ ⟨pw_cell_below hb9 hHeld.1,pw_cell_below hb9 hHeld.2⟩ (fun hHeld=>?_);clear hK K hb9;refine nA 89 ?_;refine last_ (i:=10) (N:=some 90) #[true,true,true,true,true,true,true,true,true,true,true,false,false,false,false] rfl rfl (by kernel_rfl) (by decide) (fun K hK=>?_);refine Kd.R_append_step (w0:=w9) k50 bd (by rfl) (.tmp 85) (.tmp 89) 23 50 _ 32 rfl Tryz.underlying23 info50 rfl (by decide) (by decide) (.slice va p.tg.length vc) p.tg ⟨x.f1,⟨#[]⟩⟩ [.string x.f1,.string ⟨#[]⟩] (fun _=>True) (fun _=>False) rfl rfl (k50_mkM _ _ _ _) (fun k hk=>hk.elim) (fun _ _=>trivial) HP.out.rT (Below.refl _ _) (below_base HF.out.b hbd) (by have:=HLEN.out;omega) ?_;intro v1 w10 hR hb hg hat;obtain ⟨va4,vc4,rfl⟩:=Kd.R_slice hR;rw [List.length_append,List.length_singleton] at hR ⊢;refine hK.out _ _ ?_;clear hK K;refine nA 90 ?_;refine pB 11 91 ?_;refine pB 12 92 ?_;refine pB 13 93 ?_;have hB4:=blk_grown HP.out.blk hg (Kd.R_ne HP.out.rT HP.out.blk (by decide));have hs4:w10.cell? ⟨g,4,none⟩=some (.slice va p.tg.length vc):=(blk_cell hB4 4).trans rfl;have hf4:=blk_frozen hB4 4;refine last_ (i:=14) (N:=none) #[true,true,true,true,true,true,true,true,true,true,true,true,true,true,true] rfl rfl (by kernel_rfl) (by decide) (fun K hK=>?_);refine skip_ (w1:=w10.setCell ⟨g,4,none⟩ (.slice va4 (p.tg.length+1) vc4)) (by rfl) rfl (by go_simp;try rfl) ?_;refine hK.out _ _ ?_;clear hK K;refine done_ (by kernel_rfl) ?_;replace HF:=sd (FP.set (o:=4) (FP.grownT HF.out hb hg) HP.out.hbd (.slice va4 (p.tg.length+1) vc4));replace HP:=sd (RP.growT HP.out hR hg);clear hB4 hs4 hf4 hb hg hat hR k0 k1 k2 k3 k4 k5 k6 f0 f1 f2 f3 f4 f5 f6 w0_ w1_ w2_ hHeld;generalize w10.setCell ⟨g,4,none⟩ (.slice va4 (p.tg.length+1) vc4)=w11 at HP HF ⊢;go_wp2_with fail
  refine (follow_calls _ 11 _).mono ?_;rintro e wn ⟨rfl,hd⟩;obtain ⟨⟨nd,rfl⟩⟩:=hd;replace HP:=sd (HP.out.below (pw_below_drewN (Below.refl _ _) nd));replace HF:=sd (HF.out.below (pw_below_drewN (Below.refl _ _) nd) hbd);generalize w11.drewN nd=w12 at HP HF ⊢;go_wp2_with fail
  rw [← HQ.out];exact ⟨by (try rfl),⟨_,_,_,HP.out⟩,HF.out⟩
def valL (k:Nat):List S73→Nat→List S48→Option (List S48×Int×Int)
  | [],_,cs=>some (cs,0,0)
  | x :: r,i,cs=>if i < cs.length then (valC k (rd_T48 cs (i:Int)) x).bind fun y=>if y.2=0 then valL k r (i+1) (cs.set i y.1) else some (cs.set i y.1,x.f2,y.2) else none
end Go.Proofs.YtkbgkekegjfkfaaGreatDoor.A
namespace Go.Proofs.YtkbgkekegjfkfaaGreatDoor.A
open Go.RowKit B WW WL WM
attribute [local go_sem] max2_int min2_int max_two min_two max_three min_three max_four min_four
set_option maxHeartbeats 8000000
set_option maxRecDepth 100000
section
variable {P:Program} {ops:Array Oper} {o:Oper} {rest:List Oper} {a:Act} {Q:Exit→Act→World→Prop} {Kc:Act→World→Prop}
theorem strs_app {w0 W:World} (base:Nat) (hgd:o.guard=none) (s x:Operand) (t:TypeId) (ho:o.op=.call { callee:=.builtin .append,args:=#[s,x],argTypes:=#[t,t] }) (ht:P.underlying t=some (.slice 9)) (hinfo:(P.info? 9).map (fun i=>(i.zero,i.size,i.bytes))=some (some (.string ⟨#[]⟩),1,16))
  (v:Value) (xs ys:List ByteArray) (hs:a.eval s=v) (hx:a.eval x=.slice (some ⟨W.heap.size,0,none⟩) ys.length ys.length) (HO:Kd.R Kd.string 9 W base (fun _=>True) v xs) (hys:ys.length≤1000) (hl:xs.length≤100000000) (HB:Below base w0 W) (hbase:base≤W.heap.size)
  (h:∀ v1 w1,Kd.R Kd.string 9 w1 base (fun _=>True) v1 (xs++ys)→Below base w0 w1→W.grownBy w1 v.ownBlock→wpList P ops Q rest (a.put o.dst v1) w1) :
  wpList P ops Q (o :: rest) a (W.alloc (.cells (ys.map Value.string).toArray 9)):=by
 have hb:=below_alloc (Below.refl W.heap.size W) (Obj.cells (ys.map Value.string).toArray 9);refine Kd.R_append_rows Kd.string (Rr:=fun x cs=>cs=[.string x]) (w0:=w0) base hgd s x t 9 (.string ⟨#[]⟩) 16 ho ht hinfo rfl (by decide) (by decide) v xs ys (some ⟨W.heap.size,0,none⟩) ys.length ys.length (fun _=>True) (fun _=>False) hs hx (Kd.R_below HO hb) (strs_C ys (by omega) W) (fun _ _ h=>h) (fun _ hk=>hk.elim) (fun _ _=>trivial) (HB.alloc hbase _) (Nat.le_trans hbase hb.size) (by omega) ?_;intro v1 w1 hR hB hg _;exact h v1 w1 hR hB (grown_alloc hg)
theorem strs_step {w0 W:World} (base:Nat) (hw:Region.wanted o (yielded ops a.tmps)=true) (s x:Operand) (t:TypeId) (ho:o.op=.call { callee:=.builtin .append,args:=#[s,x],argTypes:=#[t,t] }) (ht:P.underlying t=some (.slice 9)) (hinfo:(P.info? 9).map (fun i=>(i.zero,i.size,i.bytes))=some (some (.string ⟨#[]⟩),1,16))
  (v:Value) (xs ys:List ByteArray) (hs:a.eval s=v) (hx:a.eval x=.slice (some ⟨W.heap.size,0,none⟩) ys.length ys.length) (HO:Kd.R Kd.string 9 W base (fun _=>True) v xs) (hys:ys.length≤1000) (hl:xs.length≤100000000) (HB:Below base w0 W) (hbase:base≤W.heap.size)
  (h:∀ v1 w1,Kd.R Kd.string 9 w1 base (fun _=>True) v1 (xs++ys)→Below base w0 w1→W.grownBy w1 v.ownBlock→Kc (a.put o.dst v1) w1) :
  if Region.wanted o (yielded ops a.tmps)=true then Oper.wp P o a (W.alloc (.cells (ys.map Value.string).toArray 9)) Kc Q else Kc (a.put o.dst undef) (W.alloc (.cells (ys.map Value.string).toArray 9)):=by
 have hb:=below_alloc (Below.refl W.heap.size W) (Obj.cells (ys.map Value.string).toArray 9);refine Kd.R_append_rows_step Kd.string (Rr:=fun x cs=>cs=[.string x]) (w0:=w0) base hw s x t 9 (.string ⟨#[]⟩) 16 ho ht hinfo rfl (by decide) (by decide) v xs ys (some ⟨W.heap.size,0,none⟩) ys.length ys.length (fun _=>True) (fun _=>False) hs hx (Kd.R_below HO hb) (strs_C ys (by omega) W) (fun _ _ h=>h) (fun _ hk=>hk.elim) (fun _ _=>trivial) (HB.alloc hbase _) (Nat.le_trans hbase hb.size) (by omega) ?_;intro v1 w1 hR hB hg _;exact h v1 w1 hR hB (grown_alloc hg)
end
end Go.Proofs.YtkbgkekegjfkfaaGreatDoor.A
namespace Go.Proofs.YtkbgkekegjfkfaaGreatDoor.A
open Go.RowKit B WW WL WM
attribute [local go_sem] max2_int min2_int max_two min_two max_three min_three max_four min_four
set_option maxHeartbeats 8000000
set_option maxRecDepth 100000
theorem rules_Text.calls (k:Nat) (a0:ByteArray) (A1:Option Addr) (c1:Nat) (l1:List S48) (a2 a3:ByteArray) (A4:Option Addr) (c4:Nat) (l4:List S50) (r1:ByteArray) (r2:Int) (w:World) (hr1:Kd.C k48 w A1 l1.length l1) (hc1:l1.length≤c1) (hr4:Kd.C k50 w A4 l4.length l4) (hc4:l4.length≤c4) (h:rules_Text.f k a0 l1 a2 a3 l4=some (r1,r2)) (hG:Gl w) :
  Calls Tryz.prog 16 #[.agg #[.string a0,.slice A1 l1.length c1,.string a2,.string a3,.slice A4 l4.length c4]] w fun e w'=>e=.returned (.tuple #[.string r1,.int .i64 r2])∧Below w.heap.size w w':=by
 unfold rules_Text.f at h;obtain ⟨ec,hec,h⟩:=Option.bind_eq_some_iff.mp h;have HC:=sd hr1;have HCC:=sd hc1;have HT:=sd hr4;have HTC:=sd hc4;have HG:=sd hG;have NC:=sd (fun W hC hT=>rules_Check.calls k a0 A1 c1 l1 a2 a3 A4 c4 l4 ec W hC hc1 hT hc4 hec);have H:=sd h;clear h hr1 hc1 hr4 hc4 hG hec;generalize hQ:(fun (e:Ending) (w':World)=>e=.returned (.tuple #[.string r1,.int .i64 r2])∧Below w.heap.size w w')=Post;have HQ:=sd hQ;clear hQ;go_enter Tryz.func16,Tryz.ntmps16
 go_upto_region 1 with (fail)
 have hB1:=below_alloc (Below.refl w.heap.size w) (Obj.cells #[Value.string a0,Value.slice A1 l1.length c1,Value.string a2,Value.string a3,Value.slice A4 l4.length c4] 25);have b0:(w.alloc (Obj.cells #[Value.string a0,Value.slice A1 l1.length c1,Value.string a2,Value.string a3,Value.slice A4 l4.length c4] 25)).heap[w.heap.size]?=some (.cells #[Value.string a0,Value.slice A1 l1.length c1,Value.string a2,Value.string a3,Value.slice A4 l4.length c4] 25 (0,0)):=blk_new _ _;generalize w.alloc (Obj.cells #[Value.string a0,Value.slice A1 l1.length c1,Value.string a2,Value.string a3,Value.slice A4 l4.length c4] 25)=w1 at *;obtain ⟨g1,hg1⟩:∃ g,g=w.heap.size:=⟨_,rfl⟩
 rw [← hg1] at b0 ⊢;have B1:=sd b0;have HB:=sd hB1;clear b0 hB1 hg1;obtain ⟨z0,z1,z2,z3,z4,y0,y1,y2,y3,y4⟩:=bk5 B1;go_wp2_with fail
 refine (NC.out _ (Kd.C_below HC.out HB.out) (Kd.C_below HT.out HB.out)).mono ?_;rintro e w2 ⟨rfl,hb⟩;replace B1:=sd (blk_below B1.out hb);replace HB:=sd (HB.out.trans (hb.mono HB.out.size));clear hb NC z0 z1 z2 z3 z4 y0 y1 y2 y3 y4;by_cases e0:ec=0
 case neg =>
  have h:=H.out;rw [if_neg e0] at h;obtain ⟨rfl,rfl⟩:=h;obtain ⟨q1,q2⟩:=neI e0;clear e0 H;go_wp2_with fail
  rw [← HQ.out];exact ⟨rfl,HB.out⟩
 have h:=H.out;rw [if_pos e0] at h;subst e0;split at h
 case isFalse=>cases h
 rename_i hn
 obtain ⟨l,hl,h⟩:=Option.bind_eq_some_iff.mp h;have HLN:=sd hn;have HL:=sd hl;have HJ:=sd h;clear H h hl hn;obtain ⟨z0,z1,z2,z3,z4,y0,y1,y2,y3,y4⟩:=bk5 B1;go_upto_region 5 with (fail)
 have HR:=sd (strs_new [ruleB,a0] (Nat.le_of_ble_eq_true rfl) w2 w.heap.size HB.out.size);have hb3:=below_alloc (Below.refl w2.heap.size w2) (Obj.cells #[Value.string ⟨#[114,117,108,101]⟩,Value.string a0] 9);replace B1:=sd (blk_below B1.out hb3);replace HB:=sd (HB.out.trans (hb3.mono HB.out.size));clear hb3 z0 z1 z2 z3 z4 y0 y1 y2 y3 y4;change Aside0 (Kd.R Kd.string 9 (w2.alloc (Obj.cells #[Value.string ⟨#[114,117,108,101]⟩,Value.string a0] 9)) w.heap.size (fun _=>True) (.slice (some ⟨w2.heap.size,0,none⟩) 2 2) [ruleB,a0]) at HR
 obtain ⟨gl,hgl⟩:∃ g,g=w2.heap.size:=⟨_,rfl⟩
 rw [← hgl] at HR ⊢;generalize w2.alloc (Obj.cells #[Value.string ⟨#[114,117,108,101]⟩,Value.string a0] 9)=w3 at *;clear hgl;obtain ⟨z0,z1,z2,z3,z4,y0,y1,y2,y3,y4⟩:=bk5 B1;go_wp2_with fail
 clear z0 z1 z2 z3 z4 y0 y1 y2 y3 y4;go_loopw [5,6,22] (fun l_ k_ n_ wr=>∃ (i:Nat) (l':List ByteArray) (A:Option Addr) (cap:Nat) (link:ByteArray),i≤l1.length∧n_=.int .i64 (i:Int)∧l_=.slice A l'.length cap∧k_=.string link∧Aside0 (l'.length=2+4 * i)∧Aside0 (txC k (l1.drop i) l' link=some l)∧Aside0 (Kd.R Kd.string 9 wr w.heap.size (fun _=>True) (.slice A l'.length cap) l')∧Aside0 (wr.heap[g1]?=some (.cells #[Value.string a0,Value.slice A1 l1.length c1,Value.string a2,Value.string a3,Value.slice A4 l4.length c4] 25 (0,0)))∧Aside0 (Below w.heap.size w wr)) (fun _ _ n_ _=>(l1.length - (RowKit.intOf n_).toNat))
 case atStart=>exact ⟨0,[ruleB,a0],_,_,_,Nat.zero_le _,rfl,rfl,rfl,⟨rfl⟩,HL,HR,B1,HB⟩
 case round =>
  clear HL HR B1 HB;obtain ⟨i,l',A,cap,link,hi,rfl,rfl,rfl,HLL,HL,HR,B1,HB⟩:=hrel;rename World=>wr
  by_cases hlt:i < l1.length
  case neg =>
   obtain rfl:i=l1.length:=by omega
   have hlt':¬ (l1.length:Int) < (l1.length:Int):=by omega
   have hh:=HL.out;rw [List.drop_length,txC] at hh;obtain rfl:=Option.some.inj hh;clear hh HL;obtain ⟨z0,z1,z2,z3,z4,y0,y1,y2,y3,y4⟩:=bk5 B1;go_upto_region 12 with (fail)
   by_cases hp3:a3.toList=[]
   ·rw [if_pos hp3] at HJ;have qe:a3.toList.isEmpty=true:=by rw [hp3];rfl
    go_upto_region 15 with (first | ((with_reducible refine gate_builtin (b:=.append) (xs:=#[.tmp 39,.tmp 42]) rfl ?_);refine strs_app (w0:=w) (W:=wr) w.heap.size rfl (.tmp 39) (.tmp 42) 58 rfl Tryz.underlying58 info9 (.slice A l'.length cap) l' [thenB,a2] rfl rfl HR.out (Nat.le_of_ble_eq_true rfl) zq130 HB.out HB.out.size ?_;intro v1 w10 hR hb hg;obtain ⟨l2,hl2⟩:∃ q,q=l'++[thenB,a2]:=⟨_,rfl⟩;have HLL2:=sd (show l2.length=l'.length+2 by rw [hl2,List.length_append];rfl);rw [← hl2] at hR HJ;clear hl2;obtain ⟨A',cap',rfl⟩:=Kd.R_slice hR;replace B1:=sd (blk_grown B1.out hg (Kd.R_ne HR.out B1.out (by decide)));replace HB:=sd hb;replace HR:=sd hR;clear hb hg hR z0 z1 z2 z3 z4 y0 y1 y2 y3 y4;obtain ⟨z0,z1,z2,z3,z4,y0,y1,y2,y3,y4⟩:=bk5 B1))
    have HLB:=sd (show l2.length≤5000000∧0 < l2.length from by have:=HLN.out.1;have:=HLL.out;have:=HLL2.out;omega);go_wp2_with fail
    clear z0 z1 z2 z3 z4 y0 y1 y2 y3 y4 hp3;(try clear qe)
    (try clear qe2)
    go_loopw [5,55] (fun l_ n_ wr=>∃ (i:Nat) (l3:List ByteArray) (A:Option Addr) (cap:Nat),i≤l4.length∧n_=.int .i64 (i:Int)∧l_=.slice A l3.length cap∧Aside0 (l3.length=l2.length+4 * i)∧Aside0 (txJ (txT (l4.drop i) l3)=some (r1,r2))∧Aside0 (Kd.R Kd.string 9 wr w.heap.size (fun _=>True) (.slice A l3.length cap) l3)∧Aside0 (wr.heap[g1]?=some (.cells #[Value.string a0,Value.slice A1 l1.length c1,Value.string a2,Value.string a3,Value.slice A4 l4.length c4] 25 (0,0)))∧Aside0 (Below w.heap.size w wr)) (fun _ n_ _=>(l4.length - (RowKit.intOf n_).toNat))
    case atStart=>exact ⟨0,l2,_,_,Nat.zero_le _,rfl,rfl,⟨rfl⟩,HJ,HR,B1,HB⟩
    case round =>
     clear HJ HR B1 HB HLL HLL2;(try clear HLL3)
     obtain ⟨i,l3,A,cap,hi,rfl,rfl,HL3,HJ,HR,B1,HB⟩:=hrel;rename World=>wr
     by_cases hlt:i < l4.length
     case neg =>
      obtain rfl:i=l4.length:=by omega
      have hlt':¬ (l4.length:Int) < (l4.length:Int):=by omega
      have hj:=HJ.out;rw [List.drop_length,txT] at hj;unfold txJ at hj;split at hj
      case isFalse=>cases hj
      rename_i hb
      have hpos:0 < l3.length:=by have:=HL3.out;have:=HLB.out.2;omega
      obtain ⟨gj,capj,hform,hgj,hgl,_⟩:=Kd.R_form HR.out hpos;obtain ⟨rfl,rfl⟩:A=some ⟨gj,0,none⟩∧cap=capj:=by cases hform;exact ⟨rfl,rfl⟩
      obtain ⟨_,hcap,hC⟩:=Kd.R_reads' HR.out;obtain ⟨sj,hsj⟩:∃ s,s=joinB l3:=⟨_,rfl⟩
      have NJ:=sd (show Calls Tryz.prog 32 #[.slice (some ⟨gj,0,none⟩) l3.length cap,.string ⟨#[32]⟩] wr fun e w'=>e=.returned (.string sj)∧Below wr.heap.size wr w' from hsj ▸ Tryz.strings_Join gj 0 cap l3 ⟨#[32]⟩ wr (strs_cells hC hpos) hgl hb.1 hcap (by have:=hb.2;unfold joinB at this;simpa [ByteArray.size] using this));rw [← hsj] at hj;have HJJ:=sd hj;clear hsj hj hb hform hgj hgl hcap hC hpos HJ;go_wp2_with fail
      refine NJ.out.mono ?_;rintro e w6 ⟨rfl,hb⟩;replace HB:=sd (HB.out.trans (hb.mono HB.out.size));clear NJ hb HR B1;have hj:=HJJ.out;by_cases hz:400 < sj.size
      ·rw [if_pos hz] at hj;obtain ⟨rfl,rfl⟩:=hj;have hz':(400:Int) < (sj.size:Int):=by omega
       clear HJJ hz;go_wp2_with fail
       rw [← HQ.out];exact ⟨by (try rfl),HB.out⟩
      rw [if_neg hz] at hj;have hz':¬ (400:Int) < (sj.size:Int):=by omega
      obtain ⟨rfl,rfl⟩:=hj;clear HJJ hz;go_wp2_with fail
      rw [← HQ.out];exact ⟨by (try rfl),HB.out⟩
     have hlt':(i:Int) < (l4.length:Int):=by omega
     have h0:(0:Int)≤(i:Int):=by omega
     have hw:wrap64 ((i:Int)+1)=((i+1:Nat):Int):=by have:=HLN.out.2;unfold wrap64;omega
     obtain ⟨ad,e,x0,x1⟩:=at_T50 (Kd.C_below HT.out HB.out) (i:Int) (by omega) (by omega)
     cases e
     simp only [Int.toNat_natCast] at x0 x1
     have hd:l4.drop i=rd_T50 l4 (i:Int) :: l4.drop (i+1):=by
      unfold rd_T50;rw [List.drop_eq_getElem_cons hlt,Int.toNat_natCast,List.getD_eq_getElem?_getD,List.getElem?_eq_getElem hlt];rfl
     obtain ⟨x,hx⟩:∃ x,rd_T50 l4 (i:Int)=x:=⟨_,rfl⟩
     rw [hx] at hd x0 x1;have hh:=HJ.out;rw [hd,txT] at hh;have HN:=sd hh;clear hd hx HJ hh;go_upto_region 18 with (fail)
     have hbx:=below_alloc (Below.refl wr.heap.size wr) (Obj.cells #[Value.string x.f0,Value.string x.f1] 50);have bx:(wr.alloc (Obj.cells #[Value.string x.f0,Value.string x.f1] 50)).heap[wr.heap.size]?=some (.cells #[Value.string x.f0,Value.string x.f1] 50 (0,0)):=blk_new _ _;replace B1:=sd (blk_below B1.out hbx);replace HR:=sd (Kd.R_below HR.out hbx);replace HB:=sd (HB.out.trans (hbx.mono HB.out.size));clear x0 x1 hbx;generalize wr.alloc (Obj.cells #[Value.string x.f0,Value.string x.f1] 50)=w4 at *;obtain ⟨gx,hgx⟩:∃ g,g=wr.heap.size:=⟨_,rfl⟩
     rw [← hgx] at bx ⊢;have BX:=sd bx;clear bx hgx;obtain ⟨k0,k1,_⟩:=bk2 BX;go_wp2_with (first | ((with_reducible refine gate_builtin (b:=.append) (xs:=#[.tmp 59,.tmp 64]) rfl ?_);refine strs_app (w0:=w) (W:=w4) w.heap.size rfl (.tmp 59) (.tmp 64) 58 rfl Tryz.underlying58 info9 (.slice A l3.length cap) l3 [⟨#[116,97,103]⟩,x.f0,⟨#[61]⟩,x.f1] rfl rfl HR.out (Nat.le_of_ble_eq_true rfl) (by have:=HLN.out.2;have:=HLB.out;have:=HL3.out;omega) HB.out HB.out.size ?_;intro v1 w10 hR hb hg;obtain ⟨l5,hl2⟩:∃ q,q=l3++[⟨#[116,97,103]⟩,x.f0,⟨#[61]⟩,x.f1]:=⟨_,rfl⟩;have HL5:=sd (show l5.length=l2.length+4 * (i+1) by rw [hl2,List.length_append,HL3.out];show l2.length+4 * i+4=_;omega);rw [← hl2] at hR HN;clear hl2;obtain ⟨A',cap',rfl⟩:=Kd.R_slice hR;replace B1:=sd (blk_grown B1.out hg (Kd.R_ne HR.out B1.out (by decide)));replace HB:=sd hb;replace HR:=sd hR;clear hb hg hR))
     go_roundw
     case rel=>exact ⟨i+1,l5,_,_,by omega,(by rw [hw]),rfl,HL5,HN,HR,B1,HB⟩
     case measure =>
      refine Nat.sub_lt_sub_left hlt ?_;rw [hw];exact Nat.lt_succ_self i
   rw [if_neg hp3] at HJ;have qe:a3.toList.isEmpty=false:=by cases hl:a3.toList with | nil=>exact absurd hl hp3 | cons _ _=>rfl
   have qe2:(!a3.toList.isEmpty)=true:=by rw [qe];rfl
   go_upto_region 15 with (first | ((with_reducible refine gate_builtin (b:=.append) (xs:=#[.tmp 39,.tmp 42]) rfl ?_);refine strs_app (w0:=w) (W:=wr) w.heap.size rfl (.tmp 39) (.tmp 42) 58 rfl Tryz.underlying58 info9 (.slice A l'.length cap) l' [thenB,a2] rfl rfl HR.out (Nat.le_of_ble_eq_true rfl) zq130 HB.out HB.out.size ?_;intro v1 w10 hR hb hg;obtain ⟨l2,hl2⟩:∃ q,q=l'++[thenB,a2]:=⟨_,rfl⟩;have HLL2:=sd (show l2.length=l'.length+2 by rw [hl2,List.length_append];rfl);rw [← hl2] at hR HJ;clear hl2;obtain ⟨A',cap',rfl⟩:=Kd.R_slice hR;replace B1:=sd (blk_grown B1.out hg (Kd.R_ne HR.out B1.out (by decide)));replace HB:=sd hb;replace HR:=sd hR;clear hb hg hR z0 z1 z2 z3 z4 y0 y1 y2 y3 y4;obtain ⟨z0,z1,z2,z3,z4,y0,y1,y2,y3,y4⟩:=bk5 B1) | ((with_reducible refine gate_builtin (b:=.append) (xs:=#[.tmp 47,.tmp 50]) rfl ?_);refine strs_app (w0:=w) (W:=w10) w.heap.size rfl (.tmp 47) (.tmp 50) 58 rfl Tryz.underlying58 info9 (.slice A' l2.length cap') l2 [partyB,a3] rfl rfl HR.out (Nat.le_of_ble_eq_true rfl) (by have:=HLN.out.1;have:=HLL.out;have:=HLL2.out;omega) HB.out HB.out.size ?_;intro v1 w10 hR hb hg;obtain ⟨l2,hl2⟩:∃ q,q=l2++[partyB,a3]:=⟨_,rfl⟩;have HLL3:=sd (show l2.length=l'.length+4 by rw [hl2,List.length_append,HLL2.out];rfl);rw [← hl2] at hR HJ;clear hl2;obtain ⟨A',cap',rfl⟩:=Kd.R_slice hR;replace B1:=sd (blk_grown B1.out hg (Kd.R_ne HR.out B1.out (by decide)));replace HB:=sd hb;replace HR:=sd hR;clear hb hg hR z0 z1 z2 z3 z4 y0 y1 y2 y3 y4;obtain ⟨z0,z1,z2,z3,z4,y0,y1,y2,y3,y4⟩:=bk5 B1))
   have HLB:=sd (show l2.length≤5000000∧0 < l2.length from by have:=HLN.out.1;have:=HLL.out;have:=HLL3.out;omega);go_wp2_with fail
   clear z0 z1 z2 z3 z4 y0 y1 y2 y3 y4 hp3;(try clear qe)
   (try clear qe2)
   go_loopw [5,55] (fun l_ n_ wr=>∃ (i:Nat) (l3:List ByteArray) (A:Option Addr) (cap:Nat),i≤l4.length∧n_=.int .i64 (i:Int)∧l_=.slice A l3.length cap∧Aside0 (l3.length=l2.length+4 * i)∧Aside0 (txJ (txT (l4.drop i) l3)=some (r1,r2))∧Aside0 (Kd.R Kd.string 9 wr w.heap.size (fun _=>True) (.slice A l3.length cap) l3)∧Aside0 (wr.heap[g1]?=some (.cells #[Value.string a0,Value.slice A1 l1.length c1,Value.string a2,Value.string a3,Value.slice A4 l4.length c4] 25 (0,0)))∧Aside0 (Below w.heap.size w wr)) (fun _ n_ _=>(l4.length - (RowKit.intOf n_).toNat))
   case atStart=>exact ⟨0,l2,_,_,Nat.zero_le _,rfl,rfl,⟨rfl⟩,HJ,HR,B1,HB⟩
   case round =>
    clear HJ HR B1 HB HLL HLL2;(try clear HLL3)
    obtain ⟨i,l3,A,cap,hi,rfl,rfl,HL3,HJ,HR,B1,HB⟩:=hrel;rename World=>wr
    by_cases hlt:i < l4.length
    case neg =>
     obtain rfl:i=l4.length:=by omega
     have hlt':¬ (l4.length:Int) < (l4.length:Int):=by omega
     have hj:=HJ.out;rw [List.drop_length,txT] at hj;unfold txJ at hj;split at hj
     case isFalse=>cases hj
     rename_i hb
     have hpos:0 < l3.length:=by have:=HL3.out;have:=HLB.out.2;omega
     obtain ⟨gj,capj,hform,hgj,hgl,_⟩:=Kd.R_form HR.out hpos;obtain ⟨rfl,rfl⟩:A=some ⟨gj,0,none⟩∧cap=capj:=by cases hform;exact ⟨rfl,rfl⟩
     obtain ⟨_,hcap,hC⟩:=Kd.R_reads' HR.out;obtain ⟨sj,hsj⟩:∃ s,s=joinB l3:=⟨_,rfl⟩
     have NJ:=sd (show Calls Tryz.prog 32 #[.slice (some ⟨gj,0,none⟩) l3.length cap,.string ⟨#[32]⟩] wr fun e w'=>e=.returned (.string sj)∧Below wr.heap.size wr w' from hsj ▸ Tryz.strings_Join gj 0 cap l3 ⟨#[32]⟩ wr (strs_cells hC hpos) hgl hb.1 hcap (by have:=hb.2;unfold joinB at this;simpa [ByteArray.size] using this));rw [← hsj] at hj;have HJJ:=sd hj;clear hsj hj hb hform hgj hgl hcap hC hpos HJ;go_wp2_with fail
     refine NJ.out.mono ?_;rintro e w6 ⟨rfl,hb⟩;replace HB:=sd (HB.out.trans (hb.mono HB.out.size));clear NJ hb HR B1;have hj:=HJJ.out;by_cases hz:400 < sj.size
     ·rw [if_pos hz] at hj;obtain ⟨rfl,rfl⟩:=hj;have hz':(400:Int) < (sj.size:Int):=by omega
      clear HJJ hz;go_wp2_with fail
      rw [← HQ.out];exact ⟨by (try rfl),HB.out⟩
     rw [if_neg hz] at hj;have hz':¬ (400:Int) < (sj.size:Int):=by omega
     obtain ⟨rfl,rfl⟩:=hj;clear HJJ hz;go_wp2_with fail
     rw [← HQ.out];exact ⟨by (try rfl),HB.out⟩
    have hlt':(i:Int) < (l4.length:Int):=by omega
    have h0:(0:Int)≤(i:Int):=by omega
    have hw:wrap64 ((i:Int)+1)=((i+1:Nat):Int):=by have:=HLN.out.2;unfold wrap64;omega
    obtain ⟨ad,e,x0,x1⟩:=at_T50 (Kd.C_below HT.out HB.out) (i:Int) (by omega) (by omega)
    cases e
    simp only [Int.toNat_natCast] at x0 x1
    have hd:l4.drop i=rd_T50 l4 (i:Int) :: l4.drop (i+1):=by
     unfold rd_T50;rw [List.drop_eq_getElem_cons hlt,Int.toNat_natCast,List.getD_eq_getElem?_getD,List.getElem?_eq_getElem hlt];rfl
    obtain ⟨x,hx⟩:∃ x,rd_T50 l4 (i:Int)=x:=⟨_,rfl⟩
    rw [hx] at hd x0 x1;have hh:=HJ.out;rw [hd,txT] at hh;have HN:=sd hh;clear hd hx HJ hh;go_upto_region 18 with (fail)
    have hbx:=below_alloc (Below.refl wr.heap.size wr) (Obj.cells #[Value.string x.f0,Value.string x.f1] 50);have bx:(wr.alloc (Obj.cells #[Value.string x.f0,Value.string x.f1] 50)).heap[wr.heap.size]?=some (.cells #[Value.string x.f0,Value.string x.f1] 50 (0,0)):=blk_new _ _;replace B1:=sd (blk_below B1.out hbx);replace HR:=sd (Kd.R_below HR.out hbx);replace HB:=sd (HB.out.trans (hbx.mono HB.out.size));clear x0 x1 hbx;generalize wr.alloc (Obj.cells #[Value.string x.f0,Value.string x.f1] 50)=w4 at *;obtain ⟨gx,hgx⟩:∃ g,g=wr.heap.size:=⟨_,rfl⟩
    rw [← hgx] at bx ⊢;have BX:=sd bx;clear bx hgx;obtain ⟨k0,k1,_⟩:=bk2 BX;go_wp2_with (first | ((with_reducible refine gate_builtin (b:=.append) (xs:=#[.tmp 59,.tmp 64]) rfl ?_);refine strs_app (w0:=w) (W:=w4) w.heap.size rfl (.tmp 59) (.tmp 64) 58 rfl Tryz.underlying58 info9 (.slice A l3.length cap) l3 [⟨#[116,97,103]⟩,x.f0,⟨#[61]⟩,x.f1] rfl rfl HR.out (Nat.le_of_ble_eq_true rfl) (by have:=HLN.out.2;have:=HLB.out;have:=HL3.out;omega) HB.out HB.out.size ?_;intro v1 w10 hR hb hg;obtain ⟨l5,hl2⟩:∃ q,q=l3++[⟨#[116,97,103]⟩,x.f0,⟨#[61]⟩,x.f1]:=⟨_,rfl⟩;have HL5:=sd (show l5.length=l2.length+4 * (i+1) by rw [hl2,List.length_append,HL3.out];show l2.length+4 * i+4=_;omega);rw [← hl2] at hR HN;clear hl2;obtain ⟨A',cap',rfl⟩:=Kd.R_slice hR;replace B1:=sd (blk_grown B1.out hg (Kd.R_ne HR.out B1.out (by decide)));replace HB:=sd hb;replace HR:=sd hR;clear hb hg hR))
    go_roundw
    case rel=>exact ⟨i+1,l5,_,_,by omega,(by rw [hw]),rfl,HL5,HN,HR,B1,HB⟩
    case measure =>
     refine Nat.sub_lt_sub_left hlt ?_;rw [hw];exact Nat.lt_succ_self i
  have hlt':(i:Int) < (l1.length:Int):=by omega
  have h0:(0:Int)≤(i:Int):=by omega
  have hw:wrap64 ((i:Int)+1)=((i+1:Nat):Int):=by have:=HLN.out.1;unfold wrap64;omega
  obtain ⟨ad,e,x0,x1,x2,x3⟩:=at_T48 (Kd.C_below HC.out HB.out) (i:Int) (by omega) (by omega)
  cases e
  simp only [Int.toNat_natCast] at x0 x1 x2 x3
  have hd:l1.drop i=rd_T48 l1 (i:Int) :: l1.drop (i+1):=by
   unfold rd_T48;rw [List.drop_eq_getElem_cons hlt,Int.toNat_natCast,List.getD_eq_getElem?_getD,List.getElem?_eq_getElem hlt];rfl
  obtain ⟨x,hx⟩:∃ x,rd_T48 l1 (i:Int)=x:=⟨_,rfl⟩
  rw [hx] at hd x0 x1 x2 x3;have hh:=HL.out;rw [hd,txC] at hh;obtain ⟨na,hna,hh⟩:=Option.bind_eq_some_iff.mp hh;obtain ⟨nb,hnb,hh⟩:=Option.bind_eq_some_iff.mp hh;obtain ⟨no,hno,hh⟩:=Option.bind_eq_some_iff.mp hh;have NA:=sd (fun W hG=>nmd_calls fieldL fieldB fieldB_L (by decide) fieldB_a _ _ hna W hG);have NB:=sd (fun W hG=>nmd_calls opL opB opB_L (by decide) opB_a _ _ hnb W hG);have NO:=sd (fun W hG=>rules_operand.calls k x.f0 x.f1 x.f2 x.f3 no W hno hG);have HN:=sd hh;clear hd hx HL hh hna hnb hno;obtain ⟨z0,z1,z2,z3,z4,y0,y1,y2,y3,y4⟩:=bk5 B1;go_upto_region 9 with (fail)
  have hbx:=below_alloc (Below.refl wr.heap.size wr) (Obj.cells #[Value.int IntKind.i64 x.f0,Value.int IntKind.i64 x.f1,Value.string x.f2,Value.int IntKind.i64 x.f3] 48);have bx:(wr.alloc (Obj.cells #[Value.int IntKind.i64 x.f0,Value.int IntKind.i64 x.f1,Value.string x.f2,Value.int IntKind.i64 x.f3] 48)).heap[wr.heap.size]?=some (.cells #[Value.int IntKind.i64 x.f0,Value.int IntKind.i64 x.f1,Value.string x.f2,Value.int IntKind.i64 x.f3] 48 (0,0)):=blk_new _ _;replace B1:=sd (blk_below B1.out hbx);replace HR:=sd (Kd.R_below HR.out hbx);replace HB:=sd (HB.out.trans (hbx.mono HB.out.size));clear x0 x1 x2 x3 hbx z0 z1 z2 z3 z4 y0 y1 y2 y3 y4;generalize wr.alloc (Obj.cells #[Value.int IntKind.i64 x.f0,Value.int IntKind.i64 x.f1,Value.string x.f2,Value.int IntKind.i64 x.f3] 48)=w4 at *;obtain ⟨gx,hgx⟩:∃ g,g=wr.heap.size:=⟨_,rfl⟩
  rw [← hgx] at bx ⊢;have BX:=sd bx;clear bx hgx;replace B1:=sd (blk_below B1.out (below_drew1 (Below.refl _ _)));replace BX:=sd (blk_below BX.out (below_drew1 (Below.refl _ _)));replace HR:=sd (Kd.R_below HR.out (below_drew1 (Below.refl _ _)));replace HB:=sd (below_drew1 HB.out);obtain ⟨k0,k1,k2,k3,_⟩:=bk4 BX;refine start_ (n:=13) (S:=fun w'=>w'.cell? ⟨gx,0,none⟩=some (.int .i64 x.f0)∧w'.cell? ⟨gx,1,none⟩=some (.int .i64 x.f1)∧w'.cell? ⟨gx,2,none⟩=some (.string x.f2)∧w'.cell? ⟨gx,3,none⟩=some (.int .i64 x.f3)) (ds:=[11]) #[false,false,false,false,false,false,false,false,false,false,false,false,false] (by kernel_rfl) rfl rfl ⟨k0,k1,k2,k3⟩ (fun hHeld=>?_);clear k0 k1 k2 k3;generalize w4.drew=w5 at hHeld B1 BX HR HB ⊢;refine pB 0 26 ?_;refine pB 1 27 ?_;refine pB 2 28 ?_;refine tB 3 29 hHeld ?_;refine pB 5 31 ?_;refine tB 6 32 hHeld ?_;refine tB 8 34 hHeld ?_;refine one_ (i:=4) (N:=some 30) #[true,true,true,true,true,true,true,false,true,false,false,false,false] rfl rfl (by kernel_rfl) (by decide) (fun K hK=>?_);refine goes_ Tryz.func30 (by kernel_rfl) rfl #[.string fieldB,.int .i64 x.f0] (by rfl) rfl rfl zq30 ?_;refine (NA.out _ (gl_below HG.out HB.out)).mono ?_;rintro e w6 ⟨rfl,hb⟩;refine ⟨_,rfl,?_⟩;replace B1:=sd (blk_below B1.out hb);replace BX:=sd (blk_below BX.out hb);replace HR:=sd (Kd.R_below HR.out hb);replace HB:=sd (HB.out.trans (hb.mono HB.out.size));clear hb hHeld;obtain ⟨k0,k1,k2,k3,_⟩:=bk4 BX;refine hK.out _ _ ⟨k0,k1,k2,k3⟩ (fun hHeld=>?_);clear hK K k0 k1 k2 k3;refine nA 30 ?_;refine one_ (i:=7) (N:=some 33) #[true,true,true,true,true,true,true,true,true,false,false,false,false] rfl rfl (by kernel_rfl) (by decide) (fun K hK=>?_);refine goes_ Tryz.func30 (by kernel_rfl) rfl #[.string opB,.int .i64 x.f1] (by rfl) rfl rfl zq30 ?_;refine (NB.out _ (gl_below HG.out HB.out)).mono ?_;rintro e w7 ⟨rfl,hb⟩;refine ⟨_,rfl,?_⟩;replace B1:=sd (blk_below B1.out hb);replace BX:=sd (blk_below BX.out hb);replace HR:=sd (Kd.R_below HR.out hb);replace HB:=sd (HB.out.trans (hb.mono HB.out.size));clear hb hHeld;obtain ⟨k0,k1,k2,k3,_⟩:=bk4 BX;refine hK.out _ _ ⟨k0,k1,k2,k3⟩ (fun hHeld=>?_);clear hK K k0 k1 k2 k3;refine nA 33 ?_;refine one_ (i:=9) (N:=some 35) #[true,true,true,true,true,true,true,true,true,true,false,false,false] rfl rfl (by kernel_rfl) (by decide) (fun K hK=>?_);refine goes_ Tryz.func31 (by kernel_rfl) rfl #[.agg #[Value.int IntKind.i64 x.f0,Value.int IntKind.i64 x.f1,Value.string x.f2,Value.int IntKind.i64 x.f3]] (by rfl) rfl rfl zq30 ?_;refine (NO.out _ (gl_below HG.out HB.out)).mono ?_;rintro e w8 ⟨rfl,hb⟩;refine ⟨_,rfl,?_⟩;replace B1:=sd (blk_below B1.out hb);replace BX:=sd (blk_below BX.out hb);replace HR:=sd (Kd.R_below HR.out hb);replace HB:=sd (HB.out.trans (hb.mono HB.out.size));clear hb hHeld;obtain ⟨k0,k1,k2,k3,_⟩:=bk4 BX;refine hK.out _ _ ⟨k0,k1,k2,k3⟩ (fun hHeld=>?_);clear hK K k0 k1 k2 k3;refine nA 35 ?_;refine one_ (i:=10) (N:=some 36) #[true,true,true,true,true,true,true,true,true,true,true,false,false] rfl rfl (by kernel_rfl) (by decide) (fun K hK=>?_);refine value_ (v:=.slice (some ⟨w8.heap.size,0,none⟩) 4 4) (w1:=w8.alloc (.cells #[.string link,.string na,.string nb,.string no] 9)) (by rfl) rfl (by go_simp) ?_;have hb9:=below_alloc (Below.refl w8.heap.size w8) (.cells #[.string link,.string na,.string nb,.string no] 9);refine hK.out _ _ ⟨pw_cell_below hb9 hHeld.1,pw_cell_below hb9 hHeld.2.1,pw_cell_below hb9 hHeld.2.2.1,pw_cell_below hb9 hHeld.2.2.2⟩ (fun hHeld=>?_);clear hK K hb9 hHeld;refine nA 36 ?_;refine last_ (i:=11) (N:=some 37) #[true,true,true,true,true,true,true,true,true,true,true,true,false] rfl rfl (by kernel_rfl) (by decide) (fun K hK=>?_);refine strs_step (w0:=w) (W:=w8) w.heap.size (by rfl) (.tmp 26) (.tmp 36) 58 rfl Tryz.underlying58 info9 (.slice A l'.length cap) l' [link,na,nb,no] rfl rfl HR.out (Nat.le_of_ble_eq_true rfl) zq130 HB.out HB.out.size ?_;intro v1 w10 hR hb hg;obtain ⟨l2,hl2⟩:∃ l2,l2=l'++[link,na,nb,no]:=⟨_,rfl⟩
  have HLL2:=sd (show l2.length=2+4 * (i+1) by rw [hl2,List.length_append,HLL.out];show 2+4 * i+4=_;omega);rw [← hl2] at hR HN;obtain ⟨A',cap',rfl⟩:=Kd.R_slice hR;replace B1:=sd (blk_grown B1.out hg (Kd.R_ne HR.out B1.out (by decide)));replace HB:=sd hb;replace HR:=sd hR;clear hb hg hR BX hl2;refine hK.out _ _ ?_;clear hK K;refine nA 37 ?_;refine pB 12 5 ?_;refine done_ (by kernel_rfl) ?_;go_wp2_with fail
  go_roundw
  case rel=>exact ⟨i+1,l2,_,_,_,by omega,(by rw [hw]),rfl,rfl,HLL2,HN,HR,B1,HB⟩
  case measure =>
   refine Nat.sub_lt_sub_left hlt ?_;rw [hw];exact Nat.lt_succ_self i
end Go.Proofs.YtkbgkekegjfkfaaGreatDoor.A
