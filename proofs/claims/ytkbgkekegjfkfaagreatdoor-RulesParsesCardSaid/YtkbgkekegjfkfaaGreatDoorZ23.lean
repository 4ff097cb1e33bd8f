-- By pack.py, a program of this session's.
import Derived.Test.YtkbgkekegjfkfaaGreatDoorZ15
import Derived.Test.YtkbgkekegjfkfaaGreatDoorZ17
set_option linter.unusedVariables false
set_option linter.unusedSimpArgs false
namespace Go.Proofs.YtkbgkekegjfkfaaGreatDoor
namespace A
open Go.RowKit B WW WL WM
attribute [local go_sem] max2_int min2_int max_two min_two max_three min_three max_four min_four
set_option maxHeartbeats 8000000
set_option maxRecDepth 100000
def testF (c:S48) (d a:Int) (rf tx:ByteArray):Bool :=
 if c.f1=2 then decide (nOfC c d a ≥ c.f3) else if c.f1=3 then decide (nOfC c d a≤c.f3) else
 if c.f1=4 then Lib.contains (sOfC c rf tx).data.toList c.f2.data.toList else if c.f1=5 then Lib.hasPrefix (sOfC c rf tx).data.toList c.f2.data.toList else
 if c.f0=1∨c.f0=4 then decide (nOfC c d a=c.f3) else decide ((sOfC c rf tx).toList=c.f2.toList)
def keyV (kd:Int) (s x:ByteArray):Bool:=decide (kd=1∧s.toList=x.toList)
theorem key_calls (gw:Nat) (kd:Int) (s x:ByteArray) (w:World) (h0:w.cell? ⟨gw,0,none⟩=some (.int .i64 kd)) (h1:w.cell? ⟨gw,1,none⟩=some (.string s)) :
    Calls Tryz.prog 111 #[.string x,.pointer (some ⟨gw,0,none⟩)] w fun e w'=>e=.returned (.bool (keyV kd s x))∧Drawn0 w w':=by
  unfold keyV;by_cases e:kd=1
  · have q:decide (kd=1)=true:=decide_eq_true e
    have hr:decide (kd=1∧s.toList=x.toList)=(s.toList == x.toList):=by
      rw [Bool.eq_iff_iff,decide_eq_true_iff,beq_iff_eq];exact ⟨fun h=>h.2,fun h=>⟨e,h⟩⟩
    rw [hr];clear hr;go_enter Tryz.func111,Tryz.ntmps111
    go_wp2_with fail
    go_ret
    exact ⟨rfl,Drawn0.refl _⟩
  have q:decide (kd=1)=false:=decide_eq_false e;have hr:decide (kd=1∧s.toList=x.toList)=false:=decide_eq_false (fun h=>e h.1);rw [hr];clear hr;go_enter Tryz.func111,Tryz.ntmps111
  go_wp2_with fail
  go_ret
  exact ⟨rfl,Drawn0.refl _⟩
abbrev keyB (x:S73) (s:ByteArray):Bool:=keyV x.f0 x.f1 s
theorem key2_calls (gw:Nat) (kd:Int) (s x:ByteArray) (w:World) (h0:w.cell? ⟨gw,0,none⟩=some (.int .i64 kd)) (h1:w.cell? ⟨gw,1,none⟩=some (.string s)) :
    Calls Tryz.prog 138 #[.string x,.pointer (some ⟨gw,0,none⟩)] w fun e w'=>e=.returned (.bool (keyV kd s x))∧Drawn0 w w':=by
  unfold keyV;by_cases e:kd=1
  · have q:decide (kd=1)=true:=decide_eq_true e
    have hr:decide (kd=1∧s.toList=x.toList)=(s.toList == x.toList):=by
      rw [Bool.eq_iff_iff,decide_eq_true_iff,beq_iff_eq];exact ⟨fun h=>h.2,fun h=>⟨e,h⟩⟩
    rw [hr];clear hr;go_enter Tryz.func138,Tryz.ntmps138
    go_wp2_with fail
    go_ret
    exact ⟨rfl,Drawn0.refl _⟩
  have q:decide (kd=1)=false:=decide_eq_false e;have hr:decide (kd=1∧s.toList=x.toList)=false:=decide_eq_false (fun h=>e h.1);rw [hr];clear hr;go_enter Tryz.func138,Tryz.ntmps138
  go_wp2_with fail
  go_ret
  exact ⟨rfl,Drawn0.refl _⟩
theorem head_0 (bd g:Nat) (p:PR) (vC vT vW:Value) (x:S73) (code:Bool) (w:World) (hp:RP w bd g p vC vT vW) (hbd:bd≤w.heap.size) (hst:p.st=0) :
    Calls Tryz.prog 81 #[.pointer (some ⟨g,0,none⟩),.agg #[.int .i64 x.f0,.string x.f1,.int .i64 x.f2],.bool code] w (StepPost bd g vC vT vW (p) (fol (keyB x (⟨#[114,117,108,101]⟩:ByteArray)) 1) w):=by
  have hmf:∀ (fn:Fn) (first cap:Array Value) (w:World),(Instr.makeFunc fn first cap).run Tryz.prog w=.ok (.func fn first cap) w:=fun _ _ _ _=>rfl
  have HP:=sd hp;have HNE:=sd (show ¬ w.heap.size=g from fun h=>by have:=blk_lt hp.blk;omega);have HNW:=sd (Kd.R_lt HP.out.rW);have HF:=sd (FP.refl bd g vC vT vW w);clear hp;generalize hQ:StepPost bd g vC vT vW (p) (fol (keyB x (⟨#[114,117,108,101]⟩:ByteArray)) 1) w=Post;have HQ:=sd hQ;clear hQ;go_enter Tryz.func81,Tryz.ntmps81
  go_upto_region 1 with (fail)
  have hB1:=below_alloc (Below.refl w.heap.size w) (Obj.cells #[Value.int IntKind.i64 x.f0,Value.string x.f1,Value.int IntKind.i64 x.f2] 73);have b0:(w.alloc (Obj.cells #[Value.int IntKind.i64 x.f0,Value.string x.f1,Value.int IntKind.i64 x.f2] 73)).heap[w.heap.size]?=some (.cells #[Value.int IntKind.i64 x.f0,Value.string x.f1,Value.int IntKind.i64 x.f2] 73 (0,0)):=blk_new _ _;replace HP:=sd (HP.out.below hB1);replace HF:=sd (HF.out.below hB1 hbd);generalize w.alloc (Obj.cells #[Value.int IntKind.i64 x.f0,Value.string x.f1,Value.int IntKind.i64 x.f2] 73)=w1 at *;obtain ⟨gw,hgw⟩:∃ gw,gw=w.heap.size:=⟨_,rfl⟩
  have hgg:gw≠g:=by have:=blk_lt HP.out.blk;have:=hB1.size;intro h;rw [hgw] at h;exact absurd h (HNE.out)
  have HGN:=sd (show some gw≠Value.ownBlock vW from fun e=>by have:=HNW.out gw e.symm;omega);clear HNW;rw [← hgw] at b0 ⊢;have BW:=sd b0;have HB1:=sd hB1;clear b0 hB1 hgw;obtain ⟨⟨k0,k1,k2,k3,k4,k5,k6⟩,f0,f1,f2,f3,f4,f5,f6⟩:=HP.out.facts;rw [hst] at k5;obtain ⟨w0_,w1_,w2_,_,_,_⟩:=bk3 BW;go_wp2_with fail
  refine (key_calls gw x.f0 x.f1 (⟨#[114,117,108,101]⟩:ByteArray) _ w0_ w1_).mono ?_;rintro e wn ⟨rfl,hd⟩;obtain ⟨⟨nd,rfl⟩⟩:=hd;replace HP:=sd (HP.out.below (pw_below_drewN (Below.refl _ _) nd));replace HF:=sd (HF.out.below (pw_below_drewN (Below.refl _ _) nd) hbd);generalize w1.drewN nd=w2 at HP HF ⊢;go_wp2_with fail
  refine (follow_calls _ 1 _).mono ?_;rintro e wn ⟨rfl,hd⟩;obtain ⟨⟨nd,rfl⟩⟩:=hd;replace HP:=sd (HP.out.below (pw_below_drewN (Below.refl _ _) nd));replace HF:=sd (HF.out.below (pw_below_drewN (Below.refl _ _) nd) hbd);generalize w2.drewN nd=w3 at HP HF ⊢;go_wp2_with fail
  rw [← HQ.out];exact ⟨by (try rfl),⟨_,_,_,HP.out⟩,HF.out⟩
theorem head_2 (bd g:Nat) (p:PR) (vC vT vW:Value) (x:S73) (code:Bool) (w:World) (hp:RP w bd g p vC vT vW) (hbd:bd≤w.heap.size) (hst:p.st=2) :
    Calls Tryz.prog 81 #[.pointer (some ⟨g,0,none⟩),.agg #[.int .i64 x.f0,.string x.f1,.int .i64 x.f2],.bool code] w (StepPost bd g vC vT vW (p) (fol (keyB x (⟨#[105,102]⟩:ByteArray)) 3) w):=by
  have hmf:∀ (fn:Fn) (first cap:Array Value) (w:World),(Instr.makeFunc fn first cap).run Tryz.prog w=.ok (.func fn first cap) w:=fun _ _ _ _=>rfl
  have HP:=sd hp;have HNE:=sd (show ¬ w.heap.size=g from fun h=>by have:=blk_lt hp.blk;omega);have HNW:=sd (Kd.R_lt HP.out.rW);have HF:=sd (FP.refl bd g vC vT vW w);clear hp;generalize hQ:StepPost bd g vC vT vW (p) (fol (keyB x (⟨#[105,102]⟩:ByteArray)) 3) w=Post;have HQ:=sd hQ;clear hQ;go_enter Tryz.func81,Tryz.ntmps81
  go_upto_region 1 with (fail)
  have hB1:=below_alloc (Below.refl w.heap.size w) (Obj.cells #[Value.int IntKind.i64 x.f0,Value.string x.f1,Value.int IntKind.i64 x.f2] 73);have b0:(w.alloc (Obj.cells #[Value.int IntKind.i64 x.f0,Value.string x.f1,Value.int IntKind.i64 x.f2] 73)).heap[w.heap.size]?=some (.cells #[Value.int IntKind.i64 x.f0,Value.string x.f1,Value.int IntKind.i64 x.f2] 73 (0,0)):=blk_new _ _;replace HP:=sd (HP.out.below hB1);replace HF:=sd (HF.out.below hB1 hbd);generalize w.alloc (Obj.cells #[Value.int IntKind.i64 x.f0,Value.string x.f1,Value.int IntKind.i64 x.f2] 73)=w1 at *;obtain ⟨gw,hgw⟩:∃ gw,gw=w.heap.size:=⟨_,rfl⟩
  have hgg:gw≠g:=by have:=blk_lt HP.out.blk;have:=hB1.size;intro h;rw [hgw] at h;exact absurd h (HNE.out)
  have HGN:=sd (show some gw≠Value.ownBlock vW from fun e=>by have:=HNW.out gw e.symm;omega);clear HNW;rw [← hgw] at b0 ⊢;have BW:=sd b0;have HB1:=sd hB1;clear b0 hB1 hgw;obtain ⟨⟨k0,k1,k2,k3,k4,k5,k6⟩,f0,f1,f2,f3,f4,f5,f6⟩:=HP.out.facts;rw [hst] at k5;obtain ⟨w0_,w1_,w2_,_,_,_⟩:=bk3 BW;go_wp2_with fail
  refine (key_calls gw x.f0 x.f1 (⟨#[105,102]⟩:ByteArray) _ w0_ w1_).mono ?_;rintro e wn ⟨rfl,hd⟩;obtain ⟨⟨nd,rfl⟩⟩:=hd;replace HP:=sd (HP.out.below (pw_below_drewN (Below.refl _ _) nd));replace HF:=sd (HF.out.below (pw_below_drewN (Below.refl _ _) nd) hbd);generalize w1.drewN nd=w2 at HP HF ⊢;go_wp2_with fail
  refine (follow_calls _ 3 _).mono ?_;rintro e wn ⟨rfl,hd⟩;obtain ⟨⟨nd,rfl⟩⟩:=hd;replace HP:=sd (HP.out.below (pw_below_drewN (Below.refl _ _) nd));replace HF:=sd (HF.out.below (pw_below_drewN (Below.refl _ _) nd) hbd);generalize w2.drewN nd=w3 at HP HF ⊢;go_wp2_with fail
  rw [← HQ.out];exact ⟨by (try rfl),⟨_,_,_,HP.out⟩,HF.out⟩
theorem head_1 (bd g:Nat) (p:PR) (vC vT vW:Value) (x:S73) (code:Bool) (w:World) (hp:RP w bd g p vC vT vW) (hbd:bd≤w.heap.size) (hst:p.st=1) :
    Calls Tryz.prog 81 #[.pointer (some ⟨g,0,none⟩),.agg #[.int .i64 x.f0,.string x.f1,.int .i64 x.f2],.bool code] w (StepPost bd g vC vT vW ({ p with nm:=x.f1 }) (fol code 2) w):=by
  have hmf:∀ (fn:Fn) (first cap:Array Value) (w:World),(Instr.makeFunc fn first cap).run Tryz.prog w=.ok (.func fn first cap) w:=fun _ _ _ _=>rfl
  have HP:=sd hp;have HNE:=sd (show ¬ w.heap.size=g from fun h=>by have:=blk_lt hp.blk;omega);have HNW:=sd (Kd.R_lt HP.out.rW);have HF:=sd (FP.refl bd g vC vT vW w);clear hp;generalize hQ:StepPost bd g vC vT vW ({ p with nm:=x.f1 }) (fol code 2) w=Post;have HQ:=sd hQ;clear hQ;go_enter Tryz.func81,Tryz.ntmps81
  go_upto_region 1 with (fail)
  have hB1:=below_alloc (Below.refl w.heap.size w) (Obj.cells #[Value.int IntKind.i64 x.f0,Value.string x.f1,Value.int IntKind.i64 x.f2] 73);have b0:(w.alloc (Obj.cells #[Value.int IntKind.i64 x.f0,Value.string x.f1,Value.int IntKind.i64 x.f2] 73)).heap[w.heap.size]?=some (.cells #[Value.int IntKind.i64 x.f0,Value.string x.f1,Value.int IntKind.i64 x.f2] 73 (0,0)):=blk_new _ _;replace HP:=sd (HP.out.below hB1);replace HF:=sd (HF.out.below hB1 hbd);generalize w.alloc (Obj.cells #[Value.int IntKind.i64 x.f0,Value.string x.f1,Value.int IntKind.i64 x.f2] 73)=w1 at *;obtain ⟨gw,hgw⟩:∃ gw,gw=w.heap.size:=⟨_,rfl⟩
  have hgg:gw≠g:=by have:=blk_lt HP.out.blk;have:=hB1.size;intro h;rw [hgw] at h;exact absurd h (HNE.out)
  have HGN:=sd (show some gw≠Value.ownBlock vW from fun e=>by have:=HNW.out gw e.symm;omega);clear HNW;rw [← hgw] at b0 ⊢;have BW:=sd b0;have HB1:=sd hB1;clear b0 hB1 hgw;obtain ⟨⟨k0,k1,k2,k3,k4,k5,k6⟩,f0,f1,f2,f3,f4,f5,f6⟩:=HP.out.facts;rw [hst] at k5;obtain ⟨w0_,w1_,w2_,_,_,_⟩:=bk3 BW;go_wp2_with fail
  replace HP:=sd (HP.out.set 0 (.string x.f1) { p with nm:=x.f1 } rfl rfl rfl rfl);replace HF:=sd (FP.set (o:=0) HF.out HP.out.hbd (.string x.f1));generalize w1.setCell ⟨g,0,none⟩ (.string x.f1)=w2 at HP HF ⊢;refine (follow_calls _ 2 _).mono ?_;rintro e wn ⟨rfl,hd⟩;obtain ⟨⟨nd,rfl⟩⟩:=hd;replace HP:=sd (HP.out.below (pw_below_drewN (Below.refl _ _) nd));replace HF:=sd (HF.out.below (pw_below_drewN (Below.refl _ _) nd) hbd);generalize w2.drewN nd=w3 at HP HF ⊢;go_wp2_with fail
  rw [← HQ.out];exact ⟨by (try rfl),⟨_,_,_,HP.out⟩,HF.out⟩
theorem tail_13 (bd g:Nat) (p:PR) (vC vT vW:Value) (x:S73) (code:Bool) (w:World) (hp:RP w bd g p vC vT vW) (hbd:bd≤w.heap.size) (hst:p.st=13) :
    Calls Tryz.prog 115 #[.pointer (some ⟨g,0,none⟩),.agg #[.int .i64 x.f0,.string x.f1,.int .i64 x.f2],.bool code] w (StepPost bd g vC vT vW (p) (fol (keyB x (⟨#[116,97,103]⟩:ByteArray)) 10) w):=by
  have hmf:∀ (fn:Fn) (first cap:Array Value) (w:World),(Instr.makeFunc fn first cap).run Tryz.prog w=.ok (.func fn first cap) w:=fun _ _ _ _=>rfl
  have HP:=sd hp;have HNE:=sd (show ¬ w.heap.size=g from fun h=>by have:=blk_lt hp.blk;omega);have HNW:=sd (Kd.R_lt HP.out.rW);have HF:=sd (FP.refl bd g vC vT vW w);clear hp;generalize hQ:StepPost bd g vC vT vW (p) (fol (keyB x (⟨#[116,97,103]⟩:ByteArray)) 10) w=Post;have HQ:=sd hQ;clear hQ;go_enter Tryz.func115,Tryz.ntmps115
  go_upto_region 1 with (fail)
  have hB1:=below_alloc (Below.refl w.heap.size w) (Obj.cells #[Value.int IntKind.i64 x.f0,Value.string x.f1,Value.int IntKind.i64 x.f2] 73);have b0:(w.alloc (Obj.cells #[Value.int IntKind.i64 x.f0,Value.string x.f1,Value.int IntKind.i64 x.f2] 73)).heap[w.heap.size]?=some (.cells #[Value.int IntKind.i64 x.f0,Value.string x.f1,Value.int IntKind.i64 x.f2] 73 (0,0)):=blk_new _ _;replace HP:=sd (HP.out.below hB1);replace HF:=sd (HF.out.below hB1 hbd);generalize w.alloc (Obj.cells #[Value.int IntKind.i64 x.f0,Value.string x.f1,Value.int IntKind.i64 x.f2] 73)=w1 at *;obtain ⟨gw,hgw⟩:∃ gw,gw=w.heap.size:=⟨_,rfl⟩
  have hgg:gw≠g:=by have:=blk_lt HP.out.blk;have:=hB1.size;intro h;rw [hgw] at h;exact absurd h (HNE.out)
  have HGN:=sd (show some gw≠Value.ownBlock vW from fun e=>by have:=HNW.out gw e.symm;omega);clear HNW;rw [← hgw] at b0 ⊢;have BW:=sd b0;have HB1:=sd hB1;clear b0 hB1 hgw;obtain ⟨⟨k0,k1,k2,k3,k4,k5,k6⟩,f0,f1,f2,f3,f4,f5,f6⟩:=HP.out.facts;rw [hst] at k5;obtain ⟨w0_,w1_,w2_,_,_,_⟩:=bk3 BW;go_wp2_with fail
  refine (key2_calls gw x.f0 x.f1 (⟨#[116,97,103]⟩:ByteArray) _ w0_ w1_).mono ?_;rintro e wn ⟨rfl,hd⟩;obtain ⟨⟨nd,rfl⟩⟩:=hd;replace HP:=sd (HP.out.below (pw_below_drewN (Below.refl _ _) nd));replace HF:=sd (HF.out.below (pw_below_drewN (Below.refl _ _) nd) hbd);generalize w1.drewN nd=w2 at HP HF ⊢;go_wp2_with fail
  refine (follow_calls _ 10 _).mono ?_;rintro e wn ⟨rfl,hd⟩;obtain ⟨⟨nd,rfl⟩⟩:=hd;replace HP:=sd (HP.out.below (pw_below_drewN (Below.refl _ _) nd));replace HF:=sd (HF.out.below (pw_below_drewN (Below.refl _ _) nd) hbd);generalize w2.drewN nd=w3 at HP HF ⊢;go_wp2_with fail
  rw [← HQ.out];exact ⟨by (try rfl),⟨_,_,_,HP.out⟩,HF.out⟩
theorem tail_6 (bd g:Nat) (p:PR) (vC vT vW:Value) (x:S73) (code:Bool) (w:World) (hp:RP w bd g p vC vT vW) (hbd:bd≤w.heap.size) (hst:p.st=6) :
    Calls Tryz.prog 115 #[.pointer (some ⟨g,0,none⟩),.agg #[.int .i64 x.f0,.string x.f1,.int .i64 x.f2],.bool code] w (StepPost bd g vC vT vW (p) (if keyB x (⟨#[97,110,100]⟩:ByteArray)=true then 3 else fol (keyB x (⟨#[116,104,101,110]⟩:ByteArray)) 7) w):=by
  have hmf:∀ (fn:Fn) (first cap:Array Value) (w:World),(Instr.makeFunc fn first cap).run Tryz.prog w=.ok (.func fn first cap) w:=fun _ _ _ _=>rfl
  have HP:=sd hp;have HNE:=sd (show ¬ w.heap.size=g from fun h=>by have:=blk_lt hp.blk;omega);have HNW:=sd (Kd.R_lt HP.out.rW);have HF:=sd (FP.refl bd g vC vT vW w);clear hp;generalize hQ:StepPost bd g vC vT vW (p) (if keyB x (⟨#[97,110,100]⟩:ByteArray)=true then 3 else fol (keyB x (⟨#[116,104,101,110]⟩:ByteArray)) 7) w=Post;have HQ:=sd hQ;clear hQ;go_enter Tryz.func115,Tryz.ntmps115
  go_upto_region 1 with (fail)
  have hB1:=below_alloc (Below.refl w.heap.size w) (Obj.cells #[Value.int IntKind.i64 x.f0,Value.string x.f1,Value.int IntKind.i64 x.f2] 73);have b0:(w.alloc (Obj.cells #[Value.int IntKind.i64 x.f0,Value.string x.f1,Value.int IntKind.i64 x.f2] 73)).heap[w.heap.size]?=some (.cells #[Value.int IntKind.i64 x.f0,Value.string x.f1,Value.int IntKind.i64 x.f2] 73 (0,0)):=blk_new _ _;replace HP:=sd (HP.out.below hB1);replace HF:=sd (HF.out.below hB1 hbd);generalize w.alloc (Obj.cells #[Value.int IntKind.i64 x.f0,Value.string x.f1,Value.int IntKind.i64 x.f2] 73)=w1 at *;obtain ⟨gw,hgw⟩:∃ gw,gw=w.heap.size:=⟨_,rfl⟩
  have hgg:gw≠g:=by have:=blk_lt HP.out.blk;have:=hB1.size;intro h;rw [hgw] at h;exact absurd h (HNE.out)
  have HGN:=sd (show some gw≠Value.ownBlock vW from fun e=>by have:=HNW.out gw e.symm;omega);clear HNW;rw [← hgw] at b0 ⊢;have BW:=sd b0;have HB1:=sd hB1;clear b0 hB1 hgw;obtain ⟨⟨k0,k1,k2,k3,k4,k5,k6⟩,f0,f1,f2,f3,f4,f5,f6⟩:=HP.out.facts;rw [hst] at k5;obtain ⟨w0_,w1_,w2_,_,_,_⟩:=bk3 BW;go_wp2_with fail
  refine (key2_calls gw x.f0 x.f1 (⟨#[97,110,100]⟩:ByteArray) _ w0_ w1_).mono ?_;rintro e wn ⟨rfl,hd⟩;obtain ⟨⟨nd,rfl⟩⟩:=hd;replace HP:=sd (HP.out.below (pw_below_drewN (Below.refl _ _) nd));replace HF:=sd (HF.out.below (pw_below_drewN (Below.refl _ _) nd) hbd);replace BW:=sd (blk_below BW.out (pw_below_drewN (Below.refl _ _) nd));clear k0 k1 k2 k3 k4 k5 k6 f0 f1 f2 f3 f4 f5 f6 w0_ w1_ w2_;generalize w1.drewN nd=w2 at HP HF BW ⊢;obtain ⟨w0_,w1_,w2_,_,_,_⟩:=bk3 BW
  cases hk:keyV x.f0 x.f1 (⟨#[97,110,100]⟩:ByteArray)
  · rw [show keyB x (⟨#[97,110,100]⟩:ByteArray)=false from hk,if_neg (by decide)] at HQ
    go_wp2_with fail
    refine (key2_calls gw x.f0 x.f1 (⟨#[116,104,101,110]⟩:ByteArray) _ w0_ w1_).mono ?_;rintro e wn ⟨rfl,hd⟩;obtain ⟨⟨nd,rfl⟩⟩:=hd;replace HP:=sd (HP.out.below (pw_below_drewN (Below.refl _ _) nd));replace HF:=sd (HF.out.below (pw_below_drewN (Below.refl _ _) nd) hbd);generalize w2.drewN nd=w3 at HP HF ⊢;go_wp2_with fail
    refine (follow_calls _ 7 _).mono ?_;rintro e wn ⟨rfl,hd⟩;obtain ⟨⟨nd,rfl⟩⟩:=hd;replace HP:=sd (HP.out.below (pw_below_drewN (Below.refl _ _) nd));replace HF:=sd (HF.out.below (pw_below_drewN (Below.refl _ _) nd) hbd);generalize w3.drewN nd=w4 at HP HF ⊢;go_wp2_with fail
    rw [← HQ.out];exact ⟨by (try rfl),⟨_,_,_,HP.out⟩,HF.out⟩
  · rw [show keyB x (⟨#[97,110,100]⟩:ByteArray)=true from hk,if_pos rfl] at HQ
    go_wp2_with fail
    rw [← HQ.out];exact ⟨by (try rfl),⟨_,_,_,HP.out⟩,HF.out⟩
theorem tail_8 (bd g:Nat) (p:PR) (vC vT vW:Value) (x:S73) (code:Bool) (w:World) (hp:RP w bd g p vC vT vW) (hbd:bd≤w.heap.size) (hst:p.st=8) :
    Calls Tryz.prog 115 #[.pointer (some ⟨g,0,none⟩),.agg #[.int .i64 x.f0,.string x.f1,.int .i64 x.f2],.bool code] w (StepPost bd g vC vT vW (p) (if keyB x (⟨#[112,97,114,116,121]⟩:ByteArray)=true then 9 else fol (keyB x (⟨#[116,97,103]⟩:ByteArray)) 10) w):=by
  have hmf:∀ (fn:Fn) (first cap:Array Value) (w:World),(Instr.makeFunc fn first cap).run Tryz.prog w=.ok (.func fn first cap) w:=fun _ _ _ _=>rfl
  have HP:=sd hp;have HNE:=sd (show ¬ w.heap.size=g from fun h=>by have:=blk_lt hp.blk;omega);have HNW:=sd (Kd.R_lt HP.out.rW);have HF:=sd (FP.refl bd g vC vT vW w);clear hp;generalize hQ:StepPost bd g vC vT vW (p) (if keyB x (⟨#[112,97,114,116,121]⟩:ByteArray)=true then 9 else fol (keyB x (⟨#[116,97,103]⟩:ByteArray)) 10) w=Post;have HQ:=sd hQ;clear hQ;go_enter Tryz.func115,Tryz.ntmps115
  go_upto_region 1 with (fail)
  have hB1:=below_alloc (Below.refl w.heap.size w) (Obj.cells #[Value.int IntKind.i64 x.f0,Value.string x.f1,Value.int IntKind.i64 x.f2] 73);have b0:(w.alloc (Obj.cells #[Value.int IntKind.i64 x.f0,Value.string x.f1,Value.int IntKind.i64 x.f2] 73)).heap[w.heap.size]?=some (.cells #[Value.int IntKind.i64 x.f0,Value.string x.f1,Value.int IntKind.i64 x.f2] 73 (0,0)):=blk_new _ _;replace HP:=sd (HP.out.below hB1);replace HF:=sd (HF.out.below hB1 hbd);generalize w.alloc (Obj.cells #[Value.int IntKind.i64 x.f0,Value.string x.f1,Value.int IntKind.i64 x.f2] 73)=w1 at *;obtain ⟨gw,hgw⟩:∃ gw,gw=w.heap.size:=⟨_,rfl⟩
  have hgg:gw≠g:=by have:=blk_lt HP.out.blk;have:=hB1.size;intro h;rw [hgw] at h;exact absurd h (HNE.out)
  have HGN:=sd (show some gw≠Value.ownBlock vW from fun e=>by have:=HNW.out gw e.symm;omega);clear HNW;rw [← hgw] at b0 ⊢;have BW:=sd b0;have HB1:=sd hB1;clear b0 hB1 hgw;obtain ⟨⟨k0,k1,k2,k3,k4,k5,k6⟩,f0,f1,f2,f3,f4,f5,f6⟩:=HP.out.facts;rw [hst] at k5;obtain ⟨w0_,w1_,w2_,_,_,_⟩:=bk3 BW;go_wp2_with fail
  refine (key2_calls gw x.f0 x.f1 (⟨#[112,97,114,116,121]⟩:ByteArray) _ w0_ w1_).mono ?_;rintro e wn ⟨rfl,hd⟩;obtain ⟨⟨nd,rfl⟩⟩:=hd;replace HP:=sd (HP.out.below (pw_below_drewN (Below.refl _ _) nd));replace HF:=sd (HF.out.below (pw_below_drewN (Below.refl _ _) nd) hbd);replace BW:=sd (blk_below BW.out (pw_below_drewN (Below.refl _ _) nd));clear k0 k1 k2 k3 k4 k5 k6 f0 f1 f2 f3 f4 f5 f6 w0_ w1_ w2_;generalize w1.drewN nd=w2 at HP HF BW ⊢;obtain ⟨w0_,w1_,w2_,_,_,_⟩:=bk3 BW
  cases hk:keyV x.f0 x.f1 (⟨#[112,97,114,116,121]⟩:ByteArray)
  · rw [show keyB x (⟨#[112,97,114,116,121]⟩:ByteArray)=false from hk,if_neg (by decide)] at HQ
    go_wp2_with fail
    refine (key2_calls gw x.f0 x.f1 (⟨#[116,97,103]⟩:ByteArray) _ w0_ w1_).mono ?_;rintro e wn ⟨rfl,hd⟩;obtain ⟨⟨nd,rfl⟩⟩:=hd;replace HP:=sd (HP.out.below (pw_below_drewN (Below.refl _ _) nd));replace HF:=sd (HF.out.below (pw_below_drewN (Below.refl _ _) nd) hbd);generalize w2.drewN nd=w3 at HP HF ⊢;go_wp2_with fail
    refine (follow_calls _ 10 _).mono ?_;rintro e wn ⟨rfl,hd⟩;obtain ⟨⟨nd,rfl⟩⟩:=hd;replace HP:=sd (HP.out.below (pw_below_drewN (Below.refl _ _) nd));replace HF:=sd (HF.out.below (pw_below_drewN (Below.refl _ _) nd) hbd);generalize w3.drewN nd=w4 at HP HF ⊢;go_wp2_with fail
    rw [← HQ.out];exact ⟨by (try rfl),⟨_,_,_,HP.out⟩,HF.out⟩
  · rw [show keyB x (⟨#[112,97,114,116,121]⟩:ByteArray)=true from hk,if_pos rfl] at HQ
    go_wp2_with fail
    rw [← HQ.out];exact ⟨by (try rfl),⟨_,_,_,HP.out⟩,HF.out⟩
theorem tail_7 (bd g:Nat) (p:PR) (vC vT vW:Value) (x:S73) (code:Bool) (w:World) (hp:RP w bd g p vC vT vW) (hbd:bd≤w.heap.size) (hst:p.st=7) :
    Calls Tryz.prog 115 #[.pointer (some ⟨g,0,none⟩),.agg #[.int .i64 x.f0,.string x.f1,.int .i64 x.f2],.bool code] w (StepPost bd g vC vT vW ({ p with acc:=x.f1 }) (fol code 8) w):=by
  have hmf:∀ (fn:Fn) (first cap:Array Value) (w:World),(Instr.makeFunc fn first cap).run Tryz.prog w=.ok (.func fn first cap) w:=fun _ _ _ _=>rfl
  have HP:=sd hp;have HNE:=sd (show ¬ w.heap.size=g from fun h=>by have:=blk_lt hp.blk;omega);have HNW:=sd (Kd.R_lt HP.out.rW);have HF:=sd (FP.refl bd g vC vT vW w);clear hp;generalize hQ:StepPost bd g vC vT vW ({ p with acc:=x.f1 }) (fol code 8) w=Post;have HQ:=sd hQ;clear hQ;go_enter Tryz.func115,Tryz.ntmps115
  go_upto_region 1 with (fail)
  have hB1:=below_alloc (Below.refl w.heap.size w) (Obj.cells #[Value.int IntKind.i64 x.f0,Value.string x.f1,Value.int IntKind.i64 x.f2] 73);have b0:(w.alloc (Obj.cells #[Value.int IntKind.i64 x.f0,Value.string x.f1,Value.int IntKind.i64 x.f2] 73)).heap[w.heap.size]?=some (.cells #[Value.int IntKind.i64 x.f0,Value.string x.f1,Value.int IntKind.i64 x.f2] 73 (0,0)):=blk_new _ _;replace HP:=sd (HP.out.below hB1);replace HF:=sd (HF.out.below hB1 hbd);generalize w.alloc (Obj.cells #[Value.int IntKind.i64 x.f0,Value.string x.f1,Value.int IntKind.i64 x.f2] 73)=w1 at *;obtain ⟨gw,hgw⟩:∃ gw,gw=w.heap.size:=⟨_,rfl⟩
  have hgg:gw≠g:=by have:=blk_lt HP.out.blk;have:=hB1.size;intro h;rw [hgw] at h;exact absurd h (HNE.out)
  have HGN:=sd (show some gw≠Value.ownBlock vW from fun e=>by have:=HNW.out gw e.symm;omega);clear HNW;rw [← hgw] at b0 ⊢;have BW:=sd b0;have HB1:=sd hB1;clear b0 hB1 hgw;obtain ⟨⟨k0,k1,k2,k3,k4,k5,k6⟩,f0,f1,f2,f3,f4,f5,f6⟩:=HP.out.facts;rw [hst] at k5;obtain ⟨w0_,w1_,w2_,_,_,_⟩:=bk3 BW;go_wp2_with fail
  replace HP:=sd (HP.out.set 2 (.string x.f1) { p with acc:=x.f1 } rfl rfl rfl rfl);replace HF:=sd (FP.set (o:=2) HF.out HP.out.hbd (.string x.f1));generalize w1.setCell ⟨g,2,none⟩ (.string x.f1)=w2 at HP HF ⊢;refine (follow_calls _ 8 _).mono ?_;rintro e wn ⟨rfl,hd⟩;obtain ⟨⟨nd,rfl⟩⟩:=hd;replace HP:=sd (HP.out.below (pw_below_drewN (Below.refl _ _) nd));replace HF:=sd (HF.out.below (pw_below_drewN (Below.refl _ _) nd) hbd);generalize w2.drewN nd=w3 at HP HF ⊢;go_wp2_with fail
  rw [← HQ.out];exact ⟨by (try rfl),⟨_,_,_,HP.out⟩,HF.out⟩
theorem tail_9 (bd g:Nat) (p:PR) (vC vT vW:Value) (x:S73) (code:Bool) (w:World) (hp:RP w bd g p vC vT vW) (hbd:bd≤w.heap.size) (hst:p.st=9) :
    Calls Tryz.prog 115 #[.pointer (some ⟨g,0,none⟩),.agg #[.int .i64 x.f0,.string x.f1,.int .i64 x.f2],.bool code] w (StepPost bd g vC vT vW ({ p with par:=x.f1 }) (fol code 13) w):=by
  have hmf:∀ (fn:Fn) (first cap:Array Value) (w:World),(Instr.makeFunc fn first cap).run Tryz.prog w=.ok (.func fn first cap) w:=fun _ _ _ _=>rfl
  have HP:=sd hp;have HNE:=sd (show ¬ w.heap.size=g from fun h=>by have:=blk_lt hp.blk;omega);have HNW:=sd (Kd.R_lt HP.out.rW);have HF:=sd (FP.refl bd g vC vT vW w);clear hp;generalize hQ:StepPost bd g vC vT vW ({ p with par:=x.f1 }) (fol code 13) w=Post;have HQ:=sd hQ;clear hQ;go_enter Tryz.func115,Tryz.ntmps115
  go_upto_region 1 with (fail)
  have hB1:=below_alloc (Below.refl w.heap.size w) (Obj.cells #[Value.int IntKind.i64 x.f0,Value.string x.f1,Value.int IntKind.i64 x.f2] 73);have b0:(w.alloc (Obj.cells #[Value.int IntKind.i64 x.f0,Value.string x.f1,Value.int IntKind.i64 x.f2] 73)).heap[w.heap.size]?=some (.cells #[Value.int IntKind.i64 x.f0,Value.string x.f1,Value.int IntKind.i64 x.f2] 73 (0,0)):=blk_new _ _;replace HP:=sd (HP.out.below hB1);replace HF:=sd (HF.out.below hB1 hbd);generalize w.alloc (Obj.cells #[Value.int IntKind.i64 x.f0,Value.string x.f1,Value.int IntKind.i64 x.f2] 73)=w1 at *;obtain ⟨gw,hgw⟩:∃ gw,gw=w.heap.size:=⟨_,rfl⟩
  have hgg:gw≠g:=by have:=blk_lt HP.out.blk;have:=hB1.size;intro h;rw [hgw] at h;exact absurd h (HNE.out)
  have HGN:=sd (show some gw≠Value.ownBlock vW from fun e=>by have:=HNW.out gw e.symm;omega);clear HNW;rw [← hgw] at b0 ⊢;have BW:=sd b0;have HB1:=sd hB1;clear b0 hB1 hgw;obtain ⟨⟨k0,k1,k2,k3,k4,k5,k6⟩,f0,f1,f2,f3,f4,f5,f6⟩:=HP.out.facts;rw [hst] at k5;obtain ⟨w0_,w1_,w2_,_,_,_⟩:=bk3 BW;go_wp2_with fail
  replace HP:=sd (HP.out.set 3 (.string x.f1) { p with par:=x.f1 } rfl rfl rfl rfl);replace HF:=sd (FP.set (o:=3) HF.out HP.out.hbd (.string x.f1));generalize w1.setCell ⟨g,3,none⟩ (.string x.f1)=w2 at HP HF ⊢;refine (follow_calls _ 13 _).mono ?_;rintro e wn ⟨rfl,hd⟩;obtain ⟨⟨nd,rfl⟩⟩:=hd;replace HP:=sd (HP.out.below (pw_below_drewN (Below.refl _ _) nd));replace HF:=sd (HF.out.below (pw_below_drewN (Below.refl _ _) nd) hbd);generalize w2.drewN nd=w3 at HP HF ⊢;go_wp2_with fail
  rw [← HQ.out];exact ⟨by (try rfl),⟨_,_,_,HP.out⟩,HF.out⟩
theorem tail_10 (bd g:Nat) (p:PR) (vC vT vW:Value) (x:S73) (code:Bool) (w:World) (hp:RP w bd g p vC vT vW) (hbd:bd≤w.heap.size) (hst:p.st=10) (hln:p.tg.length≤1000000) :
    Calls Tryz.prog 115 #[.pointer (some ⟨g,0,none⟩),.agg #[.int .i64 x.f0,.string x.f1,.int .i64 x.f2],.bool code] w (StepPost bd g vC vT vW ({ p with tg:=p.tg++[⟨x.f1,⟨#[]⟩⟩] }) (fol code 11) w):=by
  have hmf:∀ (fn:Fn) (first cap:Array Value) (w:World),(Instr.makeFunc fn first cap).run Tryz.prog w=.ok (.func fn first cap) w:=fun _ _ _ _=>rfl
  have HP:=sd hp;have HLEN:=sd hln;clear hln;obtain ⟨va,vc,hvt⟩:=Kd.R_slice HP.out.rT;subst hvt;have HNE:=sd (show ¬ w.heap.size=g from fun h=>by have:=blk_lt hp.blk;omega);have HNW:=sd (Kd.R_lt HP.out.rW);have HF:=sd (FP.refl bd g vC (.slice va p.tg.length vc) vW w);clear hp;generalize hQ:StepPost bd g vC (.slice va p.tg.length vc) vW ({ p with tg:=p.tg++[⟨x.f1,⟨#[]⟩⟩] }) (fol code 11) w=Post;have HQ:=sd hQ;clear hQ;go_enter Tryz.func115,Tryz.ntmps115
  go_upto_region 1 with (fail)
  have hB1:=below_alloc (Below.refl w.heap.size w) (Obj.cells #[Value.int IntKind.i64 x.f0,Value.string x.f1,Value.int IntKind.i64 x.f2] 73);have b0:(w.alloc (Obj.cells #[Value.int IntKind.i64 x.f0,Value.string x.f1,Value.int IntKind.i64 x.f2] 73)).heap[w.heap.size]?=some (.cells #[Value.int IntKind.i64 x.f0,Value.string x.f1,Value.int IntKind.i64 x.f2] 73 (0,0)):=blk_new _ _;replace HP:=sd (HP.out.below hB1);replace HF:=sd (HF.out.below hB1 hbd);generalize w.alloc (Obj.cells #[Value.int IntKind.i64 x.f0,Value.string x.f1,Value.int IntKind.i64 x.f2] 73)=w1 at *;obtain ⟨gw,hgw⟩:∃ gw,gw=w.heap.size:=⟨_,rfl⟩
  have hgg:gw≠g:=by have:=blk_lt HP.out.blk;have:=hB1.size;intro h;rw [hgw] at h;exact absurd h (HNE.out)
  have HGN:=sd (show some gw≠Value.ownBlock vW from fun e=>by have:=HNW.out gw e.symm;omega);clear HNW;rw [← hgw] at b0 ⊢;have BW:=sd b0;have HB1:=sd hB1;clear b0 hB1 hgw;obtain ⟨⟨k0,k1,k2,k3,k4,k5,k6⟩,f0,f1,f2,f3,f4,f5,f6⟩:=HP.out.facts;rw [hst] at k5;obtain ⟨w0_,w1_,w2_,_,_,_⟩:=bk3 BW;go_wp2_with fail
  clear k0 k1 k2 k3 k4 k5 k6 f0 f1 f2 f3 f4 f5 f6 w0_ w1_ w2_;replace HP:=sd (HP.out.below (below_drew1 (Below.refl _ _)));replace HF:=sd (HF.out.below (below_drew1 (Below.refl _ _)) hbd);replace BW:=sd (blk_below BW.out (below_drew1 (Below.refl _ _)));obtain ⟨⟨k0,k1,k2,k3,k4,k5,k6⟩,f0,f1,f2,f3,f4,f5,f6⟩:=HP.out.facts;obtain ⟨w0_,w1_,w2_,_,_,_⟩:=bk3 BW;refine start_ (n:=15) (S:=fun w'=>w'.cell? ⟨g,4,none⟩=some (.slice va p.tg.length vc)∧w'.cell? ⟨gw,1,none⟩=some (.string x.f1)) (ds:=[10,14]) #[false,false,false,false,false,false,false,false,false,false,false,false,false,false,false] (by kernel_rfl) rfl rfl ⟨k4,w1_⟩ (fun hHeld=>?_);generalize w1.drew=w9 at HP HF BW k0 k1 k2 k3 k4 k5 k6 f0 f1 f2 f3 f4 f5 f6 w0_ w1_ w2_ hHeld ⊢;refine pB 0 80 ?_;refine pB 1 81 ?_;refine pB 2 82 ?_;refine pB 3 83 ?_;refine pB 4 84 ?_;refine pB 6 86 ?_;refine tB 5 85 hHeld ?_;refine tB 7 87 hHeld ?_;refine pB 8 88 ?_;refine one_ (i:=9) (N:=some 89) #[true,true,true,true,true,true,true,true,true,true,false,false,false,false,false] rfl rfl (by kernel_rfl) (by decide) (fun K hK=>?_);refine value_ (v:=.slice (some ⟨w9.heap.size,0,none⟩) 1 1) (w1:=w9.alloc (.cells #[.string x.f1,.string ⟨#[]⟩] 50)) (by rfl) rfl (by go_simp) ?_;have hb9:=below_alloc (Below.refl w9.heap.size w9) (.cells #[.string x.f1,.string ⟨#[]⟩] 50);refine hK.out _ _ ⟨pw_cell_below hb9 hHeld.1,pw_cell_below hb9 hHeld.2⟩ (fun hHeld=>?_);clear hK K hb9;refine nA 89 ?_;refine last_ (i:=10) (N:=some 90) #[true,true,true,true,true,true,true,true,true,true,true,false,false,false,false] rfl rfl (by kernel_rfl) (by decide) (fun K hK=>?_);refine Kd.R_append_step (w0:=w9) k50 bd (by rfl) (.tmp 85) (.tmp 89) 23 50 _ 32 rfl Tryz.underlying23 info50 rfl (by decide) (by decide) (.slice va p.tg.length vc) p.tg ⟨x.f1,⟨#[]⟩⟩ [.string x.f1,.string ⟨#[]⟩] (fun _=>True) (fun _=>False) rfl rfl (k50_mkM _ _ _ _) (fun k hk=>hk.elim) (fun _ _=>trivial) HP.out.rT (Below.refl _ _) (below_base HF.out.b hbd) (by have:=HLEN.out;omega) ?_;intro v1 w10 hR hb hg hat;obtain ⟨va4,vc4,rfl⟩:=Kd.R_slice hR;rw [List.length_append,List.length_singleton] at hR ⊢;refine hK.out _ _ ?_;clear hK K;refine nA 90 ?_;refine pB 11 91 ?_;refine pB 12 92 ?_;refine pB 13 93 ?_;have hB4:=blk_grown HP.out.blk hg (Kd.R_ne HP.out.rT HP.out.blk (by decide));have hs4:w10.cell? ⟨g,4,none⟩=some (.slice va p.tg.length vc):=(blk_cell hB4 4).trans rfl;have hf4:=blk_frozen hB4 4;refine last_ (i:=14) (N:=none) #[true,true,true,true,true,true,true,true,true,true,true,true,true,true,true] rfl rfl (by kernel_rfl) (by decide) (fun K hK=>?_);refine skip_ (w1:=w10.setCell ⟨g,4,none⟩ (.slice va4 (p.tg.length+1) vc4)) (by rfl) rfl (by go_simp;try rfl) ?_;refine hK.out _ _ ?_;clear hK K;refine done_ (by kernel_rfl) ?_;replace HF:=sd (FP.set (o:=4) (FP.grownT HF.out hb hg) HP.out.hbd (.slice va4 (p.tg.length+1) vc4));replace HP:=sd (RP.growT HP.out hR hg);clear hB4 hs4 hf4 hb hg hat hR k0 k1 k2 k3 k4 k5 k6 f0 f1 f2 f3 f4 f5 f6 w0_ w1_ w2_ hHeld;generalize w10.setCell ⟨g,4,none⟩ (.slice va4 (p.tg.length+1) vc4)=w11 at HP HF ⊢;go_wp2_with fail
  refine (follow_calls _ 11 _).mono ?_;rintro e wn ⟨rfl,hd⟩;obtain ⟨⟨nd,rfl⟩⟩:=hd;replace HP:=sd (HP.out.below (pw_below_drewN (Below.refl _ _) nd));replace HF:=sd (HF.out.below (pw_below_drewN (Below.refl _ _) nd) hbd);generalize w11.drewN nd=w12 at HP HF ⊢;go_wp2_with fail
  rw [← HQ.out];exact ⟨by (try rfl),⟨_,_,_,HP.out⟩,HF.out⟩
theorem tail_12 (bd g:Nat) (p:PR) (vC vT vW:Value) (x:S73) (code:Bool) (w:World) (hp:RP w bd g p vC vT vW) (hbd:bd≤w.heap.size) (hst:p.st=12) (hn:0 < p.tg.length) :
    Calls Tryz.prog 115 #[.pointer (some ⟨g,0,none⟩),.agg #[.int .i64 x.f0,.string x.f1,.int .i64 x.f2],.bool code] w (StepPost bd g vC vT vW ({ p with tg:=p.tg.set (p.tg.length - 1) { rd_T50 p.tg ((p.tg.length - 1:Nat):Int) with f1:=x.f1 } }) (fol code 13) w):=by
  have hmf:∀ (fn:Fn) (first cap:Array Value) (w:World),(Instr.makeFunc fn first cap).run Tryz.prog w=.ok (.func fn first cap) w:=fun _ _ _ _=>rfl
  have HP:=sd hp;obtain ⟨gc,cap,hvt,hgc,_,_⟩:=Kd.R_form HP.out.rT hn;subst hvt;have HN:=sd hn;have HGC:=sd hgc
  have hl:p.tg.length≤9223372036854775807:=by
    obtain ⟨A,c,_,_,hC⟩:=Kd.R_reads HP.out.rT;exact hC.2.1
  have HL:=sd hl;clear hn hgc hl;have HNE:=sd (show ¬ w.heap.size=g from fun h=>by have:=blk_lt hp.blk;omega);have HNW:=sd (Kd.R_lt HP.out.rW);have HF:=sd (FP.refl bd g vC (.slice (some ⟨gc,0,none⟩) p.tg.length cap) vW w);clear hp;generalize hQ:StepPost bd g vC (.slice (some ⟨gc,0,none⟩) p.tg.length cap) vW ({ p with tg:=p.tg.set (p.tg.length - 1) { rd_T50 p.tg ((p.tg.length - 1:Nat):Int) with f1:=x.f1 } }) (fol code 13) w=Post;have HQ:=sd hQ;clear hQ;go_enter Tryz.func115,Tryz.ntmps115
  go_upto_region 1 with (fail)
  have hB1:=below_alloc (Below.refl w.heap.size w) (Obj.cells #[Value.int IntKind.i64 x.f0,Value.string x.f1,Value.int IntKind.i64 x.f2] 73);have b0:(w.alloc (Obj.cells #[Value.int IntKind.i64 x.f0,Value.string x.f1,Value.int IntKind.i64 x.f2] 73)).heap[w.heap.size]?=some (.cells #[Value.int IntKind.i64 x.f0,Value.string x.f1,Value.int IntKind.i64 x.f2] 73 (0,0)):=blk_new _ _;replace HP:=sd (HP.out.below hB1);replace HF:=sd (HF.out.below hB1 hbd);generalize w.alloc (Obj.cells #[Value.int IntKind.i64 x.f0,Value.string x.f1,Value.int IntKind.i64 x.f2] 73)=w1 at *;obtain ⟨gw,hgw⟩:∃ gw,gw=w.heap.size:=⟨_,rfl⟩
  have hgg:gw≠g:=by have:=blk_lt HP.out.blk;have:=hB1.size;intro h;rw [hgw] at h;exact absurd h (HNE.out)
  have HGN:=sd (show some gw≠Value.ownBlock vW from fun e=>by have:=HNW.out gw e.symm;omega);clear HNW;rw [← hgw] at b0 ⊢;have BW:=sd b0;have HB1:=sd hB1;clear b0 hB1 hgw;obtain ⟨⟨k0,k1,k2,k3,k4,k5,k6⟩,f0,f1,f2,f3,f4,f5,f6⟩:=HP.out.facts;rw [hst] at k5;obtain ⟨w0_,w1_,w2_,_,_,_⟩:=bk3 BW;obtain ⟨m,hm⟩:∃ m,p.tg.length - 1=m:=⟨_,rfl⟩
  rw [hm] at HQ;have hml:p.tg.length=m+1:=by have:=HN.out;omega
  obtain ⟨c,hc⟩:∃ c,rd_T50 p.tg (m:Int)=c:=⟨_,rfl⟩
  rw [hc] at HQ;clear hm;have hw:wrap64 ((p.tg.length:Int) - 1)=(m:Int):=by have:=HL.out;unfold wrap64;omega
  have h0:(0:Int)≤(m:Int):=by omega
  have h1:(m:Int) < (p.tg.length:Int):=by omega
  have HML:=sd hml;have HCc:=sd hc;clear hml hc;go_wp2_with fail
  clear k0 k1 k2 k3 k4 k5 k6 f0 f1 f2 f3 f4 f5 f6 w0_ w1_ w2_;replace HP:=sd (HP.out.below (below_drew1 (Below.refl _ _)));replace HF:=sd (HF.out.below (below_drew1 (Below.refl _ _)) hbd);replace BW:=sd (blk_below BW.out (below_drew1 (Below.refl _ _)));obtain ⟨⟨k0,k1,k2,k3,k4,k5,k6⟩,f0,f1,f2,f3,f4,f5,f6⟩:=HP.out.facts;obtain ⟨w0_,w1_,w2_,_,_,_⟩:=bk3 BW;refine start_ (n:=17) (S:=fun w'=>w'.cell? ⟨g,4,none⟩=some (.slice (some ⟨gc,0,none⟩) p.tg.length cap)∧w'.cell? ⟨gw,1,none⟩=some (.string x.f1)) (ds:=[16]) #[false,false,false,false,false,false,false,false,false,false,false,false,false,false,false,false,false] (by kernel_rfl) rfl rfl ⟨k4,w1_⟩ (fun hHeld=>?_);generalize w1.drew=w9 at HP HF BW k0 k1 k2 k3 k4 k5 k6 f0 f1 f2 f3 f4 f5 f6 w0_ w1_ w2_ hHeld ⊢;refine pB 0 109 ?_;refine pB 1 110 ?_;refine pB 2 111 ?_;refine pB 3 112 ?_;refine pB 5 114 ?_;refine pB 6 115 ?_;refine pB 7 116 ?_;refine pB 8 117 ?_;refine pB 12 121 ?_;refine tB 4 113 hHeld ?_;refine tB 9 118 hHeld ?_;refine tB 13 122 hHeld ?_;refine pB 10 119 ?_;refine pB 11 120 ?_;refine pB 14 123 ?_;refine pB 15 124 ?_;obtain ⟨cc,hcl,hM,hcc,hfr⟩:=Kd.R_elem HP.out.rT z50 (m:Int) (by omega) h1
  have hce:cc=[Value.string c.f0,.string c.f1]:=by
    have:=k50_openM hM;rw [this,← HCc.out];rfl
  subst hce;have e1:w9.cell? ⟨gc,m * 2+1,none⟩=some (.string c.f1):=hcc 1 _ rfl;have e2:w9.frozen? ⟨gc,m * 2+1,none⟩=false:=hfr 1;clear hcl hM hcc hfr;refine last_ (i:=16) (N:=none) #[true,true,true,true,true,true,true,true,true,true,true,true,true,true,true,true,true] rfl rfl (by kernel_rfl) (by decide) (fun K hK=>?_);refine skip_ (w1:=w9.setCell ⟨gc,m * 2+1,none⟩ (.string x.f1)) (by rfl) rfl (by go_simp;try rfl) ?_;refine hK.out _ _ ?_;clear hK K;refine done_ (by kernel_rfl) ?_;replace HF:=sd (FP.far (o:=m * 2+1) HF.out HGC.out (Or.inr rfl) (.string x.f1));replace HP:=sd (RP.elemT (j:=1) (u:=.string x.f1) (x':={ c with f1:=x.f1 }) HP.out (by have:=HML.out;omega) HCc.out (by decide) rfl);clear e1 e2 k0 k1 k2 k3 k4 k5 k6 f0 f1 f2 f3 f4 f5 f6 w0_ w1_ w2_ hHeld;generalize w9.setCell ⟨gc,m * 2+1,none⟩ (.string x.f1)=w11 at HP HF ⊢;go_wp2_with fail
  refine (follow_calls _ 13 _).mono ?_;rintro e wn ⟨rfl,hd⟩;obtain ⟨⟨nd,rfl⟩⟩:=hd;replace HP:=sd (HP.out.below (pw_below_drewN (Below.refl _ _) nd));replace HF:=sd (HF.out.below (pw_below_drewN (Below.refl _ _) nd) hbd);generalize w11.drewN nd=w12 at HP HF ⊢;go_wp2_with fail
  rw [← HQ.out];exact ⟨by (try rfl),⟨_,_,_,HP.out⟩,HF.out⟩
def moveR (k:Nat) (p:PR) (x:S73) (code:Bool):Option (PR×Int) :=
  if p.st=0 then some (p,fol (keyB x (⟨#[114,117,108,101]⟩:ByteArray)) 1) else
  if p.st=1 then some ({ p with nm:=x.f1 },fol code 2) else
  if p.st=2 then some (p,fol (keyB x (⟨#[105,102]⟩:ByteArray)) 3) else
  if p.st=3 then (if p.cs.length≤1000000 then some ({ p with cs:=p.cs++[⟨numS fieldL x.f1 0,0,⟨#[]⟩,0⟩] },fol (decide (x.f0=1∧numS fieldL x.f1 0 > 0)) 4) else none) else
  if p.st=4 then (if 0 < p.cs.length then (rules_suits.f k (rd_T48 p.cs ((p.cs.length - 1:Nat):Int)).f0 (numS opL x.f1 0)).bind fun b=>some ({ p with cs:=p.cs.set (p.cs.length - 1) { rd_T48 p.cs ((p.cs.length - 1:Nat):Int) with f1:=numS opL x.f1 0 } },fol (decide (x.f0=1) && b) 5) else none) else
  if p.st=5 then (if p.ws.length≤1000000∧0 < p.cs.length then some ({ p with ws:=p.ws++[x] },if (rd_T48 p.cs ((p.cs.length - 1:Nat):Int)).f0=1∨(rd_T48 p.cs ((p.cs.length - 1:Nat):Int)).f0=4 then fol (decide (x.f0=2)) 6 else fol (decide (x.f0=3)) 6) else none) else
  if p.st=6 then some (p,if keyB x (⟨#[97,110,100]⟩:ByteArray)=true then 3 else fol (keyB x (⟨#[116,104,101,110]⟩:ByteArray)) 7) else
  if p.st=7 then some ({ p with acc:=x.f1 },fol code 8) else
  if p.st=8 then some (p,if keyB x (⟨#[112,97,114,116,121]⟩:ByteArray)=true then 9 else fol (keyB x (⟨#[116,97,103]⟩:ByteArray)) 10) else
  if p.st=9 then some ({ p with par:=x.f1 },fol code 13) else
  if p.st=10 then (if p.tg.length≤1000000 then some ({ p with tg:=p.tg++[⟨x.f1,⟨#[]⟩⟩] },fol code 11) else none) else
  if p.st=11 then some (p,fol (decide (x.f0=4) && (x.f1.toList == ([61]:List UInt8))) 12) else
  if p.st=12 then (if 0 < p.tg.length then some ({ p with tg:=p.tg.set (p.tg.length - 1) { rd_T50 p.tg ((p.tg.length - 1:Nat):Int) with f1:=x.f1 } },fol code 13) else none) else
  if p.st=13 then some (p,fol (keyB x (⟨#[116,97,103]⟩:ByteArray)) 10) else none
def valL (k:Nat):List S73→Nat→List S48→Option (List S48×Int×Int)
 |[],_,cs=>some (cs,0,0)
 |x :: r,i,cs=>if i < cs.length then (valC k (rd_T48 cs (i:Int)) x).bind fun y=>if y.2=0 then valL k r (i+1) (cs.set i y.1) else some (cs.set i y.1,x.f2,y.2) else none
theorem gl_bd {bd:Nat} {w w':World} (h:Gl w) (hb:Below bd w w') (hl:GlLt bd):Gl w':=by
  obtain ⟨a0,a1,a2⟩:=hl;obtain ⟨⟨t1,t2⟩,⟨s1,s2⟩,⟨m1,m,m2⟩⟩:=h;refine ⟨⟨Nat.lt_of_lt_of_le t1 hb.size,fun i hi=>?_⟩,⟨Nat.lt_of_lt_of_le s1 hb.size,fun c hc=>?_⟩,⟨Nat.lt_of_lt_of_le m1 hb.size,m,?_⟩⟩
  · rw [cell_bd hb (by omega)];exact t2 i hi
  · rw [cell_bd hb (by omega)];exact s2 c hc
  · rw [cell_bd hb (by omega)];exact m2
def ValPost (bd g:Nat) (vC vT vW:Value) (p':PR) (at_ er:Int) (w:World) (e:Ending) (w':World):Prop :=
  e=.returned (.tuple #[.int .i64 at_,.int .i64 er])∧(∃ vC' vT' vW',RP w' bd g p' vC' vT' vW')∧FP bd g vC vT vW w w'
def parL (k:Nat):List S73→PR→Option (PR×Int×Int)
 |[],p=>some (p,0,0)
 |x :: r,p=>(moveR k p x (codeX x)).bind fun y=>if y.2=14 then some (p,x.f2,27) else parL k r { y.1 with st:=y.2 }
end A
namespace A
open Go.RowKit B WW WL WM
theorem is_at {L:List S73} {i:Nat} {x:S73} {r:List S73} (h:L.drop i=x :: r) (hi:i≤100000) (w:ByteArray):rf48_Reader_is.f L (i:Int) false w=some (keyB x w,(if keyB x w=true then ((i+1:Nat):Int) else (i:Int)),false):=by
  obtain ⟨h1,h2,_⟩:=rd73_at h;unfold rf48_Reader_is.f;rw [if_neg (by decide),if_neg (by omega),if_pos (by omega),if_pos (by omega),h2,w_next i (by omega)];show _=some (decide (x.f0=1∧x.f1.toList=w.toList),(if decide (x.f0=1∧x.f1.toList=w.toList)=true then ((i+1:Nat):Int) else (i:Int)),false)
  by_cases a:x.f0=1
  · rw [if_pos a]
    by_cases b:x.f1.toList=w.toList
    · rw [if_pos b,decide_eq_true ⟨a,b⟩,if_pos rfl]
    · rw [if_neg b,decide_eq_false (fun q=>b q.2),if_neg (by decide)]
  · rw [if_neg a,decide_eq_false (fun q=>a q.1),if_neg (by decide)]
theorem keyB_iff (x:S73) (w:ByteArray):keyB x w=true ↔ x.f0=1∧x.f1.toList=w.toList:=decide_eq_true_iff
end A
namespace A
open Go.RowKit B WW WL WM
attribute [local go_sem] max2_int min2_int max_two min_two max_three min_three max_four min_four
set_option maxHeartbeats 8000000
set_option maxRecDepth 100000
section
variable {P:Program} {ops:Array Oper} {o:Oper} {rest:List Oper} {a:Act} {Q:Exit→Act→World→Prop} {Kc:Act→World→Prop}
theorem strs_app {w0 W:World} (base:Nat) (hgd:o.guard=none) (s x:Operand) (t:TypeId) (ho:o.op=.call { callee:=.builtin .append,args:=#[s,x],argTypes:=#[t,t] }) (ht:P.underlying t=some (.slice 9)) (hinfo:(P.info? 9).map (fun i=>(i.zero,i.size,i.bytes))=some (some (.string ⟨#[]⟩),1,16))
  (v:Value) (xs ys:List ByteArray) (hs:a.eval s=v) (hx:a.eval x=.slice (some ⟨W.heap.size,0,none⟩) ys.length ys.length) (HO:Kd.R Kd.string 9 W base (fun _=>True) v xs) (hys:ys.length≤1000) (hl:xs.length≤100000000) (HB:Below base w0 W) (hbase:base≤W.heap.size)
  (h:∀ v1 w1,Kd.R Kd.string 9 w1 base (fun _=>True) v1 (xs++ys)→Below base w0 w1→W.grownBy w1 v.ownBlock→wpList P ops Q rest (a.put o.dst v1) w1) :
  wpList P ops Q (o :: rest) a (W.alloc (.cells (ys.map Value.string).toArray 9)):=by
 have hb:=below_alloc (Below.refl W.heap.size W) (Obj.cells (ys.map Value.string).toArray 9);refine Kd.R_append_rows Kd.string (Rr:=fun x cs=>cs=[.string x]) (w0:=w0) base hgd s x t 9 (.string ⟨#[]⟩) 16 ho ht hinfo rfl (by decide) (by decide) v xs ys (some ⟨W.heap.size,0,none⟩) ys.length ys.length (fun _=>True) (fun _=>False) hs hx (Kd.R_below HO hb) (strs_C ys (by omega) W) (fun _ _ h=>h) (fun _ hk=>hk.elim) (fun _ _=>trivial) (HB.alloc hbase _) (Nat.le_trans hbase hb.size) (by omega) ?_;intro v1 w1 hR hB hg _;exact h v1 w1 hR hB (grown_alloc hg)
theorem strs_step {w0 W:World} (base:Nat) (hw:Region.wanted o (yielded ops a.tmps)=true) (s x:Operand) (t:TypeId) (ho:o.op=.call { callee:=.builtin .append,args:=#[s,x],argTypes:=#[t,t] }) (ht:P.underlying t=some (.slice 9)) (hinfo:(P.info? 9).map (fun i=>(i.zero,i.size,i.bytes))=some (some (.string ⟨#[]⟩),1,16))
  (v:Value) (xs ys:List ByteArray) (hs:a.eval s=v) (hx:a.eval x=.slice (some ⟨W.heap.size,0,none⟩) ys.length ys.length) (HO:Kd.R Kd.string 9 W base (fun _=>True) v xs) (hys:ys.length≤1000) (hl:xs.length≤100000000) (HB:Below base w0 W) (hbase:base≤W.heap.size)
  (h:∀ v1 w1,Kd.R Kd.string 9 w1 base (fun _=>True) v1 (xs++ys)→Below base w0 w1→W.grownBy w1 v.ownBlock→Kc (a.put o.dst v1) w1) :
  if Region.wanted o (yielded ops a.tmps)=true then Oper.wp P o a (W.alloc (.cells (ys.map Value.string).toArray 9)) Kc Q else Kc (a.put o.dst undef) (W.alloc (.cells (ys.map Value.string).toArray 9)):=by
 have hb:=below_alloc (Below.refl W.heap.size W) (Obj.cells (ys.map Value.string).toArray 9);refine Kd.R_append_rows_step Kd.string (Rr:=fun x cs=>cs=[.string x]) (w0:=w0) base hw s x t 9 (.string ⟨#[]⟩) 16 ho ht hinfo rfl (by decide) (by decide) v xs ys (some ⟨W.heap.size,0,none⟩) ys.length ys.length (fun _=>True) (fun _=>False) hs hx (Kd.R_below HO hb) (strs_C ys (by omega) W) (fun _ _ h=>h) (fun _ hk=>hk.elim) (fun _ _=>trivial) (HB.alloc hbase _) (Nat.le_trans hbase hb.size) (by omega) ?_;intro v1 w1 hR hB hg _;exact h v1 w1 hR hB (grown_alloc hg)
end
end A

end Go.Proofs.YtkbgkekegjfkfaaGreatDoor