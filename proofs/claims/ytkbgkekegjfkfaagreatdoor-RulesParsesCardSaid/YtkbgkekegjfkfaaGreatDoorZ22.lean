-- By pack.py, a program of this session's.
import Derived.Test.YtkbgkekegjfkfaaGreatDoorZ13
import Derived.Test.YtkbgkekegjfkfaaGreatDoorZ14
import Derived.Test.YtkbgkekegjfkfaaGreatDoorZ15
import Derived.Test.YtkbgkekegjfkfaaGreatDoorZ17
set_option linter.unusedVariables false
set_option linter.unusedSimpArgs false
namespace Go.Proofs.YtkbgkekegjfkfaaGreatDoor
namespace A
open Go.RowKit B WW WL WM
attribute [local go_sem] max2_int min2_int max_two min_two max_three min_three max_four min_four
set_option maxHeartbeats 8000000
set_option maxRecDepth 100000
theorem ascii_of {s:ByteArray} (h:∀ b∈s.data.toList,b.toNat < 128):∀ (j:Nat) b,s.data.toList[j]?=some b→b.toNat < 128:=fun j b hb=>h b (List.mem_of_getElem? hb)
theorem field_calls (x:ByteArray) (w:World) (hG:Gl w):Calls Tryz.prog 113 #[.string fieldB,.string x] w fun e w'=>e=.returned (.int .i64 (numS fieldL x 0))∧Below w.heap.size w w':=number_calls fieldB fieldL fieldB_L (by decide) (ascii_of fieldB_a) (by decide) x w hG
theorem op_calls (x:ByteArray) (w:World) (hG:Gl w):Calls Tryz.prog 113 #[.string opB,.string x] w fun e w'=>e=.returned (.int .i64 (numS opL x 0))∧Below w.heap.size w w':=number_calls opB opL opB_L (by decide) (ascii_of opB_a) (by decide) x w hG
theorem nmd_calls (L:List ByteArray) (s:ByteArray) (hL:(Lib.fields s.data.toList).map (fun l=>(⟨l.toArray⟩:ByteArray))=L) (hs:s.size < 4294967281) (ha:∀ b∈s.data.toList,b.toNat < 128) (n:Int) (x:ByteArray) (hx:nmd L n=some x) (w:World) (hG:Gl w) :
  Calls Tryz.prog 30 #[.string s,.int .i64 n] w fun e w'=>e=.returned (.string x)∧Below w.heap.size w w':=by
 unfold nmd at hx;split at hx
 case isFalse=>cases hx
 rename_i hn
 have e:n=((n.toNat - 1:Nat):Int)+1:=by omega
 rw [e];exact named_calls s L hL hs (ascii_of ha) (n.toNat - 1) x hx w hG (by omega)
theorem head_3 (bd g:Nat) (p:PR) (vC vT vW:Value) (x:S73) (code:Bool) (w:World) (hp:RP w bd g p vC vT vW) (hbd:bd≤w.heap.size) (hst:p.st=3) (hG:Gl w) (hln:p.cs.length≤1000000) :
    Calls Tryz.prog 81 #[.pointer (some ⟨g,0,none⟩),.agg #[.int .i64 x.f0,.string x.f1,.int .i64 x.f2],.bool code] w (StepPost bd g vC vT vW ({ p with cs:=p.cs++[⟨numS fieldL x.f1 0,0,⟨#[]⟩,0⟩] }) (fol (decide (x.f0=1∧numS fieldL x.f1 0 > 0)) 4) w):=by
  have hmf:∀ (fn:Fn) (first cap:Array Value) (w:World),(Instr.makeFunc fn first cap).run Tryz.prog w=.ok (.func fn first cap) w:=fun _ _ _ _=>rfl
  have HP:=sd hp;have HLEN:=sd hln;clear hln;have HG:=sd hG;clear hG;have HNE:=sd (show ¬ w.heap.size=g from fun h=>by have:=blk_lt hp.blk;omega);have HNW:=sd (Kd.R_lt HP.out.rW);have HF:=sd (FP.refl bd g vC vT vW w);clear hp;generalize hQ:StepPost bd g vC vT vW ({ p with cs:=p.cs++[⟨numS fieldL x.f1 0,0,⟨#[]⟩,0⟩] }) (fol (decide (x.f0=1∧numS fieldL x.f1 0 > 0)) 4) w=Post;have HQ:=sd hQ;clear hQ;go_enter Tryz.func81,Tryz.ntmps81
  go_upto_region 1 with (fail)
  have hB1:=below_alloc (Below.refl w.heap.size w) (Obj.cells #[Value.int IntKind.i64 x.f0,Value.string x.f1,Value.int IntKind.i64 x.f2] 73);have b0:(w.alloc (Obj.cells #[Value.int IntKind.i64 x.f0,Value.string x.f1,Value.int IntKind.i64 x.f2] 73)).heap[w.heap.size]?=some (.cells #[Value.int IntKind.i64 x.f0,Value.string x.f1,Value.int IntKind.i64 x.f2] 73 (0,0)):=blk_new _ _;replace HP:=sd (HP.out.below hB1);replace HF:=sd (HF.out.below hB1 hbd);generalize w.alloc (Obj.cells #[Value.int IntKind.i64 x.f0,Value.string x.f1,Value.int IntKind.i64 x.f2] 73)=w1 at *;obtain ⟨gw,hgw⟩:∃ gw,gw=w.heap.size:=⟨_,rfl⟩
  have hgg:gw≠g:=by have:=blk_lt HP.out.blk;have:=hB1.size;intro h;rw [hgw] at h;exact absurd h (HNE.out)
  have HGN:=sd (show some gw≠Value.ownBlock vW from fun e=>by have:=HNW.out gw e.symm;omega);clear HNW;rw [← hgw] at b0 ⊢;have BW:=sd b0;have HB1:=sd hB1;clear b0 hB1 hgw;obtain ⟨⟨k0,k1,k2,k3,k4,k5,k6⟩,f0,f1,f2,f3,f4,f5,f6⟩:=HP.out.facts;rw [hst] at k5;obtain ⟨w0_,w1_,w2_,_,_,_⟩:=bk3 BW;go_wp2_with fail
  refine (field_calls x.f1 w1 (gl_below HG.out HB1.out)).mono ?_;rintro e wn ⟨rfl,hb⟩;replace HP:=sd (HP.out.below hb);replace HF:=sd (HF.out.below hb hbd);replace BW:=sd (blk_below BW.out hb);clear hb k0 k1 k2 k3 k4 k5 k6 f0 f1 f2 f3 f4 f5 f6 w0_ w1_ w2_;obtain ⟨nf,hnf⟩:∃ n,numS fieldL x.f1 0=n:=⟨_,rfl⟩
  rw [hnf] at HQ ⊢;clear hnf;obtain ⟨⟨k0,k1,k2,k3,k4,k5,k6⟩,f0,f1,f2,f3,f4,f5,f6⟩:=HP.out.facts;obtain ⟨w0_,w1_,w2_,_,_,_⟩:=bk3 BW;by_cases e1:x.f0=1∧nf > 0
  · have q1:decide (x.f0=1)=true:=decide_eq_true e1.1
    have q2:decide (nf > 0)=true:=decide_eq_true e1.2;have q3:decide (0 < nf)=true:=decide_eq_true e1.2;rw [decide_eq_true e1] at HQ;go_wp2_with ((with_reducible refine gate_builtin (b:=.append) (xs:=#[.tmp 45,.tmp 48]) rfl ?_);at_builtin;refine Kd.R_append k48 (w0:=wn) bd rfl (.tmp 45) (.tmp 48) 22 48 (.agg #[(.int .i64 0),(.int .i64 0),(.string ⟨#[]⟩),(.int .i64 0)]) 40 rfl Tryz.underlying22 info48 rfl (by decide) (by omega) vC p.cs ⟨nf,0,⟨#[]⟩,0⟩ [.int .i64 nf,.int .i64 0,.string ⟨#[]⟩,.int .i64 0] (fun _=>True) (fun _=>False) rfl rfl (k48_mkM _ _ _ _) (fun _ hk=>hk.elim) (fun _ _=>trivial) HP.out.rC (Below.refl _ _) (below_base HF.out.b hbd) (by have:=HLEN.out;omega) ?_;intro v1 w4 hR hb hg hat;obtain ⟨va,vc,rfl⟩:=Kd.R_slice hR;rw [List.length_append,List.length_singleton] at hR ⊢;replace HF:=sd (FP.grownC HF.out hb hg);have hB4:=blk_grown HP.out.blk hg (Kd.R_ne HP.out.rC HP.out.blk (by decide));replace BW:=sd (blk_grown BW.out hg (Kd.R_ne HP.out.rC BW.out (by decide)));replace HF:=sd (FP.set (o:=1) HF.out HP.out.hbd (.slice va (p.cs.length+1) vc));replace HP:=sd (RP.growC HP.out hR hg);have c1_:=(blk_cell hB4 1).trans rfl;have c1f:=blk_frozen hB4 1;obtain ⟨w0_,w1_,w2_,_,_,_⟩:=bk3 BW;clear hB4 hb hg hat hR)
    generalize w4.setCell ⟨g,1,none⟩ (.slice va (p.cs.length+1) vc)=w5 at HP HF BW ⊢;refine (follow_calls _ 4 _).mono ?_;rintro e w6 ⟨rfl,hd⟩;obtain ⟨⟨nd,rfl⟩⟩:=hd;replace HP:=sd (HP.out.below (pw_below_drewN (Below.refl _ _) nd));replace HF:=sd (HF.out.below (pw_below_drewN (Below.refl _ _) nd) hbd);generalize w5.drewN nd=w6 at HP HF ⊢;go_wp2_with fail
    rw [← HQ.out];exact ⟨by (try rfl),⟨_,_,_,HP.out⟩,HF.out⟩
  rw [decide_eq_false e1] at HQ;by_cases e2:x.f0=1
  · have q1:decide (x.f0=1)=true:=decide_eq_true e2
    have q2:decide (nf > 0)=false:=decide_eq_false (fun h=>e1 ⟨e2,h⟩);have q3:decide (0 < nf)=false:=decide_eq_false (fun h=>e1 ⟨e2,h⟩);go_wp2_with ((with_reducible refine gate_builtin (b:=.append) (xs:=#[.tmp 45,.tmp 48]) rfl ?_);at_builtin;refine Kd.R_append k48 (w0:=wn) bd rfl (.tmp 45) (.tmp 48) 22 48 (.agg #[(.int .i64 0),(.int .i64 0),(.string ⟨#[]⟩),(.int .i64 0)]) 40 rfl Tryz.underlying22 info48 rfl (by decide) (by omega) vC p.cs ⟨nf,0,⟨#[]⟩,0⟩ [.int .i64 nf,.int .i64 0,.string ⟨#[]⟩,.int .i64 0] (fun _=>True) (fun _=>False) rfl rfl (k48_mkM _ _ _ _) (fun _ hk=>hk.elim) (fun _ _=>trivial) HP.out.rC (Below.refl _ _) (below_base HF.out.b hbd) (by have:=HLEN.out;omega) ?_;intro v1 w4 hR hb hg hat;obtain ⟨va,vc,rfl⟩:=Kd.R_slice hR;rw [List.length_append,List.length_singleton] at hR ⊢;replace HF:=sd (FP.grownC HF.out hb hg);have hB4:=blk_grown HP.out.blk hg (Kd.R_ne HP.out.rC HP.out.blk (by decide));replace BW:=sd (blk_grown BW.out hg (Kd.R_ne HP.out.rC BW.out (by decide)));replace HF:=sd (FP.set (o:=1) HF.out HP.out.hbd (.slice va (p.cs.length+1) vc));replace HP:=sd (RP.growC HP.out hR hg);have c1_:=(blk_cell hB4 1).trans rfl;have c1f:=blk_frozen hB4 1;obtain ⟨w0_,w1_,w2_,_,_,_⟩:=bk3 BW;clear hB4 hb hg hat hR)
    generalize w4.setCell ⟨g,1,none⟩ (.slice va (p.cs.length+1) vc)=w5 at HP HF BW ⊢;refine (follow_calls _ 4 _).mono ?_;rintro e w6 ⟨rfl,hd⟩;obtain ⟨⟨nd,rfl⟩⟩:=hd;replace HP:=sd (HP.out.below (pw_below_drewN (Below.refl _ _) nd));replace HF:=sd (HF.out.below (pw_below_drewN (Below.refl _ _) nd) hbd);generalize w5.drewN nd=w6 at HP HF ⊢;go_wp2_with fail
    rw [← HQ.out];exact ⟨by (try rfl),⟨_,_,_,HP.out⟩,HF.out⟩
  have q1:decide (x.f0=1)=false:=decide_eq_false e2;go_wp2_with ((with_reducible refine gate_builtin (b:=.append) (xs:=#[.tmp 45,.tmp 48]) rfl ?_);at_builtin;refine Kd.R_append k48 (w0:=wn) bd rfl (.tmp 45) (.tmp 48) 22 48 (.agg #[(.int .i64 0),(.int .i64 0),(.string ⟨#[]⟩),(.int .i64 0)]) 40 rfl Tryz.underlying22 info48 rfl (by decide) (by omega) vC p.cs ⟨nf,0,⟨#[]⟩,0⟩ [.int .i64 nf,.int .i64 0,.string ⟨#[]⟩,.int .i64 0] (fun _=>True) (fun _=>False) rfl rfl (k48_mkM _ _ _ _) (fun _ hk=>hk.elim) (fun _ _=>trivial) HP.out.rC (Below.refl _ _) (below_base HF.out.b hbd) (by have:=HLEN.out;omega) ?_;intro v1 w4 hR hb hg hat;obtain ⟨va,vc,rfl⟩:=Kd.R_slice hR;rw [List.length_append,List.length_singleton] at hR ⊢;replace HF:=sd (FP.grownC HF.out hb hg);have hB4:=blk_grown HP.out.blk hg (Kd.R_ne HP.out.rC HP.out.blk (by decide));replace BW:=sd (blk_grown BW.out hg (Kd.R_ne HP.out.rC BW.out (by decide)));replace HF:=sd (FP.set (o:=1) HF.out HP.out.hbd (.slice va (p.cs.length+1) vc));replace HP:=sd (RP.growC HP.out hR hg);have c1_:=(blk_cell hB4 1).trans rfl;have c1f:=blk_frozen hB4 1;obtain ⟨w0_,w1_,w2_,_,_,_⟩:=bk3 BW;clear hB4 hb hg hat hR)
  generalize w4.setCell ⟨g,1,none⟩ (.slice va (p.cs.length+1) vc)=w5 at HP HF BW ⊢;refine (follow_calls _ 4 _).mono ?_;rintro e w6 ⟨rfl,hd⟩;obtain ⟨⟨nd,rfl⟩⟩:=hd;replace HP:=sd (HP.out.below (pw_below_drewN (Below.refl _ _) nd));replace HF:=sd (HF.out.below (pw_below_drewN (Below.refl _ _) nd) hbd);generalize w5.drewN nd=w6 at HP HF ⊢;go_wp2_with fail
  rw [← HQ.out];exact ⟨by (try rfl),⟨_,_,_,HP.out⟩,HF.out⟩
theorem head_4 (bd g:Nat) (p:PR) (vC vT vW:Value) (x:S73) (code:Bool) (w:World) (hp:RP w bd g p vC vT vW) (hbd:bd≤w.heap.size) (hst:p.st=4) (hG:Gl w) (hn:0 < p.cs.length) (k:Nat) (b:Bool) (hsu:rules_suits.f k (rd_T48 p.cs ((p.cs.length - 1:Nat):Int)).f0 (numS opL x.f1 0)=some b) :
    Calls Tryz.prog 81 #[.pointer (some ⟨g,0,none⟩),.agg #[.int .i64 x.f0,.string x.f1,.int .i64 x.f2],.bool code] w (StepPost bd g vC vT vW ({ p with cs:=p.cs.set (p.cs.length - 1) { rd_T48 p.cs ((p.cs.length - 1:Nat):Int) with f1:=numS opL x.f1 0 } }) (fol (decide (x.f0=1) && b) 5) w):=by
  have hmf:∀ (fn:Fn) (first cap:Array Value) (w:World),(Instr.makeFunc fn first cap).run Tryz.prog w=.ok (.func fn first cap) w:=fun _ _ _ _=>rfl
  have HP:=sd hp;obtain ⟨gc,cap,rfl,hgc,_,_⟩:=Kd.R_form HP.out.rC hn;have HSU:=sd hsu;have HN:=sd hn;have HGC:=sd hgc;clear hsu hn hgc;have HG:=sd hG;clear hG;have HNE:=sd (show ¬ w.heap.size=g from fun h=>by have:=blk_lt hp.blk;omega);have HNW:=sd (Kd.R_lt HP.out.rW);have HF:=sd (FP.refl bd g (.slice (some ⟨gc,0,none⟩) p.cs.length cap) vT vW w);clear hp;generalize hQ:StepPost bd g (.slice (some ⟨gc,0,none⟩) p.cs.length cap) vT vW ({ p with cs:=p.cs.set (p.cs.length - 1) { rd_T48 p.cs ((p.cs.length - 1:Nat):Int) with f1:=numS opL x.f1 0 } }) (fol (decide (x.f0=1) && b) 5) w=Post;have HQ:=sd hQ;clear hQ;go_enter Tryz.func81,Tryz.ntmps81
  go_upto_region 1 with (fail)
  have hB1:=below_alloc (Below.refl w.heap.size w) (Obj.cells #[Value.int IntKind.i64 x.f0,Value.string x.f1,Value.int IntKind.i64 x.f2] 73);have b0:(w.alloc (Obj.cells #[Value.int IntKind.i64 x.f0,Value.string x.f1,Value.int IntKind.i64 x.f2] 73)).heap[w.heap.size]?=some (.cells #[Value.int IntKind.i64 x.f0,Value.string x.f1,Value.int IntKind.i64 x.f2] 73 (0,0)):=blk_new _ _;replace HP:=sd (HP.out.below hB1);replace HF:=sd (HF.out.below hB1 hbd);generalize w.alloc (Obj.cells #[Value.int IntKind.i64 x.f0,Value.string x.f1,Value.int IntKind.i64 x.f2] 73)=w1 at *;obtain ⟨gw,hgw⟩:∃ gw,gw=w.heap.size:=⟨_,rfl⟩
  have hgg:gw≠g:=by have:=blk_lt HP.out.blk;have:=hB1.size;intro h;rw [hgw] at h;exact absurd h (HNE.out)
  have HGN:=sd (show some gw≠Value.ownBlock vW from fun e=>by have:=HNW.out gw e.symm;omega);clear HNW;rw [← hgw] at b0 ⊢;have BW:=sd b0;have HB1:=sd hB1;clear b0 hB1 hgw;obtain ⟨⟨k0,k1,k2,k3,k4,k5,k6⟩,f0,f1,f2,f3,f4,f5,f6⟩:=HP.out.facts;rw [hst] at k5;obtain ⟨w0_,w1_,w2_,_,_,_⟩:=bk3 BW;go_wp2_with fail
  refine (last_calls bd g gc cap p vT vW _ HP.out HN.out).mono ?_;rintro e wn ⟨rfl,hd⟩;obtain ⟨⟨nd,rfl⟩⟩:=hd;replace HB1:=sd (pw_below_drewN HB1.out nd);replace HP:=sd (HP.out.below (pw_below_drewN (Below.refl _ _) nd));replace HF:=sd (HF.out.below (pw_below_drewN (Below.refl _ _) nd) hbd);replace BW:=sd (blk_below BW.out (pw_below_drewN (Below.refl _ _) nd));clear k0 k1 k2 k3 k4 k5 k6 f0 f1 f2 f3 f4 f5 f6 w0_ w1_ w2_;generalize w1.drewN nd=w2 at *;obtain ⟨w0_,w1_,w2_,_,_,_⟩:=bk3 BW;go_wp2_with fail
  refine (op_calls x.f1 w2 (gl_below HG.out HB1.out)).mono ?_;rintro e wn ⟨rfl,hb⟩;replace HP:=sd (HP.out.below hb);replace HF:=sd (HF.out.below hb hbd);replace BW:=sd (blk_below BW.out hb);clear hb w0_ w1_ w2_;obtain ⟨op,hop⟩:∃ n,numS opL x.f1 0=n:=⟨_,rfl⟩
  rw [hop] at HQ HSU ⊢;clear hop;obtain ⟨m,hm⟩:∃ m,p.cs.length - 1=m:=⟨_,rfl⟩
  rw [hm] at HQ HSU ⊢;have hml:m < p.cs.length:=by have:=HN.out;omega
  obtain ⟨c,hc⟩:∃ c,rd_T48 p.cs (m:Int)=c:=⟨_,rfl⟩
  rw [hc] at HQ HSU;clear hm;obtain ⟨cc,hcl,hM,hcc,hfr⟩:=Kd.R_elem HP.out.rC z48 (m:Int) (by omega) (by omega)
  have hce:cc=[Value.int .i64 c.f0,.int .i64 c.f1,.string c.f2,.int .i64 c.f3]:=by
    have:=k48_openM hM;rw [this,← hc];rfl
  subst hce;have e0:wn.cell? ⟨gc,m * 4,none⟩=some (.int .i64 c.f0):=hcc 0 _ rfl;have e1:wn.cell? ⟨gc,m * 4+1,none⟩=some (.int .i64 c.f1):=hcc 1 _ rfl;have e2:wn.frozen? ⟨gc,m * 4+1,none⟩=false:=hfr 1;clear hcl hM hcc hfr;obtain ⟨w0_,w1_,w2_,_,_,_⟩:=bk3 BW;go_wp2_with fail
  have hne:gw≠gc:=fun e=>Kd.R_ne HP.out.rC BW.out (by decide) (by rw [e];rfl)
  replace BW:=sd (blk_far (p:=⟨gc,m * 4+1,none⟩) BW.out hne (.int .i64 op));replace HF:=sd (FP.far (o:=m * 4+1) HF.out HGC.out (Or.inl rfl) (.int .i64 op));replace HP:=sd (RP.elemC (j:=1) (u:=.int .i64 op) (x':={ c with f1:=op }) HP.out hml hc (by decide) rfl);clear e0 e1 e2 w0_ w1_ w2_ hne;generalize wn.setCell ⟨gc,m * 4+1,none⟩ (.int .i64 op)=w4 at HP HF BW ⊢;obtain ⟨cc,hcl,hM,hcc,hfr⟩:=Kd.R_elem HP.out.rC z48 (m:Int) (by omega) (by rw [List.length_set];omega)
  have hce:cc=[Value.int .i64 c.f0,.int .i64 op,.string c.f2,.int .i64 c.f3]:=by
    have:=k48_openM hM
    have h2:(p.cs.set m { c with f1:=op }).getD (m:Int).toNat z48={ c with f1:=op }:=by
      rw [Int.toNat_natCast,List.getD_eq_getElem?_getD,List.getElem?_set_self hml];rfl
    rw [this,h2]
  subst hce;have e0:w4.cell? ⟨gc,m * 4,none⟩=some (.int .i64 c.f0):=hcc 0 _ rfl;have e1:w4.cell? ⟨gc,m * 4+1,none⟩=some (.int .i64 op):=hcc 1 _ rfl;clear hcl hM hcc hfr hc;obtain ⟨w0_,w1_,w2_,_,_,_⟩:=bk3 BW;have HS:=sd (fun W=>rules_suits.calls k c.f0 op b W HSU.out);by_cases ex:x.f0=1
  · have q1:decide (x.f0=1)=true:=decide_eq_true ex
    rw [q1,Bool.true_and] at HQ;repeat (go_quiet (first|(go_at_call 52;exact Calls.quiet_of ((HS.out _).mono fun e w' h=>⟨h.1,h.2.out⟩))|(go_at_call 112;exact Calls.quiet_of ((follow_calls _ _ _).mono fun e w' h=>⟨h.1,h.2.out⟩)));try go_wp2)
    rw [← HQ.out];exact ⟨by (try rfl),⟨_,_,_,HP.out.below (pw_below_drewN (Below.refl _ _) _)⟩,HF.out.below (pw_below_drewN (Below.refl _ _) _) hbd⟩
  have q1:decide (x.f0=1)=false:=decide_eq_false ex;rw [q1,Bool.false_and] at HQ;repeat (go_quiet (first|(go_at_call 52;exact Calls.quiet_of ((HS.out _).mono fun e w' h=>⟨h.1,h.2.out⟩))|(go_at_call 112;exact Calls.quiet_of ((follow_calls _ _ _).mono fun e w' h=>⟨h.1,h.2.out⟩)));try go_wp2)
  rw [← HQ.out];exact ⟨by (try rfl),⟨_,_,_,HP.out.below (pw_below_drewN (Below.refl _ _) _)⟩,HF.out.below (pw_below_drewN (Below.refl _ _) _) hbd⟩
theorem tail_5 (bd g:Nat) (p:PR) (vC vT vW:Value) (x:S73) (code:Bool) (w:World) (hp:RP w bd g p vC vT vW) (hbd:bd≤w.heap.size) (hst:p.st=5) (hln:p.ws.length≤1000000) (hn:0 < p.cs.length) :
    Calls Tryz.prog 115 #[.pointer (some ⟨g,0,none⟩),.agg #[.int .i64 x.f0,.string x.f1,.int .i64 x.f2],.bool code] w (StepPost bd g vC vT vW ({ p with ws:=p.ws++[x] }) (if (rd_T48 p.cs ((p.cs.length - 1:Nat):Int)).f0=1∨(rd_T48 p.cs ((p.cs.length - 1:Nat):Int)).f0=4 then fol (decide (x.f0=2)) 6 else fol (decide (x.f0=3)) 6) w):=by
  have hmf:∀ (fn:Fn) (first cap:Array Value) (w:World),(Instr.makeFunc fn first cap).run Tryz.prog w=.ok (.func fn first cap) w:=fun _ _ _ _=>rfl
  have HP:=sd hp;have HLEN:=sd hln;obtain ⟨gc,cap,hvc,hgc,_,_⟩:=Kd.R_form HP.out.rC hn;subst hvc;have HN:=sd hn;have HGC:=sd hgc;clear hln hn hgc;obtain ⟨va,vc,hvw⟩:=Kd.R_slice HP.out.rW;subst hvw;have HNE:=sd (show ¬ w.heap.size=g from fun h=>by have:=blk_lt hp.blk;omega);have HNW:=sd (Kd.R_lt HP.out.rW);have HF:=sd (FP.refl bd g (.slice (some ⟨gc,0,none⟩) p.cs.length cap) vT (.slice va p.ws.length vc) w);clear hp;generalize hQ:StepPost bd g (.slice (some ⟨gc,0,none⟩) p.cs.length cap) vT (.slice va p.ws.length vc) ({ p with ws:=p.ws++[x] }) (if (rd_T48 p.cs ((p.cs.length - 1:Nat):Int)).f0=1∨(rd_T48 p.cs ((p.cs.length - 1:Nat):Int)).f0=4 then fol (decide (x.f0=2)) 6 else fol (decide (x.f0=3)) 6) w=Post;have HQ:=sd hQ;clear hQ;go_enter Tryz.func115,Tryz.ntmps115
  go_upto_region 1 with (fail)
  have hB1:=below_alloc (Below.refl w.heap.size w) (Obj.cells #[Value.int IntKind.i64 x.f0,Value.string x.f1,Value.int IntKind.i64 x.f2] 73);have b0:(w.alloc (Obj.cells #[Value.int IntKind.i64 x.f0,Value.string x.f1,Value.int IntKind.i64 x.f2] 73)).heap[w.heap.size]?=some (.cells #[Value.int IntKind.i64 x.f0,Value.string x.f1,Value.int IntKind.i64 x.f2] 73 (0,0)):=blk_new _ _;replace HP:=sd (HP.out.below hB1);replace HF:=sd (HF.out.below hB1 hbd);generalize w.alloc (Obj.cells #[Value.int IntKind.i64 x.f0,Value.string x.f1,Value.int IntKind.i64 x.f2] 73)=w1 at *;obtain ⟨gw,hgw⟩:∃ gw,gw=w.heap.size:=⟨_,rfl⟩
  have hgg:gw≠g:=by have:=blk_lt HP.out.blk;have:=hB1.size;intro h;rw [hgw] at h;exact absurd h (HNE.out)
  have HGN:=sd (show some gw≠Value.ownBlock (.slice va p.ws.length vc) from fun e=>by have:=HNW.out gw e.symm;omega);clear HNW;rw [← hgw] at b0 ⊢;have BW:=sd b0;have HB1:=sd hB1;clear b0 hB1 hgw;obtain ⟨⟨k0,k1,k2,k3,k4,k5,k6⟩,f0,f1,f2,f3,f4,f5,f6⟩:=HP.out.facts;rw [hst] at k5;obtain ⟨w0_,w1_,w2_,_,_,_⟩:=bk3 BW;go_wp2_with fail
  clear k0 k1 k2 k3 k4 k5 k6 f0 f1 f2 f3 f4 f5 f6 w0_ w1_ w2_;replace HP:=sd (HP.out.below (below_drew1 (Below.refl _ _)));replace HF:=sd (HF.out.below (below_drew1 (Below.refl _ _)) hbd);replace BW:=sd (blk_below BW.out (below_drew1 (Below.refl _ _)));obtain ⟨⟨k0,k1,k2,k3,k4,k5,k6⟩,f0,f1,f2,f3,f4,f5,f6⟩:=HP.out.facts;obtain ⟨w0_,w1_,w2_,_,_,_⟩:=bk3 BW;refine start_ (n:=11) (S:=fun w'=>w'.cell? ⟨g,6,none⟩=some (.slice va p.ws.length vc)∧w'.cell? ⟨gw,0,none⟩=some (.int .i64 x.f0)∧w'.cell? ⟨gw,1,none⟩=some (.string x.f1)∧w'.cell? ⟨gw,2,none⟩=some (.int .i64 x.f2)) (ds:=[7,10]) #[false,false,false,false,false,false,false,false,false,false,false] (by kernel_rfl) rfl rfl ⟨k6,w0_,w1_,w2_⟩ (fun hHeld=>?_);generalize w1.drew=w9 at HP HF BW k0 k1 k2 k3 k4 k5 k6 f0 f1 f2 f3 f4 f5 f6 w0_ w1_ w2_ hHeld ⊢;refine pB 0 15 ?_;refine pB 1 16 ?_;refine pB 2 17 ?_;refine pB 3 18 ?_;refine tB 4 19 hHeld ?_;refine tB 5 20 hHeld ?_;refine one_ (i:=6) (N:=some 21) #[true,true,true,true,true,true,true,false,false,false,false] rfl rfl (by kernel_rfl) (by decide) (fun K hK=>?_);refine value_ (v:=.slice (some ⟨w9.heap.size,0,none⟩) 1 1) (w1:=w9.alloc (.cells #[.int .i64 x.f0,.string x.f1,.int .i64 x.f2] 73)) (by rfl) rfl (by go_simp) ?_;have hb9:=below_alloc (Below.refl w9.heap.size w9) (.cells #[.int .i64 x.f0,.string x.f1,.int .i64 x.f2] 73);refine hK.out _ _ ⟨pw_cell_below hb9 hHeld.1,pw_cell_below hb9 hHeld.2.1,pw_cell_below hb9 hHeld.2.2.1,pw_cell_below hb9 hHeld.2.2.2⟩ (fun hHeld=>?_);clear hK K hb9;refine nA 21 ?_;refine last_ (i:=7) (N:=some 22) #[true,true,true,true,true,true,true,true,false,false,false] rfl rfl (by kernel_rfl) (by decide) (fun K hK=>?_);refine Kd.R_append_step (w0:=w9) k73 bd (by rfl) (.tmp 19) (.tmp 21) 66 73 _ 32 rfl Tryz.underlying66 info73 rfl (by decide) (by decide) (.slice va p.ws.length vc) p.ws x [.int .i64 x.f0,.string x.f1,.int .i64 x.f2] (fun _=>True) (fun _=>False) rfl rfl (k73_mkM _ _ _ _) (fun k hk=>hk.elim) (fun _ _=>trivial) HP.out.rW (Below.refl _ _) (below_base HF.out.b hbd) (by have:=HLEN.out;omega) ?_;intro v1 w10 hR hb hg hat;obtain ⟨va4,vc4,rfl⟩:=Kd.R_slice hR;rw [List.length_append,List.length_singleton] at hR ⊢;refine hK.out _ _ ?_;clear hK K;refine nA 22 ?_;refine pB 8 23 ?_;refine pB 9 24 ?_;have hB4:=blk_grown HP.out.blk hg (Kd.R_ne HP.out.rW HP.out.blk (by decide));have hs4:w10.cell? ⟨g,6,none⟩=some (.slice va p.ws.length vc):=(blk_cell hB4 6).trans rfl;have hf4:=blk_frozen hB4 6;refine last_ (i:=10) (N:=none) #[true,true,true,true,true,true,true,true,true,true,true] rfl rfl (by kernel_rfl) (by decide) (fun K hK=>?_);refine skip_ (w1:=w10.setCell ⟨g,6,none⟩ (.slice va4 (p.ws.length+1) vc4)) (by rfl) rfl (by go_simp;try rfl) ?_;refine hK.out _ _ ?_;clear hK K;refine done_ (by kernel_rfl) ?_;replace BW:=sd (blk_far (p:=⟨g,6,none⟩) (blk_grown BW.out hg HGN.out) hgg (.slice va4 (p.ws.length+1) vc4));replace HF:=sd (FP.set (o:=6) (FP.grownW HF.out hb hg) HP.out.hbd (.slice va4 (p.ws.length+1) vc4));replace HP:=sd (RP.growW HP.out hR hg);clear hB4 hs4 hf4 hb hg hat hR k0 k1 k2 k3 k4 k5 k6 f0 f1 f2 f3 f4 f5 f6 w0_ w1_ w2_ hHeld;generalize w10.setCell ⟨g,6,none⟩ (.slice va4 (p.ws.length+1) vc4)=w11 at HP HF BW ⊢;go_wp2_with fail
  refine (last_calls bd g gc cap _ vT _ _ HP.out HN.out).mono ?_;rintro e wn ⟨rfl,hd⟩;obtain ⟨⟨nd,rfl⟩⟩:=hd;replace HP:=sd (HP.out.below (pw_below_drewN (Below.refl _ _) nd));replace HF:=sd (HF.out.below (pw_below_drewN (Below.refl _ _) nd) hbd);replace BW:=sd (blk_below BW.out (pw_below_drewN (Below.refl _ _) nd));generalize w11.drewN nd=w12 at HP HF BW ⊢;obtain ⟨m,hm⟩:∃ m,p.cs.length - 1=m:=⟨_,rfl⟩
  have hml:m < p.cs.length:=by have:=HN.out;omega
  obtain ⟨c,hc⟩:∃ c,rd_T48 p.cs (m:Int)=c:=⟨_,rfl⟩
  rw [hm,hc] at HQ;dsimp only
  rw [hm];obtain ⟨cc,hcl,hM,hcc,hfr⟩:=Kd.R_elem HP.out.rC z48 (m:Int) (by omega) (by show (m:Int) < (p.cs.length:Int);omega)
  have hce:cc=[Value.int .i64 c.f0,.int .i64 c.f1,.string c.f2,.int .i64 c.f3]:=by
    have:=k48_openM hM;rw [this,← hc];rfl
  subst hce;have e0:w12.cell? ⟨gc,m * 4,none⟩=some (.int .i64 c.f0):=hcc 0 _ rfl;clear hcl hM hcc hfr hc hm hml;obtain ⟨w0_,w1_,w2_,_,_,_⟩:=bk3 BW;go_wp2_with fail
  refine (count_calls c.f0 w12).mono ?_;rintro e wn ⟨rfl,hd⟩;obtain ⟨⟨nd,rfl⟩⟩:=hd;replace HP:=sd (HP.out.below (pw_below_drewN (Below.refl _ _) nd));replace HF:=sd (HF.out.below (pw_below_drewN (Below.refl _ _) nd) hbd);replace BW:=sd (blk_below BW.out (pw_below_drewN (Below.refl _ _) nd));clear e0 w0_ w1_ w2_;generalize w12.drewN nd=w13 at HP HF BW ⊢;obtain ⟨w0_,w1_,w2_,_,_,_⟩:=bk3 BW;by_cases ec:c.f0=1∨c.f0=4
  · rw [if_pos ec] at HQ
    rw [decide_eq_true ec];go_wp2_with fail
    refine (follow_calls _ 6 _).mono ?_;rintro e wn ⟨rfl,hd⟩;obtain ⟨⟨nd,rfl⟩⟩:=hd;go_wp2_with fail
    rw [← HQ.out];exact ⟨by (try rfl),⟨_,_,_,HP.out.below (pw_below_drewN (Below.refl _ _) _)⟩,HF.out.below (pw_below_drewN (Below.refl _ _) _) hbd⟩
  rw [if_neg ec] at HQ;rw [decide_eq_false ec];go_wp2_with fail
  refine (follow_calls _ 6 _).mono ?_;rintro e wn ⟨rfl,hd⟩;obtain ⟨⟨nd,rfl⟩⟩:=hd;go_wp2_with fail
  rw [← HQ.out];exact ⟨by (try rfl),⟨_,_,_,HP.out.below (pw_below_drewN (Below.refl _ _) _)⟩,HF.out.below (pw_below_drewN (Below.refl _ _) _) hbd⟩
mutual
def rf06_Cut.l0:Nat→ByteArray→List (S73)→Int→Option ((List (S73))×Int×Int)
|0,_,_,_=>none
|k+1,x0,x5,x6=>if x6 < (x0.size:Int) then (if 0≤x6 then (rf06_Cut.j1 k x0 x5 x6 ((bt x0 x6) != 35)) else (none)) else (rf06_Cut.j1 k x0 x5 x6 false)
def rf06_Cut.j1:Nat→ByteArray→List (S73)→Int→Bool→Option ((List (S73))×Int×Int)
|0,_,_,_,_=>none
|k+1,x0,x5,x6,x23=>if x23=true then (if 0≤x6 then (if x6 < (x0.size:Int) then (if (bt x0 x6)=32 then (rf06_Cut.l0 k x0 x5 (wrap64 (x6+1))) else ((rf06_word.f k x0 x6).bind fun bt415=>(if bt415.2.2.2.2.2=0 then (if x5.length < 4398046511104 then (rf06_Cut.l0 k x0 (x5++[(⟨bt415.1,bt415.2.1,bt415.2.2.1⟩:S73)]) bt415.2.2.2.1) else (none)) else (some (([]:List (S73)),bt415.2.2.2.2.1,bt415.2.2.2.2.2))))) else (none)) else (none)) else (some (x5,(x0.size:Int),0))
end
def rf06_Cut.f (k:Nat) (a0:ByteArray):Option ((List (S73))×Int×Int):=if (a0.size:Int) > 400 then (some (([]:List (S73)),0,9)) else (rf06_Cut.l0 k a0 ([]:List (S73)) 0)
theorem rf04_Parse.calls (k:Nat) (a0:ByteArray) (r1 r2:Int) (w:World) (h:rf04_Parse.f k a0=some (r1,r2)) :
  Calls Tryz.prog 46 #[.string a0] w fun e w'=>e=.returned (.tuple #[.int .i64 r1,.int .i64 r2])∧Below w.heap.size w w':=by
 have hu112:=Tryz.underlying112;have HB:=sd (Below.refl w.heap.size w);have H:=h;clear h;unfold rf04_Parse.f at H;have HC2:=sd H;clear H;go_enter Tryz.func46,Tryz.ntmps46
 go_upto_region 1 with (fail)
 go_cut [34] (fun v34 wc=>∃ (kq:Nat) (x34_1:Bool),v34=.bool x34_1∧Aside0 (rf04_Parse.j0 kq a0 x34_1=some (r1,r2))∧Aside0 (kq≤k)∧Aside0 (Below w.heap.size w wc))
 case first =>
  have H:=HC2.out;clear HC2;replace H:=ifI H;rcases H with ⟨c3,H⟩|⟨c3,H⟩
  ·obtain ⟨c3b0,c3b1⟩:=eqI c3;clear c3;(first|rw [c3b0]|(simp only [i64_w,i32_w];rw [c3b0])|skip)
   replace H:=ifI H;rcases H with ⟨c4,H⟩|⟨c4,H⟩
   ·have c4b0:=eq_true c4;have c4b1:decide (0≤4)=true:=decide_eq_true c4;clear c4;replace H:=ifI H;rcases H with ⟨c5,H⟩|⟨c5,H⟩
    ·have c5b0:=eq_true c5;have c5b1:decide (4≤(a0.size:Int))=true:=decide_eq_true c5;clear c5;replace H:=bdI H;obtain ⟨t478,A6,H⟩:=H;(try dsimp only at H)
     by_cases c7:t478=true
     ·subst c7;rw [if_pos rfl] at H;replace H:=ifI H;rcases H with ⟨c8,H⟩|⟨c8,H⟩
      ·have c8b0:decide (4 < (a0.size:Int))=true:=decide_eq_true c8;have c8b1:decide (4 < a0.size)=true:=decide_eq_true (by omega);clear c8;replace H:=ifI H;rcases H with ⟨c10,H⟩|⟨c10,H⟩
       ·obtain ⟨c10b0,c10b1⟩:=eqI c10;clear c10;replace H:=ifI H;rcases H with ⟨c11,H⟩|⟨c11,H⟩
        ·have c11b0:=eq_true c11;have c11b1:decide (5≤7)=true:=decide_eq_true c11;clear c11;replace H:=ifI H;rcases H with ⟨c12,H⟩|⟨c12,H⟩
         ·have c12b0:=eq_true c12;have c12b1:decide (7≤(a0.size:Int))=true:=decide_eq_true c12;clear c12;replace H:=bdI H;obtain ⟨t479,A13,H⟩:=H;(try dsimp only at H)
          by_cases c14:t479=true
          ·subst c14;rw [if_pos rfl] at H;replace H:=ifI H;rcases H with ⟨c15,H⟩|⟨c15,H⟩
           ·have c15b0:decide (7 < (a0.size:Int))=true:=decide_eq_true c15;have c15b1:decide (7 < a0.size)=true:=decide_eq_true (by omega);clear c15;replace H:=ifI H;rcases H with ⟨c17,H⟩|⟨c17,H⟩
            ·obtain ⟨c17b0,c17b1⟩:=eqI c17;clear c17;replace H:=ifI H;rcases H with ⟨c18,H⟩|⟨c18,H⟩
             ·have c18b0:=eq_true c18;have c18b1:decide (8≤(a0.size:Int))=true:=decide_eq_true c18;clear c18;replace H:=bdI H;obtain ⟨t480,A19,H⟩:=H;(try dsimp only at H)
              have H':=sd H;clear H;go_wp2_with (first|(go_at_call 90;(with_reducible refine (rf01_Digits.calls k (a0.extract 0 4) true _ A6.out).mono ?_);rintro e w' ⟨rfl,⟨nd,rfl⟩⟩;have p9:0≤(4:Int):=(by omega);have q9:4 < a0.size:=(by have:(4:Int) < (a0.size:Int):=od;omega);have hx9:∀ h:4 < a0.size,((a0[4]'h).toNat:Int)=bt a0 4:=bt_at a0 4;clear p9;have qi9:(4 < (a0.size:Int))=True:=eq_true (od);replace q9:=eq_true q9)|(go_at_call 90;(with_reducible refine (rf01_Digits.calls k (a0.extract 5 7) true _ A13.out).mono ?_);rintro e w' ⟨rfl,⟨nd,rfl⟩⟩;have p16:0≤(7:Int):=(by omega);have q16:7 < a0.size:=(by have:(7:Int) < (a0.size:Int):=od;omega);have hx16:∀ h:7 < a0.size,((a0[7]'h).toNat:Int)=bt a0 7:=bt_at a0 7;clear p16;have qi16:(7 < (a0.size:Int))=True:=eq_true (od);replace q16:=eq_true q16)|(go_at_call 90;(with_reducible refine (rf01_Digits.calls k (a0.extract 8 a0.size) t480 _ A19.out).mono ?_);rintro e w' ⟨rfl,⟨nd,rfl⟩⟩))
              go_meet
              case rel=>exact ⟨_,(!t480),zq7,H',⟨by first|omega|exact Nat.le_refl _⟩,⟨zq6⟩⟩
             exact absurd H (by simp)
            obtain ⟨c17b0,c17b1⟩:=neI c17;have H':=sd H;clear H;go_wp2_with (first|(go_at_call 90;(with_reducible refine (rf01_Digits.calls k (a0.extract 0 4) true _ A6.out).mono ?_);rintro e w' ⟨rfl,⟨nd,rfl⟩⟩;have p9:0≤(4:Int):=(by omega);have q9:4 < a0.size:=(by have:(4:Int) < (a0.size:Int):=od;omega);have hx9:∀ h:4 < a0.size,((a0[4]'h).toNat:Int)=bt a0 4:=bt_at a0 4;clear p9;have qi9:(4 < (a0.size:Int))=True:=eq_true (od);replace q9:=eq_true q9)|(go_at_call 90;(with_reducible refine (rf01_Digits.calls k (a0.extract 5 7) true _ A13.out).mono ?_);rintro e w' ⟨rfl,⟨nd,rfl⟩⟩;have p16:0≤(7:Int):=(by omega);have q16:7 < a0.size:=(by have:(7:Int) < (a0.size:Int):=od;omega);have hx16:∀ h:7 < a0.size,((a0[7]'h).toNat:Int)=bt a0 7:=bt_at a0 7;clear p16;have qi16:(7 < (a0.size:Int))=True:=eq_true (od);replace q16:=eq_true q16))
            go_meet
            case rel=>exact ⟨_,(true),zq7,H',⟨by first|omega|exact Nat.le_refl _⟩,⟨zq6⟩⟩
           exact absurd H (by simp)
          replace c14:=Bool.eq_false_iff.mpr c14;subst c14;rw [if_neg Bool.false_ne_true] at H;have H':=sd H;clear H;go_wp2_with (first|(go_at_call 90;(with_reducible refine (rf01_Digits.calls k (a0.extract 0 4) true _ A6.out).mono ?_);rintro e w' ⟨rfl,⟨nd,rfl⟩⟩;have p9:0≤(4:Int):=(by omega);have q9:4 < a0.size:=(by have:(4:Int) < (a0.size:Int):=od;omega);have hx9:∀ h:4 < a0.size,((a0[4]'h).toNat:Int)=bt a0 4:=bt_at a0 4;clear p9;have qi9:(4 < (a0.size:Int))=True:=eq_true (od);replace q9:=eq_true q9)|(go_at_call 90;(with_reducible refine (rf01_Digits.calls k (a0.extract 5 7) false _ A13.out).mono ?_);rintro e w' ⟨rfl,⟨nd,rfl⟩⟩))
          go_meet
          case rel=>exact ⟨_,(true),zq7,H',⟨by first|omega|exact Nat.le_refl _⟩,⟨zq6⟩⟩
         exact absurd H (by simp)
        exact absurd H (by simp)
       obtain ⟨c10b0,c10b1⟩:=neI c10;have H':=sd H;clear H;go_wp2_with (first|(go_at_call 90;(with_reducible refine (rf01_Digits.calls k (a0.extract 0 4) true _ A6.out).mono ?_);rintro e w' ⟨rfl,⟨nd,rfl⟩⟩;have p9:0≤(4:Int):=(by omega);have q9:4 < a0.size:=(by have:(4:Int) < (a0.size:Int):=od;omega);have hx9:∀ h:4 < a0.size,((a0[4]'h).toNat:Int)=bt a0 4:=bt_at a0 4;clear p9;have qi9:(4 < (a0.size:Int))=True:=eq_true (od);replace q9:=eq_true q9))
       go_meet
       case rel=>exact ⟨_,(true),zq7,H',⟨by first|omega|exact Nat.le_refl _⟩,⟨zq6⟩⟩
      exact absurd H (by simp)
     replace c7:=Bool.eq_false_iff.mpr c7;subst c7;rw [if_neg Bool.false_ne_true] at H;have H':=sd H;clear H;go_wp2_with (first|(go_at_call 90;(with_reducible refine (rf01_Digits.calls k (a0.extract 0 4) false _ A6.out).mono ?_);rintro e w' ⟨rfl,⟨nd,rfl⟩⟩))
     go_meet
     case rel=>exact ⟨_,(true),zq7,H',⟨by first|omega|exact Nat.le_refl _⟩,⟨zq6⟩⟩
    exact absurd H (by simp)
   exact absurd H (by simp)
  obtain ⟨c3b0,c3b1⟩:=neI c3;(first|rw [c3b0]|(simp only [i64_w,i32_w];rw [c3b0])|skip)
  have H':=sd H;clear H;go_wp2
  go_meet
  case rel=>exact ⟨_,(true),zq7,H',⟨by first|omega|exact Nat.le_refl _⟩,⟨zq6⟩⟩
 case rest =>
  clear HC2;try clear c1
  obtain ⟨kq,x34_1,rfl,HA,HJ1,HB⟩:=hcut
  cases kq with
 |zero=>exact absurd HA.out (by simp [rf04_Parse.j0])
 |succ kj1 =>
   have H:=HA.out;clear HA;simp only [rf04_Parse.j0] at H
   by_cases c20:x34_1=true
   ·subst c20;rw [if_pos rfl] at H;simp only [Option.some.injEq,Prod.mk.injEq] at H
    obtain ⟨rfl,rfl⟩:=H;go_wp2
    go_ret2
    exact ⟨zq4,zq6⟩
   replace c20:=Bool.eq_false_iff.mpr c20;subst c20;rw [if_neg Bool.false_ne_true] at H;replace H:=ifI H;rcases H with ⟨c21,H⟩|⟨c21,H⟩
   ·have c21b0:=eq_true c21;have c21b1:decide (0≤4)=true:=decide_eq_true c21;clear c21;replace H:=ifI H;rcases H with ⟨c22,H⟩|⟨c22,H⟩
    ·have c22b0:=eq_true c22;have c22b1:decide (4≤(a0.size:Int))=true:=decide_eq_true c22;clear c22;replace H:=bdI H;obtain ⟨t481,A23,H⟩:=H;(try dsimp only at H)
     replace H:=ifI H;rcases H with ⟨c24,H⟩|⟨c24,H⟩
     ·have c24b0:=eq_true c24;have c24b1:decide (5≤7)=true:=decide_eq_true c24;clear c24;replace H:=ifI H;rcases H with ⟨c25,H⟩|⟨c25,H⟩
      ·have c25b0:=eq_true c25;have c25b1:decide (7≤(a0.size:Int))=true:=decide_eq_true c25;clear c25;replace H:=bdI H;obtain ⟨t482,A26,H⟩:=H;(try dsimp only at H)
       replace H:=ifI H;rcases H with ⟨c27,H⟩|⟨c27,H⟩
       ·have c27b0:=eq_true c27;have c27b1:decide (8≤(a0.size:Int))=true:=decide_eq_true c27;clear c27;replace H:=bdI H;obtain ⟨t483,A28,H⟩:=H;(try dsimp only at H)
        replace H:=bdI H;obtain ⟨⟨t484,t485⟩,A29,H⟩:=H;(try dsimp only at H)
        simp only [Option.some.injEq,Prod.mk.injEq] at H
        obtain ⟨rfl,rfl⟩:=H;try go_wp2
        replace HB:=sd (below_drew1 HB.out);refine start_ (n:=15) (S:=fun w'=>True) (ds:=[]) #[false,false,false,false,false,false,false,false,false,false,false,false,false,false,false] (by kernel_rfl) rfl rfl trivial (fun hHeld=>?_);refine with_tabW rf04_Parse.tab3 rf04_Parse.bits3 (fun HT_ HW_=>?_);generalize wc.drew=w30 at HB hHeld ⊢;refine pA 0 35 HT_.out ?_;refine pA 1 36 HT_.out ?_;refine pA 3 38 HT_.out ?_;refine pA 4 39 HT_.out ?_;refine pA 6 41 HT_.out ?_;refine pA 7 42 HT_.out ?_;refine one_ (i:=2) (N:=some 37) #[true,true,true,true,true,false,true,true,false,false,false,false,false,false,false] rfl rfl (one_of HT_.out (by kernel_rfl)) (by decide) (fun K hK=>?_);refine goes_ Tryz.func94 (by kernel_rfl) rfl #[.string (a0.extract 0 4)] (by rfl) rfl rfl zq34 ?_;with_reducible refine (rf04_value.calls kj1 (a0.extract 0 4) t481 _ A23.out).mono ?_
        rintro e w' ⟨rfl,⟨nd,rfl⟩⟩;refine ⟨_,rfl,?_⟩;refine hK.out _ _ trivial (fun hHeld=>?_);clear hK K;refine nA 37 ?_;refine one_ (i:=5) (N:=some 40) #[true,true,true,true,true,true,true,true,false,false,false,false,false,false,false] rfl rfl (one_of HT_.out (by kernel_rfl)) (by decide) (fun K hK=>?_);refine goes_ Tryz.func94 (by kernel_rfl) rfl #[.string (a0.extract 5 7)] (by rfl) rfl rfl zq34 ?_;with_reducible refine (rf04_value.calls kj1 (a0.extract 5 7) t482 _ A26.out).mono ?_
        rintro e w' ⟨rfl,⟨nd,rfl⟩⟩;refine ⟨_,rfl,?_⟩;refine hK.out _ _ trivial (fun hHeld=>?_);clear hK K;refine nA 40 ?_;refine one_ (i:=8) (N:=some 43) #[true,true,true,true,true,true,true,true,true,false,false,false,false,false,false] rfl rfl (one_of HT_.out (by kernel_rfl)) (by decide) (fun K hK=>?_);refine goes_ Tryz.func94 (by kernel_rfl) rfl #[.string (a0.extract 8 a0.size)] (by rfl) rfl rfl zq34 ?_;with_reducible refine (rf04_value.calls kj1 (a0.extract 8 a0.size) t483 _ A28.out).mono ?_
        rintro e w' ⟨rfl,⟨nd,rfl⟩⟩;refine ⟨_,rfl,?_⟩;refine hK.out _ _ trivial (fun hHeld=>?_);clear hK K;refine nA 43 ?_;refine pA 9 44 HT_.out ?_;refine one_ (i:=10) (N:=some 45) #[true,true,true,true,true,true,true,true,true,true,true,false,false,false,false] rfl rfl (one_of HT_.out (by kernel_rfl)) (by decide) (fun K hK=>?_);refine goes_ Tryz.func93 (by kernel_rfl) rfl #[.agg #[.int .i64 t481,.int .i64 t482,.int .i64 t483]] (by rfl) rfl rfl zq34 ?_;with_reducible refine (rf04_Of.calls kj1 t481 t482 t483 t484 t485 _ A29.out).mono ?_
        rintro e w31 ⟨rfl,hb⟩;refine ⟨_,rfl,?_⟩;replace HB:=hbm HB hb;clear hb;refine hK.out _ _ trivial (fun hHeld=>?_);clear hK K;refine nA 45 ?_;refine pA 11 46 HT_.out ?_;refine pA 12 47 HT_.out ?_;refine pA 13 2 HT_.out ?_;refine pA 14 3 HT_.out ?_;refine done_ (done_of HT_.out (by kernel_rfl)) ?_;try go_wp2
        go_ret2
        exact ⟨zq4,zq6⟩
       exact absurd H (by simp)
      exact absurd H (by simp)
     exact absurd H (by simp)
    exact absurd H (by simp)
   exact absurd H (by simp)
end A
end Go.Proofs.YtkbgkekegjfkfaaGreatDoor
namespace Go.Proofs
open Go.Shelf
open Go.RowKit Go.Lib in
theorem Tryz.strings_HasPrefix (s p:ByteArray) (w:World) :
    Calls Tryz.prog 66 #[.string s,.string p] w fun e w'=>e=.returned (.bool (Lib.hasPrefix s.data.toList p.data.toList))∧w'=w:=Any.strings_HasPrefix Tryz.lays99 s p w
end Go.Proofs
namespace Go.Proofs.YtkbgkekegjfkfaaGreatDoor
namespace A
open Go.RowKit B WW WL WM
attribute [local go_sem] max2_int min2_int max_two min_two max_three min_three max_four min_four
set_option maxHeartbeats 8000000
set_option maxRecDepth 100000
theorem begins_calls (g gn gs:Nat) (c:S48) (d a:Int) (rf tx:ByteArray) (w:World) (h:CEnv w g gn gs c) :
  Calls Tryz.prog 65 #[lineV d a rf tx,.pointer (some ⟨gs,0,none⟩),.pointer (some ⟨g,0,none⟩)] w fun e w'=>e=.returned (.bool (Lib.hasPrefix (sOfC c rf tx).data.toList c.f2.data.toList))∧Below w.heap.size w w':=by
 have HE:=sd h;clear h;generalize hQ:(fun (e:Ending) (w':World)=>e=.returned (.bool (Lib.hasPrefix (sOfC c rf tx).data.toList c.f2.data.toList))∧Below w.heap.size w w')=Post;have HQ:=sd hQ;clear hQ;unfold lineV;go_enter Tryz.func65,Tryz.ntmps65
 go_wp2_with fail
 have HB:=sd (below_alloc (Below.refl w.heap.size w) (Obj.cells #[Value.int IntKind.i64 d,Value.int IntKind.i64 a,Value.string rf,Value.string tx] 32));have HE1:=sd (HE.out.below HB.out);have b0:(w.alloc (Obj.cells #[Value.int IntKind.i64 d,Value.int IntKind.i64 a,Value.string rf,Value.string tx] 32)).heap[w.heap.size]?=some (.cells #[Value.int IntKind.i64 d,Value.int IntKind.i64 a,Value.string rf,Value.string tx] 32 (0,0)):=blk_new _ _;generalize w.alloc (Obj.cells #[Value.int IntKind.i64 d,Value.int IntKind.i64 a,Value.string rf,Value.string tx] 32)=w1 at *;generalize w.heap.size=gl at b0 ⊢;have b1:(w1.drew).heap[gl]?=some (.cells #[Value.int IntKind.i64 d,Value.int IntKind.i64 a,Value.string rf,Value.string tx] 32 (0,0)):=b0;have l0:w1.drew.cell? ⟨gl,0,none⟩=some (.int .i64 d):=(blk_cell b1 0).trans rfl;have l1:w1.drew.cell? ⟨gl,1,none⟩=some (.int .i64 a):=(blk_cell b1 1).trans rfl;have l2:w1.drew.cell? ⟨gl,2,none⟩=some (.string rf):=(blk_cell b1 2).trans rfl;have l3:w1.drew.cell? ⟨gl,3,none⟩=some (.string tx):=(blk_cell b1 3).trans rfl;have HE2:=sd (HE1.out.below (below_drew1 (Below.refl _ _)));have HB2:=sd (below_drew1 HB.out);clear b0 b1 HB HE1;refine start_ (n:=7) (S:=fun w'=>w'.cell? ⟨gs,0,none⟩=some (.func (.func 60) #[] #[.pointer (some ⟨g,0,none⟩)])∧w'.cell? ⟨g,2,none⟩=some (.string c.f2)∧w'.cell? ⟨gl,0,none⟩=some (.int .i64 d)∧w'.cell? ⟨gl,1,none⟩=some (.int .i64 a)∧w'.cell? ⟨gl,2,none⟩=some (.string rf)∧w'.cell? ⟨gl,3,none⟩=some (.string tx)) (ds:=[]) #[false,false,false,false,false,false,false] (by kernel_rfl) rfl rfl ⟨HE2.out.fs,HE2.out.c2,l0,l1,l2,l3⟩ (fun hHeld=>?_);clear l0 l1 l2 l3;have hm2:∀ p v,w1.cell? p=some v→w1.drew.cell? p=some v:=fun p v hc=>hc
 clear hm2;generalize w1.drew=w2 at hHeld HE2 HB2  ⊢;refine tB 0 5 hHeld ?_;refine tB 1 6 hHeld ?_;refine pB 3 8 ?_;refine tB 4 9 hHeld ?_;refine one_ (i:=2) (N:=some 7) #[true,true,true,true,true,false,false] rfl rfl (by kernel_rfl) (by decide) (fun K hK=>?_);refine goesF_ (cap:=#[.pointer (some ⟨g,0,none⟩)]) Tryz.func60 (by kernel_rfl) rfl #[.agg #[.int .i64 d,.int .i64 a,.string rf,.string tx],.pointer (some ⟨g,0,none⟩)] (by rfl) rfl rfl (by rfl) zq122 ?_;refine (sOf_calls g c d a rf tx w2 HE2.out.c0).mono ?_;rintro e w3 ⟨rfl,hb⟩;refine ⟨_,rfl,?_⟩;have hk:∀ p v,w2.cell? p=some v→w3.cell? p=some v:=fun p v hc=>(hb.cell (lt_of_cell hc)).trans hc
 obtain ⟨h1,h2,h3,h4,h5,h6⟩:=hHeld;refine hK.out _ _ ⟨hk _ _ h1,hk _ _ h2,hk _ _ h3,hk _ _ h4,hk _ _ h5,hk _ _ h6⟩ (fun hHeld=>?_);clear hK K h1 h2 h3 h4 h5 h6 hk;refine nA 7 ?_;refine one_ (i:=5) (N:=some 10) #[true,true,true,true,true,true,false] rfl rfl (by kernel_rfl) (by decide) (fun K hK=>?_);refine goes_ Tryz.func66 (by kernel_rfl) rfl #[.string (sOfC c rf tx),.string c.f2] (by rfl) rfl rfl zq30 ?_;refine (Go.Proofs.Tryz.strings_HasPrefix (sOfC c rf tx) c.f2 w3).mono ?_;rintro e w4 ⟨rfl,rfl⟩;refine ⟨_,rfl,?_⟩;refine hK.out _ _ hHeld (fun hHeld=>?_);clear hK K;refine nA 10 ?_;refine pB 6 4 ?_;refine done_ (by kernel_rfl) ?_;clear hHeld;go_wp2_with fail
 rw [← HQ.out];exact ⟨by (try rfl),HB2.out.trans (hb.mono HB2.out.size)⟩
end A

end Go.Proofs.YtkbgkekegjfkfaaGreatDoor