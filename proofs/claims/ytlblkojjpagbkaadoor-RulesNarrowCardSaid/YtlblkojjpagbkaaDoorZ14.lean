-- By pack.py, a program of this session's.
import Derived.Test.YtlblkojjpagbkaaDoorZ10
import Derived.Test.YtlblkojjpagbkaaDoorZ11
import Derived.Test.YtlblkojjpagbkaaDoorZ12
set_option linter.unusedVariables false
set_option linter.unusedSimpArgs false
namespace Go.Proofs.YtlblkojjpagbkaaDoor
namespace A
open Go.RowKit B WW WL WM
attribute [local go_sem] max2_int min2_int max_two min_two max_three min_three max_four min_four
set_option maxHeartbeats 8000000
set_option maxRecDepth 100000
theorem has_calls (g gn gs:Nat) (c:S27) (d a:Int) (rf tx:ByteArray) (w:World) (h:CEnv w g gn gs c) (hz:(sOfC c rf tx).size < 4294967281) (hm:∃ m,w.cell? ⟨1,0,none⟩=some (.int .i64 m)) :
  Calls Tryd.prog 21 #[lineV d a rf tx,.pointer (some ⟨gs,0,none⟩),.pointer (some ⟨g,0,none⟩)] w fun e w'=>e=.returned (.bool (Lib.contains (sOfC c rf tx).data.toList c.f2.data.toList))∧Below w.heap.size w w':=by
 have HE:=sd h;clear h;obtain ⟨m,hm⟩:=hm;have HM:=sd hm;have HZ:=sd hz;clear hm hz;generalize hQ:(fun (e:Ending) (w':World)=>e=.returned (.bool (Lib.contains (sOfC c rf tx).data.toList c.f2.data.toList))∧Below w.heap.size w w')=Post;have HQ:=sd hQ;clear hQ;unfold lineV;go_enter Tryd.func21,Tryd.ntmps21
 go_wp2_with fail
 have HB:=sd (below_alloc (Below.refl w.heap.size w) (Obj.cells #[Value.int IntKind.i64 d,Value.int IntKind.i64 a,Value.string rf,Value.string tx] 29));have HE1:=sd (HE.out.below HB.out);have b0:(w.alloc (Obj.cells #[Value.int IntKind.i64 d,Value.int IntKind.i64 a,Value.string rf,Value.string tx] 29)).heap[w.heap.size]?=some (.cells #[Value.int IntKind.i64 d,Value.int IntKind.i64 a,Value.string rf,Value.string tx] 29 (0,0)):=blk_new _ _;replace HM:=sd ((HB.out.cell (lt_of_cell HM.out)).trans HM.out);generalize w.alloc (Obj.cells #[Value.int IntKind.i64 d,Value.int IntKind.i64 a,Value.string rf,Value.string tx] 29)=w1 at *;generalize w.heap.size=gl at b0 ⊢;have b1:(w1.drew).heap[gl]?=some (.cells #[Value.int IntKind.i64 d,Value.int IntKind.i64 a,Value.string rf,Value.string tx] 29 (0,0)):=b0;have l0:w1.drew.cell? ⟨gl,0,none⟩=some (.int .i64 d):=(blk_cell b1 0).trans rfl;have l1:w1.drew.cell? ⟨gl,1,none⟩=some (.int .i64 a):=(blk_cell b1 1).trans rfl;have l2:w1.drew.cell? ⟨gl,2,none⟩=some (.string rf):=(blk_cell b1 2).trans rfl;have l3:w1.drew.cell? ⟨gl,3,none⟩=some (.string tx):=(blk_cell b1 3).trans rfl;have HE2:=sd (HE1.out.below (below_drew1 (Below.refl _ _)));have HB2:=sd (below_drew1 HB.out);clear b0 b1 HB HE1;refine start_ (n:=7) (S:=fun w'=>w'.cell? ⟨gs,0,none⟩=some (.func (.func 18) #[] #[.pointer (some ⟨g,0,none⟩)])∧w'.cell? ⟨g,2,none⟩=some (.string c.f2)∧w'.cell? ⟨gl,0,none⟩=some (.int .i64 d)∧w'.cell? ⟨gl,1,none⟩=some (.int .i64 a)∧w'.cell? ⟨gl,2,none⟩=some (.string rf)∧w'.cell? ⟨gl,3,none⟩=some (.string tx)) (ds:=[]) #[false,false,false,false,false,false,false] (by kernel_rfl) rfl rfl ⟨HE2.out.fs,HE2.out.c2,l0,l1,l2,l3⟩ (fun hHeld=>?_);clear l0 l1 l2 l3;have hm2:∀ p v,w1.cell? p=some v→w1.drew.cell? p=some v:=fun p v hc=>hc
 replace HM:=sd (hm2 _ _ HM.out);clear hm2;generalize w1.drew=w2 at hHeld HE2 HB2 HM ⊢;refine tB 0 5 hHeld ?_;refine tB 1 6 hHeld ?_;refine pB 3 8 ?_;refine tB 4 9 hHeld ?_;refine one_ (i:=2) (N:=some 7) #[true,true,true,true,true,false,false] rfl rfl (by kernel_rfl) (by decide) (fun K hK=>?_);refine goesF_ (cap:=#[.pointer (some ⟨g,0,none⟩)]) Tryd.func18 (by kernel_rfl) rfl #[.agg #[.int .i64 d,.int .i64 a,.string rf,.string tx],.pointer (some ⟨g,0,none⟩)] (by rfl) rfl rfl (by rfl) zq71 ?_;refine (sOf_calls g c d a rf tx w2 HE2.out.c0).mono ?_;rintro e w3 ⟨rfl,hb⟩;refine ⟨_,rfl,?_⟩;have hk:∀ p v,w2.cell? p=some v→w3.cell? p=some v:=fun p v hc=>(hb.cell (lt_of_cell hc)).trans hc
 obtain ⟨h1,h2,h3,h4,h5,h6⟩:=hHeld;replace HM:=sd (hk _ _ HM.out);refine hK.out _ _ ⟨hk _ _ h1,hk _ _ h2,hk _ _ h3,hk _ _ h4,hk _ _ h5,hk _ _ h6⟩ (fun hHeld=>?_);clear hK K h1 h2 h3 h4 h5 h6 hk;refine nA 7 ?_;refine one_ (i:=5) (N:=some 10) #[true,true,true,true,true,true,false] rfl rfl (by kernel_rfl) (by decide) (fun K hK=>?_);refine goes_ Tryd.func22 (by kernel_rfl) rfl #[.string (sOfC c rf tx),.string c.f2] (by rfl) rfl rfl zq28 ?_;refine (Go.Proofs.Tryd.strings_Contains (sOfC c rf tx) c.f2 m w3 HZ.out HM.out).mono ?_;rintro e w4 ⟨rfl,rfl⟩;refine ⟨_,rfl,?_⟩;refine hK.out _ _ hHeld (fun hHeld=>?_);clear hK K;refine nA 10 ?_;refine pB 6 4 ?_;refine done_ (by kernel_rfl) ?_;clear hHeld;go_wp2_with fail
 rw [← HQ.out];exact ⟨by (try rfl),HB2.out.trans (hb.mono HB2.out.size)⟩
theorem begins_calls (g gn gs:Nat) (c:S27) (d a:Int) (rf tx:ByteArray) (w:World) (h:CEnv w g gn gs c) :
  Calls Tryd.prog 23 #[lineV d a rf tx,.pointer (some ⟨gs,0,none⟩),.pointer (some ⟨g,0,none⟩)] w fun e w'=>e=.returned (.bool (Lib.hasPrefix (sOfC c rf tx).data.toList c.f2.data.toList))∧Below w.heap.size w w':=by
 have HE:=sd h;clear h;generalize hQ:(fun (e:Ending) (w':World)=>e=.returned (.bool (Lib.hasPrefix (sOfC c rf tx).data.toList c.f2.data.toList))∧Below w.heap.size w w')=Post;have HQ:=sd hQ;clear hQ;unfold lineV;go_enter Tryd.func23,Tryd.ntmps23
 go_wp2_with fail
 have HB:=sd (below_alloc (Below.refl w.heap.size w) (Obj.cells #[Value.int IntKind.i64 d,Value.int IntKind.i64 a,Value.string rf,Value.string tx] 29));have HE1:=sd (HE.out.below HB.out);have b0:(w.alloc (Obj.cells #[Value.int IntKind.i64 d,Value.int IntKind.i64 a,Value.string rf,Value.string tx] 29)).heap[w.heap.size]?=some (.cells #[Value.int IntKind.i64 d,Value.int IntKind.i64 a,Value.string rf,Value.string tx] 29 (0,0)):=blk_new _ _;generalize w.alloc (Obj.cells #[Value.int IntKind.i64 d,Value.int IntKind.i64 a,Value.string rf,Value.string tx] 29)=w1 at *;generalize w.heap.size=gl at b0 ⊢;have b1:(w1.drew).heap[gl]?=some (.cells #[Value.int IntKind.i64 d,Value.int IntKind.i64 a,Value.string rf,Value.string tx] 29 (0,0)):=b0;have l0:w1.drew.cell? ⟨gl,0,none⟩=some (.int .i64 d):=(blk_cell b1 0).trans rfl;have l1:w1.drew.cell? ⟨gl,1,none⟩=some (.int .i64 a):=(blk_cell b1 1).trans rfl;have l2:w1.drew.cell? ⟨gl,2,none⟩=some (.string rf):=(blk_cell b1 2).trans rfl;have l3:w1.drew.cell? ⟨gl,3,none⟩=some (.string tx):=(blk_cell b1 3).trans rfl;have HE2:=sd (HE1.out.below (below_drew1 (Below.refl _ _)));have HB2:=sd (below_drew1 HB.out);clear b0 b1 HB HE1;refine start_ (n:=7) (S:=fun w'=>w'.cell? ⟨gs,0,none⟩=some (.func (.func 18) #[] #[.pointer (some ⟨g,0,none⟩)])∧w'.cell? ⟨g,2,none⟩=some (.string c.f2)∧w'.cell? ⟨gl,0,none⟩=some (.int .i64 d)∧w'.cell? ⟨gl,1,none⟩=some (.int .i64 a)∧w'.cell? ⟨gl,2,none⟩=some (.string rf)∧w'.cell? ⟨gl,3,none⟩=some (.string tx)) (ds:=[]) #[false,false,false,false,false,false,false] (by kernel_rfl) rfl rfl ⟨HE2.out.fs,HE2.out.c2,l0,l1,l2,l3⟩ (fun hHeld=>?_);clear l0 l1 l2 l3;have hm2:∀ p v,w1.cell? p=some v→w1.drew.cell? p=some v:=fun p v hc=>hc
 clear hm2;generalize w1.drew=w2 at hHeld HE2 HB2  ⊢;refine tB 0 5 hHeld ?_;refine tB 1 6 hHeld ?_;refine pB 3 8 ?_;refine tB 4 9 hHeld ?_;refine one_ (i:=2) (N:=some 7) #[true,true,true,true,true,false,false] rfl rfl (by kernel_rfl) (by decide) (fun K hK=>?_);refine goesF_ (cap:=#[.pointer (some ⟨g,0,none⟩)]) Tryd.func18 (by kernel_rfl) rfl #[.agg #[.int .i64 d,.int .i64 a,.string rf,.string tx],.pointer (some ⟨g,0,none⟩)] (by rfl) rfl rfl (by rfl) zq71 ?_;refine (sOf_calls g c d a rf tx w2 HE2.out.c0).mono ?_;rintro e w3 ⟨rfl,hb⟩;refine ⟨_,rfl,?_⟩;have hk:∀ p v,w2.cell? p=some v→w3.cell? p=some v:=fun p v hc=>(hb.cell (lt_of_cell hc)).trans hc
 obtain ⟨h1,h2,h3,h4,h5,h6⟩:=hHeld;refine hK.out _ _ ⟨hk _ _ h1,hk _ _ h2,hk _ _ h3,hk _ _ h4,hk _ _ h5,hk _ _ h6⟩ (fun hHeld=>?_);clear hK K h1 h2 h3 h4 h5 h6 hk;refine nA 7 ?_;refine one_ (i:=5) (N:=some 10) #[true,true,true,true,true,true,false] rfl rfl (by kernel_rfl) (by decide) (fun K hK=>?_);refine goes_ Tryd.func24 (by kernel_rfl) rfl #[.string (sOfC c rf tx),.string c.f2] (by rfl) rfl rfl zq28 ?_;refine (Go.Proofs.Tryd.strings_HasPrefix (sOfC c rf tx) c.f2 w3).mono ?_;rintro e w4 ⟨rfl,rfl⟩;refine ⟨_,rfl,?_⟩;refine hK.out _ _ hHeld (fun hHeld=>?_);clear hK K;refine nA 10 ?_;refine pB 6 4 ?_;refine done_ (by kernel_rfl) ?_;clear hHeld;go_wp2_with fail
 rw [← HQ.out];exact ⟨by (try rfl),HB2.out.trans (hb.mono HB2.out.size)⟩
theorem test_calls (hcnt:∀ (x:Int) (w:World),Calls Tryd.prog 25 #[.int .i64 x] w fun e w'=>e=.returned (.bool (decide (x=1∨x=4)))∧Drawn0 w w') (c:S27) (w:World) :
  Calls Tryd.prog 8 #[.agg #[.int .i64 c.f0,.int .i64 c.f1,.string c.f2,.int .i64 c.f3]] w fun e w'=>Below w.heap.size w w'∧∃ f cap g gn gs,e=.returned (.func (.func f) #[] cap)∧CEnv w' g gn gs c∧TestK c f cap g gn gs:=by
 have hmf:∀ (fn:Fn) (first cap:Array Value) (w:World),(Instr.makeFunc fn first cap).run Tryd.prog w=.ok (.func fn first cap) w:=fun _ _ _ _=>rfl
 generalize hQ:(fun (e:Ending) (w':World)=>Below w.heap.size w w'∧∃ f cap g gn gs,e=.returned (.func (.func f) #[] cap)∧CEnv w' g gn gs c∧TestK c f cap g gn gs)=Post;have HQ:=sd hQ;have HC:=sd hcnt;clear hQ hcnt;go_enter Tryd.func8,Tryd.ntmps8
 go_upto_region 1 with (fail)
 have HB:=sd (below_alloc (Below.refl w.heap.size w) (Obj.cells #[Value.int IntKind.i64 c.f0,Value.int IntKind.i64 c.f1,Value.string c.f2,Value.int IntKind.i64 c.f3] 27));have b0:(w.alloc (Obj.cells #[Value.int IntKind.i64 c.f0,Value.int IntKind.i64 c.f1,Value.string c.f2,Value.int IntKind.i64 c.f3] 27)).heap[w.heap.size]?=some (.cells #[Value.int IntKind.i64 c.f0,Value.int IntKind.i64 c.f1,Value.string c.f2,Value.int IntKind.i64 c.f3] 27 (0,0)):=blk_new _ _;generalize w.alloc (Obj.cells #[Value.int IntKind.i64 c.f0,Value.int IntKind.i64 c.f1,Value.string c.f2,Value.int IntKind.i64 c.f3] 27)=w1 at *;obtain ⟨g,hg⟩:∃ g,g=w.heap.size:=⟨_,rfl⟩
 rw [← hg] at b0 ⊢;have c0:w1.cell? ⟨g,0,none⟩=some (.int .i64 c.f0):=(blk_cell b0 0).trans rfl;have c1:w1.cell? ⟨g,1,none⟩=some (.int .i64 c.f1):=(blk_cell b0 1).trans rfl;have c2:w1.cell? ⟨g,2,none⟩=some (.string c.f2):=(blk_cell b0 2).trans rfl;have c3:w1.cell? ⟨g,3,none⟩=some (.int .i64 c.f3):=(blk_cell b0 3).trans rfl;clear b0 hg;go_upto_region 2 with (fail)
 have hB1:=below_alloc (Below.refl w1.heap.size w1) (Obj.cells #[Value.func (Fn.func 17) #[] #[Value.pointer (some ⟨g,0,none⟩)]] 51);have k0:=(hB1.cell (lt_of_cell c0)).trans c0;have k1:=(hB1.cell (lt_of_cell c1)).trans c1;have k2:=(hB1.cell (lt_of_cell c2)).trans c2;have k3:=(hB1.cell (lt_of_cell c3)).trans c3;replace HB:=sd (HB.out.trans (hB1.mono HB.out.size));have b1:(w1.alloc (Obj.cells #[Value.func (Fn.func 17) #[] #[Value.pointer (some ⟨g,0,none⟩)]] 51)).heap[w1.heap.size]?=some (.cells #[Value.func (Fn.func 17) #[] #[Value.pointer (some ⟨g,0,none⟩)]] 51 (0,0)):=blk_new _ _;clear c0 c1 c2 c3 hB1;generalize w1.alloc (Obj.cells #[Value.func (Fn.func 17) #[] #[Value.pointer (some ⟨g,0,none⟩)]] 51)=w2 at *;obtain ⟨gn,hgn⟩:∃ gn,gn=w1.heap.size:=⟨_,rfl⟩
 rw [← hgn] at b1 ⊢;have fn_:w2.cell? ⟨gn,0,none⟩=some (.func (.func 17) #[] #[.pointer (some ⟨g,0,none⟩)]):=(blk_cell b1 0).trans rfl;clear b1 hgn;go_upto_region 3 with (fail)
 have hB1:=below_alloc (Below.refl w2.heap.size w2) (Obj.cells #[Value.func (Fn.func 18) #[] #[Value.pointer (some ⟨g,0,none⟩)]] 52);have c0:=(hB1.cell (lt_of_cell k0)).trans k0;have c1:=(hB1.cell (lt_of_cell k1)).trans k1;have c2:=(hB1.cell (lt_of_cell k2)).trans k2;have c3:=(hB1.cell (lt_of_cell k3)).trans k3;replace fn_:=(hB1.cell (lt_of_cell fn_)).trans fn_;replace HB:=sd (HB.out.trans (hB1.mono HB.out.size));have b1:(w2.alloc (Obj.cells #[Value.func (Fn.func 18) #[] #[Value.pointer (some ⟨g,0,none⟩)]] 52)).heap[w2.heap.size]?=some (.cells #[Value.func (Fn.func 18) #[] #[Value.pointer (some ⟨g,0,none⟩)]] 52 (0,0)):=blk_new _ _;clear k0 k1 k2 k3 hB1;generalize w2.alloc (Obj.cells #[Value.func (Fn.func 18) #[] #[Value.pointer (some ⟨g,0,none⟩)]] 52)=w3 at *;obtain ⟨gs,hgs⟩:∃ gs,gs=w2.heap.size:=⟨_,rfl⟩
 rw [← hgs] at b1 ⊢;have fs_:w3.cell? ⟨gs,0,none⟩=some (.func (.func 18) #[] #[.pointer (some ⟨g,0,none⟩)]):=(blk_cell b1 0).trans rfl;clear b1 hgs;by_cases e2:c.f1=2
 ·have q2:decide (c.f1=2)=true:=decide_eq_true e2;go_wp2_with fail
  rw [← HQ.out];exact ⟨HB.out,_,_,g,gn,gs,rfl,⟨c0,c2,c3,fn_,fs_⟩,Or.inl ⟨e2,rfl,rfl⟩⟩
 have q2:decide (c.f1=2)=false:=decide_eq_false e2;by_cases e3:c.f1=3
 ·have q3:decide (c.f1=3)=true:=decide_eq_true e3;go_wp2_with fail
  rw [← HQ.out];exact ⟨HB.out,_,_,g,gn,gs,rfl,⟨c0,c2,c3,fn_,fs_⟩,Or.inr (Or.inl ⟨e3,rfl,rfl⟩)⟩
 have q3:decide (c.f1=3)=false:=decide_eq_false e3;by_cases e4:c.f1=4
 ·have q4:decide (c.f1=4)=true:=decide_eq_true e4;go_wp2_with fail
  rw [← HQ.out];exact ⟨HB.out,_,_,g,gn,gs,rfl,⟨c0,c2,c3,fn_,fs_⟩,Or.inr (Or.inr (Or.inl ⟨e4,rfl,rfl⟩))⟩
 have q4:decide (c.f1=4)=false:=decide_eq_false e4;by_cases e5:c.f1=5
 ·have q5:decide (c.f1=5)=true:=decide_eq_true e5;go_wp2_with fail
  rw [← HQ.out];exact ⟨HB.out,_,_,g,gn,gs,rfl,⟨c0,c2,c3,fn_,fs_⟩,Or.inr (Or.inr (Or.inr (Or.inl ⟨e5,rfl,rfl⟩)))⟩
 have q5:decide (c.f1=5)=false:=decide_eq_false e5;go_wp2_with fail
 refine (HC.out _ _).mono ?_;rintro e w4 ⟨rfl,hd⟩;obtain ⟨⟨nd,rfl⟩⟩:=hd;have HE:=sd ((CEnv.mk c0 c2 c3 fn_ fs_).below (pw_below_drewN (Below.refl _ _) nd));replace HB:=sd (pw_below_drewN HB.out nd);clear c0 c1 c2 c3 fn_ fs_;by_cases e0:c.f0=1∨c.f0=4
 ·have q0:decide (c.f0=1∨c.f0=4)=true:=decide_eq_true e0;rw [q0];go_wp2_with fail
  rw [← HQ.out];exact ⟨HB.out,_,_,g,gn,gs,rfl,HE.out,Or.inr (Or.inr (Or.inr (Or.inr ⟨⟨e2,e3,e4,e5⟩,Or.inl ⟨e0,rfl,rfl⟩⟩)))⟩
 have q0:decide (c.f0=1∨c.f0=4)=false:=decide_eq_false e0;rw [q0];go_wp2_with fail
 rw [← HQ.out];exact ⟨HB.out,_,_,g,gn,gs,rfl,HE.out,Or.inr (Or.inr (Or.inr (Or.inr ⟨⟨e2,e3,e4,e5⟩,Or.inr ⟨e0,rfl,rfl⟩⟩)))⟩
theorem count_calls (x:Int) (w:World):Calls Tryd.prog 25 #[.int .i64 x] w fun e w'=>e=.returned (.bool (decide (x=1∨x=4)))∧Drawn0 w w':=by
 have h:rules_counts.f x=some (decide (x=1∨x=4)):=by
  unfold rules_counts.f;by_cases e:x=1
  ·rw [if_pos e,decide_eq_true (Or.inl e)]
  rw [if_neg e];congr 1
  rw [Bool.eq_iff_iff,beq_iff_eq,decide_eq_true_iff];omega
 exact rules_counts.calls x _ w h
theorem words_Cut.calls (k:Nat) (a0:ByteArray) (r1:List (S66)) (r2 r3:Int) (w:World) (h:words_Cut.f k a0=some (r1,r2,r3)) :
  Calls Tryd.prog 31 #[.string a0] w fun e w'=>∃ v0_:Value,e=.returned (.tuple #[v0_,.int .i64 r2,.int .i64 r3])∧Kd.R k66 66 w' w.heap.size (fun _=>True) v0_ r1∧Below w.heap.size w w':=by
 have hu66:=Tryd.underlying66;have hu91:=Tryd.underlying91;have HB:=sd (Below.refl w.heap.size w);have H:=h;clear h;unfold words_Cut.f at H;replace H:=ifI H;rcases H with ⟨c2,H⟩|⟨c2,H⟩
 ·have c2b0:decide (400 < (a0.size:Int))=true:=decide_eq_true c2;have c2b1:decide (400 < a0.size)=true:=decide_eq_true (by omega);clear c2;simp only [Option.some.injEq,Prod.mk.injEq] at H
  obtain ⟨rfl,rfl,rfl⟩:=H;go_enter Tryd.func31,Tryd.ntmps31
  go_wp2
  repeat (go_quiet (fail);try go_wp2)
  go_ret3
  exact ⟨_,zq4,zq5,zq6⟩
 have c2b0:decide (400 < (a0.size:Int))=false:=decide_eq_false c2;have c2b1:decide (400 < a0.size)=false:=decide_eq_false (by omega);clear c2;have H':=sd H;clear H;go_enter Tryd.func31,Tryd.ntmps31
 go_wp2
 repeat (go_quiet (fail);try go_wp2)
 go_loopg [2,3] k (fun kq v2 v3 w'=>∃ (x2_1:List (S66)) (x3_1:Int),v3=.int .i64 x3_1∧Aside0 (words_Cut.l0 kq a0 x2_1 x3_1=some (r1,r2,r3))∧Aside0 (kq≤k)∧Aside0 (Kd.R k66 66 w' w.heap.size (fun _=>True) v2 x2_1)∧Aside0 (Below w.heap.size w w'))
 case atStart=>exact ⟨(([]:List (S66))),(0),zq7,H',⟨Nat.le_refl _⟩,⟨zq5⟩,⟨zq6⟩⟩
 case round =>
  clear H';try clear c2
  obtain ⟨x2_1,x3_1,rfl,HA,HK1,HO_2,HB⟩:=hrel
  cases gk with
 |zero=>exact absurd HA.out (by simp [words_Cut.l0])
 |succ k1 =>
   have H:=HA.out;clear HA;simp only [words_Cut.l0] at H
   have HC3:=sd H;clear H;go_upto_region 3 with (fail)
   repeat (go_quiet (fail);go_upto_region 3 with (fail))
   go_cut [20] (fun v20 wc=>∃ (kq:Nat) (x20_2:Bool),v20=.bool x20_2∧Aside0 (words_Cut.j1 kq a0 x2_1 x3_1 x20_2=some (r1,r2,r3))∧Aside0 (kq≤k1)∧Aside0 (Kd.R k66 66 wc w.heap.size (fun _=>True) u2 x2_1)∧Aside0 (Below w.heap.size w wc))
   case first =>
    have H:=HC3.out;clear HC3;replace H:=ifI H;rcases H with ⟨c4,H⟩|⟨c4,H⟩
    ·have c4b0:decide (x3_1 < (a0.size:Int))=true:=decide_eq_true c4;clear c4;(first|rw [c4b0]|(simp only [i64_w,i32_w];rw [c4b0])|skip)
     replace H:=ifI H;rcases H with ⟨c5,H⟩|⟨c5,H⟩
     ·have c5b0:decide (0≤x3_1)=true:=decide_eq_true c5;clear c5;have H':=sd H;clear H;have p6:0≤(x3_1:Int):=od;have q6:x3_1 < (a0.size:Int):=od;have hx6:=bt_at a0 x3_1;replace p6:=eq_true p6;replace q6:=eq_true q6;go_wp2
      repeat (go_quiet (fail);try go_wp2)
      go_meet
      case rel=>exact ⟨_,(((bt a0 x3_1) != 35)),zq7,H',⟨zq8⟩,⟨zq9⟩,⟨zq6⟩⟩
     exact absurd H (by simp)
    have c4b0:decide (x3_1 < (a0.size:Int))=false:=decide_eq_false c4;clear c4;(first|rw [c4b0]|(simp only [i64_w,i32_w];rw [c4b0])|skip)
    have H':=sd H;clear H;go_wp2
    repeat (go_quiet (fail);try go_wp2)
    go_meet
    case rel=>exact ⟨_,(false),zq7,H',⟨zq8⟩,⟨zq9⟩,⟨zq6⟩⟩
   case rest =>
    clear HC3;try clear c2
    obtain ⟨kq,x20_2,rfl,HA,HJ2,HO_2,HB⟩:=hcut
    cases kq with
   |zero=>exact absurd HA.out (by simp [words_Cut.j1])
   |succ kj2 =>
     have H:=HA.out;clear HA;simp only [words_Cut.j1] at H
     by_cases c7:x20_2=true
     ·subst c7;rw [if_pos rfl] at H;replace H:=ifI H;rcases H with ⟨c8,H⟩|⟨c8,H⟩
      ·have c8b0:decide (0≤x3_1)=true:=decide_eq_true c8;clear c8;replace H:=ifI H;rcases H with ⟨c9,H⟩|⟨c9,H⟩
       ·have c9b0:decide (x3_1 < (a0.size:Int))=true:=decide_eq_true c9;clear c9;replace H:=ifI H;rcases H with ⟨c11,H⟩|⟨c11,H⟩
        ·obtain ⟨c11b0,c11b1⟩:=eqI c11;clear c11;have H':=sd H;clear H;have p10:0≤(x3_1:Int):=od;have q10:x3_1 < (a0.size:Int):=od;have hx10:=bt_at a0 x3_1;replace p10:=eq_true p10;replace q10:=eq_true q10;go_wp2
         repeat (go_quiet (fail);try go_wp2)
         go_roundg kj2
         case measure=>have:=HK1.out;have:=HJ2.out;omega
         case rel=>exact ⟨(x2_1),(wrap64 (x3_1+1)),zq7,H',⟨by have:=HK1.out;have:=HJ2.out;omega⟩,⟨zq9⟩,⟨zq6⟩⟩
        obtain ⟨c11b0,c11b1⟩:=neI c11;replace H:=bdI H;obtain ⟨⟨t194,t195,t196,t197,t198,t199⟩,A12,H⟩:=H;(try dsimp only at H)
        replace H:=ifI H;rcases H with ⟨c13,H⟩|⟨c13,H⟩
        ·obtain ⟨c13b0,c13b1⟩:=eqI c13;clear c13;replace H:=ifI H;rcases H with ⟨c14,H⟩|⟨c14,H⟩
         ·have LMc14:=sd c14;clear c14;obtain ⟨y202,hy202⟩:∃ y_:List (S66),y_=(x2_1++[(⟨t194,t195,t196⟩:S66)]):=⟨_,rfl⟩
          replace H:(words_Cut.l0 kj2 a0 y202 t197)=some (r1,r2,r3):=by first|(rw [hy202];with_reducible exact H)|(have H2_:=(Option.bind_some _ _).symm.trans H;rw [hy202];with_reducible exact H2_)|(have H2_:=(Option.bind_some _ _).symm.trans H;with_reducible exact H2_)|with_reducible exact H|(rw [hy202];exact H)|exact H
          have Ny202:=sd hy202;clear hy202;have H':=sd H;clear H;have p10:0≤(x3_1:Int):=od;have q10:x3_1 < (a0.size:Int):=od;have hx10:=bt_at a0 x3_1;replace p10:=eq_true p10;replace q10:=eq_true q10;go_wp2_with (first|(go_at_call 51;(with_reducible refine (words_word.calls kj2 a0 x3_1 t194 t195 t196 t197 t198 t199 _ A12.out).mono ?_);rintro e w15 ⟨rfl,hb⟩;replace HO_2:=rbm HO_2 hb;replace HB:=hbm HB hb;clear hb)|((with_reducible refine gate_dst (N:=5) rfl ?_);refine bxA 5 #[.int .i64 0,.string (⟨#[]⟩:ByteArray),.int .i64 0] 66 ?_;intro gb200 hg w16 hbox hb;have BK200:=sd (hbox);have GW200:=gem hg HB;have GE200:=GW200;replace HO_2:=sd (Kd.R_below (Kd.R_elderB zq9 gb200 (Nat.le_of_eq hg.symm)) hb);replace HB:=hbm HB hb;clear hb hbox hg)|((with_reducible refine gate_dst (N:=7) rfl ?_);refine bxA 7 #[.int .i64 0,.int .i64 0] 91 ?_;intro gb201 hg w17 hbox hb;have BK201:=sd (hbox);have GW201:=gem hg HB;have GE201:=GW201;have NB200_201:=nlm hg BK200;have NB201_200:=ngm hg BK200;replace HO_2:=rbm HO_2 hb;replace BK200:=bkm BK200 hb;replace HB:=hbm HB hb;clear hb hbox hg;have hnb18:=NB200_201.out;have hnc18:=NB201_200.out;obtain ⟨_,_,_,_,_,_⟩:=bk3 BK200;obtain ⟨_,_,_,_⟩:=bk2 BK201)|((with_reducible refine gate_builtin (b:=.append) (xs:=#[.tmp 41,.tmp 43]) rfl ?_);at_builtin;refine Kd.R_append k66 (w0:=w) w.heap.size rfl (.tmp 41) (.tmp 43) 59 66 (.agg #[(.int .i64 0),(.string ⟨#[]⟩),(.int .i64 0)]) 32 rfl Tryd.underlying59 info66 rfl (by decide) (by omega) u2 x2_1 (⟨t194,t195,t196⟩:S66) [.int .i64 t194,.string t195,.int .i64 t196] (fun k_=>k_≠gb200) (fun _=>False) rfl zq10 ?aP (fun _ hk=>hk.elim) ?aF ?aO ?aB ?aS ?aL ?_;(case aP=>exact k66_mkM _ _ _ (⟨t194,t195,t196⟩:S66));(case aB=>exact zq11);(case aF=>exact (fun k_ hk=>Kd.freshB (g:=gb200) (o:=.cells #[.int .i64 t194,.string t195,.int .i64 t196] 66 (0,0)) zq12 k_ hk));(case aO=>exact zq13);(case aS=>exact (below_size zq11));(case aL=>have:=LMc14.out;omega);intro v203 w21 ho hb hg hat;rw [← Ny202.out] at ho;have HO204:=sd (ho);replace BK200:=sd (blk_grown (g:=gb200) (o:=.cells #[.int .i64 t194,.string t195,.int .i64 t196] 66 (0,0)) zq12 hg (Kd.R_away HO_2.out (fun _ hk=>hk.2)));replace BK201:=sd (blk_grown (g:=gb201) (o:=.cells #[.int .i64 t198,.int .i64 t199] 91 (0,0)) zq14 hg (Kd.R_ne HO_2.out BK201.out (by decide)));replace HB:=sd (hb);clear HO_2;clear ho hb hg hat))
          repeat (go_quiet (first|(go_at_call 51;(with_reducible refine (words_word.calls kj2 a0 x3_1 t194 t195 t196 t197 t198 t199 _ A12.out).mono ?_);rintro e w15 ⟨rfl,hb⟩;replace HO_2:=rbm HO_2 hb;replace HB:=hbm HB hb;clear hb)|((with_reducible refine gate_dst (N:=5) rfl ?_);refine bxA 5 #[.int .i64 0,.string (⟨#[]⟩:ByteArray),.int .i64 0] 66 ?_;intro gb200 hg w16 hbox hb;have BK200:=sd (hbox);have GW200:=gem hg HB;have GE200:=GW200;replace HO_2:=sd (Kd.R_below (Kd.R_elderB zq9 gb200 (Nat.le_of_eq hg.symm)) hb);replace HB:=hbm HB hb;clear hb hbox hg)|((with_reducible refine gate_dst (N:=7) rfl ?_);refine bxA 7 #[.int .i64 0,.int .i64 0] 91 ?_;intro gb201 hg w17 hbox hb;have BK201:=sd (hbox);have GW201:=gem hg HB;have GE201:=GW201;have NB200_201:=nlm hg BK200;have NB201_200:=ngm hg BK200;replace HO_2:=rbm HO_2 hb;replace BK200:=bkm BK200 hb;replace HB:=hbm HB hb;clear hb hbox hg;have hnb18:=NB200_201.out;have hnc18:=NB201_200.out;obtain ⟨_,_,_,_,_,_⟩:=bk3 BK200;obtain ⟨_,_,_,_⟩:=bk2 BK201)|((with_reducible refine gate_builtin (b:=.append) (xs:=#[.tmp 41,.tmp 43]) rfl ?_);at_builtin;refine Kd.R_append k66 (w0:=w) w.heap.size rfl (.tmp 41) (.tmp 43) 59 66 (.agg #[(.int .i64 0),(.string ⟨#[]⟩),(.int .i64 0)]) 32 rfl Tryd.underlying59 info66 rfl (by decide) (by omega) u2 x2_1 (⟨t194,t195,t196⟩:S66) [.int .i64 t194,.string t195,.int .i64 t196] (fun k_=>k_≠gb200) (fun _=>False) rfl zq10 ?aP (fun _ hk=>hk.elim) ?aF ?aO ?aB ?aS ?aL ?_;(case aP=>exact k66_mkM _ _ _ (⟨t194,t195,t196⟩:S66));(case aB=>exact zq11);(case aF=>exact (fun k_ hk=>Kd.freshB (g:=gb200) (o:=.cells #[.int .i64 t194,.string t195,.int .i64 t196] 66 (0,0)) zq12 k_ hk));(case aO=>exact zq13);(case aS=>exact (below_size zq11));(case aL=>have:=LMc14.out;omega);intro v203 w21 ho hb hg hat;rw [← Ny202.out] at ho;have HO204:=sd (ho);replace BK200:=sd (blk_grown (g:=gb200) (o:=.cells #[.int .i64 t194,.string t195,.int .i64 t196] 66 (0,0)) zq12 hg (Kd.R_away HO_2.out (fun _ hk=>hk.2)));replace BK201:=sd (blk_grown (g:=gb201) (o:=.cells #[.int .i64 t198,.int .i64 t199] 91 (0,0)) zq14 hg (Kd.R_ne HO_2.out BK201.out (by decide)));replace HB:=sd (hb);clear HO_2;clear ho hb hg hat));try go_wp2_with (first|(go_at_call 51;(with_reducible refine (words_word.calls kj2 a0 x3_1 t194 t195 t196 t197 t198 t199 _ A12.out).mono ?_);rintro e w15 ⟨rfl,hb⟩;replace HO_2:=rbm HO_2 hb;replace HB:=hbm HB hb;clear hb)|((with_reducible refine gate_dst (N:=5) rfl ?_);refine bxA 5 #[.int .i64 0,.string (⟨#[]⟩:ByteArray),.int .i64 0] 66 ?_;intro gb200 hg w16 hbox hb;have BK200:=sd (hbox);have GW200:=gem hg HB;have GE200:=GW200;replace HO_2:=sd (Kd.R_below (Kd.R_elderB zq9 gb200 (Nat.le_of_eq hg.symm)) hb);replace HB:=hbm HB hb;clear hb hbox hg)|((with_reducible refine gate_dst (N:=7) rfl ?_);refine bxA 7 #[.int .i64 0,.int .i64 0] 91 ?_;intro gb201 hg w17 hbox hb;have BK201:=sd (hbox);have GW201:=gem hg HB;have GE201:=GW201;have NB200_201:=nlm hg BK200;have NB201_200:=ngm hg BK200;replace HO_2:=rbm HO_2 hb;replace BK200:=bkm BK200 hb;replace HB:=hbm HB hb;clear hb hbox hg;have hnb18:=NB200_201.out;have hnc18:=NB201_200.out;obtain ⟨_,_,_,_,_,_⟩:=bk3 BK200;obtain ⟨_,_,_,_⟩:=bk2 BK201)|((with_reducible refine gate_builtin (b:=.append) (xs:=#[.tmp 41,.tmp 43]) rfl ?_);at_builtin;refine Kd.R_append k66 (w0:=w) w.heap.size rfl (.tmp 41) (.tmp 43) 59 66 (.agg #[(.int .i64 0),(.string ⟨#[]⟩),(.int .i64 0)]) 32 rfl Tryd.underlying59 info66 rfl (by decide) (by omega) u2 x2_1 (⟨t194,t195,t196⟩:S66) [.int .i64 t194,.string t195,.int .i64 t196] (fun k_=>k_≠gb200) (fun _=>False) rfl zq10 ?aP (fun _ hk=>hk.elim) ?aF ?aO ?aB ?aS ?aL ?_;(case aP=>exact k66_mkM _ _ _ (⟨t194,t195,t196⟩:S66));(case aB=>exact zq11);(case aF=>exact (fun k_ hk=>Kd.freshB (g:=gb200) (o:=.cells #[.int .i64 t194,.string t195,.int .i64 t196] 66 (0,0)) zq12 k_ hk));(case aO=>exact zq13);(case aS=>exact (below_size zq11));(case aL=>have:=LMc14.out;omega);intro v203 w21 ho hb hg hat;rw [← Ny202.out] at ho;have HO204:=sd (ho);replace BK200:=sd (blk_grown (g:=gb200) (o:=.cells #[.int .i64 t194,.string t195,.int .i64 t196] 66 (0,0)) zq12 hg (Kd.R_away HO_2.out (fun _ hk=>hk.2)));replace BK201:=sd (blk_grown (g:=gb201) (o:=.cells #[.int .i64 t198,.int .i64 t199] 91 (0,0)) zq14 hg (Kd.R_ne HO_2.out BK201.out (by decide)));replace HB:=sd (hb);clear HO_2;clear ho hb hg hat)))
          go_roundg kj2
          case measure=>have:=HK1.out;have:=HJ2.out;omega
          case rel=>exact ⟨(y202),(t197),zq7,H',⟨by have:=HK1.out;have:=HJ2.out;omega⟩,⟨by (with_reducible repeat (first|apply Kd.R_alloc|apply Kd.R_drewN|apply Kd.R_drew));exact Kd.R_mono HO204.out (fun _ hk=>trivial)⟩,⟨zq11⟩⟩
         exact absurd H (by simp)
        obtain ⟨c13b0,c13b1⟩:=neI c13;simp only [Option.some.injEq,Prod.mk.injEq] at H
        obtain ⟨rfl,rfl,rfl⟩:=H;have p10:0≤(x3_1:Int):=od;have q10:x3_1 < (a0.size:Int):=od;have hx10:=bt_at a0 x3_1;replace p10:=eq_true p10;replace q10:=eq_true q10;go_wp2_with (first|(go_at_call 51;(with_reducible refine (words_word.calls kj2 a0 x3_1 t194 t195 t196 t197 t198 t199 _ A12.out).mono ?_);rintro e w22 ⟨rfl,hb⟩;replace HO_2:=rbm HO_2 hb;replace HB:=hbm HB hb;clear hb)|((with_reducible refine gate_dst (N:=5) rfl ?_);refine bxA 5 #[.int .i64 0,.string (⟨#[]⟩:ByteArray),.int .i64 0] 66 ?_;intro gb200 hg w23 hbox hb;have BK200:=sd (hbox);have GW200:=gem hg HB;have GE200:=GW200;replace HO_2:=sd (Kd.R_below (Kd.R_elderB zq9 gb200 (Nat.le_of_eq hg.symm)) hb);replace HB:=hbm HB hb;clear hb hbox hg)|((with_reducible refine gate_dst (N:=7) rfl ?_);refine bxA 7 #[.int .i64 0,.int .i64 0] 91 ?_;intro gb201 hg w24 hbox hb;have BK201:=sd (hbox);have GW201:=gem hg HB;have GE201:=GW201;have NB200_201:=nlm hg BK200;have NB201_200:=ngm hg BK200;replace HO_2:=rbm HO_2 hb;replace BK200:=bkm BK200 hb;replace HB:=hbm HB hb;clear hb hbox hg;have hnb25:=NB200_201.out;have hnc25:=NB201_200.out;obtain ⟨_,_,_,_,_,_⟩:=bk3 BK200;obtain ⟨_,_,_,_⟩:=bk2 BK201))
        repeat (go_quiet (first|(go_at_call 51;(with_reducible refine (words_word.calls kj2 a0 x3_1 t194 t195 t196 t197 t198 t199 _ A12.out).mono ?_);rintro e w22 ⟨rfl,hb⟩;replace HO_2:=rbm HO_2 hb;replace HB:=hbm HB hb;clear hb)|((with_reducible refine gate_dst (N:=5) rfl ?_);refine bxA 5 #[.int .i64 0,.string (⟨#[]⟩:ByteArray),.int .i64 0] 66 ?_;intro gb200 hg w23 hbox hb;have BK200:=sd (hbox);have GW200:=gem hg HB;have GE200:=GW200;replace HO_2:=sd (Kd.R_below (Kd.R_elderB zq9 gb200 (Nat.le_of_eq hg.symm)) hb);replace HB:=hbm HB hb;clear hb hbox hg)|((with_reducible refine gate_dst (N:=7) rfl ?_);refine bxA 7 #[.int .i64 0,.int .i64 0] 91 ?_;intro gb201 hg w24 hbox hb;have BK201:=sd (hbox);have GW201:=gem hg HB;have GE201:=GW201;have NB200_201:=nlm hg BK200;have NB201_200:=ngm hg BK200;replace HO_2:=rbm HO_2 hb;replace BK200:=bkm BK200 hb;replace HB:=hbm HB hb;clear hb hbox hg;have hnb25:=NB200_201.out;have hnc25:=NB201_200.out;obtain ⟨_,_,_,_,_,_⟩:=bk3 BK200;obtain ⟨_,_,_,_⟩:=bk2 BK201));try go_wp2_with (first|(go_at_call 51;(with_reducible refine (words_word.calls kj2 a0 x3_1 t194 t195 t196 t197 t198 t199 _ A12.out).mono ?_);rintro e w22 ⟨rfl,hb⟩;replace HO_2:=rbm HO_2 hb;replace HB:=hbm HB hb;clear hb)|((with_reducible refine gate_dst (N:=5) rfl ?_);refine bxA 5 #[.int .i64 0,.string (⟨#[]⟩:ByteArray),.int .i64 0] 66 ?_;intro gb200 hg w23 hbox hb;have BK200:=sd (hbox);have GW200:=gem hg HB;have GE200:=GW200;replace HO_2:=sd (Kd.R_below (Kd.R_elderB zq9 gb200 (Nat.le_of_eq hg.symm)) hb);replace HB:=hbm HB hb;clear hb hbox hg)|((with_reducible refine gate_dst (N:=7) rfl ?_);refine bxA 7 #[.int .i64 0,.int .i64 0] 91 ?_;intro gb201 hg w24 hbox hb;have BK201:=sd (hbox);have GW201:=gem hg HB;have GE201:=GW201;have NB200_201:=nlm hg BK200;have NB201_200:=ngm hg BK200;replace HO_2:=rbm HO_2 hb;replace BK200:=bkm BK200 hb;replace HB:=hbm HB hb;clear hb hbox hg;have hnb25:=NB200_201.out;have hnc25:=NB201_200.out;obtain ⟨_,_,_,_,_,_⟩:=bk3 BK200;obtain ⟨_,_,_,_⟩:=bk2 BK201)))
        go_ret3
        exact ⟨_,zq4,zq5,zq11⟩
       exact absurd H (by simp)
      exact absurd H (by simp)
     replace c7:=Bool.eq_false_iff.mpr c7;subst c7;rw [if_neg Bool.false_ne_true] at H;simp only [Option.some.injEq,Prod.mk.injEq] at H
     obtain ⟨rfl,rfl,rfl⟩:=H;go_wp2
     repeat (go_quiet (fail);try go_wp2)
     go_ret3
     exact ⟨_,zq4,zq9,zq6⟩
theorem days_Parse.calls (k:Nat) (a0:ByteArray) (r1 r2:Int) (w:World) (h:days_Parse.f k a0=some (r1,r2)) (hG:Gl w) :
  Calls Tryd.prog 54 #[.string a0] w fun e w'=>e=.returned (.tuple #[.int .i64 r1,.int .i64 r2])∧Below w.heap.size w w':=by
 have HG:=sd hG;clear hG;generalize hP:(fun (e:Ending) (w':World)=>e=.returned (.tuple #[.int .i64 r1,.int .i64 r2])∧Below w.heap.size w w')=Post;have HP:=sd hP;clear hP;unfold days_Parse.f at h;split at h
 case isFalse=>cases h
 rename_i hs
 split at h
 case isFalse =>
  rename_i h10
  obtain ⟨rfl,rfl⟩:=Prod.mk.inj (Option.some.inj h);have h10':¬ (a0.size:Int)=10:=by omega
  go_enter Tryd.func54,Tryd.ntmps54
  go_wp2_with fail
  rw [← HP.out];exact ⟨by (try rfl),Below.refl _ _⟩
 rename_i h10
 have b4:bt a0 4=((a0[4]'(by omega)).toNat:Int):=(bt_at a0 4 (by rw [h10];decide)).symm;have b7:bt a0 7=((a0[7]'(by omega)).toNat:Int):=(bt_at a0 7 (by rw [h10];decide)).symm;rw [b4,b7] at h;clear b4 b7;have h10':(a0.size:Int)=10:=by omega
 have i4:4 < a0.size:=by omega
 have i7:7 < a0.size:=by omega
 generalize hc4:a0[4]=c4 at h;generalize hc7:a0[7]=c7 at h;split at h
 case isFalse =>
  rename_i h4
  obtain ⟨rfl,rfl⟩:=Prod.mk.inj (Option.some.inj h);have s45:((c4.toNat:Int) == 45)=false:=beq_eq_false_iff_ne.mpr h4;go_enter Tryd.func54,Tryd.ntmps54
  go_wp2_with fail
  rw [← HP.out];exact ⟨by (try rfl),Below.refl _ _⟩
 rename_i h4
 split at h
 case isFalse =>
  rename_i h7
  obtain ⟨rfl,rfl⟩:=Prod.mk.inj (Option.some.inj h);go_enter Tryd.func54,Tryd.ntmps54
  go_wp2_with fail
  rw [← HP.out];exact ⟨by (try rfl),Below.refl _ _⟩
 rename_i h7
 have H:=sd h;clear h;go_enter Tryd.func54,Tryd.ntmps54
 go_wp2_with fail
 go_region
 go_wp2_with fail
 go_loopw [29] (fun n_ wr=>∃ (i:Nat) (x y z:Int),i≤3∧n_=.int .i64 (i:Int)∧Aside0 (days_Parse.rem k a0 (3 - i) x y z=some (r1,r2))∧Aside0 (Arr3 wr w.heap.size x y z)∧Aside0 (Below w.heap.size w wr)) (fun n_ _=>(3 - (RowKit.intOf n_).toNat))
 case atStart =>
  exact ⟨0,0,0,0,by omega,rfl,H,⟨by constructor <;> go_simp⟩,⟨below_drew1 ((Below.refl _ _).alloc (Nat.le_refl _) _)⟩⟩
 case round =>
  obtain ⟨i,x,y,z,hi,rfl,HR,HA,HB⟩:=hrel;rename World=>wr
  clear H;have hA:=HA.out;obtain ⟨k0,k1,k2,f0,f1,f2⟩:=hA;have hi':i=0∨i=1∨i=2∨i=3:=by omega
  rcases hi' with rfl|rfl|rfl|rfl
  ·have h:=HR.out;rw [show 3 - 0=3 from rfl,days_Parse.rem] at h;obtain ⟨c,hc,h⟩:=Option.bind_eq_some_iff.mp h;have CN:=sd (fun W=>days_number.calls k _ c.1 c.2 W hc);have hix:=fun W=>parts_at0 W (a0.extract 0 4) (a0.extract 5 7) (a0.extract 8 10)
   clear hc;obtain ⟨c1,c2⟩:=c
   cases c2
   ·obtain ⟨rfl,rfl⟩:=Prod.mk.inj (Option.some.inj h);go_wp2_with fail
    refine (CN.out _).mono ?_;rintro e w1 ⟨rfl,hd⟩;obtain ⟨⟨n1,rfl⟩⟩:=hd;go_wp2_with fail
    rw [← HP.out];exact ⟨by (try rfl),zq25⟩
   ·have HR2:=sd (show days_Parse.rem k a0 2 c1 y z=some (r1,r2) from (if_pos rfl).symm.trans h);clear h HR;go_wp2_with fail
    refine (CN.out _).mono ?_;rintro e w1 ⟨rfl,hd⟩;obtain ⟨⟨n1,rfl⟩⟩:=hd;go_wp2_with fail
    go_roundw
    case rel=>exact ⟨1,c1,y,z,by omega,by go_num,HR2,⟨(HA.out.drawn _).s0 _⟩,⟨below_setN zq25 (Nat.le_refl _) _⟩⟩
    case measure=>simp [RowKit.intOf]
  ·have h:=HR.out;rw [show 3 - 1=2 from rfl,days_Parse.rem] at h;obtain ⟨c,hc,h⟩:=Option.bind_eq_some_iff.mp h;have CN:=sd (fun W=>days_number.calls k _ c.1 c.2 W hc);have hix:=fun W=>parts_at1 W (a0.extract 0 4) (a0.extract 5 7) (a0.extract 8 10)
   clear hc;obtain ⟨c1,c2⟩:=c
   cases c2
   ·obtain ⟨rfl,rfl⟩:=Prod.mk.inj (Option.some.inj h);go_wp2_with fail
    refine (CN.out _).mono ?_;rintro e w1 ⟨rfl,hd⟩;obtain ⟨⟨n1,rfl⟩⟩:=hd;go_wp2_with fail
    rw [← HP.out];exact ⟨by (try rfl),zq25⟩
   ·have HR2:=sd (show days_Parse.rem k a0 1 x c1 z=some (r1,r2) from (if_pos rfl).symm.trans h);clear h HR;go_wp2_with fail
    refine (CN.out _).mono ?_;rintro e w1 ⟨rfl,hd⟩;obtain ⟨⟨n1,rfl⟩⟩:=hd;go_wp2_with fail
    go_roundw
    case rel=>exact ⟨2,x,c1,z,by omega,by go_num,HR2,⟨(HA.out.drawn _).s1 _⟩,⟨below_setN zq25 (Nat.le_refl _) _⟩⟩
    case measure=>simp [RowKit.intOf]
  ·have h:=HR.out;rw [show 3 - 2=1 from rfl,days_Parse.rem] at h;obtain ⟨c,hc,h⟩:=Option.bind_eq_some_iff.mp h;have CN:=sd (fun W=>days_number.calls k _ c.1 c.2 W hc);have hix:=fun W=>parts_at2 W (a0.extract 0 4) (a0.extract 5 7) (a0.extract 8 10)
   clear hc;obtain ⟨c1,c2⟩:=c
   cases c2
   ·obtain ⟨rfl,rfl⟩:=Prod.mk.inj (Option.some.inj h);go_wp2_with fail
    refine (CN.out _).mono ?_;rintro e w1 ⟨rfl,hd⟩;obtain ⟨⟨n1,rfl⟩⟩:=hd;go_wp2_with fail
    rw [← HP.out];exact ⟨by (try rfl),zq25⟩
   ·have HR2:=sd (show days_Parse.rem k a0 0 x y c1=some (r1,r2) by rw [days_Parse.rem];rw [if_pos rfl] at h;exact h);clear h HR;go_wp2_with fail
    refine (CN.out _).mono ?_;rintro e w1 ⟨rfl,hd⟩;obtain ⟨⟨n1,rfl⟩⟩:=hd;go_wp2_with fail
    go_roundw
    case rel=>exact ⟨3,x,y,c1,by omega,by go_num,HR2,⟨(HA.out.drawn _).s2 _⟩,⟨below_setN zq25 (Nat.le_refl _) _⟩⟩
    case measure=>simp [RowKit.intOf]
  ·have h:=HR.out;rw [show 3 - 3=0 from rfl,days_Parse.rem] at h;have CO:=sd (fun W hW=>days_Of.calls k _ _ _ _ _ W h hW);clear h HR;go_wp2_with fail
   refine (CO.out _ (gl_below HG.out HB.out)).mono ?_;rintro e w1 ⟨rfl,hb⟩;have HB2:=sd (below_step HB.out hb);clear hb;go_wp2_with fail
   rw [← HP.out];exact ⟨by (try rfl),HB2.out⟩
theorem tail_5 (bd g:Nat) (p:PR) (vC vT vW:Value) (x:S66) (code:Bool) (w:World) (hp:RP w bd g p vC vT vW) (hbd:bd≤w.heap.size) (hst:p.st=5) (hln:p.ws.length≤1000000) (hn:0 < p.cs.length) :
    Calls Tryd.prog 73 #[.pointer (some ⟨g,0,none⟩),.agg #[.int .i64 x.f0,.string x.f1,.int .i64 x.f2],.bool code] w (StepPost bd g vC vT vW ({ p with ws:=p.ws++[x] }) (if (rd_T27 p.cs ((p.cs.length - 1:Nat):Int)).f0=1∨(rd_T27 p.cs ((p.cs.length - 1:Nat):Int)).f0=4 then fol (decide (x.f0=2)) 6 else fol (decide (x.f0=3)) 6) w):=by
  have hmf:∀ (fn:Fn) (first cap:Array Value) (w:World),(Instr.makeFunc fn first cap).run Tryd.prog w=.ok (.func fn first cap) w:=fun _ _ _ _=>rfl
  have HP:=sd hp;have HLEN:=sd hln;obtain ⟨gc,cap,hvc,hgc,_,_⟩:=Kd.R_form HP.out.rC hn;subst hvc;have HN:=sd hn;have HGC:=sd hgc;clear hln hn hgc;obtain ⟨va,vc,hvw⟩:=Kd.R_slice HP.out.rW;subst hvw;have HNE:=sd (show ¬ w.heap.size=g from fun h=>by have:=blk_lt hp.blk;omega);have HNW:=sd (Kd.R_lt HP.out.rW);have HF:=sd (FP.refl bd g (.slice (some ⟨gc,0,none⟩) p.cs.length cap) vT (.slice va p.ws.length vc) w);clear hp;generalize hQ:StepPost bd g (.slice (some ⟨gc,0,none⟩) p.cs.length cap) vT (.slice va p.ws.length vc) ({ p with ws:=p.ws++[x] }) (if (rd_T27 p.cs ((p.cs.length - 1:Nat):Int)).f0=1∨(rd_T27 p.cs ((p.cs.length - 1:Nat):Int)).f0=4 then fol (decide (x.f0=2)) 6 else fol (decide (x.f0=3)) 6) w=Post;have HQ:=sd hQ;clear hQ;go_enter Tryd.func73,Tryd.ntmps73
  go_upto_region 1 with (fail)
  have hB1:=below_alloc (Below.refl w.heap.size w) (Obj.cells #[Value.int IntKind.i64 x.f0,Value.string x.f1,Value.int IntKind.i64 x.f2] 66);have b0:(w.alloc (Obj.cells #[Value.int IntKind.i64 x.f0,Value.string x.f1,Value.int IntKind.i64 x.f2] 66)).heap[w.heap.size]?=some (.cells #[Value.int IntKind.i64 x.f0,Value.string x.f1,Value.int IntKind.i64 x.f2] 66 (0,0)):=blk_new _ _;replace HP:=sd (HP.out.below hB1);replace HF:=sd (HF.out.below hB1 hbd);generalize w.alloc (Obj.cells #[Value.int IntKind.i64 x.f0,Value.string x.f1,Value.int IntKind.i64 x.f2] 66)=w1 at *;obtain ⟨gw,hgw⟩:∃ gw,gw=w.heap.size:=⟨_,rfl⟩
  have hgg:gw≠g:=by have:=blk_lt HP.out.blk;have:=hB1.size;intro h;rw [hgw] at h;exact absurd h (HNE.out)
  have HGN:=sd (show some gw≠Value.ownBlock (.slice va p.ws.length vc) from fun e=>by have:=HNW.out gw e.symm;omega);clear HNW;rw [← hgw] at b0 ⊢;have BW:=sd b0;have HB1:=sd hB1;clear b0 hB1 hgw;obtain ⟨⟨k0,k1,k2,k3,k4,k5,k6⟩,f0,f1,f2,f3,f4,f5,f6⟩:=HP.out.facts;rw [hst] at k5;obtain ⟨w0_,w1_,w2_,_,_,_⟩:=bk3 BW;go_wp2_with fail
  clear k0 k1 k2 k3 k4 k5 k6 f0 f1 f2 f3 f4 f5 f6 w0_ w1_ w2_;replace HP:=sd (HP.out.below (below_drew1 (Below.refl _ _)));replace HF:=sd (HF.out.below (below_drew1 (Below.refl _ _)) hbd);replace BW:=sd (blk_below BW.out (below_drew1 (Below.refl _ _)));obtain ⟨⟨k0,k1,k2,k3,k4,k5,k6⟩,f0,f1,f2,f3,f4,f5,f6⟩:=HP.out.facts;obtain ⟨w0_,w1_,w2_,_,_,_⟩:=bk3 BW;refine start_ (n:=11) (S:=fun w'=>w'.cell? ⟨g,6,none⟩=some (.slice va p.ws.length vc)∧w'.cell? ⟨gw,0,none⟩=some (.int .i64 x.f0)∧w'.cell? ⟨gw,1,none⟩=some (.string x.f1)∧w'.cell? ⟨gw,2,none⟩=some (.int .i64 x.f2)) (ds:=[7,10]) #[false,false,false,false,false,false,false,false,false,false,false] (by kernel_rfl) rfl rfl ⟨k6,w0_,w1_,w2_⟩ (fun hHeld=>?_);generalize w1.drew=w9 at HP HF BW k0 k1 k2 k3 k4 k5 k6 f0 f1 f2 f3 f4 f5 f6 w0_ w1_ w2_ hHeld ⊢;refine pB 0 15 ?_;refine pB 1 16 ?_;refine pB 2 17 ?_;refine pB 3 18 ?_;refine tB 4 19 hHeld ?_;refine tB 5 20 hHeld ?_;refine one_ (i:=6) (N:=some 21) #[true,true,true,true,true,true,true,false,false,false,false] rfl rfl (by kernel_rfl) (by decide) (fun K hK=>?_);refine value_ (v:=.slice (some ⟨w9.heap.size,0,none⟩) 1 1) (w1:=w9.alloc (.cells #[.int .i64 x.f0,.string x.f1,.int .i64 x.f2] 66)) (by rfl) rfl (by go_simp) ?_;have hb9:=below_alloc (Below.refl w9.heap.size w9) (.cells #[.int .i64 x.f0,.string x.f1,.int .i64 x.f2] 66);refine hK.out _ _ ⟨pw_cell_below hb9 hHeld.1,pw_cell_below hb9 hHeld.2.1,pw_cell_below hb9 hHeld.2.2.1,pw_cell_below hb9 hHeld.2.2.2⟩ (fun hHeld=>?_);clear hK K hb9;refine nA 21 ?_;refine last_ (i:=7) (N:=some 22) #[true,true,true,true,true,true,true,true,false,false,false] rfl rfl (by kernel_rfl) (by decide) (fun K hK=>?_);refine Kd.R_append_step (w0:=w9) k66 bd (by rfl) (.tmp 19) (.tmp 21) 59 66 _ 32 rfl Tryd.underlying59 info66 rfl (by decide) (by decide) (.slice va p.ws.length vc) p.ws x [.int .i64 x.f0,.string x.f1,.int .i64 x.f2] (fun _=>True) (fun _=>False) rfl rfl (k66_mkM _ _ _ _) (fun k hk=>hk.elim) (fun _ _=>trivial) HP.out.rW (Below.refl _ _) (below_base HF.out.b hbd) (by have:=HLEN.out;omega) ?_;intro v1 w10 hR hb hg hat;obtain ⟨va4,vc4,rfl⟩:=Kd.R_slice hR;rw [List.length_append,List.length_singleton] at hR ⊢;refine hK.out _ _ ?_;clear hK K;refine nA 22 ?_;refine pB 8 23 ?_;refine pB 9 24 ?_;have hB4:=blk_grown HP.out.blk hg (Kd.R_ne HP.out.rW HP.out.blk (by decide));have hs4:w10.cell? ⟨g,6,none⟩=some (.slice va p.ws.length vc):=(blk_cell hB4 6).trans rfl;have hf4:=blk_frozen hB4 6;refine last_ (i:=10) (N:=none) #[true,true,true,true,true,true,true,true,true,true,true] rfl rfl (by kernel_rfl) (by decide) (fun K hK=>?_);refine skip_ (w1:=w10.setCell ⟨g,6,none⟩ (.slice va4 (p.ws.length+1) vc4)) (by rfl) rfl (by go_simp;try rfl) ?_;refine hK.out _ _ ?_;clear hK K;refine done_ (by kernel_rfl) ?_;replace BW:=sd (blk_far (p:=⟨g,6,none⟩) (blk_grown BW.out hg HGN.out) hgg (.slice va4 (p.ws.length+1) vc4));replace HF:=sd (FP.set (o:=6) (FP.grownW HF.out hb hg) HP.out.hbd (.slice va4 (p.ws.length+1) vc4));replace HP:=sd (RP.growW HP.out hR hg);clear hB4 hs4 hf4 hb hg hat hR k0 k1 k2 k3 k4 k5 k6 f0 f1 f2 f3 f4 f5 f6 w0_ w1_ w2_ hHeld;generalize w10.setCell ⟨g,6,none⟩ (.slice va4 (p.ws.length+1) vc4)=w11 at HP HF BW ⊢;go_wp2_with fail
  refine (last_calls bd g gc cap _ vT _ _ HP.out HN.out).mono ?_;rintro e wn ⟨rfl,hd⟩;obtain ⟨⟨nd,rfl⟩⟩:=hd;replace HP:=sd (HP.out.below (pw_below_drewN (Below.refl _ _) nd));replace HF:=sd (HF.out.below (pw_below_drewN (Below.refl _ _) nd) hbd);replace BW:=sd (blk_below BW.out (pw_below_drewN (Below.refl _ _) nd));generalize w11.drewN nd=w12 at HP HF BW ⊢;obtain ⟨m,hm⟩:∃ m,p.cs.length - 1=m:=⟨_,rfl⟩
  have hml:m < p.cs.length:=by have:=HN.out;omega
  obtain ⟨c,hc⟩:∃ c,rd_T27 p.cs (m:Int)=c:=⟨_,rfl⟩
  rw [hm,hc] at HQ;dsimp only
  rw [hm];obtain ⟨cc,hcl,hM,hcc,hfr⟩:=Kd.R_elem HP.out.rC z27 (m:Int) (by omega) (by show (m:Int) < (p.cs.length:Int);omega)
  have hce:cc=[Value.int .i64 c.f0,.int .i64 c.f1,.string c.f2,.int .i64 c.f3]:=by
    have:=k27_openM hM;rw [this,← hc];rfl
  subst hce;have e0:w12.cell? ⟨gc,m * 4,none⟩=some (.int .i64 c.f0):=hcc 0 _ rfl;clear hcl hM hcc hfr hc hm hml;obtain ⟨w0_,w1_,w2_,_,_,_⟩:=bk3 BW;go_wp2_with fail
  refine (count_calls c.f0 w12).mono ?_;rintro e wn ⟨rfl,hd⟩;obtain ⟨⟨nd,rfl⟩⟩:=hd;replace HP:=sd (HP.out.below (pw_below_drewN (Below.refl _ _) nd));replace HF:=sd (HF.out.below (pw_below_drewN (Below.refl _ _) nd) hbd);replace BW:=sd (blk_below BW.out (pw_below_drewN (Below.refl _ _) nd));clear e0 w0_ w1_ w2_;generalize w12.drewN nd=w13 at HP HF BW ⊢;obtain ⟨w0_,w1_,w2_,_,_,_⟩:=bk3 BW;by_cases ec:c.f0=1∨c.f0=4
  · rw [if_pos ec] at HQ
    rw [decide_eq_true ec];go_wp2_with fail
    refine (follow_calls _ 6 _).mono ?_;rintro e wn ⟨rfl,hd⟩;obtain ⟨⟨nd,rfl⟩⟩:=hd;go_wp2_with fail
    rw [← HQ.out];exact ⟨by (try rfl),⟨_,_,_,HP.out.below (pw_below_drewN (Below.refl _ _) _)⟩,HF.out.below (pw_below_drewN (Below.refl _ _) _) hbd⟩
  rw [if_neg ec] at HQ;rw [decide_eq_false ec];go_wp2_with fail
  refine (follow_calls _ 6 _).mono ?_;rintro e wn ⟨rfl,hd⟩;obtain ⟨⟨nd,rfl⟩⟩:=hd;go_wp2_with fail
  rw [← HQ.out];exact ⟨by (try rfl),⟨_,_,_,HP.out.below (pw_below_drewN (Below.refl _ _) _)⟩,HF.out.below (pw_below_drewN (Below.refl _ _) _) hbd⟩
end A

end Go.Proofs.YtlblkojjpagbkaaDoor