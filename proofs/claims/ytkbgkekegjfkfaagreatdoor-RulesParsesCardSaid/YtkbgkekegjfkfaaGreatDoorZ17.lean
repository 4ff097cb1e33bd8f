-- By pack.py, a program of this session's.
import Derived.Test.YtkbgkekegjfkfaaGreatDoorZ5
import Derived.Test.YtkbgkekegjfkfaaGreatDoorZ6
import Derived.Test.YtkbgkekegjfkfaaGreatDoorZ7
import Derived.Test.YtkbgkekegjfkfaaGreatDoorZ8
import Derived.Test.YtkbgkekegjfkfaaGreatDoorZ9
import Derived.Test.YtkbgkekegjfkfaaGreatDoorZ10
set_option linter.unusedVariables false
set_option linter.unusedSimpArgs false
namespace Go.Proofs.YtkbgkekegjfkfaaGreatDoor
namespace A
open Go.RowKit B WW WL WM
attribute [local go_sem] max2_int min2_int max_two min_two max_three min_three max_four min_four
set_option maxHeartbeats 8000000
set_option maxRecDepth 100000
def nOfC (c:S48) (d a:Int):Int:=if c.f0=4 then d else a
theorem nOf_calls (g:Nat) (c:S48) (d a:Int) (rf tx:ByteArray) (w:World) (h0:w.cell? ⟨g,0,none⟩=some (.int .i64 c.f0)) :
  Calls Tryz.prog 59 #[.agg #[.int .i64 d,.int .i64 a,.string rf,.string tx],.pointer (some ⟨g,0,none⟩)] w fun e w'=>e=.returned (.int .i64 (nOfC c d a))∧Below w.heap.size w w':=by
 have hlt:=lt_of_cell h0;unfold nOfC;go_enter Tryz.func59,Tryz.ntmps59
 by_cases e:c.f0=4
 ·have e0:decide (c.f0=4)=true:=decide_eq_true e;rw [if_pos e];go_wp2_with fail
  go_ret
  exact ⟨rfl,below_alloc (Below.refl _ _) _⟩
 have e0:decide (c.f0=4)=false:=decide_eq_false e;rw [if_neg e];go_wp2_with fail
 go_ret
 exact ⟨rfl,below_alloc (Below.refl _ _) _⟩
theorem sOf_calls (g:Nat) (c:S48) (d a:Int) (rf tx:ByteArray) (w:World) (h0:w.cell? ⟨g,0,none⟩=some (.int .i64 c.f0)) :
  Calls Tryz.prog 60 #[.agg #[.int .i64 d,.int .i64 a,.string rf,.string tx],.pointer (some ⟨g,0,none⟩)] w fun e w'=>e=.returned (.string (sOfC c rf tx))∧Below w.heap.size w w':=by
 have hlt:=lt_of_cell h0;unfold sOfC;go_enter Tryz.func60,Tryz.ntmps60
 by_cases e:c.f0=2
 ·have e0:decide (c.f0=2)=true:=decide_eq_true e;rw [if_pos e];go_wp2_with fail
  go_ret
  exact ⟨rfl,below_alloc (Below.refl _ _) _⟩
 have e0:decide (c.f0=2)=false:=decide_eq_false e;rw [if_neg e];go_wp2_with fail
 go_ret
 exact ⟨rfl,below_alloc (Below.refl _ _) _⟩
theorem goesF_ {P : Program} {ops : Array Oper} {Q : Exit → Act → World → Prop} {oi : Oper} {N : Option Tmp} {a : Act} {w : World} {K : Act → World → Prop} {f : FuncId} {fn : Func} {o : Operand} {as_ : Array Operand} {ts : Array TypeId} {cap : Array Value} (hf : P.funcs[f]? = some fn) (hname : (fn.name == "runtime.NumGoroutine") = false) (hb : fn.body.isSome = true) (args : Array Value)
  (hw:Region.wanted oi (yielded ops a.tmps)=true) (hN:oi.dst=N) (hop:oi.op=.call { callee:=.value o,args:=as_,argTypes:=ts }) (ho:a.eval o=.func (.func f) #[] cap) (hargs:as_.map a.eval++cap=args)
  (h:Calls P f args w fun e w'=>∃ v,e=.returned v∧K (a.put N v) w'):if Region.wanted oi (yielded ops a.tmps)=true then Oper.wp P oi a w K Q else K (a.put N undef) w:=by
 refine call_ f args hw hN ?_ h;have he:=enters_ hf hname hb args w;unfold execOp;simp [hop,resolve,Deferred.ofValue,invoke,ho,hargs,he]
def lineV (d a:Int) (rf tx:ByteArray):Value:=.agg #[.int .i64 d,.int .i64 a,.string rf,.string tx]
theorem least_calls (g gn gs:Nat) (c:S48) (d a:Int) (rf tx:ByteArray) (w:World) (h:CEnv w g gn gs c) :
  Calls Tryz.prog 61 #[lineV d a rf tx,.pointer (some ⟨gn,0,none⟩),.pointer (some ⟨g,0,none⟩)] w fun e w'=>e=.returned (.bool (decide (nOfC c d a ≥ c.f3)))∧Below w.heap.size w w':=by
 have HE:=sd h;clear h;generalize hQ:(fun (e:Ending) (w':World)=>e=.returned (.bool (decide (nOfC c d a ≥ c.f3)))∧Below w.heap.size w w')=Post;have HQ:=sd hQ;clear hQ;unfold lineV;go_enter Tryz.func61,Tryz.ntmps61
 go_wp2_with fail
 have HB:=sd (below_alloc (Below.refl w.heap.size w) (Obj.cells #[Value.int IntKind.i64 d,Value.int IntKind.i64 a,Value.string rf,Value.string tx] 32));have HE1:=sd (HE.out.below HB.out);have b0:(w.alloc (Obj.cells #[Value.int IntKind.i64 d,Value.int IntKind.i64 a,Value.string rf,Value.string tx] 32)).heap[w.heap.size]?=some (.cells #[Value.int IntKind.i64 d,Value.int IntKind.i64 a,Value.string rf,Value.string tx] 32 (0,0)):=blk_new _ _;generalize w.alloc (Obj.cells #[Value.int IntKind.i64 d,Value.int IntKind.i64 a,Value.string rf,Value.string tx] 32)=w1 at *;generalize w.heap.size=gl at b0 ⊢;have b1:(w1.drew).heap[gl]?=some (.cells #[Value.int IntKind.i64 d,Value.int IntKind.i64 a,Value.string rf,Value.string tx] 32 (0,0)):=b0;have l0:w1.drew.cell? ⟨gl,0,none⟩=some (.int .i64 d):=(blk_cell b1 0).trans rfl;have l1:w1.drew.cell? ⟨gl,1,none⟩=some (.int .i64 a):=(blk_cell b1 1).trans rfl;have l2:w1.drew.cell? ⟨gl,2,none⟩=some (.string rf):=(blk_cell b1 2).trans rfl;have l3:w1.drew.cell? ⟨gl,3,none⟩=some (.string tx):=(blk_cell b1 3).trans rfl;have HE2:=sd (HE1.out.below (below_drew1 (Below.refl _ _)));have HB2:=sd (below_drew1 HB.out);clear b0 b1 HB HE1;refine start_ (n:=7) (S:=fun w'=>w'.cell? ⟨gn,0,none⟩=some (.func (.func 59) #[] #[.pointer (some ⟨g,0,none⟩)])∧w'.cell? ⟨g,3,none⟩=some (.int .i64 c.f3)∧w'.cell? ⟨gl,0,none⟩=some (.int .i64 d)∧w'.cell? ⟨gl,1,none⟩=some (.int .i64 a)∧w'.cell? ⟨gl,2,none⟩=some (.string rf)∧w'.cell? ⟨gl,3,none⟩=some (.string tx)) (ds:=[]) #[false,false,false,false,false,false,false] (by kernel_rfl) rfl rfl ⟨HE2.out.fn,HE2.out.c3,l0,l1,l2,l3⟩ (fun hHeld=>?_);clear l0 l1 l2 l3;have hm2:∀ p v,w1.cell? p=some v→w1.drew.cell? p=some v:=fun p v hc=>hc
 clear hm2;generalize w1.drew=w2 at hHeld HE2 HB2  ⊢;refine tB 0 5 hHeld ?_;refine tB 1 6 hHeld ?_;refine pB 3 8 ?_;refine tB 4 9 hHeld ?_;refine one_ (i:=2) (N:=some 7) #[true,true,true,true,true,false,false] rfl rfl (by kernel_rfl) (by decide) (fun K hK=>?_);refine goesF_ (cap:=#[.pointer (some ⟨g,0,none⟩)]) Tryz.func59 (by kernel_rfl) rfl #[.agg #[.int .i64 d,.int .i64 a,.string rf,.string tx],.pointer (some ⟨g,0,none⟩)] (by rfl) rfl rfl (by rfl) zq122 ?_;refine (nOf_calls g c d a rf tx w2 HE2.out.c0).mono ?_;rintro e w3 ⟨rfl,hb⟩;refine ⟨_,rfl,?_⟩;have hk:∀ p v,w2.cell? p=some v→w3.cell? p=some v:=fun p v hc=>(hb.cell (lt_of_cell hc)).trans hc
 obtain ⟨h1,h2,h3,h4,h5,h6⟩:=hHeld;refine hK.out _ _ ⟨hk _ _ h1,hk _ _ h2,hk _ _ h3,hk _ _ h4,hk _ _ h5,hk _ _ h6⟩ (fun hHeld=>?_);clear hK K h1 h2 h3 h4 h5 h6 hk;refine nA 7 ?_;refine pB 5 10 ?_;refine pB 6 4 ?_;refine done_ (by kernel_rfl) ?_;clear hHeld;go_wp2_with fail
 rw [← HQ.out];exact ⟨by (try rfl),HB2.out.trans (hb.mono HB2.out.size)⟩
theorem most_calls (g gn gs:Nat) (c:S48) (d a:Int) (rf tx:ByteArray) (w:World) (h:CEnv w g gn gs c) :
  Calls Tryz.prog 62 #[lineV d a rf tx,.pointer (some ⟨gn,0,none⟩),.pointer (some ⟨g,0,none⟩)] w fun e w'=>e=.returned (.bool (decide (nOfC c d a≤c.f3)))∧Below w.heap.size w w':=by
 have HE:=sd h;clear h;generalize hQ:(fun (e:Ending) (w':World)=>e=.returned (.bool (decide (nOfC c d a≤c.f3)))∧Below w.heap.size w w')=Post;have HQ:=sd hQ;clear hQ;unfold lineV;go_enter Tryz.func62,Tryz.ntmps62
 go_wp2_with fail
 have HB:=sd (below_alloc (Below.refl w.heap.size w) (Obj.cells #[Value.int IntKind.i64 d,Value.int IntKind.i64 a,Value.string rf,Value.string tx] 32));have HE1:=sd (HE.out.below HB.out);have b0:(w.alloc (Obj.cells #[Value.int IntKind.i64 d,Value.int IntKind.i64 a,Value.string rf,Value.string tx] 32)).heap[w.heap.size]?=some (.cells #[Value.int IntKind.i64 d,Value.int IntKind.i64 a,Value.string rf,Value.string tx] 32 (0,0)):=blk_new _ _;generalize w.alloc (Obj.cells #[Value.int IntKind.i64 d,Value.int IntKind.i64 a,Value.string rf,Value.string tx] 32)=w1 at *;generalize w.heap.size=gl at b0 ⊢;have b1:(w1.drew).heap[gl]?=some (.cells #[Value.int IntKind.i64 d,Value.int IntKind.i64 a,Value.string rf,Value.string tx] 32 (0,0)):=b0;have l0:w1.drew.cell? ⟨gl,0,none⟩=some (.int .i64 d):=(blk_cell b1 0).trans rfl;have l1:w1.drew.cell? ⟨gl,1,none⟩=some (.int .i64 a):=(blk_cell b1 1).trans rfl;have l2:w1.drew.cell? ⟨gl,2,none⟩=some (.string rf):=(blk_cell b1 2).trans rfl;have l3:w1.drew.cell? ⟨gl,3,none⟩=some (.string tx):=(blk_cell b1 3).trans rfl;have HE2:=sd (HE1.out.below (below_drew1 (Below.refl _ _)));have HB2:=sd (below_drew1 HB.out);clear b0 b1 HB HE1;refine start_ (n:=7) (S:=fun w'=>w'.cell? ⟨gn,0,none⟩=some (.func (.func 59) #[] #[.pointer (some ⟨g,0,none⟩)])∧w'.cell? ⟨g,3,none⟩=some (.int .i64 c.f3)∧w'.cell? ⟨gl,0,none⟩=some (.int .i64 d)∧w'.cell? ⟨gl,1,none⟩=some (.int .i64 a)∧w'.cell? ⟨gl,2,none⟩=some (.string rf)∧w'.cell? ⟨gl,3,none⟩=some (.string tx)) (ds:=[]) #[false,false,false,false,false,false,false] (by kernel_rfl) rfl rfl ⟨HE2.out.fn,HE2.out.c3,l0,l1,l2,l3⟩ (fun hHeld=>?_);clear l0 l1 l2 l3;have hm2:∀ p v,w1.cell? p=some v→w1.drew.cell? p=some v:=fun p v hc=>hc
 clear hm2;generalize w1.drew=w2 at hHeld HE2 HB2  ⊢;refine tB 0 5 hHeld ?_;refine tB 1 6 hHeld ?_;refine pB 3 8 ?_;refine tB 4 9 hHeld ?_;refine one_ (i:=2) (N:=some 7) #[true,true,true,true,true,false,false] rfl rfl (by kernel_rfl) (by decide) (fun K hK=>?_);refine goesF_ (cap:=#[.pointer (some ⟨g,0,none⟩)]) Tryz.func59 (by kernel_rfl) rfl #[.agg #[.int .i64 d,.int .i64 a,.string rf,.string tx],.pointer (some ⟨g,0,none⟩)] (by rfl) rfl rfl (by rfl) zq122 ?_;refine (nOf_calls g c d a rf tx w2 HE2.out.c0).mono ?_;rintro e w3 ⟨rfl,hb⟩;refine ⟨_,rfl,?_⟩;have hk:∀ p v,w2.cell? p=some v→w3.cell? p=some v:=fun p v hc=>(hb.cell (lt_of_cell hc)).trans hc
 obtain ⟨h1,h2,h3,h4,h5,h6⟩:=hHeld;refine hK.out _ _ ⟨hk _ _ h1,hk _ _ h2,hk _ _ h3,hk _ _ h4,hk _ _ h5,hk _ _ h6⟩ (fun hHeld=>?_);clear hK K h1 h2 h3 h4 h5 h6 hk;refine nA 7 ?_;refine pB 5 10 ?_;refine pB 6 4 ?_;refine done_ (by kernel_rfl) ?_;clear hHeld;go_wp2_with fail
 rw [← HQ.out];exact ⟨by (try rfl),HB2.out.trans (hb.mono HB2.out.size)⟩
theorem same_calls (g gn gs:Nat) (c:S48) (d a:Int) (rf tx:ByteArray) (w:World) (h:CEnv w g gn gs c) :
  Calls Tryz.prog 68 #[lineV d a rf tx,.pointer (some ⟨gn,0,none⟩),.pointer (some ⟨g,0,none⟩)] w fun e w'=>e=.returned (.bool (decide (nOfC c d a=c.f3)))∧Below w.heap.size w w':=by
 have HE:=sd h;clear h;generalize hQ:(fun (e:Ending) (w':World)=>e=.returned (.bool (decide (nOfC c d a=c.f3)))∧Below w.heap.size w w')=Post;have HQ:=sd hQ;clear hQ;unfold lineV;go_enter Tryz.func68,Tryz.ntmps68
 go_wp2_with fail
 have HB:=sd (below_alloc (Below.refl w.heap.size w) (Obj.cells #[Value.int IntKind.i64 d,Value.int IntKind.i64 a,Value.string rf,Value.string tx] 32));have HE1:=sd (HE.out.below HB.out);have b0:(w.alloc (Obj.cells #[Value.int IntKind.i64 d,Value.int IntKind.i64 a,Value.string rf,Value.string tx] 32)).heap[w.heap.size]?=some (.cells #[Value.int IntKind.i64 d,Value.int IntKind.i64 a,Value.string rf,Value.string tx] 32 (0,0)):=blk_new _ _;generalize w.alloc (Obj.cells #[Value.int IntKind.i64 d,Value.int IntKind.i64 a,Value.string rf,Value.string tx] 32)=w1 at *;generalize w.heap.size=gl at b0 ⊢;have b1:(w1.drew).heap[gl]?=some (.cells #[Value.int IntKind.i64 d,Value.int IntKind.i64 a,Value.string rf,Value.string tx] 32 (0,0)):=b0;have l0:w1.drew.cell? ⟨gl,0,none⟩=some (.int .i64 d):=(blk_cell b1 0).trans rfl;have l1:w1.drew.cell? ⟨gl,1,none⟩=some (.int .i64 a):=(blk_cell b1 1).trans rfl;have l2:w1.drew.cell? ⟨gl,2,none⟩=some (.string rf):=(blk_cell b1 2).trans rfl;have l3:w1.drew.cell? ⟨gl,3,none⟩=some (.string tx):=(blk_cell b1 3).trans rfl;have HE2:=sd (HE1.out.below (below_drew1 (Below.refl _ _)));have HB2:=sd (below_drew1 HB.out);clear b0 b1 HB HE1;refine start_ (n:=7) (S:=fun w'=>w'.cell? ⟨gn,0,none⟩=some (.func (.func 59) #[] #[.pointer (some ⟨g,0,none⟩)])∧w'.cell? ⟨g,3,none⟩=some (.int .i64 c.f3)∧w'.cell? ⟨gl,0,none⟩=some (.int .i64 d)∧w'.cell? ⟨gl,1,none⟩=some (.int .i64 a)∧w'.cell? ⟨gl,2,none⟩=some (.string rf)∧w'.cell? ⟨gl,3,none⟩=some (.string tx)) (ds:=[]) #[false,false,false,false,false,false,false] (by kernel_rfl) rfl rfl ⟨HE2.out.fn,HE2.out.c3,l0,l1,l2,l3⟩ (fun hHeld=>?_);clear l0 l1 l2 l3;have hm2:∀ p v,w1.cell? p=some v→w1.drew.cell? p=some v:=fun p v hc=>hc
 clear hm2;generalize w1.drew=w2 at hHeld HE2 HB2  ⊢;refine tB 0 5 hHeld ?_;refine tB 1 6 hHeld ?_;refine pB 3 8 ?_;refine tB 4 9 hHeld ?_;refine one_ (i:=2) (N:=some 7) #[true,true,true,true,true,false,false] rfl rfl (by kernel_rfl) (by decide) (fun K hK=>?_);refine goesF_ (cap:=#[.pointer (some ⟨g,0,none⟩)]) Tryz.func59 (by kernel_rfl) rfl #[.agg #[.int .i64 d,.int .i64 a,.string rf,.string tx],.pointer (some ⟨g,0,none⟩)] (by rfl) rfl rfl (by rfl) zq122 ?_;refine (nOf_calls g c d a rf tx w2 HE2.out.c0).mono ?_;rintro e w3 ⟨rfl,hb⟩;refine ⟨_,rfl,?_⟩;have hk:∀ p v,w2.cell? p=some v→w3.cell? p=some v:=fun p v hc=>(hb.cell (lt_of_cell hc)).trans hc
 obtain ⟨h1,h2,h3,h4,h5,h6⟩:=hHeld;refine hK.out _ _ ⟨hk _ _ h1,hk _ _ h2,hk _ _ h3,hk _ _ h4,hk _ _ h5,hk _ _ h6⟩ (fun hHeld=>?_);clear hK K h1 h2 h3 h4 h5 h6 hk;refine nA 7 ?_;refine pB 5 10 ?_;refine pB 6 4 ?_;refine done_ (by kernel_rfl) ?_;clear hHeld;go_wp2_with fail
 rw [← HQ.out];exact ⟨by (try rfl),HB2.out.trans (hb.mono HB2.out.size)⟩
theorem is_calls (g gn gs:Nat) (c:S48) (d a:Int) (rf tx:ByteArray) (w:World) (h:CEnv w g gn gs c) :
  Calls Tryz.prog 69 #[lineV d a rf tx,.pointer (some ⟨gs,0,none⟩),.pointer (some ⟨g,0,none⟩)] w fun e w'=>e=.returned (.bool ((sOfC c rf tx).toList == c.f2.toList))∧Below w.heap.size w w':=by
 have HE:=sd h;clear h;generalize hQ:(fun (e:Ending) (w':World)=>e=.returned (.bool ((sOfC c rf tx).toList == c.f2.toList))∧Below w.heap.size w w')=Post;have HQ:=sd hQ;clear hQ;unfold lineV;go_enter Tryz.func69,Tryz.ntmps69
 go_wp2_with fail
 have HB:=sd (below_alloc (Below.refl w.heap.size w) (Obj.cells #[Value.int IntKind.i64 d,Value.int IntKind.i64 a,Value.string rf,Value.string tx] 32));have HE1:=sd (HE.out.below HB.out);have b0:(w.alloc (Obj.cells #[Value.int IntKind.i64 d,Value.int IntKind.i64 a,Value.string rf,Value.string tx] 32)).heap[w.heap.size]?=some (.cells #[Value.int IntKind.i64 d,Value.int IntKind.i64 a,Value.string rf,Value.string tx] 32 (0,0)):=blk_new _ _;generalize w.alloc (Obj.cells #[Value.int IntKind.i64 d,Value.int IntKind.i64 a,Value.string rf,Value.string tx] 32)=w1 at *;generalize w.heap.size=gl at b0 ⊢;have b1:(w1.drew).heap[gl]?=some (.cells #[Value.int IntKind.i64 d,Value.int IntKind.i64 a,Value.string rf,Value.string tx] 32 (0,0)):=b0;have l0:w1.drew.cell? ⟨gl,0,none⟩=some (.int .i64 d):=(blk_cell b1 0).trans rfl;have l1:w1.drew.cell? ⟨gl,1,none⟩=some (.int .i64 a):=(blk_cell b1 1).trans rfl;have l2:w1.drew.cell? ⟨gl,2,none⟩=some (.string rf):=(blk_cell b1 2).trans rfl;have l3:w1.drew.cell? ⟨gl,3,none⟩=some (.string tx):=(blk_cell b1 3).trans rfl;have HE2:=sd (HE1.out.below (below_drew1 (Below.refl _ _)));have HB2:=sd (below_drew1 HB.out);clear b0 b1 HB HE1;refine start_ (n:=7) (S:=fun w'=>w'.cell? ⟨gs,0,none⟩=some (.func (.func 60) #[] #[.pointer (some ⟨g,0,none⟩)])∧w'.cell? ⟨g,2,none⟩=some (.string c.f2)∧w'.cell? ⟨gl,0,none⟩=some (.int .i64 d)∧w'.cell? ⟨gl,1,none⟩=some (.int .i64 a)∧w'.cell? ⟨gl,2,none⟩=some (.string rf)∧w'.cell? ⟨gl,3,none⟩=some (.string tx)) (ds:=[]) #[false,false,false,false,false,false,false] (by kernel_rfl) rfl rfl ⟨HE2.out.fs,HE2.out.c2,l0,l1,l2,l3⟩ (fun hHeld=>?_);clear l0 l1 l2 l3;have hm2:∀ p v,w1.cell? p=some v→w1.drew.cell? p=some v:=fun p v hc=>hc
 clear hm2;generalize w1.drew=w2 at hHeld HE2 HB2  ⊢;refine tB 0 5 hHeld ?_;refine tB 1 6 hHeld ?_;refine pB 3 8 ?_;refine tB 4 9 hHeld ?_;refine one_ (i:=2) (N:=some 7) #[true,true,true,true,true,false,false] rfl rfl (by kernel_rfl) (by decide) (fun K hK=>?_);refine goesF_ (cap:=#[.pointer (some ⟨g,0,none⟩)]) Tryz.func60 (by kernel_rfl) rfl #[.agg #[.int .i64 d,.int .i64 a,.string rf,.string tx],.pointer (some ⟨g,0,none⟩)] (by rfl) rfl rfl (by rfl) zq122 ?_;refine (sOf_calls g c d a rf tx w2 HE2.out.c0).mono ?_;rintro e w3 ⟨rfl,hb⟩;refine ⟨_,rfl,?_⟩;have hk:∀ p v,w2.cell? p=some v→w3.cell? p=some v:=fun p v hc=>(hb.cell (lt_of_cell hc)).trans hc
 obtain ⟨h1,h2,h3,h4,h5,h6⟩:=hHeld;refine hK.out _ _ ⟨hk _ _ h1,hk _ _ h2,hk _ _ h3,hk _ _ h4,hk _ _ h5,hk _ _ h6⟩ (fun hHeld=>?_);clear hK K h1 h2 h3 h4 h5 h6 hk;refine nA 7 ?_;refine pB 5 10 ?_;refine pB 6 4 ?_;refine done_ (by kernel_rfl) ?_;clear hHeld;go_wp2_with fail
 rw [← HQ.out];exact ⟨by (try rfl),HB2.out.trans (hb.mono HB2.out.size)⟩
theorem test_calls (hcnt:∀ (x:Int) (w:World),Calls Tryz.prog 67 #[.int .i64 x] w fun e w'=>e=.returned (.bool (decide (x=1∨x=4)))∧Drawn0 w w') (c:S48) (w:World) :
  Calls Tryz.prog 28 #[.agg #[.int .i64 c.f0,.int .i64 c.f1,.string c.f2,.int .i64 c.f3]] w fun e w'=>Below w.heap.size w w'∧∃ f cap g gn gs,e=.returned (.func (.func f) #[] cap)∧CEnv w' g gn gs c∧TestK c f cap g gn gs:=by
 have hmf:∀ (fn:Fn) (first cap:Array Value) (w:World),(Instr.makeFunc fn first cap).run Tryz.prog w=.ok (.func fn first cap) w:=fun _ _ _ _=>rfl
 generalize hQ:(fun (e:Ending) (w':World)=>Below w.heap.size w w'∧∃ f cap g gn gs,e=.returned (.func (.func f) #[] cap)∧CEnv w' g gn gs c∧TestK c f cap g gn gs)=Post;have HQ:=sd hQ;have HC:=sd hcnt;clear hQ hcnt;go_enter Tryz.func28,Tryz.ntmps28
 go_upto_region 1 with (fail)
 have HB:=sd (below_alloc (Below.refl w.heap.size w) (Obj.cells #[Value.int IntKind.i64 c.f0,Value.int IntKind.i64 c.f1,Value.string c.f2,Value.int IntKind.i64 c.f3] 48));have b0:(w.alloc (Obj.cells #[Value.int IntKind.i64 c.f0,Value.int IntKind.i64 c.f1,Value.string c.f2,Value.int IntKind.i64 c.f3] 48)).heap[w.heap.size]?=some (.cells #[Value.int IntKind.i64 c.f0,Value.int IntKind.i64 c.f1,Value.string c.f2,Value.int IntKind.i64 c.f3] 48 (0,0)):=blk_new _ _;generalize w.alloc (Obj.cells #[Value.int IntKind.i64 c.f0,Value.int IntKind.i64 c.f1,Value.string c.f2,Value.int IntKind.i64 c.f3] 48)=w1 at *;obtain ⟨g,hg⟩:∃ g,g=w.heap.size:=⟨_,rfl⟩
 rw [← hg] at b0 ⊢;have c0:w1.cell? ⟨g,0,none⟩=some (.int .i64 c.f0):=(blk_cell b0 0).trans rfl;have c1:w1.cell? ⟨g,1,none⟩=some (.int .i64 c.f1):=(blk_cell b0 1).trans rfl;have c2:w1.cell? ⟨g,2,none⟩=some (.string c.f2):=(blk_cell b0 2).trans rfl;have c3:w1.cell? ⟨g,3,none⟩=some (.int .i64 c.f3):=(blk_cell b0 3).trans rfl;clear b0 hg;go_upto_region 2 with (fail)
 have hB1:=below_alloc (Below.refl w1.heap.size w1) (Obj.cells #[Value.func (Fn.func 59) #[] #[Value.pointer (some ⟨g,0,none⟩)]] 95);have k0:=(hB1.cell (lt_of_cell c0)).trans c0;have k1:=(hB1.cell (lt_of_cell c1)).trans c1;have k2:=(hB1.cell (lt_of_cell c2)).trans c2;have k3:=(hB1.cell (lt_of_cell c3)).trans c3;replace HB:=sd (HB.out.trans (hB1.mono HB.out.size));have b1:(w1.alloc (Obj.cells #[Value.func (Fn.func 59) #[] #[Value.pointer (some ⟨g,0,none⟩)]] 95)).heap[w1.heap.size]?=some (.cells #[Value.func (Fn.func 59) #[] #[Value.pointer (some ⟨g,0,none⟩)]] 95 (0,0)):=blk_new _ _;clear c0 c1 c2 c3 hB1;generalize w1.alloc (Obj.cells #[Value.func (Fn.func 59) #[] #[Value.pointer (some ⟨g,0,none⟩)]] 95)=w2 at *;obtain ⟨gn,hgn⟩:∃ gn,gn=w1.heap.size:=⟨_,rfl⟩
 rw [← hgn] at b1 ⊢;have fn_:w2.cell? ⟨gn,0,none⟩=some (.func (.func 59) #[] #[.pointer (some ⟨g,0,none⟩)]):=(blk_cell b1 0).trans rfl;clear b1 hgn;go_upto_region 3 with (fail)
 have hB1:=below_alloc (Below.refl w2.heap.size w2) (Obj.cells #[Value.func (Fn.func 60) #[] #[Value.pointer (some ⟨g,0,none⟩)]] 96);have c0:=(hB1.cell (lt_of_cell k0)).trans k0;have c1:=(hB1.cell (lt_of_cell k1)).trans k1;have c2:=(hB1.cell (lt_of_cell k2)).trans k2;have c3:=(hB1.cell (lt_of_cell k3)).trans k3;replace fn_:=(hB1.cell (lt_of_cell fn_)).trans fn_;replace HB:=sd (HB.out.trans (hB1.mono HB.out.size));have b1:(w2.alloc (Obj.cells #[Value.func (Fn.func 60) #[] #[Value.pointer (some ⟨g,0,none⟩)]] 96)).heap[w2.heap.size]?=some (.cells #[Value.func (Fn.func 60) #[] #[Value.pointer (some ⟨g,0,none⟩)]] 96 (0,0)):=blk_new _ _;clear k0 k1 k2 k3 hB1;generalize w2.alloc (Obj.cells #[Value.func (Fn.func 60) #[] #[Value.pointer (some ⟨g,0,none⟩)]] 96)=w3 at *;obtain ⟨gs,hgs⟩:∃ gs,gs=w2.heap.size:=⟨_,rfl⟩
 rw [← hgs] at b1 ⊢;have fs_:w3.cell? ⟨gs,0,none⟩=some (.func (.func 60) #[] #[.pointer (some ⟨g,0,none⟩)]):=(blk_cell b1 0).trans rfl;clear b1 hgs;by_cases e2:c.f1=2
 ·have q2:decide (c.f1=2)=true:=decide_eq_true e2;go_wp2_with fail
  rw [← HQ.out];exact ⟨HB.out,_,_,g,gn,gs,rfl,⟨c0,c2,c3,fn_,fs_⟩,Or.inl ⟨e2,rfl,rfl⟩⟩
 have q2:decide (c.f1=2)=false:=decide_eq_false e2;by_cases e3:c.f1=3
 ·have q3:decide (c.f1=3)=true:=decide_eq_true e3;go_wp2_with fail
  rw [← HQ.out];exact ⟨HB.out,_,_,g,gn,gs,rfl,⟨c0,c2,c3,fn_,fs_⟩,Or.inr (Or.inl ⟨e3,rfl,rfl⟩)⟩
 have q3:decide (c.f1=3)=false:=decide_eq_false e3;by_cases e4:c.f1=4
 ·have q4:decide (c.f1=4)=true:=decide_eq_true e4;go_wp2_with fail
  rw [← HQ.out];exact ⟨HB.out,_,_,g,gn,gs,rfl,⟨c0,c2,c3,fn_,fs_⟩,Or.inr (Or.inr (Or.inl ⟨e4,rfl,rfl⟩))⟩
 have q4:decide (c.f1=4)=false:=decide_eq_false e4;by_cases e5:c.f1=5
 ·have q5:decide (c.f1=5)=true:=decide_eq_true e5;go_wp2_with fail
  rw [← HQ.out];exact ⟨HB.out,_,_,g,gn,gs,rfl,⟨c0,c2,c3,fn_,fs_⟩,Or.inr (Or.inr (Or.inr (Or.inl ⟨e5,rfl,rfl⟩)))⟩
 have q5:decide (c.f1=5)=false:=decide_eq_false e5;go_wp2_with fail
 refine (HC.out _ _).mono ?_;rintro e w4 ⟨rfl,hd⟩;obtain ⟨⟨nd,rfl⟩⟩:=hd;have HE:=sd ((CEnv.mk c0 c2 c3 fn_ fs_).below (pw_below_drewN (Below.refl _ _) nd));replace HB:=sd (pw_below_drewN HB.out nd);clear c0 c1 c2 c3 fn_ fs_;by_cases e0:c.f0=1∨c.f0=4
 ·have q0:decide (c.f0=1∨c.f0=4)=true:=decide_eq_true e0;rw [q0];go_wp2_with fail
  rw [← HQ.out];exact ⟨HB.out,_,_,g,gn,gs,rfl,HE.out,Or.inr (Or.inr (Or.inr (Or.inr ⟨⟨e2,e3,e4,e5⟩,Or.inl ⟨e0,rfl,rfl⟩⟩)))⟩
 have q0:decide (c.f0=1∨c.f0=4)=false:=decide_eq_false e0;rw [q0];go_wp2_with fail
 rw [← HQ.out];exact ⟨HB.out,_,_,g,gn,gs,rfl,HE.out,Or.inr (Or.inr (Or.inr (Or.inr ⟨⟨e2,e3,e4,e5⟩,Or.inr ⟨e0,rfl,rfl⟩⟩)))⟩
theorem count_calls (x:Int) (w:World):Calls Tryz.prog 67 #[.int .i64 x] w fun e w'=>e=.returned (.bool (decide (x=1∨x=4)))∧Drawn0 w w':=by
 have h:rules_counts.f x=some (decide (x=1∨x=4)):=by
  unfold rules_counts.f;by_cases e:x=1
  ·rw [if_pos e,decide_eq_true (Or.inl e)]
  rw [if_neg e];congr 1
  rw [Bool.eq_iff_iff,beq_iff_eq,decide_eq_true_iff];omega
 exact rules_counts.calls x _ w h
theorem days_Text.tab4:rtab .any (opsOf Tryz.f73 4)=days_Text.T4:=by kernel_rfl
theorem fields_calls (s:ByteArray) (L:List ByteArray) (hL:(Lib.fields s.data.toList).map (fun l=>(⟨l.toArray⟩:ByteArray))=L) (hs:s.size < 4294967281) (ha:∀ (j:Nat) b,s.data.toList[j]?=some b→b.toNat < 128) (w:World) (hG:Gl w) :
  Calls Tryz.prog 71 #[.string s] w fun e w'=>e=.returned (.slice (some ⟨w.heap.size,0,none⟩) L.length L.length)∧w'=w.alloc (.cells (L.map Value.string).toArray 9):=by
 have:=Go.Proofs.Any.strings_Fields_core Go.Proofs.Tryz.lays157 (by kernel_rfl) s w hs ha hG.2.1.2;refine this.mono ?_;rintro e w' ⟨rfl,rfl⟩;refine ⟨by rw [← hL,List.length_map],by rw [← hL,List.map_map];rfl⟩
theorem named_calls (s:ByteArray) (L:List ByteArray) (hL:(Lib.fields s.data.toList).map (fun l=>(⟨l.toArray⟩:ByteArray))=L) (hs:s.size < 4294967281) (ha:∀ (j:Nat) b,s.data.toList[j]?=some b→b.toNat < 128) (m:Nat) (x:ByteArray) (hx:L[m]?=some x) (w:World) (hG:Gl w) (hm:m≤1000) :
  Calls Tryz.prog 30 #[.string s,.int .i64 ((m:Int)+1)] w fun e w'=>e=.returned (.string x)∧Below w.heap.size w w':=by
 have HF:=sd (fields_calls s L hL hs ha w hG)
 have hlt:m < L.length:=by
  rcases Nat.lt_or_ge m L.length with h|h
  ·exact h
  ·rw [List.getElem?_eq_none h] at hx;cases hx
 have hlt':(m:Int) < (L.length:Int):=by omega
 have h0:(0:Int)≤(m:Int):=by omega
 have hw:wrap64 ((m:Int)+1 - 1)=(m:Int):=by unfold wrap64;omega
 have HX:=sd hx;clear hx hL hs ha hG;go_enter Tryz.func30,Tryz.ntmps30
 go_wp2_with fail
 refine HF.out.mono ?_;rintro e w1 ⟨rfl,rfl⟩;have HB:=sd (below_alloc (Below.refl w.heap.size w) (Obj.cells (L.map Value.string).toArray 9));have b0:(w.alloc (Obj.cells (L.map Value.string).toArray 9)).heap[w.heap.size]?=some (.cells (L.map Value.string).toArray 9 (0,0)):=blk_new _ _;generalize w.alloc (Obj.cells (L.map Value.string).toArray 9)=w1 at *;obtain ⟨g,hg⟩:∃ g,g=w.heap.size:=⟨_,rfl⟩
 rw [← hg] at b0 ⊢
 have c0:w1.cell? ⟨g,m,none⟩=some (.string x):=by
  refine (blk_cell b0 m).trans ?_;simp [HX.out]
 clear b0 hg;go_wp2_with fail
 go_ret
 exact ⟨rfl,HB.out⟩
def numS:List ByteArray→ByteArray→Nat→Int
|[],_,_=>0
|x :: r,s,i=>if x.toList=s.toList then (i:Int)+1 else numS r s (i+1)
theorem number_calls (s:ByteArray) (L:List ByteArray) (hL:(Lib.fields s.data.toList).map (fun l=>(⟨l.toArray⟩:ByteArray))=L) (hs:s.size < 4294967281) (ha:∀ (j:Nat) b,s.data.toList[j]?=some b→b.toNat < 128) (hl:L.length≤1000) (x:ByteArray) (w:World) (hG:Gl w) :
  Calls Tryz.prog 113 #[.string s,.string x] w fun e w'=>e=.returned (.int .i64 (numS L x 0))∧Below w.heap.size w w':=by
 have HF:=sd (fields_calls s L hL hs ha w hG);clear hL hs ha hG;generalize hQ:(fun (e:Ending) (w':World)=>e=.returned (.int .i64 (numS L x 0))∧Below w.heap.size w w')=Post;have HQ:=sd hQ;clear hQ;go_enter Tryz.func113,Tryz.ntmps113
 go_wp2_with fail
 refine HF.out.mono ?_;rintro e w1 ⟨rfl,rfl⟩;clear HF;have HB:=sd (below_alloc (Below.refl w.heap.size w) (Obj.cells (L.map Value.string).toArray 9));have b0:(w.alloc (Obj.cells (L.map Value.string).toArray 9)).heap[w.heap.size]?=some (.cells (L.map Value.string).toArray 9 (0,0)):=blk_new _ _;generalize w.alloc (Obj.cells (L.map Value.string).toArray 9)=w1 at *;obtain ⟨g,hg⟩:∃ g,g=w.heap.size:=⟨_,rfl⟩
 rw [← hg] at b0 ⊢;have B0:=sd b0;clear b0 hg;go_wp2_with fail
 go_loopw [10] (fun n_ wr=>∃ (i:Nat),i≤L.length∧n_=.int .i64 (i:Int)∧Aside0 (numS L x 0=numS (L.drop i) x i)∧Aside0 (Below w.heap.size w wr)∧Aside0 (wr.heap[g]?=some (.cells (L.map Value.string).toArray 9 (0,0)))) (fun n_ _=>(L.length - (RowKit.intOf n_).toNat))
 case atStart=>exact ⟨0,Nat.zero_le _,rfl,⟨rfl⟩,HB,B0⟩
 case round =>
  clear HB B0;obtain ⟨i,hi,rfl,HU,HB,B0⟩:=hrel;rename World=>wr
  by_cases hlt:i < L.length
  case neg =>
   obtain rfl:i=L.length:=by omega
   have hlt':¬ (L.length:Int) < (L.length:Int):=by omega
   have hr:numS L x 0=0:=by rw [HU.out,List.drop_length];rfl
   go_wp2_with fail
   rw [← HQ.out,hr];exact ⟨by (try rfl),HB.out⟩
  have hlt':(i:Int) < (L.length:Int):=by omega
  have h0:(0:Int)≤(i:Int):=by omega
  have hw:wrap64 ((i:Int)+1)=(i:Int)+1:=by unfold wrap64;omega
  obtain ⟨y,hy⟩:∃ y,y=L[i]:=⟨_,rfl⟩
  have HD:=sd (show L.drop i=y :: L.drop (i+1) by rw [List.drop_eq_getElem_cons hlt,hy])
  have c0:wr.cell? ⟨g,i,none⟩=some (.string y):=by
   refine (blk_cell B0.out i).trans ?_;simp [hy,hlt]
  clear hy;by_cases e:y.toList=x.toList
  ·have q:(y.toList == x.toList)=true:=by rw [beq_iff_eq];exact e
   have hr:numS L x 0=(i:Int)+1:=by rw [HU.out,HD.out,numS,if_pos e]
   go_wp2_with fail
   rw [← HQ.out,hr];exact ⟨by (try rfl),HB.out⟩
  have q:(y.toList == x.toList)=false:=by rw [beq_eq_false_iff_ne];exact e
  have HU2:=sd (show numS L x 0=numS (L.drop (i+1)) x (i+1) by rw [HU.out,HD.out,numS,if_neg e]);clear HU;go_wp2_with fail
  go_roundw
  case rel=>exact ⟨i+1,by omega,by congr 1,HU2,HB,B0⟩
  case measure=>simp [RowKit.intOf];omega
theorem num_Add_eq (a b:Int) (ha:I64 a) (hb:I64 b):num_Add.f a b=some (fit (a+b)):=by
 unfold num_Add.f;unfold I64 at ha hb;have hw:I64 (a+b)→wrap64 (a+b)=a+b:=by unfold I64;unfold wrap64;omega
 have hlo:a+b < -9223372036854775808→wrap64 (a+b)=a+b+18446744073709551616:=by unfold wrap64;omega
 have hhi:9223372036854775807 < a+b→wrap64 (a+b)=a+b - 18446744073709551616:=by unfold wrap64;omega
 by_cases h:I64 (a+b)
 ·rw [hw h,fit_yes h];by_cases hb0:b=0
  ·subst hb0;simp
  by_cases hb1:b > 0
  ·rw [if_neg (by rw [decide_eq_true (show a+b > a by omega),decide_eq_true hb1];decide)]
  rw [if_neg (by rw [decide_eq_false (show ¬ a+b > a by omega),decide_eq_false hb1];decide)]
 rw [fit_no h];unfold I64 at h;by_cases h1:a+b < -9223372036854775808
 ·rw [hlo h1,if_pos (by rw [decide_eq_true (show a+b+18446744073709551616 > a by omega),decide_eq_false (show ¬ b > 0 by omega)];decide),if_neg (by omega)]
 rw [hhi (by omega),if_pos (by rw [decide_eq_false (show ¬ a+b - 18446744073709551616 > a by omega),decide_eq_true (show b > 0 by omega)];decide),if_neg (by omega)]
theorem num_Sub_eq (a b:Int) (ha:I64 a) (hb:I64 b):num_Sub.f a b=some (fit (a - b)):=by
 unfold num_Sub.f;unfold I64 at ha hb;have hw:I64 (a - b)→wrap64 (a - b)=a - b:=by unfold I64;unfold wrap64;omega
 have hlo:a - b < -9223372036854775808→wrap64 (a - b)=a - b+18446744073709551616:=by unfold wrap64;omega
 have hhi:9223372036854775807 < a - b→wrap64 (a - b)=a - b - 18446744073709551616:=by unfold wrap64;omega
 by_cases h:I64 (a - b)
 ·rw [hw h,fit_yes h];by_cases hb0:b=0
  ·subst hb0;simp
  by_cases hb1:b > 0
  ·rw [if_neg (by rw [decide_eq_true (show a - b < a by omega),decide_eq_true hb1];decide)]
  rw [if_neg (by rw [decide_eq_false (show ¬ a - b < a by omega),decide_eq_false hb1];decide)]
 rw [fit_no h];unfold I64 at h;by_cases h1:a - b < -9223372036854775808
 ·rw [hlo h1,if_pos (by rw [decide_eq_false (show ¬ a - b+18446744073709551616 < a by omega),decide_eq_true (show b > 0 by omega)];decide),if_neg (by omega)]
 rw [hhi (by omega),if_pos (by rw [decide_eq_true (show a - b - 18446744073709551616 < a by omega),decide_eq_false (show ¬ b > 0 by omega)];decide),if_neg (by omega)]
def days_Parse.rem (k:Nat) (s:ByteArray):Nat→Int→Int→Int→Option (Int×Int)
|0,x,y,z=>days_Of.f k x y z
|1,x,y,z=>(days_number.f k (s.extract 8 10)).bind fun c=>if c.2=true then days_Of.f k x y c.1 else some (0,5)
|2,x,y,z=>(days_number.f k (s.extract 5 7)).bind fun c=>if c.2=true then days_Parse.rem k s 1 x c.1 z else some (0,5)
|_+3,x,y,z=>(days_number.f k (s.extract 0 4)).bind fun c=>if c.2=true then days_Parse.rem k s 2 c.1 y z else some (0,5)
def days_Parse.f (k:Nat) (s:ByteArray):Option (Int×Int):=if s.size≤140737488351232 then (if s.size=10 then (if bt s 4=45 then (if bt s 7=45 then days_Parse.rem k s 3 0 0 0 else some (0,5)) else some (0,5)) else some (0,5)) else none
theorem parts_at0 (W:World) (a b c:ByteArray):(Instr.index 151 (.agg #[.string a,.string b,.string c]) (.int .i64 0)).run Tryz.prog W=.ok (.string a) W:=by simp [Instr.index,go_sem]
theorem parts_at1 (W:World) (a b c:ByteArray):(Instr.index 151 (.agg #[.string a,.string b,.string c]) (.int .i64 1)).run Tryz.prog W=.ok (.string b) W:=by simp [Instr.index,go_sem]
theorem parts_at2 (W:World) (a b c:ByteArray):(Instr.index 151 (.agg #[.string a,.string b,.string c]) (.int .i64 2)).run Tryz.prog W=.ok (.string c) W:=by simp [Instr.index,go_sem]
theorem RP.facts {w:World} {bd g:Nat} {p:PR} {vC vT vW:Value} (h:RP w bd g p vC vT vW) :
    (w.cell? ⟨g,0,none⟩=some (.string p.nm)∧w.cell? ⟨g,1,none⟩=some vC∧w.cell? ⟨g,2,none⟩=some (.string p.acc)∧w.cell? ⟨g,3,none⟩=some (.string p.par)∧w.cell? ⟨g,4,none⟩=some vT∧w.cell? ⟨g,5,none⟩=some (.int .i64 p.st)∧w.cell? ⟨g,6,none⟩=some vW) ∧
    w.frozen? ⟨g,0,none⟩=false∧w.frozen? ⟨g,1,none⟩=false∧w.frozen? ⟨g,2,none⟩=false∧w.frozen? ⟨g,3,none⟩=false∧w.frozen? ⟨g,4,none⟩=false∧w.frozen? ⟨g,5,none⟩=false∧w.frozen? ⟨g,6,none⟩=false :=
  ⟨⟨(blk_cell h.blk 0).trans rfl,(blk_cell h.blk 1).trans rfl,(blk_cell h.blk 2).trans rfl,(blk_cell h.blk 3).trans rfl,(blk_cell h.blk 4).trans rfl,(blk_cell h.blk 5).trans rfl,(blk_cell h.blk 6).trans rfl⟩,
   blk_frozen h.blk 0,blk_frozen h.blk 1,blk_frozen h.blk 2,blk_frozen h.blk 3,blk_frozen h.blk 4,blk_frozen h.blk 5,blk_frozen h.blk 6⟩
theorem last_calls (bd g gc cap:Nat) (p:PR) (vT vW:Value) (w:World) (h:RP w bd g p (.slice (some ⟨gc,0,none⟩) p.cs.length cap) vT vW) (hn:0 < p.cs.length) :
    Calls Tryz.prog 114 #[.pointer (some ⟨g,0,none⟩)] w fun e w'=>e=.returned (.pointer (some ⟨gc,(p.cs.length - 1) * 4,none⟩))∧Drawn0 w w':=by
  obtain ⟨⟨_,k1,_,_,_,_,_⟩,_⟩:=h.facts
  have hl:p.cs.length≤9223372036854775807:=by
    obtain ⟨A,c,_,_,hC⟩:=Kd.R_reads h.rC;exact hC.2.1
  obtain ⟨m,hm⟩:∃ m,p.cs.length=m+1:=⟨p.cs.length - 1,by omega⟩
  rw [hm] at k1 hl ⊢;clear h hn hm;have hw:wrap64 (((m+1:Nat):Int) - 1)=(m:Int):=by unfold wrap64;omega
  have h0:(0:Int)≤(m:Int):=by omega
  have h1:(m:Int) < ((m+1:Nat):Int):=by omega
  go_enter Tryz.func114,Tryz.ntmps114
  go_wp2_with fail
  repeat (go_quiet (fail);try go_wp2)
  go_ret
  exact ⟨rfl,⟨⟨nq,rfl⟩⟩⟩
def fol (b:Bool) (s:Int):Int:=if b=true then s else 14
theorem follow_calls (b:Bool) (s:Int) (w:World):Calls Tryz.prog 112 #[.bool b,.int .i64 s] w fun e w'=>e=.returned (.int .i64 (fol b s))∧Drawn0 w w':=by
  have h:rules_follow.f b s=some (fol b s):=by unfold rules_follow.f fol;cases b <;> rfl
  exact rules_follow.calls b s _ w h
theorem RP.growW {w w1:World} {bd g:Nat} {p:PR} {vC vT vW v1:Value} {ws':List S73} (h:RP w bd g p vC vT vW) (hR:Kd.R k73 73 w1 bd (fun _=>True) v1 ws') (hg:w.grownBy w1 vW.ownBlock):RP (w1.setCell ⟨g,6,none⟩ v1) bd g { p with ws:=ws' } vC vT v1:=by
  have hB:=blk_grown h.blk hg (Kd.R_ne h.rW h.blk (by decide));exact ⟨blk_put (cs:=p.cells vC vT vW) hB 6 _ rfl,Kd.R_set (Kd.R_over h.rC h.rW (by decide) hg) hB n48 6 _,Kd.R_set (Kd.R_over h.rT h.rW (by decide) hg) hB n50 6 _,Kd.R_set hR hB n73 6 _,h.hbd⟩
def StepPost (bd g:Nat) (vC vT vW:Value) (p':PR) (r:Int) (w:World) (e:Ending) (w':World):Prop :=
  e=.returned (.int .i64 r)∧(∃ vC' vT' vW',RP w' bd g p' vC' vT' vW')∧FP bd g vC vT vW w w'
theorem tail_11 (bd g:Nat) (p:PR) (vC vT vW:Value) (x:S73) (code:Bool) (w:World) (hp:RP w bd g p vC vT vW) (hbd:bd≤w.heap.size) (hst:p.st=11) :
    Calls Tryz.prog 115 #[.pointer (some ⟨g,0,none⟩),.agg #[.int .i64 x.f0,.string x.f1,.int .i64 x.f2],.bool code] w (StepPost bd g vC vT vW (p) (fol (decide (x.f0=4) && (x.f1.toList == ([61]:List UInt8))) 12) w):=by
  have hmf:∀ (fn:Fn) (first cap:Array Value) (w:World),(Instr.makeFunc fn first cap).run Tryz.prog w=.ok (.func fn first cap) w:=fun _ _ _ _=>rfl
  have HP:=sd hp;have HNE:=sd (show ¬ w.heap.size=g from fun h=>by have:=blk_lt hp.blk;omega);have HNW:=sd (Kd.R_lt HP.out.rW);have HF:=sd (FP.refl bd g vC vT vW w);clear hp;generalize hQ:StepPost bd g vC vT vW (p) (fol (decide (x.f0=4) && (x.f1.toList == ([61]:List UInt8))) 12) w=Post;have HQ:=sd hQ;clear hQ;go_enter Tryz.func115,Tryz.ntmps115
  go_upto_region 1 with (fail)
  have hB1:=below_alloc (Below.refl w.heap.size w) (Obj.cells #[Value.int IntKind.i64 x.f0,Value.string x.f1,Value.int IntKind.i64 x.f2] 73);have b0:(w.alloc (Obj.cells #[Value.int IntKind.i64 x.f0,Value.string x.f1,Value.int IntKind.i64 x.f2] 73)).heap[w.heap.size]?=some (.cells #[Value.int IntKind.i64 x.f0,Value.string x.f1,Value.int IntKind.i64 x.f2] 73 (0,0)):=blk_new _ _;replace HP:=sd (HP.out.below hB1);replace HF:=sd (HF.out.below hB1 hbd);generalize w.alloc (Obj.cells #[Value.int IntKind.i64 x.f0,Value.string x.f1,Value.int IntKind.i64 x.f2] 73)=w1 at *;obtain ⟨gw,hgw⟩:∃ gw,gw=w.heap.size:=⟨_,rfl⟩
  have hgg:gw≠g:=by have:=blk_lt HP.out.blk;have:=hB1.size;intro h;rw [hgw] at h;exact absurd h (HNE.out)
  have HGN:=sd (show some gw≠Value.ownBlock vW from fun e=>by have:=HNW.out gw e.symm;omega);clear HNW;rw [← hgw] at b0 ⊢;have BW:=sd b0;have HB1:=sd hB1;clear b0 hB1 hgw;obtain ⟨⟨k0,k1,k2,k3,k4,k5,k6⟩,f0,f1,f2,f3,f4,f5,f6⟩:=HP.out.facts;rw [hst] at k5;obtain ⟨w0_,w1_,w2_,_,_,_⟩:=bk3 BW;by_cases ex:x.f0=4
  · have q1:decide (x.f0=4)=true:=decide_eq_true ex
    rw [q1,Bool.true_and] at HQ;go_wp2_with fail
    refine (follow_calls _ 12 _).mono ?_;rintro e wn ⟨rfl,hd⟩;obtain ⟨⟨nd,rfl⟩⟩:=hd;go_wp2_with fail
    rw [← HQ.out];exact ⟨by (try rfl),⟨_,_,_,HP.out.below (pw_below_drewN (Below.refl _ _) _)⟩,HF.out.below (pw_below_drewN (Below.refl _ _) _) hbd⟩
  have q1:decide (x.f0=4)=false:=decide_eq_false ex;rw [q1,Bool.false_and] at HQ;go_wp2_with fail
  refine (follow_calls _ 12 _).mono ?_;rintro e wn ⟨rfl,hd⟩;obtain ⟨⟨nd,rfl⟩⟩:=hd;go_wp2_with fail
  rw [← HQ.out];exact ⟨by (try rfl),⟨_,_,_,HP.out.below (pw_below_drewN (Below.refl _ _) _)⟩,HF.out.below (pw_below_drewN (Below.refl _ _) _) hbd⟩
theorem head_t (bd g:Nat) (p:PR) (vC vT vW:Value) (x:S73) (code:Bool) (p':PR) (r:Int) (w:World) (hp:RP w bd g p vC vT vW) (hbd:bd≤w.heap.size) (h5:5≤p.st)
    (ht:∀ W,RP W bd g p vC vT vW→bd≤W.heap.size→Calls Tryz.prog 115 #[.pointer (some ⟨g,0,none⟩),.agg #[.int .i64 x.f0,.string x.f1,.int .i64 x.f2],.bool code] W (StepPost bd g vC vT vW p' r W)) :
    Calls Tryz.prog 81 #[.pointer (some ⟨g,0,none⟩),.agg #[.int .i64 x.f0,.string x.f1,.int .i64 x.f2],.bool code] w (StepPost bd g vC vT vW p' r w):=by
  have hmf:∀ (fn:Fn) (first cap:Array Value) (w:World),(Instr.makeFunc fn first cap).run Tryz.prog w=.ok (.func fn first cap) w:=fun _ _ _ _=>rfl
  have HP:=sd hp;have HF:=sd (FP.refl bd g vC vT vW w);have HT:=sd ht;clear hp ht;generalize hQ:StepPost bd g vC vT vW p' r w=Post;have HQ:=sd hQ;clear hQ;have q0:decide (p.st=0)=false:=decide_eq_false (by omega);have q1:decide (p.st=1)=false:=decide_eq_false (by omega);have q2:decide (p.st=2)=false:=decide_eq_false (by omega);have q3:decide (p.st=3)=false:=decide_eq_false (by omega);have q4:decide (p.st=4)=false:=decide_eq_false (by omega);go_enter Tryz.func81,Tryz.ntmps81
  go_upto_region 1 with (fail)
  have hB1:=below_alloc (Below.refl w.heap.size w) (Obj.cells #[Value.int IntKind.i64 x.f0,Value.string x.f1,Value.int IntKind.i64 x.f2] 73);have b0:(w.alloc (Obj.cells #[Value.int IntKind.i64 x.f0,Value.string x.f1,Value.int IntKind.i64 x.f2] 73)).heap[w.heap.size]?=some (.cells #[Value.int IntKind.i64 x.f0,Value.string x.f1,Value.int IntKind.i64 x.f2] 73 (0,0)):=blk_new _ _;replace HP:=sd (HP.out.below hB1);replace HF:=sd (HF.out.below hB1 hbd);generalize w.alloc (Obj.cells #[Value.int IntKind.i64 x.f0,Value.string x.f1,Value.int IntKind.i64 x.f2] 73)=w1 at *;obtain ⟨gw,hgw⟩:∃ gw,gw=w.heap.size:=⟨_,rfl⟩
  rw [← hgw] at b0 ⊢;have BW:=sd b0;clear b0 hB1 hgw;obtain ⟨⟨k0,k1,k2,k3,k4,k5,k6⟩,f0,f1,f2,f3,f4,f5,f6⟩:=HP.out.facts;obtain ⟨w0_,w1_,w2_,_,_,_⟩:=bk3 BW;go_wp2_with fail
  refine (HT.out _ HP.out (below_base HF.out.b hbd)).mono ?_;rintro e w2 ⟨rfl,⟨vC',vT',vW',hp2⟩,hf2⟩;replace HF:=sd (HF.out.trans hf2);have HP2:=sd hp2;clear hf2 hp2 k0 k1 k2 k3 k4 k5 k6 f0 f1 f2 f3 f4 f5 f6 w0_ w1_ w2_;go_wp2_with fail
  rw [← HQ.out];exact ⟨by (try rfl),⟨_,_,_,HP2.out⟩,HF.out⟩
def valC (k:Nat) (c:S48) (x:S73):Option (S48×Int) :=
  if c.f0=1 then (num_Parse.f x.f1 (-1000000000000) 1000000000000).bind fun q=>some ({ c with f3:=q.1 },q.2) else
  if c.f0=4 then (days_Parse.f k x.f1).bind fun q=>some ({ c with f3:=q.1 },q.2) else some ({ c with f2:=x.f1 },0)
def rf04_Parse.j0:Nat→ByteArray→Bool→Option (Int×Int)
|0,_,_=>none
|k+1,x0,x34=>if x34=true then (some (0,5)) else (if 0≤4 then (if 4≤(x0.size:Int) then ((rf04_value.f k (x0.extract 0 4)).bind fun t481=>(if 5≤7 then (if 7≤(x0.size:Int) then ((rf04_value.f k (x0.extract 5 7)).bind fun t482=>(if 8≤(x0.size:Int) then ((rf04_value.f k (x0.extract 8 x0.size)).bind fun t483=>((rf04_Of.f k t481 t482 t483).bind fun bt484=>(some (bt484.1,bt484.2)))) else (none))) else (none)) else (none))) else (none)) else (none))
def rf04_Parse.f (k:Nat) (a0:ByteArray):Option (Int×Int):=if (a0.size:Int)=10 then (if 0≤4 then (if 4≤(a0.size:Int) then ((rf01_Digits.f k (a0.extract 0 4)).bind fun t478=>(if t478=true then (if 4 < (a0.size:Int) then (if (bt a0 4)=45 then (if 5≤7 then (if 7≤(a0.size:Int) then ((rf01_Digits.f k (a0.extract 5 7)).bind fun t479=>(if t479=true then (if 7 < (a0.size:Int) then (if (bt a0 7)=45 then (if 8≤(a0.size:Int) then ((rf01_Digits.f k (a0.extract 8 a0.size)).bind fun t480=>(rf04_Parse.j0 k a0 (!t480))) else (none)) else (rf04_Parse.j0 k a0 true)) else (none)) else (rf04_Parse.j0 k a0 true))) else (none)) else (none)) else (rf04_Parse.j0 k a0 true)) else (none)) else (rf04_Parse.j0 k a0 true))) else (none)) else (none)) else (rf04_Parse.j0 k a0 true)
theorem rf04_Parse.tab3:rtab .any (opsOf Tryz.f46 3)=rf04_Parse.T3:=by kernel_rfl
def r48_n (k:Nat) (f0:Int) (s:ByteArray) (q:Int×Int):Option (Int×Int):=if f0=4 then rf04_Parse.f k s else some q
end A
end Go.Proofs.YtkbgkekegjfkfaaGreatDoor
namespace Go.Proofs
open Go.Shelf
open Go.RowKit Go.Lib in
theorem Tryz.strings_Contains (s sub:ByteArray) (m:Int) (w:World) (hs:s.size < 4294967281) (hm:w.cell? ⟨2,0,none⟩=some (.int .i64 m)) :
    Calls Tryz.prog 64 #[.string s,.string sub] w fun e w'=>e=.returned (.bool (Lib.contains s.data.toList sub.data.toList))∧w'=w:=Any.strings_Contains Tryz.lays144 s sub m w hs hm
end Go.Proofs
namespace Go.Proofs.YtkbgkekegjfkfaaGreatDoor
namespace A
open Go.RowKit B WW WL WM
attribute [local go_sem] max2_int min2_int max_two min_two max_three min_three max_four min_four
set_option maxHeartbeats 8000000
set_option maxRecDepth 100000
theorem has_calls (g gn gs:Nat) (c:S48) (d a:Int) (rf tx:ByteArray) (w:World) (h:CEnv w g gn gs c) (hz:(sOfC c rf tx).size < 4294967281) (hm:∃ m,w.cell? ⟨2,0,none⟩=some (.int .i64 m)) :
  Calls Tryz.prog 63 #[lineV d a rf tx,.pointer (some ⟨gs,0,none⟩),.pointer (some ⟨g,0,none⟩)] w fun e w'=>e=.returned (.bool (Lib.contains (sOfC c rf tx).data.toList c.f2.data.toList))∧Below w.heap.size w w':=by
 have HE:=sd h;clear h;obtain ⟨m,hm⟩:=hm;have HM:=sd hm;have HZ:=sd hz;clear hm hz;generalize hQ:(fun (e:Ending) (w':World)=>e=.returned (.bool (Lib.contains (sOfC c rf tx).data.toList c.f2.data.toList))∧Below w.heap.size w w')=Post;have HQ:=sd hQ;clear hQ;unfold lineV;go_enter Tryz.func63,Tryz.ntmps63
 go_wp2_with fail
 have HB:=sd (below_alloc (Below.refl w.heap.size w) (Obj.cells #[Value.int IntKind.i64 d,Value.int IntKind.i64 a,Value.string rf,Value.string tx] 32));have HE1:=sd (HE.out.below HB.out);have b0:(w.alloc (Obj.cells #[Value.int IntKind.i64 d,Value.int IntKind.i64 a,Value.string rf,Value.string tx] 32)).heap[w.heap.size]?=some (.cells #[Value.int IntKind.i64 d,Value.int IntKind.i64 a,Value.string rf,Value.string tx] 32 (0,0)):=blk_new _ _;replace HM:=sd ((HB.out.cell (lt_of_cell HM.out)).trans HM.out);generalize w.alloc (Obj.cells #[Value.int IntKind.i64 d,Value.int IntKind.i64 a,Value.string rf,Value.string tx] 32)=w1 at *;generalize w.heap.size=gl at b0 ⊢;have b1:(w1.drew).heap[gl]?=some (.cells #[Value.int IntKind.i64 d,Value.int IntKind.i64 a,Value.string rf,Value.string tx] 32 (0,0)):=b0;have l0:w1.drew.cell? ⟨gl,0,none⟩=some (.int .i64 d):=(blk_cell b1 0).trans rfl;have l1:w1.drew.cell? ⟨gl,1,none⟩=some (.int .i64 a):=(blk_cell b1 1).trans rfl;have l2:w1.drew.cell? ⟨gl,2,none⟩=some (.string rf):=(blk_cell b1 2).trans rfl;have l3:w1.drew.cell? ⟨gl,3,none⟩=some (.string tx):=(blk_cell b1 3).trans rfl;have HE2:=sd (HE1.out.below (below_drew1 (Below.refl _ _)));have HB2:=sd (below_drew1 HB.out);clear b0 b1 HB HE1;refine start_ (n:=7) (S:=fun w'=>w'.cell? ⟨gs,0,none⟩=some (.func (.func 60) #[] #[.pointer (some ⟨g,0,none⟩)])∧w'.cell? ⟨g,2,none⟩=some (.string c.f2)∧w'.cell? ⟨gl,0,none⟩=some (.int .i64 d)∧w'.cell? ⟨gl,1,none⟩=some (.int .i64 a)∧w'.cell? ⟨gl,2,none⟩=some (.string rf)∧w'.cell? ⟨gl,3,none⟩=some (.string tx)) (ds:=[]) #[false,false,false,false,false,false,false] (by kernel_rfl) rfl rfl ⟨HE2.out.fs,HE2.out.c2,l0,l1,l2,l3⟩ (fun hHeld=>?_);clear l0 l1 l2 l3;have hm2:∀ p v,w1.cell? p=some v→w1.drew.cell? p=some v:=fun p v hc=>hc
 replace HM:=sd (hm2 _ _ HM.out);clear hm2;generalize w1.drew=w2 at hHeld HE2 HB2 HM ⊢;refine tB 0 5 hHeld ?_;refine tB 1 6 hHeld ?_;refine pB 3 8 ?_;refine tB 4 9 hHeld ?_;refine one_ (i:=2) (N:=some 7) #[true,true,true,true,true,false,false] rfl rfl (by kernel_rfl) (by decide) (fun K hK=>?_);refine goesF_ (cap:=#[.pointer (some ⟨g,0,none⟩)]) Tryz.func60 (by kernel_rfl) rfl #[.agg #[.int .i64 d,.int .i64 a,.string rf,.string tx],.pointer (some ⟨g,0,none⟩)] (by rfl) rfl rfl (by rfl) zq122 ?_;refine (sOf_calls g c d a rf tx w2 HE2.out.c0).mono ?_;rintro e w3 ⟨rfl,hb⟩;refine ⟨_,rfl,?_⟩;have hk:∀ p v,w2.cell? p=some v→w3.cell? p=some v:=fun p v hc=>(hb.cell (lt_of_cell hc)).trans hc
 obtain ⟨h1,h2,h3,h4,h5,h6⟩:=hHeld;replace HM:=sd (hk _ _ HM.out);refine hK.out _ _ ⟨hk _ _ h1,hk _ _ h2,hk _ _ h3,hk _ _ h4,hk _ _ h5,hk _ _ h6⟩ (fun hHeld=>?_);clear hK K h1 h2 h3 h4 h5 h6 hk;refine nA 7 ?_;refine one_ (i:=5) (N:=some 10) #[true,true,true,true,true,true,false] rfl rfl (by kernel_rfl) (by decide) (fun K hK=>?_);refine goes_ Tryz.func64 (by kernel_rfl) rfl #[.string (sOfC c rf tx),.string c.f2] (by rfl) rfl rfl zq30 ?_;refine (Go.Proofs.Tryz.strings_Contains (sOfC c rf tx) c.f2 m w3 HZ.out HM.out).mono ?_;rintro e w4 ⟨rfl,rfl⟩;refine ⟨_,rfl,?_⟩;refine hK.out _ _ hHeld (fun hHeld=>?_);clear hK K;refine nA 10 ?_;refine pB 6 4 ?_;refine done_ (by kernel_rfl) ?_;clear hHeld;go_wp2_with fail
 rw [← HQ.out];exact ⟨by (try rfl),HB2.out.trans (hb.mono HB2.out.size)⟩
end A

end Go.Proofs.YtkbgkekegjfkfaaGreatDoor